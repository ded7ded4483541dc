import PyProof.Rows.All
import Wide.All
import OpenK.AllK
import Wide.FinOn
import HandS.ForMost
import HandS.Exc
import HandS.WordsExc
import HandS.Defaults
import HandS.Walk
import HandS.Steps
import HandS.IsInst
import HandS.Conv
import HandS.SetKeys
import HandS.Head0
import HandS.Head1
import HandS.Head2
import HandS.HeadEnd
import HandS.HeadHook1
import HandS.HeadHook2
import HandS.HeadHook3
import HandS.HeadHook4
import HandS.Wide
import KE.KDictList
import HandS.ExcInit
import HandS.FStr
import HandS.ExcSuper
import KE.KExcSuper
import PyProof.Rows.RegStrFacts
import HandS.TryMany
import HandS.ExcField
import HandS.ExcIs
import KE.KExcIs
import KE.GoesEnum
import HandS.Iter
import PySem.Challenge.RW_depotday_k14_minutes_that_pass
set_option Elab.async false
set_option linter.all false
set_option maxRecDepth 100000
set_option maxHeartbeats 4000000
/-! ## Lib -/
namespace Cl
open PySem PySem.Spec PyProof.Rows L2

/-! ## readings, one step each (continuations) -/
section
variable {σ : L2.St} {H : Hp} {Q : VK} {QA : List V → Hp → Prop} {QB : Bool → Hp → Prop} {D : Ends} {t u : TS} {te ta tb tc : TE} {tt tv : TT} {ts tr : TA} {v x y : V} {i : Nat}
theorem g_seq (h : t { D with nx := u D } σ H) : tSeq t u D σ H := h
theorem g_next (h : D.nx σ H) : tNext D σ H := h
theorem g_brk (h : D.bk σ H) : tBreak D σ H := h
theorem g_cnt (h : D.ct σ H) : tCont D σ H := h
theorem g_asg {g : TG} (h : te σ H fun x H1 => g x σ H1 D.nx) : tAsg te g D σ H := h
theorem g_name {QS : L2.St → Hp → Prop} (h : QS (σ.set i (some v)) H) : gName i v σ H QS := h
theorem g_drop (h : te σ H fun _ H1 => D.nx σ H1) : tDrop te D σ H := h
theorem g_ret (h : te σ H D.rt) : tRet te D σ H := h
theorem g_retN (h : D.rt .non H) : tRetN D σ H := h
theorem g_ifS (h : tt σ H fun b H1 => if b = true then t D σ H1 else u D σ H1) : tIfS tt t u D σ H := h
theorem g_if {b : Bool} {A B : Prop} (h1 : b = true → A) (h2 : b = false → B) : if b = true then A else B := by
  cases b with
  | true => exact iteT (h1 rfl)
  | false => exact iteF (h2 rfl)
theorem g_var (e : σ[i]? = some (some v)) (h : Q v H) : tVar i σ H Q := ⟨v, e, h⟩
theorem g_c (h : Q v H) : tC v σ H Q := h
theorem g_op {r : R2} (h : ta σ H fun x H1 => tb σ H1 fun y H2 => r x y H2 Q) : tOp r ta tb σ H Q := h
theorem g_un {r : V → Hp → VK → Prop} (h : ta σ H fun x H1 => r x H1 Q) : tUn r ta σ H Q := h
theorem g_I0 {g : Int → Int → V} {a b : Int} (h : Q (g a b) H) : rI0 g (.int a) (.int b) H Q := ⟨a, b, rfl, rfl, h⟩
theorem g_I {C : Int → Int → Prop} {g : Int → Int → V} {a b : Int} (hc : C a b) (h : Q (g a b) H) : rI C g (.int a) (.int b) H Q := ⟨a, b, rfl, rfl, hc, h⟩
theorem g_U {g : Int → V} {a : Int} (h : Q (g a) H) : rU g (.int a) H Q := ⟨a, rfl, h⟩
theorem g_eq (hs : scal x y = true) (h : Q (.bl (decide (x = y))) H) : rEq x y H Q := ⟨hs, h⟩
theorem g_ne (hs : scal x y = true) (h : Q (.bl (!decide (x = y))) H) : rNe x y H Q := ⟨hs, h⟩
theorem g_test (h : te σ H fun x H' => ∃ k, x = .bl k ∧ QB k H') : tTest te σ H QB := h
theorem g_B (h : te σ H fun x H' => ∃ k, x = .bl k ∧ QB k H') : tB te σ H QB := h
theorem g_bl {b : Bool} (h : QB b H) : ∃ k, V.bl b = .bl k ∧ QB k H := ⟨b, rfl, h⟩
theorem g_and (h : tt σ H fun c H1 => if c = true then tv σ H1 QB else QB false H1) : tAnd tt tv σ H QB := h
theorem g_or (h : tt σ H fun c H1 => if c = true then QB true H1 else tv σ H1 QB) : tOr tt tv σ H QB := h
theorem g_not (h : tt σ H fun c H1 => QB (!c) H1) : tNot tt σ H QB := h
theorem g_nil (h : QA [] H) : tNil σ H QA := h
theorem g_cons (h : te σ H fun x H1 => tr σ H1 fun xs H2 => QA (x :: xs) H2) : tCons te tr σ H QA := h
theorem g_call {sp : Sp} {E : XK} (h : ts σ H fun vs H1 => sp (vs ++ []) H1 Q E) : tCall sp [] E ts σ H Q := h
theorem g_cb {r : List V → Hp → VK → Prop} (h : ts σ H fun vs H1 => r vs H1 Q) : tCB r ts σ H Q := h
theorem g_tup (h : ts σ H fun xs H1 => xs.length ≤ sizeLine ∧ ∀ p, H1 p = none → Q (.ref p) (upd H1 p (.tup xs))) : tTup ts σ H Q := h
theorem g_lst (h : ts σ H fun xs H1 => xs.length ≤ sizeLine ∧ ∀ p, H1 p = none → Q (.ref p) (upd H1 p (.lst xs))) : tLst ts σ H Q := h
theorem g_ife (h : tt σ H fun c H1 => if c = true then ta σ H1 Q else tb σ H1 Q) : tIf tt ta tb σ H Q := h
end

/-! ## values that leave the heap: Val, tests: Ans -/
section
variable {σ : L2.St} {H : Hp} {i : Nat} {v x y z : V} {ta tb tc te : TE} {b c d : Bool} {K : PySem.W.Frag} {t u : TT} {a p : Addr} {xs : List V} {n m : Int}
theorem v_op {r : R2} (ha : Val ta σ H x) (hb : Val tb σ H y) (hr : ∀ Q : VK, Q z H → r x y H Q) : Val (tOp r ta tb) σ H z := val_op ha hb hr
theorem v_I0 {g : Int → Int → V} (ha : Val ta σ H (.int n)) (hb : Val tb σ H (.int m)) : Val (tOp (rI0 g) ta tb) σ H (g n m) := v_op ha hb fun _ q => ⟨n, m, rfl, rfl, q⟩
theorem v_I {C : Int → Int → Prop} {g : Int → Int → V} (ha : Val ta σ H (.int n)) (hb : Val tb σ H (.int m)) (hc : C n m) : Val (tOp (rI C g) ta tb) σ H (g n m) := v_op ha hb fun _ q => ⟨n, m, rfl, rfl, hc, q⟩
theorem v_U {g : Int → V} (ha : Val ta σ H (.int n)) : Val (tUn (rU g) ta) σ H (g n) := fun _ q => ha _ ⟨n, rfl, q⟩
theorem v_eq (ha : Val ta σ H x) (hb : Val tb σ H y) (hs : scal x y = true) : Val (tOp rEq ta tb) σ H (.bl (decide (x = y))) := v_op ha hb fun _ q => ⟨hs, q⟩
theorem v_ne (ha : Val ta σ H x) (hb : Val tb σ H y) (hs : scal x y = true) : Val (tOp rNe ta tb) σ H (.bl (!decide (x = y))) := v_op ha hb fun _ q => ⟨hs, q⟩
theorem v_ixL (ha : Val ta σ H (.ref p)) (hb : Val tb σ H (.int n)) (h : SqL K H p xs) (e : atI xs n = some v) : Val (tOp (rIxL K) ta tb) σ H v := v_op ha hb fun _ q => ⟨p, xs, n, v, rfl, rfl, h, e, q⟩
theorem v_ixT (ha : Val ta σ H (.ref p)) (hb : Val tb σ H (.int n)) (h : SqT K H p xs) (e : atI xs n = some v) : Val (tOp (rIxT K) ta tb) σ H v := v_op ha hb fun _ q => ⟨p, xs, n, v, rfl, rfl, h, e, q⟩
theorem v_chain {r r' : R2} {b c : Bool} (ha : Val ta σ H x) (hb : Val tb σ H y) (hc : Val tc σ H z) (h1 : ∀ Q : VK, Q (.bl b) H → r x y H Q) (h2 : ∀ Q : VK, Q (.bl c) H → r' y z H Q) : Val (tChain r r' ta tb tc) σ H (.bl (b && c)) := fun Q q => by
  refine ha _ (hb _ (h1 _ ⟨b, rfl, ?_⟩))
  cases b with
  | true => exact iteT (hc _ (h2 _ q))
  | false => exact iteF q
theorem i_I0 {g : Int → Int → V} : ∀ Q : VK, Q (g n m) H → rI0 g (.int n) (.int m) H Q := fun _ q => ⟨n, m, rfl, rfl, q⟩
theorem i_B0 {p : Int → Int → Bool} : ∀ Q : VK, Q (.bl (p n m)) H → rI0 (fun i j => .bl (p i j)) (.int n) (.int m) H Q := fun _ q => ⟨n, m, rfl, rfl, q⟩
theorem v_andV (ha : Val ta σ H (.bl b)) (hb : b = true → Val tb σ H (.bl c)) : Val (tAndV ta tb) σ H (.bl (b && c)) := fun Q q => by
  refine ha _ ⟨b, rfl, ?_⟩
  cases b with
  | true => exact iteT (hb rfl _ q)
  | false => exact iteF q
theorem v_orV (ha : Val ta σ H (.bl b)) (hb : b = false → Val tb σ H (.bl c)) : Val (tOrV ta tb) σ H (.bl (b || c)) := fun Q q => by
  refine ha _ ⟨b, rfl, ?_⟩
  cases b with
  | true => exact iteT q
  | false => exact iteF (hb rfl _ q)
theorem v_notV (ha : Val ta σ H (.bl b)) : Val (tNotV ta) σ H (.bl (!b)) := fun Q q => ha _ ⟨b, rfl, q⟩
theorem v_if (h : Ans t σ H b) (h1 : b = true → Val ta σ H x) (h2 : b = false → Val tb σ H y) : Val (tIf t ta tb) σ H (if b = true then x else y) := fun Q q => by
  refine h _ ?_
  cases b with
  | true => exact iteT (h1 rfl _ q)
  | false => exact iteF (h2 rfl _ q)
theorem a_test (h : Val te σ H (.bl b)) : Ans (tTest te) σ H b := fun Q q => h _ ⟨b, rfl, q⟩
theorem a_B (h : Val te σ H (.bl b)) : Ans (tB te) σ H b := fun Q q => h _ ⟨b, rfl, q⟩
theorem a_and (h1 : Ans t σ H b) (h2 : b = true → Ans u σ H c) : Ans (tAnd t u) σ H (b && c) := fun Q q => by
  refine h1 _ ?_
  cases b with
  | true => exact iteT (h2 rfl _ q)
  | false => exact iteF q
theorem a_or (h1 : Ans t σ H b) (h2 : b = false → Ans u σ H c) : Ans (tOr t u) σ H (b || c) := fun Q q => by
  refine h1 _ ?_
  cases b with
  | true => exact iteT q
  | false => exact iteF (h2 rfl _ q)
theorem a_not (h : Ans t σ H b) : Ans (tNot t) σ H (!b) := fun Q q => h _ q
/-- a list of argument values -/
def Args (ts : TA) (σ : L2.St) (H : Hp) (vs : List V) : Prop := ∀ Q : List V → Hp → Prop, Q vs H → ts σ H Q
theorem ar_nil : Args tNil σ H [] := fun _ q => q
theorem ar_cons {ts : TA} {vs : List V} (h : Val te σ H v) (hr : Args ts σ H vs) : Args (tCons te ts) σ H (v :: vs) := fun _ q => h _ (hr _ q)
theorem v_cb {r : List V → Hp → VK → Prop} {ts : TA} {vs : List V} (h : Args ts σ H vs) (hr : ∀ Q : VK, Q z H → r vs H Q) : Val (tCB r ts) σ H z := fun Q q => h _ (hr _ q)
/-- an expression whose value is known, then what follows -/
theorem g_val {Q : VK} (h : Val te σ H v) (q : Q v H) : te σ H Q := h Q q
theorem g_ans {Q : Bool → Hp → Prop} (h : Ans t σ H b) (q : Q b H) : t σ H Q := h Q q
theorem g_args {Q : List V → Hp → Prop} {ts : TA} {vs : List V} (h : Args ts σ H vs) (q : Q vs H) : ts σ H Q := h Q q
end
/-- a test whose answer is known, two ways -/
theorem g_ifA {c : TT} {t u : TS} {D : Ends} {σ : L2.St} {H : Hp} {b : Bool} (h : Ans c σ H b) (h1 : b = true → t D σ H) (h2 : b = false → u D σ H) : tIfS c t u D σ H := h _ (g_if h1 h2)
end Cl

/-! ## Lib2 -/
namespace Cl
open PySem PySem.Spec PyProof.Rows L2

/-! ## the head's facts -/
structure Fx (fa : List He.Fa) (fn : List He.DefD) (K : PySem.W.Frag) (mg : Str → Option Value) : Prop where
  says : He.SaysD fa fn K
  ns : ∃ h : Heap, K.In h ∧ h.Ns mainGlobals mg
theorem Fx.mk' {fa : List He.Fa} {fn : List He.DefD} {K : PySem.W.Frag} {h : Heap} {mg : Str → Option Value} (X : K.In h) (G : h.Ns mainGlobals mg) (c : He.SaysD fa fn K) : Fx fa fn K mg := ⟨c, h, X, G⟩
section
variable {fa : List He.Fa} {fn : List He.DefD} {K : PySem.W.Frag} {mg : Str → Option Value}
theorem Fx.glo (c : Fx fa fn K mg) (i : Nat) {x : Str} (h : fa[i]? = some (.glo x) := by rfl) : mg x = some (.ref (He.ga K x)) := let ⟨_, X, G⟩ := c.ns; He.glo_ok X G (c.says.fact i h)
theorem Fx.free (c : Fx fa fn K mg) (i : Nat) {x : Str} (h : fa[i]? = some (.free x) := by rfl) : mg x = none := let ⟨_, X, G⟩ := c.ns; He.free_ok X G (c.says.fact i h)
theorem Fx.int (c : Fx fa fn K mg) (i : Nat) {x : Str} {n : Int} (h : fa[i]? = some (.int x n) := by rfl) : ∃ t, mg x = some (.int n t) := let ⟨_, X, G⟩ := c.ns; He.int_ok X G (c.says.fact i h)
theorem Fx.str (c : Fx fa fn K mg) (i : Nat) {x z : Str} (h : fa[i]? = some (.str x z) := by rfl) : ∃ t, mg x = some (.str z t) := let ⟨_, X, G⟩ := c.ns; He.str_ok X G (c.says.fact i h)
theorem Fx.cls (c : Fx fa fn K mg) (i : Nat) {x : Str} (h : fa[i]? = some (.cls x) := by rfl) : Cls K (He.ga K x) := He.cls_ok (c.says.fact i h)
theorem Fx.noat (c : Fx fa fn K mg) (i : Nat) {x f : Str} (h : fa[i]? = some (.noat x f) := by rfl) : NoAttr K (He.ga K x) f := He.noat_ok (c.says.fact i h)
theorem Fx.meth (c : Fx fa fn K mg) (i : Nat) {x m : Str} (h : fa[i]? = some (.meth x m) := by rfl) : Meth K (He.ga K x) m (He.ma K (He.ga K x) m) := He.meth_ok (c.says.fact i h)
theorem Fx.mkr (c : Fx fa fn K mg) (i : Nat) {x : Str} (h : fa[i]? = some (.mkr x) := by rfl) : Mk K (He.ga K x) (He.ma K (He.ga K x) "__init__") := He.mkr_ok (c.says.fact i h)
end

/-! ## a def that keeps its promise -/
structure FnX (P : Program) (w : World) (K : PySem.W.Frag) (mg : Str → Option Value) (base : Heap) (CX : CXT) (k : Nat) (at_ : Str × Option Str) (ps : List Str) (sp : Sp) : Prop where
  ex : ∃ fd, FnOk P w K mg base CX k (He.fAd K at_) fd ps sp ∧ Binds K fd ps []
  kp : PySem.W.keepIn K (.ref (He.fAd K at_)) = true
section
variable {X : Cx} {CX : CXT} {k : Nat} {ps : List Str} {sp : Sp} {E : XK} {x m : Str} {p pos apos : Pos} {e o : Expr} {es : List Expr} {ta : TE} {t : TA}
theorem pcall (F : FnX X.prog X.w X.K X.mg X.base CX k (x, none) ps sp) (hr : Room k X.A) (hg : Gl X x) (hm : X.mg x = some (.ref (He.ga X.K x))) (hx : Passes CX X E)
    (ha : PA X (e :: es) t) (hdb : (x == ("__debug__" : Str)) = false := by decide) (he : starEach (e :: es) X.env = (false, eval e X.env) :: starEach es X.env := by rfl) (hpl : (backTo pos (starEach es X.env)).any (·.1) = false := by rfl) :
    PE X (.Call (.Name x p) (e :: es) [] pos) (tCall sp [] E t) := by
  obtain ⟨⟨fd, F, b⟩, kp⟩ := F
  exact pe_call F hr hg hm kp b .nil hx ha hdb he hpl
theorem pmeth {pl : Sem Bool} {C : Str} (he : PE X o ta) (c : Cls X.K (He.ga X.K C)) (hm : Meth X.K (He.ga X.K C) m (He.ma X.K (He.ga X.K C) m)) (F : FnX X.prog X.w X.K X.mg X.base CX k (C, some m) ps sp) (hr : Room k X.A) (hx : Passes CX X E) (ha : PA X (e :: es) t)
    (hst : starEach (e :: es) X.env = (false, eval e X.env) :: starEach es X.env := by rfl) (hpl : (backTo pos (starEach es X.env)).any (·.1) = false := by rfl)
    (ht : eval (.Call (.Attribute o m apos) (e :: es) [] pos) X.env = (do
      let ov ← eval o X.env
      standAt apos.atName
      let (f, first) ← holding [ov] (getMethod ov m pl)
      callWith pos f first (backTo pos (starEach (e :: es) X.env)) (backToKw pos (keywordEach [] X.env))) := by rfl) :
    PE X (.Call (.Attribute o m apos) (e :: es) [] pos) (tMeth (He.ga X.K C) m sp [] E ta t) := by
  obtain ⟨⟨fd, F, b⟩, kp⟩ := F
  exact pe_meth he c hm F hr b .nil hx ha hst hpl ht
theorem pmeth0 {pl : Sem Bool} {C : Str} (he : PE X o ta) (c : Cls X.K (He.ga X.K C)) (hm : Meth X.K (He.ga X.K C) m (He.ma X.K (He.ga X.K C) m)) (F : FnX X.prog X.w X.K X.mg X.base CX k (C, some m) ps sp) (hr : Room k X.A) (hx : Passes CX X E)
    (ht : eval (.Call (.Attribute o m apos) [] [] pos) X.env = (do
      let ov ← eval o X.env
      standAt apos.atName
      let (f, first) ← holding [ov] (getMethod ov m pl)
      callWith pos f first (backTo pos (starEach [] X.env)) (backToKw pos (keywordEach [] X.env))) := by rfl) :
    PE X (.Call (.Attribute o m apos) [] [] pos) (tMeth (He.ga X.K C) m sp [] E ta tNil) := by
  obtain ⟨⟨fd, F, b⟩, kp⟩ := F
  exact pe_meth0 he c hm F hr b .nil hx ht
theorem pmake (M : Mk X.K (He.ga X.K x) (He.ma X.K (He.ga X.K x) "__init__")) (F : FnX X.prog X.w X.K X.mg X.base CX k (x, some "__init__") ps sp) (hr : Room (k + 1) X.A) (hg : Gl X x) (hm : X.mg x = some (.ref (He.ga X.K x))) (hx : Passes CX X E)
    (ha : PA X (e :: es) t) (hdb : (x == ("__debug__" : Str)) = false := by decide) (he : starEach (e :: es) X.env = (false, eval e X.env) :: starEach es X.env := by rfl) (hpl : (backTo pos (starEach es X.env)).any (·.1) = false := by rfl) :
    PE X (.Call (.Name x p) (e :: es) [] pos) (tMake (He.ga X.K x) sp [] E t) := by
  obtain ⟨⟨fd, F, b⟩, kp⟩ := F
  exact pe_make M F hr hg hm b .nil hx ha hdb he hpl
theorem pgi {n : Int} (hg : Gl X x) (h : ∃ t, X.mg x = some (.int n t)) (hd : (x == ("__debug__" : Str)) = false := by decide) : PE X (.Name x pos) (tC (.int n)) := by
  obtain ⟨t, h⟩ := h
  exact pe_glob hg h ⟨t, rfl⟩ hd
theorem pgs {z : Str} (hg : Gl X x) (h : ∃ t, X.mg x = some (.str z t)) (hd : (x == ("__debug__" : Str)) = false := by decide) : PE X (.Name x pos) (tC (.str z)) := by
  obtain ⟨t, h⟩ := h
  exact pe_glob hg h ⟨t, rfl⟩ hd
end

/-! ## named readings of the kit's rules -/
def rLen (K : PySem.W.Frag) : List V → Hp → VK → Prop := fun xs H Q => ∃ p ys, xs = [.ref p] ∧ (SqL K H p ys ∨ SqT K H p ys) ∧ Q (.int ys.length) H
def rListOf (K : PySem.W.Frag) : List V → Hp → VK → Prop := fun xs H Q => ∃ p ys, xs = [.ref p] ∧ (SqL K H p ys ∨ SqT K H p ys) ∧ ∀ l, H l = none → Q (.ref l) (upd H l (.lst ys))
def rTupOf (K : PySem.W.Frag) : List V → Hp → VK → Prop := fun xs H Q => ∃ p ys, xs = [.ref p] ∧ ((SqL K H p ys ∧ ∀ l, H l = none → Q (.ref l) (upd H l (.tup ys))) ∨ (SqT K H p ys ∧ Q (.ref p) H))
def rAbs : List V → Hp → VK → Prop := fun xs H Q => ∃ i, xs = [.int i] ∧ Q (.int (if i < 0 then -i else i)) H
def rMax2 : List V → Hp → VK → Prop := fun xs H Q => ∃ i j, xs = [.int i, .int j] ∧ Q (.int (if j > i then j else i)) H
def rMin2 : List V → Hp → VK → Prop := fun xs H Q => ∃ i j, xs = [.int i, .int j] ∧ Q (.int (if j < i then j else i)) H
def rInt1 : List V → Hp → VK → Prop := fun xs H Q => (∃ i, xs = [.int i] ∧ Q (.int i) H) ∨ ∃ k, xs = [.bl k] ∧ Q (.int (if k then 1 else 0)) H
def rBool1 : List V → Hp → VK → Prop := fun xs H Q => (∃ i, xs = [.int i] ∧ Q (.bl (i != 0)) H) ∨ ∃ k, xs = [.bl k] ∧ Q (.bl k) H
abbrev oAdd : R2 := rI0 fun i j => .int (i + j)
abbrev oSub : R2 := rI0 fun i j => .int (i - j)
abbrev oMul : R2 := rI CMul fun i j => .int (i * j)
/-- // by a positive divisor below 2 ^ 62 -/
def CDivB (_ j : Int) : Prop := 0 < j ∧ j < 4611686018427387904
theorem op_fdivB {X : Cx} : OpR X (binaryOp .FloorDiv) (rI CDivB fun i j => .int (i / j)) := by
  intro pins s σ H x y v u Q I rx ry h
  obtain ⟨i, j, ex, ey, hc, q⟩ := h
  have h1 : 0 < j := hc.1
  have h2 : j < 4611686018427387904 := hc.2
  have h3 : j.natAbs < 2 ^ 62 := by
    have e : (2 : Nat) ^ 62 = 4611686018427387904 := by decide
    omega
  exact op_fdivW pins s σ H x y v u Q I rx ry ⟨i, j, ex, ey, wide_div (b := 62) h1 h3 (by decide) (by decide), q⟩
abbrev oDiv : R2 := rI CDivB fun i j => .int (i / j)
abbrev oMod : R2 := rI (fun _ j => 0 < j) fun i j => .int (i % j)
abbrev oPow : R2 := rI CPow fun i j => .int (i ^ j.toNat)
abbrev oLt : R2 := rI0 fun i j => .bl (decide (i < j))
abbrev oLe : R2 := rI0 fun i j => .bl (decide (i ≤ j))
abbrev oGt : R2 := rI0 fun i j => .bl (decide (j < i))
abbrev oGe : R2 := rI0 fun i j => .bl (decide (j ≤ i))
abbrev uNeg : V → Hp → VK → Prop := rU fun i => .int (-i)
section
variable {X : Cx}
theorem cl_len : CallR X (.builtin "len") (rLen X.K) := call_len_seq
theorem cl_list : CallR X (.type "list") (rListOf X.K) := call_list_of
theorem cl_tuple : CallR X (.type "tuple") (rTupOf X.K) := call_tuple_of
theorem cl_abs : CallR X (.builtin "abs") rAbs := call_abs
theorem cl_max2 (hc : X.calm = true) : CallR X (.builtin "max") rMax2 := call_max2 hc
theorem cl_min2 (hc : X.calm = true) : CallR X (.builtin "min") rMin2 := call_min2 hc
theorem cl_int1 : CallR X (.type "int") rInt1 := call_int1
theorem cl_bool1 : CallR X (.type "bool") rBool1 := call_bool1
end
section
variable {σ : L2.St} {H : Hp} {K : PySem.W.Frag} {p : Addr} {xs : List V} {n m : Int} {ts : TA} {b : Bool} {te ta tb : TE} {v w : V}
theorem v_len (h : Args ts σ H [.ref p]) (hl : SqL K H p xs) : Val (tCB (rLen K) ts) σ H (.int xs.length) := v_cb h fun _ q => ⟨p, xs, rfl, .inl hl, q⟩
theorem v_lenT (h : Args ts σ H [.ref p]) (hl : SqT K H p xs) : Val (tCB (rLen K) ts) σ H (.int xs.length) := v_cb h fun _ q => ⟨p, xs, rfl, .inr hl, q⟩
theorem v_abs (h : Args ts σ H [.int n]) : Val (tCB rAbs ts) σ H (.int (if n < 0 then -n else n)) := v_cb h fun _ q => ⟨n, rfl, q⟩
theorem v_max2 (h : Args ts σ H [.int n, .int m]) : Val (tCB rMax2 ts) σ H (.int (if m > n then m else n)) := v_cb h fun _ q => ⟨n, m, rfl, q⟩
theorem v_min2 (h : Args ts σ H [.int n, .int m]) : Val (tCB rMin2 ts) σ H (.int (if m < n then m else n)) := v_cb h fun _ q => ⟨n, m, rfl, q⟩
theorem v_intI (h : Args ts σ H [.int n]) : Val (tCB rInt1 ts) σ H (.int n) := v_cb h fun _ q => .inl ⟨n, rfl, q⟩
theorem v_intB (h : Args ts σ H [.bl b]) : Val (tCB rInt1 ts) σ H (.int (if b then 1 else 0)) := v_cb h fun _ q => .inr ⟨b, rfl, q⟩
theorem v_cast (h : Val te σ H v) (e : v = w) : Val te σ H w := e ▸ h
end
theorem atI_of {α : Type} {xs : List α} {i : Int} {v : α} (h0 : 0 ≤ i) (h : xs[i.toNat]? = some v) : atI xs i = some v := by
  have e : ((i.toNat : Nat) : Int) = i := Int.toNat_of_nonneg h0
  rw [← e]
  exact atI_nat h
theorem ixN_of {n : Nat} {i : Int} (h0 : 0 ≤ i) (h : i < n) : ixN n i = some i.toNat := by
  unfold ixN
  rw [if_pos h0, if_pos h]
/-! ## a statement, then the rest -/
section
variable {σ : L2.St} {H : Hp} {D : Ends} {t u r : TS} {te to ti : TE} {tt : TT} {b : Bool} {v x : V} {i : Nat} {K : PySem.W.Frag} {Q : VK}
theorem q_asg {g : TG} (h : te σ H fun x H1 => g x σ H1 (r D)) : tSeq (tAsg te g) r D σ H := h
theorem q_set (h : te σ H fun x H1 => r D (σ.set i (some x)) H1) : tSeq (tAsg te (gName i)) r D σ H := h
theorem q_val (h : Val te σ H v) (q : r D (σ.set i (some v)) H) : tSeq (tAsg te (gName i)) r D σ H := h _ q
theorem q_drop (h : te σ H fun _ H1 => r D σ H1) : tSeq (tDrop te) r D σ H := h
theorem q_next (h : r D σ H) : tSeq tNext r D σ H := h
theorem q_if (h : Ans tt σ H b) (h1 : b = true → t { D with nx := r D } σ H) (h2 : b = false → u { D with nx := r D } σ H) : tSeq (tIfS tt t u) r D σ H := g_ifA h h1 h2
theorem q_ifc (h : tt σ H fun b H1 => if b = true then t { D with nx := r D } σ H1 else u { D with nx := r D } σ H1) : tSeq (tIfS tt t u) r D σ H := h
theorem q_whenc (h : tt σ H fun b H1 => if b = true then t { D with nx := r D } σ H1 else r D σ H1) : tSeq (tIfS tt t tNext) r D σ H := h
theorem q_when (h : Ans tt σ H b) (h1 : b = true → t { D with nx := r D } σ H) (h2 : b = false → r D σ H) : tSeq (tIfS tt t tNext) r D σ H := g_ifA h h1 h2
theorem q_setI {p : Addr} {xs : List V} {n : Int} {j : Nat} (h : Val te σ H v) (ho : Val to σ H (.ref p)) (hi : Val ti σ H (.int n)) (hp : H p = some (.lst xs)) (hj : ixN xs.length n = some j) (q : r D σ (upd H p (.lst (xs.set j v)))) : tSeq (tAsg te (gSub to ti rSetL)) r D σ H :=
  h _ (ho _ (hi _ ⟨p, xs, n, j, rfl, rfl, hp, hj, q⟩))
theorem g_setI {p : Addr} {xs : List V} {n : Int} {j : Nat} (h : Val te σ H v) (ho : Val to σ H (.ref p)) (hi : Val ti σ H (.int n)) (hp : H p = some (.lst xs)) (hj : ixN xs.length n = some j) (q : D.nx σ (upd H p (.lst (xs.set j v)))) : tAsg te (gSub to ti rSetL) D σ H :=
  h _ (ho _ (hi _ ⟨p, xs, n, j, rfl, rfl, hp, hj, q⟩))
theorem g_set (h : te σ H fun x H1 => D.nx (σ.set i (some x)) H1) : tAsg te (gName i) D σ H := h
/-- xs.append(e), e any -/
theorem e_app {p : Addr} {xs : List V} (ho : Val to σ H (.ref p)) (hp : H p = some (.lst xs)) (h : te σ H fun y H2 => ∃ xs, H2 p = some (.lst xs) ∧ xs.length < sizeLine ∧ Q .non (upd H2 p (.lst (xs ++ [y]))))
    (mono : ∀ Q Q' : VK, (∀ v H, Q v H → Q' v H) → te σ H Q → te σ H Q' := by intros; assumption) : tBM K "list" rAppend to (tCons te tNil) σ H Q :=
  ho _ ⟨Or.inl ⟨rfl, xs, SqL.of hp⟩, mono _ _ (fun y H2 ⟨ys, e, l, q⟩ => ⟨p, ys, y, rfl, rfl, e, l, q⟩) h⟩
theorem e_appV {p : Addr} {xs : List V} (ho : Val to σ H (.ref p)) (h : Val te σ H v) (hp : H p = some (.lst xs)) (hl : xs.length < sizeLine) (q : Q .non (upd H p (.lst (xs ++ [v])))) : tBM K "list" rAppend to (tCons te tNil) σ H Q :=
  ho _ ⟨Or.inl ⟨rfl, xs, SqL.of hp⟩, h _ ⟨p, xs, v, rfl, rfl, hp, hl, q⟩⟩
end
end Cl

/-! ## Lib3 -/
namespace Cl
open PySem PySem.Spec PyProof.Rows L2
section
variable {X : Cx} {a b c d : Expr} {ta tb tc td : TE} {pos : Pos}
/-- a < b < c < d -/
def tChain3 (r r' r'' : R2) (ta tb tc td : TE) : TE := fun σ H Q => ta σ H fun x H1 => tb σ H1 fun y H2 => r x y H2 fun z H3 => ∃ k, z = .bl k ∧
  (if k = true then tc σ H3 fun w' H4 => r' y w' H4 fun z' H5 => ∃ k', z' = .bl k' ∧ (if k' = true then td σ H5 fun u' H6 => r'' w' u' H6 Q else Q (.bl false) H5) else Q (.bl false) H3)
theorem pe_chain3 {op op' op'' : CmpOp} {r r' r'' : R2} (ho : OpR X (compareOp op) r) (ho' : OpR X (compareOp op') r') (ho'' : OpR X (compareOp op'') r'') (ha : PE X a ta) (hb : PE X b tb) (hc : PE X c tc) (hd : PE X d td)
    (hm : lastMarks [op, op', op''] [b, c, d] = false := by with_unfolding_all rfl) : PE X (.Compare a [op, op', op''] [b, c, d] pos) (tChain3 r r' r'' ta tb tc td) := by
  refine ⟨fun pins s σ H Q I h => ?_⟩
  refine Compare_chain (thn (ha.run pins s σ H _ I h) fun v s1 ⟨x, H1, I1, r1, q1⟩ => chain_link (thn (hb.run pins s1 σ H1 _ I1 q1) fun u s2 ⟨y, H2, I2, r2, q2⟩ =>
    thn (ho pins s2 σ H2 x y v u _ I2 r1 r2 q2) fun d s3 ⟨z, H3, I3, r3, k, e, q3⟩ => ?_)) hm
  subst e
  cases r3
  refine wpAny_truthy_bool ?_
  cases k with
  | false => exact ite_ff ⟨.bl false, H3, I3, rfl, q3⟩
  | true =>
    refine ite_tt (chain_link (thn (hc.run pins s3 σ H3 _ I3 q3) fun w' s4 ⟨z', H4, I4, r4, q4⟩ => thn (ho' pins s4 σ H4 y z' u w' _ I4 r2 r4 q4) fun d' s5 ⟨z2, H5, I5, r5, k2, e2, q5⟩ => ?_))
    subst e2
    cases r5
    refine wpAny_truthy_bool ?_
    cases k2 with
    | false => exact ite_ff ⟨.bl false, H5, I5, rfl, q5⟩
    | true => exact ite_tt (chain_last (thn (hd.run pins s5 σ H5 _ I5 q5) fun w2 s6 ⟨z3, H6, I6, r6, q6⟩ => ho'' pins s6 σ H6 z' z3 w' w2 Q I6 r4 r6 q6))
theorem v_chain3 {σ : L2.St} {H : Hp} {x y z w : V} {r r' r'' : R2} {p q s : Bool} (ha : Val ta σ H x) (hb : Val tb σ H y) (hc : Val tc σ H z) (hd : Val td σ H w) (h1 : ∀ Q : VK, Q (.bl p) H → r x y H Q) (h2 : ∀ Q : VK, Q (.bl q) H → r' y z H Q) (h3 : ∀ Q : VK, Q (.bl s) H → r'' z w H Q) :
    Val (tChain3 r r' r'' ta tb tc td) σ H (.bl (p && (q && s))) := fun Q k => by
  refine ha _ (hb _ (h1 _ ⟨p, rfl, ?_⟩))
  cases p with
  | false => exact iteF k
  | true =>
    refine iteT (hc _ (h2 _ ⟨q, rfl, ?_⟩))
    cases q with
    | false => exact iteF k
    | true => exact iteT (hd _ (h3 _ k))
/-- list(e.values()) -/
def tListV (te : TE) : TE := fun σ H Q => te σ H fun x H1 => ∃ (d : Addr) (kvs : List (Key × V)), x = .ref d ∧ H1 d = some (.dK kvs) ∧ ∀ l, H1 l = none → Q (.ref l) (upd H1 l (.lst (kvs.map (·.2))))
theorem vals_snd {κ : Type} : ∀ {kvs : List (κ × V)} {vs : List (κ × Value)}, KV kvs vs → Vals (kvs.map (·.2)) (vs.map (·.2))
  | _, _, .nil => .nil
  | _, _, .cons r t => .cons r.2 (vals_snd t)
theorem plistV {e : Expr} {te : TE} {p apos cpos : Pos} (hc : X.calm = true) (hg : Gl X "list") (hm : X.mg "list" = none) (he : PE X e te) (hv : bootBuiltins "list" = some (.type "list") := by decide +kernel) (hbase : attributeBase e "values" X.env (eval e X.env) = eval e X.env := by rfl) (hline : (apos.endLine == cpos.line) = true := by rfl)
    (hs : starEach [.Call (.Attribute e "values" apos) [] [] cpos] X.env = (false, eval (.Call (.Attribute e "values" apos) [] [] cpos) X.env) :: starEach [] X.env := by rfl) :
    PE X (.Call (.Name "list" p) [.Call (.Attribute e "values" apos) [] [] cpos] [] pos) (tListV te) := by
  refine ⟨fun pins s σ H Q I hq => ?_⟩
  refine wpAny_Call_Name_kw (ld_blt I hg hm hv ?_)
  refine PyProof.Rows.callWith_type1 ?_ hs rfl
  rw [hs]
  show wpAny _ _ (spliced ((false, eval (.Call (.Attribute e "values" apos) [] [] cpos) X.env) :: backTo pos (starEach [] X.env))) _ _ s
  refine Calls.spliced_cons ?_
  refine wpAny_Call_method (T := "dict") (id := "dict.values") hbase rfl hline F.plainAttrs_dict F.slot_dict_values F.type_dict_values (thn (he.run pins s σ H _ I hq) fun u s1 ⟨x, H1, I1, rx, d, kvs, ex, hd, q⟩ => ?_)
  subst ex
  obtain rfl : u = Value.ref d := rx
  obtain ⟨hz, hs0, vs, kv, hdo⟩ := I1.hok d _ hd
  obtain ⟨ep, hat⟩ := hdo.dictAt
  have lk : kvs.length = vs.length := Paired.length kv
  have I2 : Inv X pins σ H1 { s1 with heap := s1.heap.push { cls := .type "dict_values", data := .fields #[.ref d] } } := I1.kept (t' := s1.toks) fun b ob q => Heap.get?_push_of_some _ q
  refine ⟨hdo.typeIs, hdo.mapOf.noDict, ?_⟩
  show wpAny _ _ (callWith cpos (.builtin "dict.values") [.ref d] [] []) _ X.xe s1
  refine method_meetsIn F.slot_dict_values F.entry_dict_values rfl (PySem.evalArgs_none ⟨rfl, hdo.typeIs, F.args_dict_values_1 _, _, meets_dict_values (mixKind X.prog X.w) d hs0, ⟨vs, hdo⟩, ?_⟩)
  refine Calls.spliced_nil ?_
  refine PySem.W.kdl_call (PySem.W.kdl_values (knd := mixKind X.prog X.w) (kvs := vs) (ep := ep)) (I1.ok.hd hc) ⟨⟨_, Heap.get?_push_size _ rfl, rfl, rfl⟩, hat.push _⟩ (by omega) fun h' tk acc c hk hS hi => ?_
  have ea : acc.toList = vs.map (·.2) := PySem.W.kdl_vals_eq acc.toList (by rw [Array.length_toList]; exact hi.1) fun j v hj => hi.2 j v (by rw [← hj, Array.getElem?_toList])
  have hn : H1 (s1.heap.push { cls := .type "dict_values", data := .fields #[.ref d] }).objs.size = none := I2.hok.fresh (Nat.le_refl _)
  refine ⟨.ref _, upd H1 (s1.heap.push { cls := .type "dict_values", data := .fields #[.ref d] }).objs.size (.lst (kvs.map (·.2))), I2.laid (t' := tk) hk (Nat.le_refl _) (show ObjOk X.prog X.w _ _ _ (.lst (kvs.map (·.2))) from ⟨by rw [List.length_map]; exact hz, acc.toList, c, by rw [ea]; exact vals_snd kv, ?_⟩), rfl, q _ hn⟩
  rw [Array.toArray_toList]; exact hS
end
section
variable {X : Cx} {o e f : Expr} {apos cpos : Pos} {m : Str}
theorem m2_of (h1 : attributeBase o m X.env (eval o X.env) = eval o X.env := by rfl)
    (h2 : ((backTo cpos (starEach [e, f] X.env)).all (fun x => !x.1) && (backToKw cpos (keywordEach [] X.env)).all (fun x => x.1.isSome)
    && decide (([e, f] : List Expr).length + ([] : List Keyword).length + (if ([] : List Keyword).isEmpty then 0 else 1) < 30)) = true := by rfl)
    (h3 : (apos.endLine == cpos.line) = true := by rfl) (h4 : backTo cpos (starEach [e, f] X.env) = [(false, eval e X.env), (false, eval f X.env)] := by rfl) : M2 X o m apos e f cpos := ⟨h1, h2, h3, h4⟩
end
/-! ## loops -/
section
variable {σ : L2.St} {H : Hp} {D : Ends} {tb r : TS} {K : PySem.W.Frag} {j : Nat}
theorem s_forR {ta : TA} {n : Int} (h : Args ta σ H [.int n]) (hn : -1000000000 ≤ n ∧ n < 1000000000) (Pv : Nat → L2.St → Hp → Prop) (h0 : Pv 0 σ H)
    (hs : ∀ (i : Nat) σ' H', (i : Int) < n → Pv i σ' H' → tb { D with nx := Pv (i + 1), ct := Pv (i + 1), bk := D.nx } (σ'.set j (some (.int (i : Int)))) H') (hd : ∀ σ' H', Pv n.toNat σ' H' → D.nx σ' H') : tFor (iRng1 ta) (gName j) tb D σ H :=
  h _ ⟨n, rfl, by omega, by omega, for_range (lo := 0) (n := n.toNat) Pv h0 (fun i σ' H' hi p => by
    have e0 : (0 : Int) + (i : Int) = (i : Int) := Int.zero_add _
    show tb { D with nx := Pv (i + 1), ct := Pv (i + 1), bk := D.nx } (σ'.set j (some (.int ((0 : Int) + (i : Int))))) H'
    rw [e0]
    exact hs i σ' H' (by omega) p) hd⟩
theorem q_forR {ta : TA} {n : Int} (h : Args ta σ H [.int n]) (hn : -1000000000 ≤ n ∧ n < 1000000000) (Pv : Nat → L2.St → Hp → Prop) (h0 : Pv 0 σ H)
    (hs : ∀ (i : Nat) σ' H', (i : Int) < n → Pv i σ' H' → tb { D with nx := Pv (i + 1), ct := Pv (i + 1), bk := r D } (σ'.set j (some (.int (i : Int)))) H') (hd : ∀ σ' H', Pv n.toNat σ' H' → r D σ' H') : tSeq (tFor (iRng1 ta) (gName j) tb) r D σ H :=
  s_forR (D := { D with nx := r D }) h hn Pv h0 hs hd
theorem s_forR2 {ta : TA} {lo hi : Int} (h : Args ta σ H [.int lo, .int hi]) (h1 : -1000000000 ≤ lo ∧ lo < 1000000000) (h2 : -1000000000 ≤ hi ∧ hi < 1000000000) (Pv : Nat → L2.St → Hp → Prop) (h0 : Pv 0 σ H)
    (hs : ∀ (i : Nat) σ' H', lo + (i : Int) < hi → Pv i σ' H' → tb { D with nx := Pv (i + 1), ct := Pv (i + 1), bk := D.nx } (σ'.set j (some (.int (lo + (i : Int))))) H') (hd : ∀ σ' H', Pv (hi - lo).toNat σ' H' → D.nx σ' H') : tFor (iRng2 ta) (gName j) tb D σ H :=
  h _ ⟨lo, hi, rfl, ⟨by omega, by omega, by omega, by omega⟩, for_range (lo := lo) (n := (hi - lo).toNat) Pv h0 (fun i σ' H' hi p => hs i σ' H' (by omega) p) hd⟩
theorem q_forR2 {ta : TA} {lo hi : Int} (h : Args ta σ H [.int lo, .int hi]) (h1 : -1000000000 ≤ lo ∧ lo < 1000000000) (h2 : -1000000000 ≤ hi ∧ hi < 1000000000) (Pv : Nat → L2.St → Hp → Prop) (h0 : Pv 0 σ H)
    (hs : ∀ (i : Nat) σ' H', lo + (i : Int) < hi → Pv i σ' H' → tb { D with nx := Pv (i + 1), ct := Pv (i + 1), bk := r D } (σ'.set j (some (.int (lo + (i : Int))))) H') (hd : ∀ σ' H', Pv (hi - lo).toNat σ' H' → r D σ' H') : tSeq (tFor (iRng2 ta) (gName j) tb) r D σ H :=
  s_forR2 (D := { D with nx := r D }) h h1 h2 Pv h0 hs hd
theorem s_forL {a : Addr} {xs : List V} {tl : TE} (h : Val tl σ H (.ref a)) (hx : SqL K H a xs) (Pv : Nat → L2.St → Hp → Prop) (h0 : Pv 0 σ H) (hl : ∀ i σ' H', i ≤ xs.length → Pv i σ' H' → SqL K H' a xs)
    (hs : ∀ i x σ' H', xs[i]? = some x → Pv i σ' H' → tb { D with nx := Pv (i + 1), ct := Pv (i + 1), bk := D.nx } (σ'.set j (some x)) H') (hd : ∀ σ' H', Pv xs.length σ' H' → D.nx σ' H') : tFor (iList K tl) (gName j) tb D σ H :=
  h _ ⟨a, rfl, ⟨xs, hx⟩, for_list Pv h0 hl hs hd⟩
theorem q_forL {a : Addr} {xs : List V} {tl : TE} (h : Val tl σ H (.ref a)) (hx : SqL K H a xs) (Pv : Nat → L2.St → Hp → Prop) (h0 : Pv 0 σ H) (hl : ∀ i σ' H', i ≤ xs.length → Pv i σ' H' → SqL K H' a xs)
    (hs : ∀ i x σ' H', xs[i]? = some x → Pv i σ' H' → tb { D with nx := Pv (i + 1), ct := Pv (i + 1), bk := r D } (σ'.set j (some x)) H') (hd : ∀ σ' H', Pv xs.length σ' H' → r D σ' H') : tSeq (tFor (iList K tl) (gName j) tb) r D σ H :=
  s_forL (D := { D with nx := r D }) h hx Pv h0 hl hs hd
theorem s_forT {a : Addr} {xs : List V} {tl : TE} (h : Val tl σ H (.ref a)) (hx : SqT K H a xs) (Pv : Nat → L2.St → Hp → Prop) (h0 : Pv 0 σ H) (hl : ∀ i σ' H', i ≤ xs.length → Pv i σ' H' → SqT K H' a xs)
    (hs : ∀ i x σ' H', xs[i]? = some x → Pv i σ' H' → tb { D with nx := Pv (i + 1), ct := Pv (i + 1), bk := D.nx } (σ'.set j (some x)) H') (hd : ∀ σ' H', Pv xs.length σ' H' → D.nx σ' H') : tFor (iTup K tl) (gName j) tb D σ H :=
  h _ ⟨a, rfl, ⟨xs, hx⟩, for_tup Pv h0 hl hs hd⟩
theorem q_forT {a : Addr} {xs : List V} {tl : TE} (h : Val tl σ H (.ref a)) (hx : SqT K H a xs) (Pv : Nat → L2.St → Hp → Prop) (h0 : Pv 0 σ H) (hl : ∀ i σ' H', i ≤ xs.length → Pv i σ' H' → SqT K H' a xs)
    (hs : ∀ i x σ' H', xs[i]? = some x → Pv i σ' H' → tb { D with nx := Pv (i + 1), ct := Pv (i + 1), bk := r D } (σ'.set j (some x)) H') (hd : ∀ σ' H', Pv xs.length σ' H' → r D σ' H') : tSeq (tFor (iTup K tl) (gName j) tb) r D σ H :=
  s_forT (D := { D with nx := r D }) h hx Pv h0 hl hs hd
/-- for i, x in enumerate(xs): the pair is a new tuple, taken apart -/
theorem s_forE {a : Addr} {xs : List V} {ta : TA} {i1 i2 : Nat} (h : Args ta σ H [.ref a]) (hx : SqL K H a xs) (Pv : Nat → L2.St → Hp → Prop) (h0 : Pv 0 σ H) (hl : ∀ i σ' H', i ≤ xs.length → Pv i σ' H' → SqL K H' a xs)
    (hs : ∀ (i : Nat) x σ' H' t, xs[i]? = some x → Pv i σ' H' → H' t = none → tb { D with nx := Pv (i + 1), ct := Pv (i + 1), bk := D.nx } ((σ'.set i1 (some (.int (i : Int)))).set i2 (some x)) (upd H' t (.tup [.int (i : Int), x]))) (hd : ∀ σ' H', Pv xs.length σ' H' → D.nx σ' H') :
    tFor (iEnum K ta) (gTup K 2 (gCons (gName i1) (gCons (gName i2) gNil))) tb D σ H :=
  h _ ⟨a, xs, rfl, hx, for_it (walk_enum (K := K) (a := a) (xs := xs)) Pv h0 hl (fun i x σ' H' H'' hi p y => by
    obtain ⟨t, u, v, ex, ht, eH, e1, e2⟩ := y
    have eu : V.int (i : Int) = u := Option.some.inj e1
    subst ex eH eu
    exact ⟨t, _, rfl, SqT.of upd_same, rfl, _, _, rfl, _, _, rfl, rfl, hs i v σ' H' t e2 p ht⟩) hd⟩
theorem q_forE {a : Addr} {xs : List V} {ta : TA} {i1 i2 : Nat} (h : Args ta σ H [.ref a]) (hx : SqL K H a xs) (Pv : Nat → L2.St → Hp → Prop) (h0 : Pv 0 σ H) (hl : ∀ i σ' H', i ≤ xs.length → Pv i σ' H' → SqL K H' a xs)
    (hs : ∀ (i : Nat) x σ' H' t, xs[i]? = some x → Pv i σ' H' → H' t = none → tb { D with nx := Pv (i + 1), ct := Pv (i + 1), bk := r D } ((σ'.set i1 (some (.int (i : Int)))).set i2 (some x)) (upd H' t (.tup [.int (i : Int), x]))) (hd : ∀ σ' H', Pv xs.length σ' H' → r D σ' H') :
    tSeq (tFor (iEnum K ta) (gTup K 2 (gCons (gName i1) (gCons (gName i2) gNil))) tb) r D σ H := s_forE (D := { D with nx := r D }) h hx Pv h0 hl hs hd
/-! ## tests that are known -/
variable {tt : TT} {t u : TS} {b : Bool} {te ta : TE} {x : V} {ts : TA}
theorem q_yes (h : Ans tt σ H b) (e : b = true) (q : t { D with nx := r D } σ H) : tSeq (tIfS tt t u) r D σ H := g_ifA h (fun _ => q) (fun z => by rw [e] at z; cases z)
theorem q_no (h : Ans tt σ H b) (e : b = false) (q : r D σ H) : tSeq (tIfS tt t tNext) r D σ H := g_ifA h (fun z => by rw [e] at z; cases z) (fun _ => q)
theorem g_yes (h : Ans tt σ H b) (e : b = true) (q : t D σ H) : tIfS tt t u D σ H := g_ifA h (fun _ => q) (fun z => by rw [e] at z; cases z)
theorem g_no (h : Ans tt σ H b) (e : b = false) (q : u D σ H) : tIfS tt t u D σ H := g_ifA h (fun z => by rw [e] at z; cases z) (fun _ => q)
theorem v_isN (ha : Val ta σ H x) : Val (tOp rIsN ta (tC .non)) σ H (.bl (decide (x = .non))) := v_op ha val_c fun _ q => ⟨rfl, q⟩
theorem v_notN (ha : Val ta σ H x) : Val (tOp rNotN ta (tC .non)) σ H (.bl (!decide (x = .non))) := v_op ha val_c fun _ q => ⟨rfl, q⟩
theorem v_isi {T A : String} (h : Args ts σ H [x, .ty T]) (ht : TyX K H x (.type A)) (hk : kitB A T = some b) : Val (tCB (rIsi K) ts) σ H (.bl b) := v_cb h fun _ q => ⟨x, .ty T, .type A, .type T, b, rfl, .ty T, ht, kit_ty hk, q⟩
theorem v_isiT {T A : String} (h : Args ts σ H [x, .ty T]) (ht : TyX K H x (.type A)) (hk : kitB A T = some true) : Val (tCB (rIsi K) ts) σ H (.bl true) := v_isi h ht hk
theorem v_isiF {T A : String} (h : Args ts σ H [x, .ty T]) (ht : TyX K H x (.type A)) (hk : kitB A T = some false) : Val (tCB (rIsi K) ts) σ H (.bl false) := v_isi h ht hk
theorem v_ixS {p : Addr} {xs : List V} {tb : TE} {n : Int} {v : V} (ha : Val ta σ H (.ref p)) (hb : Val tb σ H (.int n)) (h : SqL K H p xs ∨ SqT K H p xs) (e : atI xs n = some v) : Val (tOp (rIx K) ta tb) σ H v := v_op ha hb fun _ q => by
  rcases h with h | h
  · exact Or.inl ⟨p, xs, n, v, rfl, rfl, h, e, q⟩
  · exact Or.inr (Or.inl ⟨p, xs, n, v, rfl, rfl, h, e, q⟩)
end
end Cl

/-! ## ComSp -/
namespace Cl
open PySem PySem.Spec PyProof.Rows L2
/-! ## heaps: all but S is kept -/
def Kp (S : List Addr) (H H' : Hp) : Prop := ∀ b o, b ∉ S → H b = some o → H' b = some o
theorem Kp.refl (S : List Addr) (H : Hp) : Kp S H H := fun _ _ _ e => e
theorem Kp.trans {S : List Addr} {H H1 H2 : Hp} (a : Kp S H H1) (b : Kp S H1 H2) : Kp S H H2 := fun c o n e => b c o n (a c o n e)
theorem Kp.mono {S T : List Addr} {H H1 : Hp} (a : Kp S H H1) (h : ∀ x ∈ S, x ∈ T) : Kp T H H1 := fun c o n e => a c o (fun z => n (h c z)) e
theorem Kp.upd {S : List Addr} {H H1 : Hp} {p : Addr} {o : HO} (a : Kp S H H1) (h : p ∈ S) : Kp S H (upd H1 p o) := fun c u n e => by
  have hne : c ≠ p := fun z => n (by rw [z]; exact h)
  rw [upd_ne hne]
  exact a c u n e
theorem Kp.new {S : List Addr} {H H1 : Hp} {p : Addr} {o : HO} (a : Kp S H H1) (h : H1 p = none) : Kp S H (L2.upd H1 p o) := fun c u n e => by
  have e1 := a c u n e
  rw [upd_ne (ne_of_none e1 h)]
  exact e1
/-- an object that came behind H may change -/
theorem Kp.mut {S : List Addr} {H H1 : Hp} {p : Addr} {o : HO} (a : Kp S H H1) (h : H p = none) : Kp S H (L2.upd H1 p o) := fun c u n e => by
  rw [upd_ne (ne_of_none e h)]
  exact a c u n e
theorem Kp.free {S : List Addr} {H H1 : Hp} {p : Addr} (a : Kp S H H1) (hs : p ∉ S) (h : H1 p = none) : H p = none := by
  cases e : H p with
  | none => rfl
  | some o => rw [a p o hs e] at h; cases h
theorem Kp.of {H H1 : Hp} (S : List Addr) (a : Kp [] H H1) : Kp S H H1 := a.mono fun _ z => nomatch z
/-- a pool: what draws are made of -/
def Pool (H : Hp) (p : Addr) : Prop := ∃ a f c : Int, H p = some (.lst [.int a, .int f, .int c]) ∧ 0 ≤ a ∧ 0 ≤ c
theorem Pool.some {H : Hp} {p : Addr} (h : Pool H p) : ∃ o, H p = some o := let ⟨_, _, _, e, _⟩ := h; ⟨_, e⟩
theorem Pool.ne {H : Hp} {p q : Addr} (h : Pool H p) (hq : H q = none) : q ≠ p := fun z => by
  obtain ⟨_, _, _, e, _⟩ := h
  rw [z, e] at hq; cases hq
theorem Pool.upd {H : Hp} {p q : Addr} {o : HO} (h : Pool H p) (hn : p ≠ q) : Pool (upd H q o) p := by
  obtain ⟨a, f, c, e, z⟩ := h
  exact ⟨a, f, c, by rw [upd_ne hn]; exact e, z⟩
theorem Pool.new {H : Hp} {p q : Addr} {o : HO} (h : Pool H p) (hq : H q = none) : Pool (L2.upd H q o) p := h.upd (h.ne hq).symm
/-! ## data of depth n at most -/
def Dat (H : Hp) : Nat → PyData → V → Prop
  | _, .none, v => v = .non
  | _, .bool b, v => v = .bl b
  | _, .int i, v => v = .int i
  | _, .str s, v => v = .str s
  | n + 1, .list ds, v => ∃ a vs, v = .ref a ∧ H a = some (.lst vs) ∧ ds.length ≤ 1000000 ∧ vs.length = ds.length ∧ ∀ (i : Nat) d x, ds[i]? = some d → vs[i]? = some x → Dat H n d x
  | n + 1, .tuple ds, v => ∃ a vs, v = .ref a ∧ H a = some (.tup vs) ∧ ds.length ≤ 1000000 ∧ vs.length = ds.length ∧ ∀ (i : Nat) d x, ds[i]? = some d → vs[i]? = some x → Dat H n d x
  | _, _, _ => False
/-! ## promises of the law's common defs -/
def sp_l_cell (K : PySem.W.Frag) : Sp := fun vs H Q _ => ∃ (a : Addr) (ns : List Int) (k : Int), vs = [.ref a, .int k] ∧ SqL K H a (ns.map V.int) ∧ 0 ≤ k ∧ ∀ i, 0 ≤ i → Q (.int i) H
def sp_l_pool (K : PySem.W.Frag) : Sp := fun vs H Q _ => ∃ (a : Addr) (ns : List Int) (k : Int), vs = [.ref a, .int k] ∧ SqL K H a (ns.map V.int) ∧ 0 ≤ k ∧ k < 1000000 ∧
  ∀ p H', H p = none → Kp [] H H' → Pool H' p → Q (.ref p) H'
def sp_l_take : Sp := fun vs H Q _ => ∃ (p : Addr) (m : Int), vs = [.ref p, .int m] ∧ Pool H p ∧ 0 < m ∧ m < 4611686018427387904 ∧ ∀ r H', 0 ≤ r → r < m → Kp [p] H H' → (∀ b, H b = none → H' b = none) → Pool H' p → Q (.int r) H'
/-- both the same data -/
def sp_l_same_n (n : Nat) : Sp := fun vs H Q _ => ∃ (x y : V) (d : PyData), vs = [x, y] ∧ Dat H n d x ∧ Dat H n d y ∧ Q (.bl true) H
def sp_l_same_r : Nat → Sp
  | 0 => fun _ _ _ _ => False
  | n + 1 => sp_l_same_n n
def sp_l_same : Sp := fun vs H Q E => ∃ n, n < 8 ∧ sp_l_same_n n vs H Q E
theorem len_l_cell {K : PySem.W.Frag} {vs H Q E} (h : sp_l_cell K vs H Q E) : vs.length = 2 := by obtain ⟨_, _, _, rfl, _⟩ := h; rfl
theorem len_l_pool {K : PySem.W.Frag} {vs H Q E} (h : sp_l_pool K vs H Q E) : vs.length = 2 := by obtain ⟨_, _, _, rfl, _⟩ := h; rfl
theorem len_l_take {vs H Q E} (h : sp_l_take vs H Q E) : vs.length = 2 := by obtain ⟨_, _, rfl, _⟩ := h; rfl
theorem len_l_same {n vs H Q E} (h : sp_l_same_n n vs H Q E) : vs.length = 2 := by obtain ⟨_, _, _, rfl, _⟩ := h; rfl
theorem call_cell {K : PySem.W.Frag} {H : Hp} {Q : VK} {E : XK} {a : Addr} {ns : List Int} {k : Int} (h : SqL K H a (ns.map V.int)) (h0 : 0 ≤ k) (q : ∀ i, 0 ≤ i → Q (.int i) H) : sp_l_cell K [.ref a, .int k] H Q E := ⟨a, ns, k, rfl, h, h0, q⟩
theorem call_pool {K : PySem.W.Frag} {H : Hp} {Q : VK} {E : XK} {a : Addr} {ns : List Int} {k : Int} (h : SqL K H a (ns.map V.int)) (h0 : 0 ≤ k) (h1 : k < 1000000) (q : ∀ p H', H p = none → Kp [] H H' → Pool H' p → Q (.ref p) H') : sp_l_pool K [.ref a, .int k] H Q E := ⟨a, ns, k, rfl, h, h0, h1, q⟩
theorem call_take {H : Hp} {Q : VK} {E : XK} {p : Addr} {m : Int} (h : Pool H p) (h0 : 0 < m) (h1 : m < 4611686018427387904) (q : ∀ r H', 0 ≤ r → r < m → Kp [p] H H' → (∀ b, H b = none → H' b = none) → Pool H' p → Q (.int r) H') : sp_l_take [.ref p, .int m] H Q E := ⟨p, m, rfl, h, h0, h1, q⟩
theorem call_same {H : Hp} {Q : VK} {E : XK} {x y : V} (n : Nat) (d : PyData) (hn : n < 8) (hx : Dat H n d x) (hy : Dat H n d y) (q : Q (.bl true) H) : sp_l_same [x, y] H Q E := ⟨n, hn, x, y, d, rfl, hx, hy, q⟩
theorem atI_ints {ns : List Int} {i : Int} (h0 : 0 ≤ i) (h1 : i < ns.length) : atI (ns.map V.int) i = some (.int (ns.getD i.toNat 0)) := by
  refine atI_of h0 ?_
  rw [List.getElem?_map]
  have h : i.toNat < ns.length := by omega
  simp [List.getElem?_eq_getElem h, List.getD_eq_getElem?_getD]
/-! ## comprehensions: xs.filter g, mapped by f; the elements leave the heap (they are read behind any more of it) -/
section
variable {σ : L2.St} {H : Hp} {K : PySem.W.Frag} {j : Nat} {vs : List Nat} {tt : TT} {te tl : TE} {Q : VK}
theorem a_yes {σ : L2.St} {H : Hp} : Ans tYes σ H true := fun _ q => q
def lcT (xs : List V) (f : V → V) (g : V → Bool) (i : Nat) : List V := ((xs.take i).filter g).map f
theorem lcT_yes {xs : List V} {f : V → V} {g : V → Bool} {i : Nat} {x : V} (h : xs[i]? = some x) (hg : g x = true) : lcT xs f g (i + 1) = lcT xs f g i ++ [f x] := by
  unfold lcT
  rw [List.take_succ, h, List.filter_append, List.map_append]
  simp [hg]
theorem lcT_no {xs : List V} {f : V → V} {g : V → Bool} {i : Nat} {x : V} (h : xs[i]? = some x) (hg : g x = false) : lcT xs f g (i + 1) = lcT xs f g i := by
  unfold lcT
  rw [List.take_succ, h, List.filter_append, List.map_append]
  simp [hg]
theorem lcT_len (xs : List V) (f : V → V) (g : V → Bool) (i : Nat) : (lcT xs f g i).length ≤ xs.length := by
  unfold lcT
  rw [List.length_map]
  exact Nat.le_trans (List.length_filter_le _ _) (by rw [List.length_take]; omega)
def LcW (H : Hp) (xs : List V) (f : V → V) (g : V → Bool) (Dl : Addr) (i : Nat) (H' : Hp) : Prop := H' = upd H Dl (.lst (lcT xs f g i))
theorem lc_turn {H H' : Hp} {xs : List V} {f : V → V} {g : V → Bool} {Dl : Addr} {i : Nat} {x : V} {σ2 : L2.St} (p : LcW H xs f g Dl i H') (hi : xs[i]? = some x) (hz : xs.length ≤ 1000000) (hD : H Dl = none)
    (ht : Ans tt σ2 H' (g x)) (he : g x = true → Val te σ2 H' (f x)) :
    tt σ2 H' fun b H3 => if b = true then te σ2 H3 fun y H4 => ∃ acc, H4 Dl = some (.lst acc) ∧ acc.length < sizeLine ∧ LcW H xs f g Dl (i + 1) (upd H4 Dl (.lst (acc ++ [y]))) else LcW H xs f g Dl (i + 1) H3 := by
  unfold LcW at p
  subst p
  refine ht _ ?_
  cases hg : g x with
  | true =>
    refine iteT (he hg _ ⟨_, upd_same, ?_, ?_⟩)
    · have := lcT_len xs f g i
      exact Nat.lt_of_le_of_lt (Nat.le_trans this hz) (by decide)
    · show _ = _
      rw [upd_upd, lcT_yes hi hg]
  | false =>
    refine iteF ?_
    show _ = _
    rw [lcT_no hi hg]
theorem lcT_all (xs : List V) (f : V → V) (g : V → Bool) : lcT xs f g xs.length = (xs.filter g).map f := by unfold lcT; rw [List.take_length]
/-- over a list -/
theorem e_lcL {a : Addr} {xs : List V} (f : V → V) (g : V → Bool) (h : Val tl σ H (.ref a)) (hx : SqL K H a xs) (hz : xs.length ≤ 1000000) (hw : ∀ x, wipe ((wipe σ vs).set j (some x)) vs = wipe σ vs)
    (ht : ∀ (i : Nat) x Dl o, xs[i]? = some x → H Dl = none → Ans tt ((wipe σ vs).set j (some x)) (upd H Dl o) (g x)) (he : ∀ (i : Nat) x Dl o, xs[i]? = some x → g x = true → H Dl = none → Val te ((wipe σ vs).set j (some x)) (upd H Dl o) (f x))
    (q : ∀ Dl, H Dl = none → Q (.ref Dl) (upd H Dl (.lst ((xs.filter g).map f)))) : tLc (iList K tl) (gName j) tt te vs σ H Q :=
  h _ ⟨a, rfl, ⟨xs, hx⟩, fun Dl hD => lc_list (K := K) (a := a) (xs := xs) (LcW H xs f g Dl) rfl (fun i H' _ p => by
    unfold LcW at p
    subst p
    rcases hx with (hx | ⟨o, hx⟩) | hx
    · exact .inl (.inl (by rw [upd_ne (ne_of_none hx hD)]; exact hx))
    · exact .inl (.inr ⟨o, by rw [upd_ne (ne_of_none hx hD)]; exact hx⟩)
    · exact .inr hx) (fun i x H' hi p => ⟨hw x, lc_turn p hi hz hD (by rw [show H' = _ from p]; exact ht i x Dl _ hi hD) (fun hg => by rw [show H' = _ from p]; exact he i x Dl _ hi hg hD)⟩)
    (fun H' p => by rw [show H' = _ from p, lcT_all]; exact q Dl hD)⟩
/-- over a tuple -/
theorem e_lcT {a : Addr} {xs : List V} (f : V → V) (g : V → Bool) (h : Val tl σ H (.ref a)) (hx : SqT K H a xs) (hz : xs.length ≤ 1000000) (hw : ∀ x, wipe ((wipe σ vs).set j (some x)) vs = wipe σ vs)
    (ht : ∀ (i : Nat) x Dl o, xs[i]? = some x → H Dl = none → Ans tt ((wipe σ vs).set j (some x)) (upd H Dl o) (g x)) (he : ∀ (i : Nat) x Dl o, xs[i]? = some x → g x = true → H Dl = none → Val te ((wipe σ vs).set j (some x)) (upd H Dl o) (f x))
    (q : ∀ Dl, H Dl = none → Q (.ref Dl) (upd H Dl (.lst ((xs.filter g).map f)))) : tLc (iTup K tl) (gName j) tt te vs σ H Q :=
  h _ ⟨a, rfl, ⟨xs, hx⟩, fun Dl hD => lc_tup (K := K) (a := a) (xs := xs) (LcW H xs f g Dl) rfl (fun i H' _ p => by
    unfold LcW at p
    subst p
    rcases hx with (hx | ⟨o, hx⟩) | hx
    · exact .inl (.inl (by rw [upd_ne (ne_of_none hx hD)]; exact hx))
    · exact .inl (.inr ⟨o, by rw [upd_ne (ne_of_none hx hD)]; exact hx⟩)
    · exact .inr hx) (fun i x H' hi p => ⟨hw x, lc_turn p hi hz hD (by rw [show H' = _ from p]; exact ht i x Dl _ hi hD) (fun hg => by rw [show H' = _ from p]; exact he i x Dl _ hi hg hD)⟩)
    (fun H' p => by rw [show H' = _ from p, lcT_all]; exact q Dl hD)⟩
def rgI (n : Nat) : List V := (List.range n).map fun i => V.int (i : Nat)
theorem rgI_at {n i : Nat} (h : i < n) : (rgI n)[i]? = some (.int (i : Nat)) := by unfold rgI; simp [h]
theorem rgI_len (n : Nat) : (rgI n).length = n := by unfold rgI; simp
/-- over range(n) -/
theorem e_lcR {ta : TA} {n : Int} (f : V → V) (g : V → Bool) (h : Args ta σ H [.int n]) (hn : 0 ≤ n ∧ n ≤ 1000000) (hw : ∀ x, wipe ((wipe σ vs).set j (some x)) vs = wipe σ vs)
    (ht : ∀ (i : Nat) Dl o, (i : Int) < n → H Dl = none → Ans tt ((wipe σ vs).set j (some (.int (i : Nat)))) (upd H Dl o) (g (.int (i : Nat)))) (he : ∀ (i : Nat) Dl o, (i : Int) < n → g (.int (i : Nat)) = true → H Dl = none → Val te ((wipe σ vs).set j (some (.int (i : Nat)))) (upd H Dl o) (f (.int (i : Nat))))
    (q : ∀ Dl, H Dl = none → Q (.ref Dl) (upd H Dl (.lst (((rgI n.toNat).filter g).map f)))) : tLc (iRng1 ta) (gName j) tt te vs σ H Q :=
  h _ ⟨n, rfl, by omega, by omega, fun Dl hD => lc_range (lo := 0) (n := n.toNat) (LcW H (rgI n.toNat) f g Dl) rfl (fun i H' hi p => by
    have e0 : (0 : Int) + (i : Int) = (i : Int) := Int.zero_add _
    show wipe ((wipe σ vs).set j (some (.int ((0 : Int) + (i : Int))))) vs = wipe σ vs ∧ tt ((wipe σ vs).set j (some (.int ((0 : Int) + (i : Int))))) H' fun b H3 => if b = true then te ((wipe σ vs).set j (some (.int ((0 : Int) + (i : Int))))) H3 fun y H4 => ∃ acc, H4 Dl = some (.lst acc) ∧ acc.length < sizeLine ∧ LcW H (rgI n.toNat) f g Dl (i + 1) (upd H4 Dl (.lst (acc ++ [y]))) else LcW H (rgI n.toNat) f g Dl (i + 1) H3
    rw [e0]
    exact ⟨hw _, lc_turn p (rgI_at hi) (by rw [rgI_len]; omega) hD (by rw [show H' = _ from p]; exact ht i Dl _ (by omega) hD) (fun hg => by rw [show H' = _ from p]; exact he i Dl _ (by omega) hg hD)⟩)
    (fun H' p => by
      have e := lcT_all (rgI n.toNat) f g
      rw [rgI_len] at e
      rw [show H' = _ from p, e]
      exact q Dl hD)⟩
end
section
variable {σ : L2.St} {H : Hp} {K : PySem.W.Frag} {D : Ends} {r : TS} {ta tv to : TE} {a C dx p : Addr} {fs : List (Str × V)} {f : Str} {x y v : V} {ts : TA} {ys : List V} {Q : VK}
theorem v_fld (h : Val ta σ H (.ref a)) (ho : H a = some (.ins C dx fs)) (hc : Cls K C) (hn : NoAttr K C f) (hl : fs.lookup f = some v) : Val (tFld K ta f) σ H v := val_fld h ho hc hn hl
theorem s_fld (hv : Val tv σ H y) (ha : Val ta σ H (.ref a)) (ho : H a = some (.ins C dx fs)) (hc : Cls K C) (hn : NoAttr K C f) (hl : fs.length < 1000) (q : D.nx σ (upd H a (.ins C dx (putF f y fs)))) : sFld K ta tv f D σ H :=
  hv _ (ha _ ⟨a, C, dx, fs, rfl, ho, hc, hn, hl, q⟩)
theorem q_fld (hv : Val tv σ H y) (ha : Val ta σ H (.ref a)) (ho : H a = some (.ins C dx fs)) (hc : Cls K C) (hn : NoAttr K C f) (hl : fs.length < 1000) (q : r D σ (upd H a (.ins C dx (putF f y fs)))) : tSeq (sFld K ta tv f) r D σ H :=
  hv _ (ha _ ⟨a, C, dx, fs, rfl, ho, hc, hn, hl, q⟩)
/-- the value any -/
theorem s_fldc (h : tv σ H fun y H1 => ta σ H1 fun x H2 => ∃ a C dx fs, x = .ref a ∧ H2 a = some (.ins C dx fs) ∧ Cls K C ∧ NoAttr K C f ∧ fs.length < 1000 ∧ D.nx σ (upd H2 a (.ins C dx (putF f y fs)))) : sFld K ta tv f D σ H := h
theorem v_tupT (h : Args ts σ H [.ref p]) (ht : SqT K H p ys) : Val (tCB (rTupOf K) ts) σ H (.ref p) := v_cb h fun _ q => ⟨p, ys, rfl, .inr ⟨ht, q⟩⟩
theorem e_tupL (h : Args ts σ H [.ref p]) (hl : SqL K H p ys) (q : ∀ l, H l = none → Q (.ref l) (upd H l (.tup ys))) : tCB (rTupOf K) ts σ H Q := h _ ⟨p, ys, rfl, .inl ⟨hl, q⟩⟩
theorem e_listL (h : Args ts σ H [.ref p]) (hl : SqL K H p ys) (q : ∀ l, H l = none → Q (.ref l) (upd H l (.lst ys))) : tCB (rListOf K) ts σ H Q := h _ ⟨p, ys, rfl, .inl hl, q⟩
theorem e_listT (h : Args ts σ H [.ref p]) (hl : SqT K H p ys) (q : ∀ l, H l = none → Q (.ref l) (upd H l (.lst ys))) : tCB (rListOf K) ts σ H Q := h _ ⟨p, ys, rfl, .inr hl, q⟩
theorem e_lstRg {te : TE} {n : Int} (h : Val te σ H (.int n)) (hn : 0 ≤ n ∧ n ≤ 1000000) (q : ∀ l, H l = none → Q (.ref l) (upd H l (.lst (rgI n.toNat)))) : tLstRg (tRg1 te) σ H Q := h _ ⟨n, rfl, RgOk.of_le (by decide) (by omega) (by decide) hn.1, fun l hl => by
  have e : rgV 0 n = rgI n.toNat := by unfold rgV rgI; simp
  rw [e]; exact q l hl⟩
end
/-! ## slices, sums of lists -/
section
variable {σ : L2.St} {H : Hp} {K : PySem.W.Frag} {te : TE} {a : Addr} {xs : List V} {lo hi : Option Int} {tl th : TO} {Q : VK}
def Part (to : TO) (σ : L2.St) (H : Hp) (o : Option Int) : Prop := ∀ Q : Option Int → Hp → Prop, Q o H → to σ H Q
theorem pt_none : Part tNoPart σ H none := fun _ q => q
theorem pt_some {i : Int} (h : Val te σ H (.int i)) : Part (tPart te) σ H (some i) := fun _ q => h _ ⟨i, rfl, q⟩
theorem e_slL (h : Val te σ H (.ref a)) (h1 : Part tl σ H lo) (h2 : Part th σ H hi) (hs : SqL K H a xs) (q : ∀ p, H p = none → Q (.ref p) (upd H p (.lst (cutV xs lo hi)))) : tSl (rSlL K) te tl th σ H Q :=
  h _ (h1 _ (h2 _ ⟨a, xs, rfl, hs, q⟩))
theorem cut_to {xs : List V} {k : Int} (h0 : 0 ≤ k) : cutV xs none (some k) = xs.take k.toNat := by
  unfold cutV
  show (xs.drop 0).take ((if k < 0 then (k + (xs.length : Int)).toNat else min k.toNat xs.length) - 0) = _
  rw [if_neg (by omega), List.drop_zero, Nat.sub_zero]
  by_cases h : k.toNat ≤ xs.length
  · rw [Nat.min_eq_left h]
  · rw [Nat.min_eq_right (by omega), List.take_length, List.take_of_length_le (by omega)]
theorem cut_from {xs : List V} {k : Int} (h0 : 0 ≤ k) : cutV xs (some k) none = xs.drop k.toNat := by
  unfold cutV
  show (xs.drop (if k < 0 then (k + (xs.length : Int)).toNat else min k.toNat xs.length)).take (xs.length - (if k < 0 then (k + (xs.length : Int)).toNat else min k.toNat xs.length)) = _
  rw [if_neg (by omega)]
  by_cases h : k.toNat ≤ xs.length
  · rw [Nat.min_eq_left h]
    exact List.take_of_length_le (by rw [List.length_drop]; omega)
  · rw [Nat.min_eq_right (by omega), List.drop_length, List.take_nil, List.drop_of_length_le (by omega)]
theorem cut_all {xs : List V} : cutV xs none none = xs := by
  unfold cutV
  show (xs.drop 0).take (xs.length - 0) = xs
  rw [List.drop_zero, Nat.sub_zero, List.take_length]
theorem e_appc {to : TE} {p : Addr} {xs : List V} (ho : Val to σ H (.ref p)) (hp : H p = some (.lst xs)) (h : te σ H fun y H2 => tNil σ H2 fun ys H3 => rAppend (.ref p) (y :: ys) H3 Q) : tBM K "list" rAppend to (tCons te tNil) σ H Q :=
  ho _ ⟨Or.inl ⟨rfl, xs, SqL.of hp⟩, h⟩
theorem e_bmc {to : TE} {ts : TA} {T : String} {r : V → List V → Hp → VK → Prop} (h : to σ H fun x H1 => tyV K T x H1 ∧ ts σ H1 fun xs H2 => r x xs H2 Q) : tBM K T r to ts σ H Q := h
theorem e_setd {td ty tx : TE} (h : td σ H fun x H1 => ∃ a, x = .ref a ∧ IsD H1 a ∧ ty σ H1 fun y H2 => tx σ H2 fun z H3 => ∃ (kvs : List (Key × V)) (k : Key), H3 a = some (.dK kvs) ∧ y = kV k ∧ kvs.length < sizeLine ∧
  (∀ v, valV kvs k = some v → Q v H3) ∧ (valV kvs k = none → Q z (upd H3 a (.dK (putK kvs k z))))) : tDSetd td ty tx σ H Q := h
theorem e_listV (h : te σ H fun x H1 => ∃ (d : Addr) (kvs : List (Key × V)), x = .ref d ∧ H1 d = some (.dK kvs) ∧ ∀ l, H1 l = none → Q (.ref l) (upd H1 l (.lst (kvs.map (·.2))))) : tListV te σ H Q := h
theorem e_meth {C : Addr} {m : Str} {sp : Sp} {E : XK} {ta : TE} {ts : TA} {a dx : Addr} {fs : List (Str × V)} (h : Val ta σ H (.ref a)) (ha : H a = some (.ins C dx fs)) (hf : fs.lookup m = none) (q : ts σ H fun vs H2 => sp (.ref a :: (vs ++ [])) H2 Q E) : tMeth C m sp [] E ta ts σ H Q := h _ ⟨a, dx, fs, rfl, ha, hf, q⟩
theorem e_cat {l b : Addr} {xs zs : List V} (hl : H l = some (.lst xs)) (hb : H b = some (.lst zs)) (hz : xs.length + zs.length ≤ 1000000) (q : ∀ p, H p = none → Q (.ref p) (upd H p (.lst (xs ++ zs)))) : rCat (.ref l) (.ref b) H Q :=
  ⟨l, b, xs, zs, rfl, rfl, hl, hb, Nat.le_trans hz (by decide), q⟩
theorem sz_lt {n : Nat} (h : n ≤ 1000000) : n < sizeLine := Nat.lt_of_le_of_lt h (by decide)
theorem rgI_map (n : Nat) : rgI n = ((List.range n).map fun (i : Nat) => (i : Int)).map V.int := by
  unfold rgI
  rw [List.map_map]
  rfl
theorem map_int_inj {L M : List Int} (h : L.map V.int = M.map V.int) : L = M := by
  induction L generalizing M with
  | nil => cases M with
    | nil => rfl
    | cons b M => simp at h
  | cons a L ih => cases M with
    | nil => simp at h
    | cons b M =>
      simp at h
      rw [h.1, ih (by simpa using h.2)]
end
end Cl

/-! ## ComTx -/

namespace Cl
open PySem PySem.Spec PyProof.Rows L2
abbrev N_l_cell : List Str := ["_law_script", "_law_k"]
def t_l_cell (K : PySem.W.Frag) : TS :=
  (tSeq (tIfS (tTest (tOp oLt (tVar 1) (tCB (rLen K) (tCons (tVar 0) tNil)))) (tRet (tCB rAbs (tCons (tOp (rIxL K) (tVar 0) (tVar 1)) tNil))) tNext)
    (tRet (tC (.int 0))))
abbrev N_l_pool : List Str := ["_law_script", "_law_k", "_law_cell_here"]
def t_l_pool (K : PySem.W.Frag) : TS :=
  (tSeq (tAsg (tCall (sp_l_cell K) [] E0 (tCons (tVar 0) (tCons (tVar 1) tNil))) (gName 2))
    (tRet (tLst (tCons (tVar 2) (tCons (tCB rInt1 (tCons (tOp oGe (tVar 2) (tOp oPow (tC (.int 10)) (tC (.int 18)))) tNil)) (tCons (tOp oMul (tC (.int 1000)) (tVar 1)) tNil))))))
abbrev N_l_take : List Str := ["_law_pool_here", "_law_many_here", "_law_mixed", "_law_drawn"]
def t_l_take (K : PySem.W.Frag) : TS :=
  (tSeq (tIfS (tAnd (tTest (tOp rEq (tOp (rIxL K) (tVar 0) (tC (.int 1))) (tC (.int 1)))) (tTest (tOp oGt (tOp (rIxL K) (tVar 0) (tC (.int 0))) (tC (.int 1))))) (tSeq (tAsg (tOp oMod (tCB rInt1 (tCons (tOp (rIxL K) (tVar 0) (tC (.int 0))) tNil)) (tVar 1)) (gName 3))
    (tSeq (tAsg (tOp oDiv (tOp (rIxL K) (tVar 0) (tC (.int 0))) (tVar 1)) (gSub (tVar 0) (tC (.int 0)) rSetL))
    (tRet (tVar 3)))) tNext)
    (tSeq (tAsg (tOp oAdd (tOp (rIxL K) (tVar 0) (tC (.int 2))) (tC (.int 1))) (gSub (tVar 0) (tC (.int 2)) rSetL))
    (tSeq (tAsg (tOp oMod (tCB rInt1 (tCons (tOp oAdd (tOp oMul (tOp oAdd (tOp (rIxL K) (tVar 0) (tC (.int 0))) (tC (.int 7))) (tC (.int 48271))) (tOp oMul (tOp (rIxL K) (tVar 0) (tC (.int 2))) (tC (.int 69621)))) tNil)) (tC (.int 2147483629))) (gName 2))
    (tSeq (tAsg (tOp oMod (tCB rInt1 (tCons (tOp oAdd (tOp oMul (tVar 2) (tC (.int 16807))) (tOp oMul (tOp (rIxL K) (tVar 0) (tC (.int 2))) (tC (.int 7919)))) tNil)) (tC (.int 2147483587))) (gName 2))
    (tSeq (tIfS (tTest (tOp oGt (tOp (rIxL K) (tVar 0) (tC (.int 0))) (tC (.int 15)))) (tAsg (tOp oMod (tCB rInt1 (tCons (tOp oMul (tOp oDiv (tVar 2) (tC (.int 7))) (tOp oAdd (tOp oAdd (tOp oDiv (tVar 2) (tC (.int 1009))) (tOp (rIxL K) (tVar 0) (tC (.int 2)))) (tC (.int 3)))) tNil)) (tC (.int 2147483563))) (gName 2)) tNext)
    (tRet (tOp oMod (tCB rInt1 (tCons (tOp oDiv (tVar 2) (tC (.int 11))) tNil)) (tVar 1))))))))
abbrev N_l_same : List Str := ["_law_got", "_law_due", "_law_k"]
def t_l_same (K : PySem.W.Frag) (sp : Sp) : TS :=
  (tSeq (tIfS (tOr (tB (tCB (rIsi K) (tCons (tVar 0) (tCons (tC (.ty "bool")) tNil)))) (tB (tCB (rIsi K) (tCons (tVar 1) (tCons (tC (.ty "bool")) tNil))))) (tRet (tAndV (tCB (rIsi K) (tCons (tVar 0) (tCons (tC (.ty "bool")) tNil))) (tAndV (tCB (rIsi K) (tCons (tVar 1) (tCons (tC (.ty "bool")) tNil))) (tOp rEq (tVar 0) (tVar 1))))) tNext)
    (tSeq (tIfS (tOr (tTest (tOp rIsN (tVar 0) (tC .non))) (tTest (tOp rIsN (tVar 1) (tC .non)))) (tRet (tAndV (tOp rIsN (tVar 0) (tC .non)) (tOp rIsN (tVar 1) (tC .non)))) tNext)
    (tSeq (tIfS (tB (tCB (rIsi K) (tCons (tVar 1) (tCons (tC (.ty "int")) tNil)))) (tRet (tAndV (tCB (rIsi K) (tCons (tVar 0) (tCons (tC (.ty "int")) tNil))) (tOp rEq (tVar 0) (tVar 1)))) tNext)
    (tSeq (tIfS (tB (tCB (rIsi K) (tCons (tVar 1) (tCons (tC (.ty "str")) tNil)))) (tRet (tAndV (tCB (rIsi K) (tCons (tVar 0) (tCons (tC (.ty "str")) tNil))) (tOp rEq (tVar 0) (tVar 1)))) tNext)
    (tSeq (tIfS (tAnd (tB (tCB (rIsi K) (tCons (tVar 1) (tCons (tC (.ty "list")) tNil)))) (tNot (tB (tCB (rIsi K) (tCons (tVar 0) (tCons (tC (.ty "list")) tNil)))))) (tRet (tC (.bl false))) tNext)
    (tSeq (tIfS (tAnd (tB (tCB (rIsi K) (tCons (tVar 1) (tCons (tC (.ty "tuple")) tNil)))) (tNot (tB (tCB (rIsi K) (tCons (tVar 0) (tCons (tC (.ty "tuple")) tNil)))))) (tRet (tC (.bl false))) tNext)
    (tSeq (tIfS (tTest (tOp rNe (tCB (rLen K) (tCons (tVar 0) tNil)) (tCB (rLen K) (tCons (tVar 1) tNil)))) (tRet (tC (.bl false))) tNext)
    (tSeq (tFor (iRng1 (tCons (tCB (rLen K) (tCons (tVar 1) tNil)) tNil)) (gName 2) (tIfS (tNot (tB (tCall (sp) [] E0 (tCons (tOp (rIx K) (tVar 0) (tVar 2)) (tCons (tOp (rIx K) (tVar 1) (tVar 2)) tNil))))) (tRet (tC (.bl false))) tNext))
    (tRet (tC (.bl true)))))))))))
end Cl

/-! ## ComPu -/
namespace Cl
open PySem PySem.Spec PyProof.Rows L2
/-! ### the walk's own lines: "c" a side condition, "h" what stands at an address, "s" a list that is read, "at" an item, "v" a value, "a" an answer, "ar" arguments -/
local macro_rules | `(tactic| walk_at "c") => `(tactic| first | assumption | (with_reducible rfl) | decide | omega | exact Or.inr ⟨by first | decide | omega, by first | decide | omega⟩ | exact Or.inl ⟨by first | decide | omega, by first | decide | omega⟩ | exact ⟨by first | decide | omega, by first | decide | omega⟩ | exact ⟨by decide, by decide, by decide⟩)
local macro_rules | `(tactic| walk_at "ne") => `(tactic| first | assumption | (exact Ne.symm (by assumption)) | (exact ne_of_none (by assumption) (by assumption)) | (exact Ne.symm (ne_of_none (by assumption) (by assumption))))
local macro_rules | `(tactic| walk_at "h") => `(tactic| first | assumption | exact upd_same | (refine Eq.trans (upd_ne ?_) ?_; walk_at "ne"; walk_at "h"))
local macro_rules | `(tactic| walk_at "s") => `(tactic| first | assumption | (exact SqL.of (by walk_at "h")) | (exact SqT.of (by walk_at "h")))
local macro_rules | `(tactic| walk_at "at") => `(tactic| first | rfl | exact atI_ints (by omega) (by omega))
local macro_rules | `(tactic| walk_at "ty") => `(tactic| first | exact .base (.int _) | exact .base (.bl _) | exact .base .non | exact .base (.str _) | exact .base (.lst (by walk_at "h")) | exact .base (.tup (by walk_at "h")))
local macro_rules | `(tactic| walk_at "v") => `(tactic| first
  | (with_reducible exact val_c)
  | ((with_reducible apply val_var); rfl)
  | ((with_reducible apply v_I0); walk_at "v"; walk_at "v")
  | ((with_reducible apply v_I); walk_at "v"; walk_at "v"; walk_at "c")
  | ((with_reducible apply v_U); walk_at "v")
  | ((with_reducible apply v_eq); walk_at "v"; walk_at "v"; rfl)
  | ((with_reducible apply v_ne); walk_at "v"; walk_at "v"; rfl)
  | ((with_reducible apply v_ixL); walk_at "v"; walk_at "v"; walk_at "s"; walk_at "at")
  | ((with_reducible apply v_ixT); walk_at "v"; walk_at "v"; walk_at "s"; walk_at "at")
  | ((with_reducible apply v_ixS); walk_at "v"; walk_at "v"; assumption; walk_at "at")
  | ((with_reducible apply v_fld); walk_at "v"; walk_at "h"; assumption; assumption; walk_at "fl")
  | ((with_reducible apply v_len); walk_at "ar"; walk_at "s")
  | ((with_reducible apply v_lenS); walk_at "ar"; assumption)
  | ((with_reducible apply v_lenT); walk_at "ar"; walk_at "s")
  | ((with_reducible apply v_abs); walk_at "ar")
  | ((with_reducible apply v_max2); walk_at "ar")
  | ((with_reducible apply v_min2); walk_at "ar")
  | ((with_reducible apply v_intI); walk_at "ar")
  | ((with_reducible apply v_intB); walk_at "ar")
  | ((with_reducible apply v_chain); walk_at "v"; walk_at "v"; walk_at "v"; exact i_B0; exact i_B0)
  | ((with_reducible apply v_chain3); walk_at "v"; walk_at "v"; walk_at "v"; walk_at "v"; exact i_B0; exact i_B0; exact i_B0)
  | ((with_reducible apply v_andV); walk_at "v"; (intro _; walk_at "v"))
  | ((with_reducible apply v_orV); walk_at "v"; (intro _; walk_at "v"))
  | ((with_reducible apply v_notV); walk_at "v")
  | ((with_reducible apply v_isN); walk_at "v")
  | ((with_reducible apply v_notN); walk_at "v")
  | ((with_reducible apply v_isiT); walk_at "ar"; walk_at "ty"; decide +kernel)
  | ((with_reducible apply v_isiF); walk_at "ar"; walk_at "ty"; decide +kernel)
  | ((with_reducible apply v_if); walk_at "a"; (intro _; walk_at "v"); (intro _; walk_at "v")))
local macro_rules | `(tactic| walk_at "ar") => `(tactic| first
  | (with_reducible exact ar_nil)
  | ((with_reducible apply ar_cons); walk_at "v"; walk_at "ar"))
local macro_rules | `(tactic| walk_at "a") => `(tactic| first
  | ((with_reducible apply a_test); walk_at "v")
  | ((with_reducible apply a_B); walk_at "v")
  | ((with_reducible apply a_not); walk_at "a")
  | ((with_reducible apply a_and); walk_at "a"; (intro _; walk_at "a"))
  | ((with_reducible apply a_or); walk_at "a"; (intro _; walk_at "a")))
local macro_rules | `(tactic| walk_at "fl") => `(tactic| first | exact fl_events _ _ _ | exact fl_spans _ _ _ | exact fl_round _ _ _)
local macro_rules | `(tactic| walk_at "call") => `(tactic| refine g_call (g_args (by walk_at "ar") ?_))
theorem pure_l_cell {K : PySem.W.Frag} {vs H Q E} (h : sp_l_cell K vs H Q E) : t_l_cell K { nx := fun _ H' => Q .non H', rt := Q } (start N_l_cell vs) H := by
  obtain ⟨a, ns, k, rfl, hS, h0, q⟩ := h
  refine q_when (by walk_at "a") (fun hb => ?_) (fun hb => ?_)
  · have hk : k < (ns.length : Int) := by simpa using hb
    refine g_ret (g_val (by walk_at "v") (q _ ?_))
    split <;> omega
  · exact q 0 (by decide)
theorem pure_l_pool {K : PySem.W.Frag} {vs H Q E} (h : sp_l_pool K vs H Q E) : t_l_pool K { nx := fun _ H' => Q .non H', rt := Q } (start N_l_pool vs) H := by
  obtain ⟨a, ns, k, rfl, hS, h0, h1, q⟩ := h
  refine q_set (g_call (g_args (by walk_at "ar") (call_cell hS h0 fun i hi => ?_)))
  refine g_ret (g_lst (g_args (by walk_at "ar") ⟨by show 3 ≤ sizeLine; decide, fun p hp => ?_⟩))
  refine q p _ hp (Kp.new (Kp.refl _ _) hp) ⟨i, _, 1000 * k, upd_same, hi, by omega⟩
theorem pure_l_take {K : PySem.W.Frag} {vs H Q E} (h : sp_l_take vs H Q E) : t_l_take K { nx := fun _ H' => Q .non H', rt := Q } (start N_l_take vs) H := by
  obtain ⟨p, m, rfl, ⟨a, f, c, hp, ha, hc⟩, h0, h1, q⟩ := h
  have nw : ∀ {o : HO} (b : Addr), H b = none → upd H p o b = none := fun {o} b hb => by
    have ne : b ≠ p := fun z => by rw [z, hp] at hb; cases hb
    rw [upd_ne ne]; exact hb
  refine q_when (by walk_at "a") (fun hb => ?_) (fun hb => ?_)
  · refine q_val (by walk_at "v") (q_setI (by walk_at "v") (by walk_at "v") (by walk_at "v") hp rfl ?_)
    refine g_ret (g_val (by walk_at "v") ?_)
    exact q _ _ (Int.emod_nonneg _ (by omega)) (Int.emod_lt_of_pos _ h0) ((Kp.refl _ _).upd (by simp)) nw ⟨_, _, _, upd_same, Int.ediv_nonneg ha (by omega), hc⟩
  · refine q_setI (by walk_at "v") (by walk_at "v") (by walk_at "v") hp rfl ?_
    have hp' : upd H p (.lst [.int a, .int f, .int (c + 1)]) p = some (.lst [.int a, .int f, .int (c + 1)]) := upd_same
    refine q_val (by walk_at "v") ?_
    generalize hx : ((a + 7) * 48271 + (c + 1) * 69621) % 2147483629 = x1
    refine q_val (by walk_at "v") ?_
    have b2 := Int.emod_nonneg (x1 * 16807 + (c + 1) * 7919) (show (2147483587 : Int) ≠ 0 by decide)
    have b3 := Int.emod_lt_of_pos (x1 * 16807 + (c + 1) * 7919) (show (0 : Int) < 2147483587 by decide)
    generalize (x1 * 16807 + (c + 1) * 7919) % 2147483587 = x2 at b2 b3 ⊢
    have fin : ∀ x3 : Int, tRet (tOp oMod (tCB rInt1 (tCons (tOp oDiv (tVar 2) (tC (.int 11))) tNil)) (tVar 1)) { nx := fun _ H' => Q .non H', rt := Q } [some (.ref p), some (.int m), some (.int x3), none] (upd H p (.lst [.int a, .int f, .int (c + 1)])) := fun x3 => by
      refine g_ret (g_val (by walk_at "v") ?_)
      exact q _ _ (Int.emod_nonneg _ (by omega)) (Int.emod_lt_of_pos _ h0) ((Kp.refl _ _).upd (by simp)) nw ⟨_, _, _, upd_same, ha, by omega⟩
    refine q_when (by walk_at "a") (fun hb => ?_) (fun hb => ?_)
    · refine g_asg (g_val (by walk_at "v") (fin _))
    · exact fin _
theorem same_scal {K : PySem.W.Frag} {H : Hp} {Q : VK} {sp : Sp} {x : V} {A : String} (ht : TyX K H x (.type A)) (hq : Q (.bl true) H) (hA : (x = .non ∧ A = "NoneType") ∨ ((∃ b, x = .bl b) ∧ A = "bool") ∨ ((∃ i, x = .int i) ∧ A = "int") ∨ ((∃ s, x = .str s) ∧ A = "str")) :
    t_l_same K sp { nx := fun _ H' => Q .non H', rt := Q } [some x, some x, none] H := by
  rcases hA with ⟨rfl, rfl⟩ | ⟨⟨b, rfl⟩, rfl⟩ | ⟨⟨i, rfl⟩, rfl⟩ | ⟨⟨s, rfl⟩, rfl⟩
  · refine q_no (by walk_at "a") (by rfl) (q_yes (by walk_at "a") (by rfl) (g_ret (g_val (by walk_at "v") ?_)))
    simpa using hq
  · refine q_yes (by walk_at "a") (by rfl) (g_ret (g_val (by walk_at "v") ?_))
    simpa using hq
  · refine q_no (by walk_at "a") (by rfl) (q_no (by walk_at "a") (by rfl) (q_yes (by walk_at "a") (by rfl) (g_ret (g_val (by walk_at "v") ?_))))
    simpa using hq
  · refine q_no (by walk_at "a") (by rfl) (q_no (by walk_at "a") (by rfl) (q_no (by walk_at "a") (by rfl) (q_yes (by walk_at "a") (by rfl) (g_ret (g_val (by walk_at "v") ?_)))))
    simpa using hq
theorem pure_l_same {K : PySem.W.Frag} {n : Nat} {vs H Q E} (h : sp_l_same_n n vs H Q E) : t_l_same K (sp_l_same_r n) { nx := fun _ H' => Q .non H', rt := Q } (start N_l_same vs) H := by
  obtain ⟨x, y, d, rfl, hx, hy, q⟩ := h
  show t_l_same K (sp_l_same_r n) _ [some x, some y, none] H
  cases d with
  | none =>
    have e1 : x = .non := by cases n <;> exact hx
    have e2 : y = .non := by cases n <;> exact hy
    subst e1 e2
    exact same_scal (.base .non) q (.inl ⟨rfl, rfl⟩)
  | bool b =>
    have e1 : x = .bl b := by cases n <;> exact hx
    have e2 : y = .bl b := by cases n <;> exact hy
    subst e1 e2
    exact same_scal (.base (.bl _)) q (.inr (.inl ⟨⟨_, rfl⟩, rfl⟩))
  | int b =>
    have e1 : x = .int b := by cases n <;> exact hx
    have e2 : y = .int b := by cases n <;> exact hy
    subst e1 e2
    exact same_scal (.base (.int _)) q (.inr (.inr (.inl ⟨⟨_, rfl⟩, rfl⟩)))
  | str b =>
    have e1 : x = .str b := by cases n <;> exact hx
    have e2 : y = .str b := by cases n <;> exact hy
    subst e1 e2
    exact same_scal (.base (.str _)) q (.inr (.inr (.inr ⟨⟨_, rfl⟩, rfl⟩)))
  | dict kvs => cases n <;> exact hx.elim
  | list ds =>
    cases n with
    | zero => exact hx.elim
    | succ n =>
      obtain ⟨a, us, rfl, ha, za, la, fa⟩ := hx
      obtain ⟨b, ws, rfl, hb, zb, lb, fb⟩ := hy
      have tx : TyX K H (.ref a) (.type "list") := .base (.lst ha)
      have ty : TyX K H (.ref b) (.type "list") := .base (.lst hb)
      have el : us.length = ws.length := la.trans lb.symm
      refine q_no (by walk_at "a") (by rfl) (q_no (by walk_at "a") (by rfl) (q_no (by walk_at "a") (by rfl) (q_no (by walk_at "a") (by rfl) (q_no (by walk_at "a") (by rfl) (q_no (by walk_at "a") (by rfl) (q_no (by walk_at "a") ?_ ?_))))))
      · simp [el]
      refine q_forR (by walk_at "ar") ?_ (fun i σ' H' => H' = H ∧ ∃ k, σ' = [some (.ref a), some (.ref b), k]) ⟨rfl, _, rfl⟩ ?_ ?_
      · omega
      · rintro i σ' H' hi ⟨rfl, k, rfl⟩
        have h1 : i < us.length := by omega
        have h2 : i < ws.length := by omega
        have h3 : i < ds.length := by omega
        refine g_no (b := !true) (a_not ?_) rfl ⟨rfl, _, rfl⟩
        intro Q' q'
        refine g_B (g_call (g_args (ar_cons (v_ixS (v := us[i]) (by walk_at "v") (by walk_at "v") (.inl (SqL.of ha)) (atI_nat (List.getElem?_eq_getElem h1))) (ar_cons (v_ixS (v := ws[i]) (by walk_at "v") (by walk_at "v") (.inl (SqL.of hb)) (atI_nat (List.getElem?_eq_getElem h2))) ar_nil)) ?_))
        exact ⟨_, _, ds[i], rfl, fa i _ _ (List.getElem?_eq_getElem h3) (List.getElem?_eq_getElem h1), fb i _ _ (List.getElem?_eq_getElem h3) (List.getElem?_eq_getElem h2), true, rfl, q'⟩
      · rintro σ' H' ⟨rfl, k, rfl⟩
        exact q
  | tuple ds =>
    cases n with
    | zero => exact hx.elim
    | succ n =>
      obtain ⟨a, us, rfl, ha, za, la, fa⟩ := hx
      obtain ⟨b, ws, rfl, hb, zb, lb, fb⟩ := hy
      have tx : TyX K H (.ref a) (.type "tuple") := .base (.tup ha)
      have ty : TyX K H (.ref b) (.type "tuple") := .base (.tup hb)
      have el : us.length = ws.length := la.trans lb.symm
      refine q_no (by walk_at "a") (by rfl) (q_no (by walk_at "a") (by rfl) (q_no (by walk_at "a") (by rfl) (q_no (by walk_at "a") (by rfl) (q_no (by walk_at "a") (by rfl) (q_no (by walk_at "a") (by rfl) (q_no (by walk_at "a") ?_ ?_))))))
      · simp [el]
      refine q_forR (by walk_at "ar") ?_ (fun i σ' H' => H' = H ∧ ∃ k, σ' = [some (.ref a), some (.ref b), k]) ⟨rfl, _, rfl⟩ ?_ ?_
      · omega
      · rintro i σ' H' hi ⟨rfl, k, rfl⟩
        have h1 : i < us.length := by omega
        have h2 : i < ws.length := by omega
        have h3 : i < ds.length := by omega
        refine g_no (b := !true) (a_not ?_) rfl ⟨rfl, _, rfl⟩
        intro Q' q'
        refine g_B (g_call (g_args (ar_cons (v_ixS (v := us[i]) (by walk_at "v") (by walk_at "v") (.inr (SqT.of ha)) (atI_nat (List.getElem?_eq_getElem h1))) (ar_cons (v_ixS (v := ws[i]) (by walk_at "v") (by walk_at "v") (.inr (SqT.of hb)) (atI_nat (List.getElem?_eq_getElem h2))) ar_nil)) ?_))
        exact ⟨_, _, ds[i], rfl, fa i _ _ (List.getElem?_eq_getElem h3) (List.getElem?_eq_getElem h1), fb i _ _ (List.getElem?_eq_getElem h3) (List.getElem?_eq_getElem h2), true, rfl, q'⟩
      · rintro σ' H' ⟨rfl, k, rfl⟩
        exact q
end Cl

/-! ## Exs -/
namespace Cl
open PySem PySem.Spec PyProof.Rows L2
/-! ## an own exception over ValueError whose __init__ says super().__init__(f'..') and stores its arguments -/
namespace Exs
open PySem.W PySem.Calls PySem.HandSPX
section
variable {prog : Program} {w : World} {A : Around} {E : Value → Shared → Prop} {h : Heap} {g : Array GenState} {d : Drawn} {t : Nat} {os : OsState}
variable {nm q : Str} {C N : Addr} {bs bm : List Value} {hdct : Bool} {sn : List Str} {sub : List Value} {ab : Bool} {col : Option Bool} {dd : Option Addr} {k0 k1 k2 k3 k5 : Option Value}
/-- the bound ValueError.__init__ called -/
theorem call_mw {u e t0 : Addr} {rest : List Value} {Q : Value → Shared → Prop}
    (hC : h.get? C = some (excClassObj nm q C N bs bm hdct sn sub ab col dd k0 k1 k2 k3 k5 "ValueError.__new__")) (he : h.get? e = some (excO C t0)) (hu : h.get? u = some (kxs_mw "ValueError.__init__" e)) (hrest : rest.length ≤ sizeLine)
    (hq : ∀ h' t1, (∀ b o, b ≠ e → h.get? b = some o → h'.get? b = some o) → h'.get? e = some (excO C t1) → Q .none ⟨h', g, d, t, os⟩) :
    wpAny (model prog w) A (call (.ref u) rest) Q E ⟨h, g, d, t, os⟩ := by
  refine wpAny_call (codeAny_of_tree ?_)
  show wpAny _ A.in1 (callAny (.ref u) ⟨rest, []⟩) _ _ _
  simp only [callAny]
  refine wpAny_bind (wpAny_load hu ?_)
  simp only [kxs_mw, show (Value.type "method-wrapper" == Value.type "method" || Value.type "method-wrapper" == Value.type "builtin_function_or_method" || Value.type "method-wrapper" == Value.type "method-wrapper") = true by decide, if_true]
  refine W.KFB.if_so (by decide) ?_
  refine wpAny_bind (PySem.ESX.check_bound F.excBase_ValueError hC he rfl ?_)
  refine wpAny_bind (wpAny_pure (wpAny_pure ?_))
  refine ⟨Code.quiet_builtin _ (by decide +kernel), codeAny_builtin F.excBase_ValueError.initEntry ?_⟩
  rw [Around.under_plainId F.excBase_ValueError.init.plain _]
  wp_walk
  refine hq _ h.objs.size (fun b o hb ho => ?_) ?_
  · rw [Heap.get?_update_other _ _ (Ne.symm hb)]
    exact Heap.get?_push_of_some _ ho
  · rw [Heap.get?_update_self _ (Heap.get?_push_of_some _ he) rfl]
    rfl
end
/-- a value that an f-string writes: a short text, an int of some size -/
def FmtV : V → Prop
  | .str y => y.length ≤ 1000
  | .int i => i.natAbs.log2 < 1920
  | _ => False
def Fmt (v : Value) : Prop := (∃ y tk, v = .str y tk ∧ y.length ≤ 1000) ∨ ∃ i tk, v = .int i tk ∧ i.natAbs.log2 < 1920
theorem FmtV.val {v : V} {u : Value} (h : FmtV v) (r : RelV v u) : Fmt u := by
  cases v with
  | str y => obtain ⟨tk, rfl⟩ := r; exact .inl ⟨y, tk, rfl, h⟩
  | int i => obtain ⟨tk, rfl⟩ := r; exact .inr ⟨i, tk, rfl, h⟩
  | _ => exact h.elim
section
variable {prog : Program} {w : World} {A : Around} {E : Value → Shared → Prop} {s : Shared} {env : Env} {m : Str → Option Value}
theorem ldE {x : Str} {pos : Pos} {v : Value} {Q : Value → Shared → Prop} {M : Model} (hn : s.heap.Ns env.locals m) (hv : m x = some v) (hk : env.scope.kind = .function) (hl : env.kindOf x = some .local) (hd : (x == ("__debug__" : Str)) = false) (h : Q v s) : wpAny M A (eval (.Name x pos) env) Q E s := wpAny_Name (wpAny_loadName_local hk hl hn hv h) hd
/-- {x} -/
theorem fmt_name {x : Str} {p1 p2 : Pos} {v : Value} {Q : Value → Shared → Prop} (hn : s.heap.Ns env.locals m) (hv : m x = some v) (hk : env.scope.kind = .function) (hl : env.kindOf x = some .local) (hd : (x == ("__debug__" : Str)) = false) (hf : Fmt v)
    (h : ∀ z tk tk', z.length ≤ 2000 → Q (.str z tk) { s with toks := tk' }) : wpAny (model prog w) A (eval (.FormattedValue (.Name x p1) (-1) none p2) env) Q E s := by
  refine wpAny_FormattedValue_plain (ldE hn hv hk hl hd ?_)
  rcases hf with ⟨y, tk, rfl, hz⟩ | ⟨i, tk, rfl, hz⟩
  · refine wpAny_formatField_str ?_ ?_ (Nat.le_trans hz (by decide))
    · have e := h y tk s.toks (by omega)
      exact e
    · exact h y _ _ (by omega)
  · exact wpAny_formatField_int hz (h _ _ _ (Nat.le_trans (int_text_len_1921 hz) (by decide)))
/-- f'text{x}' -/
theorem fs1 {x z0 : Str} {p0 p1 p2 p3 : Pos} {k0 : Nat} {v : Value} {Q : Value → Shared → Prop} (hn : s.heap.Ns env.locals m) (hv : m x = some v) (hk : env.scope.kind = .function) (hl : env.kindOf x = some .local) (hd : (x == ("__debug__" : Str)) = false) (hf : Fmt v) (hz : z0.length ≤ 1000)
    (h : ∀ z tk tk', Q (.str z tk) { s with toks := tk' }) : wpAny (model prog w) A (eval (.JoinedStr [.Constant (.str z0) k0 p0, .FormattedValue (.Name x p1) (-1) none p2] p3) env) Q E s := by
  refine wpAny_JoinedStr ?_
  have e0 : evalEach [.Constant (.str z0) k0 p0, .FormattedValue (.Name x p1) (-1) none p2] env = [eval (.Constant (.str z0) k0 p0) env, eval (.FormattedValue (.Name x p1) (-1) none p2) env] := by first | rfl | simp [evalEach]
  rw [e0]
  have l0 : (Str.empty ++ z0).length ≤ 1000 := by
    have e1 : (Str.empty ++ z0).length = Str.empty.length + z0.length := Str.length_append _ _
    have e2 : Str.empty.length = 0 := rfl
    omega
  refine Calls.Constant_str ⟨z0, _, rfl, Nat.le_trans l0 (by decide), ?_⟩
  refine fmt_name (s := { s with toks := s.toks + 1 }) hn hv hk hl hd hf fun z tk tk' hz' => ⟨z, tk, rfl, ?_, ?_⟩
  · have e1 : (Str.empty ++ z0 ++ z).length = (Str.empty ++ z0).length + z.length := Str.length_append _ _
    exact Nat.le_trans (show (Str.empty ++ z0 ++ z).length ≤ 3000 by omega) (by decide)
  · have e1 : (Str.empty ++ z0 ++ z).length = (Str.empty ++ z0).length + z.length := Str.length_append _ _
    exact ⟨Nat.le_trans (show (Str.empty ++ z0 ++ z).length ≤ 3000 by omega) (by decide), h _ _ _⟩
/-- f'text{x} {y}' -/
theorem fs2 {x y z0 z1 : Str} {p0 p1 p2 p3 p4 p5 p6 : Pos} {k0 k1 : Nat} {v u : Value} {Q : Value → Shared → Prop} (hn : s.heap.Ns env.locals m) (hv : m x = some v) (hu : m y = some u) (hk : env.scope.kind = .function) (hl : env.kindOf x = some .local) (hl2 : env.kindOf y = some .local) (hd : (x == ("__debug__" : Str)) = false) (hd2 : (y == ("__debug__" : Str)) = false)
    (hf : Fmt v) (hf2 : Fmt u) (hz : z0.length ≤ 1000) (hz1 : z1.length ≤ 1000)
    (h : ∀ z tk tk', Q (.str z tk) { s with toks := tk' }) : wpAny (model prog w) A (eval (.JoinedStr [.Constant (.str z0) k0 p0, .FormattedValue (.Name x p1) (-1) none p2, .Constant (.str z1) k1 p3, .FormattedValue (.Name y p4) (-1) none p5] p6) env) Q E s := by
  refine wpAny_JoinedStr ?_
  have e0 : evalEach [.Constant (.str z0) k0 p0, .FormattedValue (.Name x p1) (-1) none p2, .Constant (.str z1) k1 p3, .FormattedValue (.Name y p4) (-1) none p5] env = [eval (.Constant (.str z0) k0 p0) env, eval (.FormattedValue (.Name x p1) (-1) none p2) env, eval (.Constant (.str z1) k1 p3) env, eval (.FormattedValue (.Name y p4) (-1) none p5) env] := by first | rfl | simp [evalEach]
  rw [e0]
  have l0 : (Str.empty ++ z0).length ≤ 1000 := by
    have e1 : (Str.empty ++ z0).length = Str.empty.length + z0.length := Str.length_append _ _
    have e2 : Str.empty.length = 0 := rfl
    omega
  refine Calls.Constant_str ⟨z0, _, rfl, Nat.le_trans l0 (by decide), ?_⟩
  refine fmt_name (s := { s with toks := s.toks + 1 }) hn hv hk hl hd hf fun z tk tk' hz' => ⟨z, tk, rfl, ?_, ?_⟩
  · have e1 : (Str.empty ++ z0 ++ z).length = (Str.empty ++ z0).length + z.length := Str.length_append _ _
    exact Nat.le_trans (show (Str.empty ++ z0 ++ z).length ≤ 3000 by omega) (by decide)
  · have l1 : (Str.empty ++ z0 ++ z).length ≤ 3000 := by
      have e1 : (Str.empty ++ z0 ++ z).length = (Str.empty ++ z0).length + z.length := Str.length_append _ _
      omega
    have l2 : (Str.empty ++ z0 ++ z ++ z1).length ≤ 4000 := by
      have e1 : (Str.empty ++ z0 ++ z ++ z1).length = (Str.empty ++ z0 ++ z).length + z1.length := Str.length_append _ _
      omega
    refine Calls.Constant_str ⟨z1, _, rfl, Nat.le_trans l2 (by decide), ?_⟩
    refine fmt_name (s := { s with toks := tk' + 1 }) hn hu hk hl2 hd2 hf2 fun z' tk2 tk3 hz'' => ⟨z', tk2, rfl, ?_, ?_⟩
    · have e1 : (Str.empty ++ z0 ++ z ++ z1 ++ z').length = (Str.empty ++ z0 ++ z ++ z1).length + z'.length := Str.length_append _ _
      exact Nat.le_trans (show (Str.empty ++ z0 ++ z ++ z1 ++ z').length ≤ 6000 by omega) (by decide)
    · have e1 : (Str.empty ++ z0 ++ z ++ z1 ++ z').length = (Str.empty ++ z0 ++ z ++ z1).length + z'.length := Str.length_append _ _
      exact ⟨Nat.le_trans (show (Str.empty ++ z0 ++ z ++ z1 ++ z').length ≤ 6000 by omega) (by decide), h _ _ _⟩
end
/-- what the written part says of the class at C, its __init__ at fI (its cell cc holds C), of super -/
structure Tx (prog : Program) (K : Frag) (C fI cc cda : Addr) (qual : Str) (params : Arguments) (body : List Stmt) (scope : Scope) : Prop where
  cls : ∃ nm q N bs bm sn sub ab col dd k0 k1 k2 k3 k5, K.lookup C = some (excClassObj nm q C N bs bm true sn sub ab col dd k0 k1 k2 k3 k5 "ValueError.__new__") ∧ refsVE bm = true
  sa : findIn K (.ref C) "__setattr__" = some (some (.builtin "object.__setattr__"))
  iC : findIn K (.ref C) "__init__" = some (some (.ref fI))
  tC : typeIn K (.ref fI) = some (.type "function")
  kC : keepIn K (.ref C) = true
  exC : subIn K (.ref C) (.type "BaseException") = some true
  vE : subIn K (.ref C) (.type "ValueError") = some true
  tyC : typeIn K (.ref C) = some (.type "type")
  sup : ks_superIn K C C "__init__" = some (some (.builtin "ValueError.__init__"))
  self : mroIn K C (.ref C) = some true
  opq : nsIn K cStatics "thirdparty.any" = some none
  fn : ∃ (oc : Value) (od : Option Addr) (kV doc pm : Value) (an : Option Addr) (ct : Value) (osl : Array (Option Value)),
    K.lookup fI = some ⟨oc, od, .func (ksFn "__init__" qual params body scope .none kV doc pm an (.ref cda) ct cc), osl⟩ ∧ codeIn K (.ref cda) qual = true
  code : ∃ (cl : Value) (dd : Option Addr) (vs : Array Value) (sl : Array (Option Value)) (file : Str) (tf : Tok), K.lookup cda = some ⟨cl, dd, .fields vs, sl⟩ ∧ vs[2]? = some (.str file tf) ∧ ((prog.main.file : Str) == file) = true
  cell : ∃ (cl : Value) (dd : Option Addr) (sl : Array (Option Value)), K.lookup cc = some ⟨cl, dd, .cell (some (.ref C)), sl⟩
/-- what the text says of the scope -/
structure Sc (prog : Program) (params : Arguments) (scope : Scope) : Prop where
  par : ∃ ar : Arg, (params.posonlyargs ++ params.args).head? = some ar ∧ ar.arg = ("self" : Str)
  sup : scope.names.lookup ("super" : Str) = some .globalImplicit
  cls : scope.names.lookup ("__class__" : Str) = some .free
  slf : scope.names.lookup ("self" : Str) = some .local
  kind : scope.kind = .function
  top : (prog.main.scope.names.lookup ("super" : Str)).isSome = false
section
variable {prog : Program} {w : World} {A : Around} {E : Value → Shared → Prop} {K : Frag} {C fI cc cda L x t0 : Addr} {qual : Str} {params : Arguments} {body : List Stmt} {scope : Scope} {m mg mb : Str → Option Value}
theorem lookups_clsIn {nm q : Str} {N : Addr} {bs bm : List Value} {sn : List Str} {sub : List Value} {ab : Bool} {col : Option Bool} {dd : Option Addr} {k0 k1 k2 k3 k5 : Option Value} (hC : K.lookup C = some (excClassObj nm q C N bs bm true sn sub ab col dd k0 k1 k2 k3 k5 "ValueError.__new__")) :
    clsIn K C = some { name := nm, bases := bs, mro := .ref C :: bm, ns := N, qualname := q, hasDict := true, slotNames := sn, subclasses := sub, abstract := ab, collection := col, hasDel := false } := by unfold clsIn; rw [hC] <;> rfl
/-- super().__init__(e) -/
theorem sup_stmt {hp : Heap} {g : Array GenState} {d : Drawn} {t : Nat} {os : OsState} (T : Tx prog K C fI cc cda qual params body scope) (S : Sc prog params scope) (X : K.In hp) (Gg : hp.Ns mainGlobals mg) (Gs : mg "super" = none) (Gb : hp.Ns builtinsNs mb) (Gbs : mb "super" = bootBuiltins "super") (hboot : bootBuiltins "super" = some (.type "super"))
    (hn : hp.Ns L m) (hv : m "self" = some (.ref x)) (hx : hp.get? x = some (excO C t0)) (hxC : x ≠ C) {e : PySem.Expr} {p0 p1 p2 p3 p4 : Pos} {pl : Sem Bool} {Q : Flow → Shared → Prop}
    (he : ∀ (hp' : Heap) (t' : Nat) (Q' : Value → Shared → Prop), (∀ b o, hp.get? b = some o → hp'.get? b = some o) → (∀ z tk tk', Q' (.str z tk) ⟨hp', g, d, tk', os⟩) → wpAny (model prog w) A (eval e (ksEnv qual scope L fI (.ref cda) cc)) Q' E ⟨hp', g, d, t', os⟩)
    (hq : ∀ h' t1 tk', (∀ b o, b ≠ x → hp.get? b = some o → h'.get? b = some o) → h'.get? x = some (excO C t1) → Q .next ⟨h', g, d, tk', os⟩)
    (hst : starEach [e] (ksEnv qual scope L fI (.ref cda) cc) = (false, eval e (ksEnv qual scope L fI (.ref cda) cc)) :: starEach [] (ksEnv qual scope L fI (.ref cda) cc))
    (hsw : swapsWith (.Call (.Attribute (.Call (.Name "super" p0) [] [] p1) "__init__" p2) [e] [] p3) none p4.line (ksEnv qual scope L fI (.ref cda) cc) = pure false)
    (hev : eval (.Call (.Attribute (.Call (.Name "super" p0) [] [] p1) "__init__" p2) [e] [] p3) (ksEnv qual scope L fI (.ref cda) cc) = (do
      let ov ← attributeBase (.Call (.Name "super" p0) [] [] p1) "__init__" (ksEnv qual scope L fI (.ref cda) cc) (eval (.Call (.Name "super" p0) [] [] p1) (ksEnv qual scope L fI (.ref cda) cc))
      standAt p2.atName
      let (f, first) ← holding [ov] (getMethod ov "__init__" pl)
      callWith p3 f first (backTo p3 (starEach [e] (ksEnv qual scope L fI (.ref cda) cc))) [])) :
    PySem.wpAt (model prog w) A (.func body (ksEnv qual scope L fI (.ref cda) cc)) (exec (.Expr (.Call (.Attribute (.Call (.Name "super" p0) [] [] p1) "__init__" p2) [e] [] p3) p4) (ksEnv qual scope L fI (.ref cda) cc)) Q E ⟨hp, g, d, t, os⟩ := by
  obtain ⟨nm, q, N, bs, bm, sn, sub, ab, col, dd, k0, k1, k2, k3, k5, hC, hbm⟩ := T.cls
  obtain ⟨oc, od, kV, doc, pm, an, ct, osl, hf, _⟩ := T.fn
  obtain ⟨ccl, cdd, vs, csl, file, tf, hcode, hvs, hfile⟩ := T.code
  obtain ⟨cl, cld, csl2, hcell⟩ := T.cell
  obtain ⟨ar, har, hself⟩ := S.par
  have hcd := lookups_clsIn hC
  refine ks_wpAt_Expr_any (ks_wpAt_MethodCall (pl := pl) ?_ hev) (by simp [interactive, S.kind]) hsw
  refine ks_wpAt_super_base (env := ksEnv qual scope L fI (.ref cda) cc) S.sup S.cls (by decide +kernel) rfl (X _ _ hf) rfl har rfl (X _ _ hcode) rfl hvs hfile S.top ?_
  refine ks_loadName_global S.kind S.sup (loadGlobal_builtin (env := ksEnv qual scope L fI (.ref cda) cc) Gg Gs Gb (Gbs.trans hboot) ⟨rfl, ?_⟩)
  refine wpAny_loadName_free S.kind S.cls rfl ⟨_, X _ _ hcell, rfl⟩ ?_
  rw [hself]
  refine wpAny_loadName_local S.kind S.slf hn hv ?_
  refine ks_wpAny_isType_cls (X _ _ hC) rfl ⟨rfl, ?_⟩
  refine ks_wpAny_call_super (X _ _ hC) rfl hx rfl (fun c e => nomatch e) (looks_mroIn X T.self) (fun h1 e1 kk1 => ?_)
  have X1 : K.In h1 := X.keeps kk1
  have hx1 := kk1 _ _ hx
  have I1 : InstAt h1 x (excO C t0) C none := ⟨hx1, rfl, rfl, trivial⟩
  have hsm := T.sup
  unfold ks_superIn at hsm
  rw [hcd] at hsm
  refine kxs_getMethod kxs_ValueError e1 (looks_opaque X1 T.opq) (l₀ := .ref C :: bm) ?_ rfl X1 hsm (I1.type.andThen (looks_subIn X1 T.vE)) hxC (by decide +kernel) ?_
  · exact fun A Q E s k q => wpAny_bind ((looks_clsIn X1 hcd) A _ E s k (wpAny_pure q))
  have kk2 : ∀ b o, hp.get? b = some o → (h1.push (kxs_mw "ValueError.__init__" x)).get? b = some o := fun b o z => Heap.get?_push_of_some _ (kk1 b o z)
  have hu : (h1.push (kxs_mw "ValueError.__init__" x)).get? h1.objs.size = some (kxs_mw "ValueError.__init__" x) := Heap.get?_push_size _ rfl
  rw [hst]
  refine kxs_callWith (i := "ValueError.__init__") (x := x) (by show (false || (backTo p3 (starEach [] _)).any (·.1)) = false; rfl) (evalArgs_plain (spliced_cons ?_))
  refine he _ _ _ kk2 fun z tk tk' => ?_
  refine spliced_nil ⟨hu, ?_⟩
  refine call_mw (X1.keeps (fun b o z => Heap.get?_push_of_some _ z) _ _ hC) (kk2 _ _ hx) hu (by show 1 ≤ sizeLine; decide) fun h' t1 kk3 e3 => ?_
  exact hq h' t1 _ (fun b o hb z => kk3 b o hb (kk2 b o z)) e3
end
/-! ### the stores; what __init__ leaves -/
def mapV (fs : List (Str × Value)) : Str → Option Value
  | y => match fs with
    | [] => none
    | p :: r => if y = p.1 then some p.2 else mapV r y
theorem kept_but {K : Frag} {h h' : Heap} {x : Addr} (X : K.In h) (hx : K.lookup x = none) (k : ∀ b o, b ≠ x → h.get? b = some o → h'.get? b = some o) : K.In h' := fun a o e =>
  k a o (fun z => by rw [z, hx] at e; cases e) (X a o e)
structure End (h h' : Heap) (x C : Addr) (fs : List (Str × Value)) : Prop where
  keep : ∀ b o, b ≠ x → h.get? b = some o → h'.get? b = some o
  ex : ∃ t1 dx, h'.get? x = some { cls := .ref C, dict := some dx, data := .fields #[.ref t1, .none, .none, .none, .bool false, .none] } ∧ h.objs.size ≤ dx ∧ dx ≠ x ∧ h'.Ns1 dx (mapV fs)
section
variable {prog : Program} {w : World} {A : Around} {E : Value → Shared → Prop} {R : Result → Shared → Prop} {K : Frag} {C fI cc cda x t0 : Addr} {qual : Str} {params : Arguments} {body : List Stmt} {scope : Scope} {m mg mb : Str → Option Value} {hp : Heap} {g : Array GenState} {d : Drawn} {t : Nat} {os : OsState} {env : Env}
/-- self.f = f, the first -/
theorem store1 (T : Tx prog K C fI cc cda qual params body scope) (X : K.In hp) {L : Addr} (eL : env.locals = L) (hn : hp.Ns L m) {f : Str} {v : Value} (hv : m f = some v) (hs : m "self" = some (.ref x)) (hx : hp.get? x = some (excO C t0)) (hk : env.scope.kind = .function) (kf : env.kindOf f = some .local) (ks : env.kindOf "self" = some .local) (hd : (f == ("__debug__" : Str)) = false) (no : findIn K (.ref C) f = some none)
    {q1 q2 q3 q4 : Pos} {Q : Flow → Shared → Prop} (hsw : swapsWith (.Name f q3) (some (.Attribute (.Name "self" q1) f q2)) q4.line env = pure false)
    (hq : ∀ h' tk' dx, (∀ b o, b ≠ x → hp.get? b = some o → h'.get? b = some o) → hp.objs.size ≤ dx → dx ≠ x → h'.get? x = some { cls := .ref C, dict := some dx, data := .fields #[.ref t0, .none, .none, .none, .bool false, .none] } → h'.Ns1 dx (mapV [(f, v)]) → Q .next ⟨h', g, d, tk', os⟩) :
    wpAny (model prog w) A (exec (.Assign [.Attribute (.Name "self" q1) f q2] (.Name f q3) q4) env) Q E ⟨hp, g, d, t, os⟩ := by
  obtain ⟨nm, q, N, bs, bm, sn, sub, ab, col, dd, k0, k1, k2, k3, k5, hC, hbm⟩ := T.cls
  have hcl := lookups_clsIn hC
  subst eL
  refine plainObj_wpAny_Assign_Attribute ?_ hsw
  refine ldE (s := ⟨hp, g, d, t, os⟩) hn hv hk kf hd (ldE (s := ⟨hp, g, d, t, os⟩) hn hs hk ks (by decide +kernel) ?_)
  refine set_plain X (ox := excO C t0) (od := none) ⟨hx, rfl, rfl, trivial⟩ T.sa ?_
  refine exc_osa X hx hcl (show refsVE (.ref C :: bm) = true from hbm) rfl no (fun h' tk' dx k dn dne hx' hn' => ?_)
  exact hq h' tk' dx k dn dne hx' (by
    have e : (fun y => if y = f then some v else none) = mapV [(f, v)] := by funext y; rfl
    rw [← e]; exact hn')
/-- .. a further one -/
theorem store2 (T : Tx prog K C fI cc cda qual params body scope) (X : K.In hp) {L : Addr} (eL : env.locals = L) (hn : hp.Ns L m) {f f1 : Str} {v v1 : Value} {dx : Addr} (hv : m f = some v) (hs : m "self" = some (.ref x)) (hx : hp.get? x = some { cls := .ref C, dict := some dx, data := .fields #[.ref t0, .none, .none, .none, .bool false, .none] }) (hns : hp.Ns1 dx (mapV [(f1, v1)])) (hk : env.scope.kind = .function) (kf : env.kindOf f = some .local) (ks : env.kindOf "self" = some .local) (hd : (f == ("__debug__" : Str)) = false) (no : findIn K (.ref C) f = some none)
    {q1 q2 q3 q4 : Pos} {Q : Flow → Shared → Prop} (hsw : swapsWith (.Name f q3) (some (.Attribute (.Name "self" q1) f q2)) q4.line env = pure false)
    (hq : ∀ h' tk', (∀ b o, b ≠ dx → hp.get? b = some o → h'.get? b = some o) → h'.Ns1 dx (mapV [(f, v), (f1, v1)]) → Q .next ⟨h', g, d, tk', os⟩) :
    wpAny (model prog w) A (exec (.Assign [.Attribute (.Name "self" q1) f q2] (.Name f q3) q4) env) Q E ⟨hp, g, d, t, os⟩ := by
  obtain ⟨nm, q, N, bs, bm, sn, sub, ab, col, dd, k0, k1, k2, k3, k5, hC, hbm⟩ := T.cls
  have hcl := lookups_clsIn hC
  subst eL
  have hw : Within (mapV [(f1, v1)]) [f1] := fun y hy => by
    by_cases e : y = f1
    · simp [e]
    · exact absurd (show mapV [(f1, v1)] y = none by show (if y = f1 then _ else none) = none; rw [if_neg e]) hy
  obtain ⟨oD, _, _, hoD, _, _⟩ := hns.count hw
  refine plainObj_wpAny_Assign_Attribute ?_ hsw
  refine ldE (s := ⟨hp, g, d, t, os⟩) hn hv hk kf hd (ldE (s := ⟨hp, g, d, t, os⟩) hn hs hk ks (by decide +kernel) ?_)
  refine set_plain X (ox := { cls := .ref C, dict := some dx, data := .fields #[.ref t0, .none, .none, .none, .bool false, .none] }) (od := some oD) ⟨hx, rfl, rfl, hoD⟩ T.sa ?_
  refine PySem.OEX.osa_old X hx hns hw (by simp) hcl (show refsVE (.ref C :: bm) = true from hbm) rfl no (fun h' tk' k hn' => ?_)
  exact hq h' tk' k (by
    have e : (fun y => if y = f then some v else mapV [(f1, v1)] y) = mapV [(f, v), (f1, v1)] := by funext y; rfl
    rw [← e]; exact hn')
end
/-! ### the bodies -/
def body1 (f z0 : Str) (k0 : Nat) (p0 p1 p2 p3 p4 p5 p6 p7 p8 q1 q2 q3 q4 : Pos) : List Stmt :=
  [.Expr (.Call (.Attribute (.Call (.Name "super" p0) [] [] p1) "__init__" p2) [.JoinedStr [.Constant (.str z0) k0 p5, .FormattedValue (.Name f p6) (-1) none p7] p8] [] p3) p4,
   .Assign [.Attribute (.Name "self" q1) f q2] (.Name f q3) q4]
def body2 (f1 f2 z0 z1 : Str) (k0 k1 : Nat) (p0 p1 p2 p3 p4 p5 p6 p7 p8 p9 p10 p11 q1 q2 q3 q4 r1 r2 r3 r4 : Pos) : List Stmt :=
  [.Expr (.Call (.Attribute (.Call (.Name "super" p0) [] [] p1) "__init__" p2) [.JoinedStr [.Constant (.str z0) k0 p5, .FormattedValue (.Name f1 p6) (-1) none p7, .Constant (.str z1) k1 p9, .FormattedValue (.Name f2 p10) (-1) none p11] p8] [] p3) p4,
   .Assign [.Attribute (.Name "self" q1) f1 q2] (.Name f1 q3) q4, .Assign [.Attribute (.Name "self" r1) f2 r2] (.Name f2 r3) r4]
section
variable {prog : Program} {w : World} {A : Around} {R : Result → Shared → Prop} {K : Frag} {C fI cc cda x t0 : Addr} {qual : Str} {params : Arguments} {scope : Scope} {mg mb : Str → Option Value} {hp : Heap} {g : Array GenState} {d : Drawn} {t : Nat} {os : OsState}
/-- the state around: the module's names, the built-ins -/
structure Ar (hp : Heap) (mg mb : Str → Option Value) : Prop where
  glob : hp.Ns mainGlobals mg
  sup : mg "super" = none
  blt : hp.Ns builtinsNs mb
  bsup : mb "super" = bootBuiltins "super"
  lim : hp.NoLimit
theorem boot_super : bootBuiltins "super" = some (.type "super") := by decide +kernel
theorem init1 {f z0 : Str} {k0 : Nat} {p0 p1 p2 p3 p4 p5 p6 p7 p8 q1 q2 q3 q4 : Pos} {v : Value} (T : Tx prog K C fI cc cda qual params (body1 f z0 k0 p0 p1 p2 p3 p4 p5 p6 p7 p8 q1 q2 q3 q4) scope) (S : Sc prog params scope) (no : findIn K (.ref C) f = some none) (kf : scope.names.lookup f = some .local) (nf : ¬ (("self" : Str) = f)) (hd : (f == ("__debug__" : Str)) = false) (hz : z0.length ≤ 1000)
    (hcell : ∀ y ∈ scope.names, y.2 ≠ .cell) (hco : scope.isCoroutine = false) (hgen : scope.isGenerator = false)
    (hbind : ∀ (kV doc pm : Value) (an : Option Addr) (ct : Value), bindArgs (ksFn "__init__" qual params (body1 f z0 k0 p0 p1 p2 p3 p4 p5 p6 p7 p8 q1 q2 q3 q4) scope .none kV doc pm an (.ref cda) ct cc) ⟨[.ref x, v], []⟩ = pure [(("self" : Str), .ref x), (f, v)])
    (hst : ∀ env : Env, starEach [.JoinedStr [.Constant (.str z0) k0 p5, .FormattedValue (.Name f p6) (-1) none p7] p8] env = (false, eval (.JoinedStr [.Constant (.str z0) k0 p5, .FormattedValue (.Name f p6) (-1) none p7] p8) env) :: starEach [] env)
    (hsw : ∀ L, swapsWith (.Call (.Attribute (.Call (.Name "super" p0) [] [] p1) "__init__" p2) [.JoinedStr [.Constant (.str z0) k0 p5, .FormattedValue (.Name f p6) (-1) none p7] p8] [] p3) none p4.line (ksEnv qual scope L fI (.ref cda) cc) = pure false)
    (hsw2 : ∀ L, swapsWith (.Name f q3) (some (.Attribute (.Name "self" q1) f q2)) q4.line (ksEnv qual scope L fI (.ref cda) cc) = pure false)
    {pl : Sem Bool} (hev : ∀ L, eval (.Call (.Attribute (.Call (.Name "super" p0) [] [] p1) "__init__" p2) [.JoinedStr [.Constant (.str z0) k0 p5, .FormattedValue (.Name f p6) (-1) none p7] p8] [] p3) (ksEnv qual scope L fI (.ref cda) cc) = (do
      let ov ← attributeBase (.Call (.Name "super" p0) [] [] p1) "__init__" (ksEnv qual scope L fI (.ref cda) cc) (eval (.Call (.Name "super" p0) [] [] p1) (ksEnv qual scope L fI (.ref cda) cc))
      standAt p2.atName
      let (fm, first) ← holding [ov] (getMethod ov "__init__" pl)
      callWith p3 fm first (backTo p3 (starEach [.JoinedStr [.Constant (.str z0) k0 p5, .FormattedValue (.Name f p6) (-1) none p7] p8] (ksEnv qual scope L fI (.ref cda) cc))) []))
    (hf : Fmt v) (X : K.In hp) (G : Ar hp mg mb) (hx : hp.get? x = some (excO C t0)) (hnx : K.lookup x = none) (hxC : x ≠ C) (hroom : A.depth < recursionLimit)
    (hq : ∀ h' tk', End hp h' x C [(f, v)] → R (.ok (.ret .none)) ⟨h', g, d, tk', os⟩) :
    codeAny (model prog w) A (.call (.ref fI) ⟨[.ref x, v], []⟩) R ⟨hp, g, d, t, os⟩ := by
  obtain ⟨oc, od, kV, doc, pm, an, ct, osl, hfn, hcd⟩ := T.fn
  refine ks_codeAny_call_defAt (s := ⟨hp, g, d, t, os⟩) (fd := ksFn "__init__" qual params (body1 f z0 k0 p0 p1 p2 p3 p4 p5 p6 p7 p8 q1 q2 q3 q4) scope .none kV doc pm an (.ref cda) ct cc) (body := body1 f z0 k0 p0 p1 p2 p3 p4 p5 p6 p7 p8 q1 q2 q3 q4) (binds := [(("self" : Str), .ref x), (f, v)]) hroom (X _ _ hfn) rfl G.lim (codeRec_of X hcd) rfl (BindsTo.of_eq (hbind kV doc pm an ct)) hcell (fun y hy => ?_) (fun h0 hns hk0 => ?_) hco hgen S.kind
  · rcases List.mem_cons.mp hy with rfl | hy
    · exact S.slf
    · rcases List.mem_cons.mp hy with rfl | hy
      · exact kf
      · cases hy
  have ms : (List.lookup ("self" : Str) ([(("self" : Str), Value.ref x), (f, v)].reverse)) = some (.ref x) := by
    show List.lookup ("self" : Str) [(f, v), (("self" : Str), Value.ref x)] = _
    have e : (("self" : Str) == f) = false := by simpa using nf
    simp [List.lookup, e]
  have mf : (List.lookup f ([(("self" : Str), Value.ref x), (f, v)].reverse)) = some v := by
    show List.lookup f [(f, v), (("self" : Str), Value.ref x)] = _
    simp [List.lookup]
  have lt : hp.objs.size ≠ x := Nat.ne_of_gt (Heap.lt_size hx)
  refine ks_wpAt_execs_cons ?_
  refine sup_stmt (m := fun y => List.lookup y ([(("self" : Str), Value.ref x), (f, v)].reverse)) T S (X.keeps hk0) (G.glob.keeps hk0) G.sup (G.blt.keeps hk0) G.bsup boot_super hns ms (hk0 _ _ hx) hxC (pl := pl) (fun hp' t' Q' kk hz' => ?_) (fun h1 t1 tk1 kk1 hx1 => ?_) (hst _) (hsw _) (hev _)
  · obtain ⟨oL, es, ep, hoL, r⟩ := hns
    exact fs1 (m := fun y => List.lookup y ([(("self" : Str), Value.ref x), (f, v)].reverse)) ⟨oL, es, ep, kk _ _ hoL, r⟩ mf S.kind kf hd hf hz hz'
  · have X1 : K.In h1 := kept_but (X.keeps hk0) hnx kk1
    have hn1 : h1.Ns hp.objs.size (fun y => List.lookup y ([(("self" : Str), Value.ref x), (f, v)].reverse)) := by
      obtain ⟨oL, es, ep, hoL, r⟩ := hns
      exact ⟨oL, es, ep, kk1 _ _ lt hoL, r⟩
    show PySem.wpAt _ _ _ (execs _ _) _ _ _
    refine wpAt_of_wpAny (wpAny_execs_cons ?_)
    refine store1 (env := ksEnv qual scope hp.objs.size fI (.ref cda) cc) (m := fun y => List.lookup y ([(("self" : Str), Value.ref x), (f, v)].reverse)) T X1 rfl hn1 mf ms hx1 S.kind kf S.slf hd no (hsw2 _) fun h2 tk2 dx kk2 dn dne hx2 hn2 => ?_
    refine wpAny_execs_nil ?_
    have z : hp.objs.size < h0.objs.size := hns.lt
    have z1 : hp.objs.size < h1.objs.size := hn1.lt
    exact hq h2 tk2 ⟨fun b o hb e => kk2 b o hb (kk1 b o hb (hk0 b o e)), t1, dx, hx2, Nat.le_trans (Nat.le_of_lt z1) dn, dne, hn2⟩
theorem init2 {f f2 z0 z1 : Str} {k0 k1 : Nat} {p0 p1 p2 p3 p4 p5 p6 p7 p8 p9 p10 p11 q1 q2 q3 q4 r1 r2 r3 r4 : Pos} {v v2 : Value} (T : Tx prog K C fI cc cda qual params (body2 f f2 z0 z1 k0 k1 p0 p1 p2 p3 p4 p5 p6 p7 p8 p9 p10 p11 q1 q2 q3 q4 r1 r2 r3 r4) scope) (S : Sc prog params scope) (no : findIn K (.ref C) f = some none) (no2 : findIn K (.ref C) f2 = some none) (kf : scope.names.lookup f = some .local) (kf2 : scope.names.lookup f2 = some .local) (nf : ¬ (("self" : Str) = f)) (nf2 : ¬ (("self" : Str) = f2)) (nff : ¬ (f = f2)) (hd : (f == ("__debug__" : Str)) = false) (hd2 : (f2 == ("__debug__" : Str)) = false) (hz : z0.length ≤ 1000) (hz1 : z1.length ≤ 1000)
    (hcell : ∀ y ∈ scope.names, y.2 ≠ .cell) (hco : scope.isCoroutine = false) (hgen : scope.isGenerator = false)
    (hbind : ∀ (kV doc pm : Value) (an : Option Addr) (ct : Value), bindArgs (ksFn "__init__" qual params (body2 f f2 z0 z1 k0 k1 p0 p1 p2 p3 p4 p5 p6 p7 p8 p9 p10 p11 q1 q2 q3 q4 r1 r2 r3 r4) scope .none kV doc pm an (.ref cda) ct cc) ⟨[.ref x, v, v2], []⟩ = pure [(("self" : Str), .ref x), (f, v), (f2, v2)])
    (hst : ∀ env : Env, starEach [.JoinedStr [.Constant (.str z0) k0 p5, .FormattedValue (.Name f p6) (-1) none p7, .Constant (.str z1) k1 p9, .FormattedValue (.Name f2 p10) (-1) none p11] p8] env = (false, eval (.JoinedStr [.Constant (.str z0) k0 p5, .FormattedValue (.Name f p6) (-1) none p7, .Constant (.str z1) k1 p9, .FormattedValue (.Name f2 p10) (-1) none p11] p8) env) :: starEach [] env)
    (hsw : ∀ L, swapsWith (.Call (.Attribute (.Call (.Name "super" p0) [] [] p1) "__init__" p2) [.JoinedStr [.Constant (.str z0) k0 p5, .FormattedValue (.Name f p6) (-1) none p7, .Constant (.str z1) k1 p9, .FormattedValue (.Name f2 p10) (-1) none p11] p8] [] p3) none p4.line (ksEnv qual scope L fI (.ref cda) cc) = pure false)
    (hsw2 : ∀ L, swapsWith (.Name f q3) (some (.Attribute (.Name "self" q1) f q2)) q4.line (ksEnv qual scope L fI (.ref cda) cc) = pure false)
    (hsw3 : ∀ L, swapsWith (.Name f2 r3) (some (.Attribute (.Name "self" r1) f2 r2)) r4.line (ksEnv qual scope L fI (.ref cda) cc) = pure false)
    {pl : Sem Bool} (hev : ∀ L, eval (.Call (.Attribute (.Call (.Name "super" p0) [] [] p1) "__init__" p2) [.JoinedStr [.Constant (.str z0) k0 p5, .FormattedValue (.Name f p6) (-1) none p7, .Constant (.str z1) k1 p9, .FormattedValue (.Name f2 p10) (-1) none p11] p8] [] p3) (ksEnv qual scope L fI (.ref cda) cc) = (do
      let ov ← attributeBase (.Call (.Name "super" p0) [] [] p1) "__init__" (ksEnv qual scope L fI (.ref cda) cc) (eval (.Call (.Name "super" p0) [] [] p1) (ksEnv qual scope L fI (.ref cda) cc))
      standAt p2.atName
      let (fm, first) ← holding [ov] (getMethod ov "__init__" pl)
      callWith p3 fm first (backTo p3 (starEach [.JoinedStr [.Constant (.str z0) k0 p5, .FormattedValue (.Name f p6) (-1) none p7, .Constant (.str z1) k1 p9, .FormattedValue (.Name f2 p10) (-1) none p11] p8] (ksEnv qual scope L fI (.ref cda) cc))) []))
    (hf : Fmt v) (hf2 : Fmt v2) (X : K.In hp) (G : Ar hp mg mb) (hx : hp.get? x = some (excO C t0)) (hnx : K.lookup x = none) (hxC : x ≠ C) (hroom : A.depth < recursionLimit)
    (hq : ∀ h' tk', End hp h' x C [(f2, v2), (f, v)] → R (.ok (.ret .none)) ⟨h', g, d, tk', os⟩) :
    codeAny (model prog w) A (.call (.ref fI) ⟨[.ref x, v, v2], []⟩) R ⟨hp, g, d, t, os⟩ := by
  obtain ⟨oc, od, kV, doc, pm, an, ct, osl, hfn, hcd⟩ := T.fn
  refine ks_codeAny_call_defAt (s := ⟨hp, g, d, t, os⟩) (fd := ksFn "__init__" qual params (body2 f f2 z0 z1 k0 k1 p0 p1 p2 p3 p4 p5 p6 p7 p8 p9 p10 p11 q1 q2 q3 q4 r1 r2 r3 r4) scope .none kV doc pm an (.ref cda) ct cc) (body := body2 f f2 z0 z1 k0 k1 p0 p1 p2 p3 p4 p5 p6 p7 p8 p9 p10 p11 q1 q2 q3 q4 r1 r2 r3 r4) (binds := [(("self" : Str), .ref x), (f, v), (f2, v2)]) hroom (X _ _ hfn) rfl G.lim (codeRec_of X hcd) rfl (BindsTo.of_eq (hbind kV doc pm an ct)) hcell (fun y hy => ?_) (fun h0 hns hk0 => ?_) hco hgen S.kind
  · rcases List.mem_cons.mp hy with rfl | hy
    · exact S.slf
    · rcases List.mem_cons.mp hy with rfl | hy
      · exact kf
      · rcases List.mem_cons.mp hy with rfl | hy
        · exact kf2
        · cases hy
  have ms : (List.lookup ("self" : Str) ([(("self" : Str), Value.ref x), (f, v), (f2, v2)].reverse)) = some (.ref x) := by
    show List.lookup ("self" : Str) [(f2, v2), (f, v), (("self" : Str), Value.ref x)] = _
    have e : (("self" : Str) == f) = false := by simpa using nf
    have e2 : (("self" : Str) == f2) = false := by simpa using nf2
    simp [List.lookup, e, e2]
  have mf : (List.lookup f ([(("self" : Str), Value.ref x), (f, v), (f2, v2)].reverse)) = some v := by
    show List.lookup f [(f2, v2), (f, v), (("self" : Str), Value.ref x)] = _
    have e : (f == f2) = false := by simpa using nff
    simp [List.lookup, e]
  have mf2 : (List.lookup f2 ([(("self" : Str), Value.ref x), (f, v), (f2, v2)].reverse)) = some v2 := by
    show List.lookup f2 [(f2, v2), (f, v), (("self" : Str), Value.ref x)] = _
    simp [List.lookup]
  have lt : hp.objs.size ≠ x := Nat.ne_of_gt (Heap.lt_size hx)
  refine ks_wpAt_execs_cons ?_
  refine sup_stmt (m := fun y => List.lookup y ([(("self" : Str), Value.ref x), (f, v), (f2, v2)].reverse)) T S (X.keeps hk0) (G.glob.keeps hk0) G.sup (G.blt.keeps hk0) G.bsup boot_super hns ms (hk0 _ _ hx) hxC (pl := pl) (fun hp' t' Q' kk hz' => ?_) (fun h1 t1 tk1 kk1 hx1 => ?_) (hst _) (hsw _) (hev _)
  · obtain ⟨oL, es, ep, hoL, r⟩ := hns
    exact fs2 (m := fun y => List.lookup y ([(("self" : Str), Value.ref x), (f, v), (f2, v2)].reverse)) ⟨oL, es, ep, kk _ _ hoL, r⟩ mf mf2 S.kind kf kf2 hd hd2 hf hf2 hz hz1 hz'
  · have X1 : K.In h1 := kept_but (X.keeps hk0) hnx kk1
    have hn1 : h1.Ns hp.objs.size (fun y => List.lookup y ([(("self" : Str), Value.ref x), (f, v), (f2, v2)].reverse)) := by
      obtain ⟨oL, es, ep, hoL, r⟩ := hns
      exact ⟨oL, es, ep, kk1 _ _ lt hoL, r⟩
    show PySem.wpAt _ _ _ (execs _ _) _ _ _
    refine wpAt_of_wpAny (wpAny_execs_cons ?_)
    refine store1 (env := ksEnv qual scope hp.objs.size fI (.ref cda) cc) (m := fun y => List.lookup y ([(("self" : Str), Value.ref x), (f, v), (f2, v2)].reverse)) T X1 rfl hn1 mf ms hx1 S.kind kf S.slf hd no (hsw2 _) fun h2 tk2 dx kk2 dn dne hx2 hn2 => ?_
    have z1 : hp.objs.size < h1.objs.size := hn1.lt
    have X2 : K.In h2 := kept_but X1 hnx kk2
    have nLd : hp.objs.size ≠ dx := Nat.ne_of_lt (Nat.lt_of_lt_of_le z1 dn)
    have hn2' : h2.Ns hp.objs.size (fun y => List.lookup y ([(("self" : Str), Value.ref x), (f, v), (f2, v2)].reverse)) := by
      obtain ⟨oL, es, ep, hoL, r⟩ := hn1
      exact ⟨oL, es, ep, kk2 _ _ lt hoL, r⟩
    show wpAny _ _ (execs _ _) _ _ _
    refine wpAny_execs_cons ?_
    refine store2 (env := ksEnv qual scope hp.objs.size fI (.ref cda) cc) (m := fun y => List.lookup y ([(("self" : Str), Value.ref x), (f, v), (f2, v2)].reverse)) T X2 rfl hn2' mf2 ms hx2 hn2 S.kind kf2 S.slf hd2 no2 (hsw3 _) fun h3 tk3 kk3 hn3 => ?_
    refine wpAny_execs_nil ?_
    have dbig : hp.objs.size ≤ dx := Nat.le_trans (Nat.le_of_lt z1) dn
    have nb : ∀ b o, hp.get? b = some o → b ≠ dx := fun b o e => Nat.ne_of_lt (Nat.lt_of_lt_of_le (Heap.lt_size e) dbig)
    exact hq h3 tk3 ⟨fun b o hb e => kk3 b o (nb b o e) (kk2 b o hb (kk1 b o hb (hk0 b o e))), t1, dx, kk3 _ _ (Ne.symm dne) hx2, dbig, dne, hn3⟩
end
/-! ### C(v, ..) -/
def InitOk (prog : Program) (w : World) (K : Frag) (C fI : Addr) (vs : List Value) (fs : List (Str × Value)) : Prop :=
  ∀ (A : Around) (R : Result → Shared → Prop) (hp : Heap) (g : Array GenState) (d : Drawn) (t : Nat) (os : OsState) (mg mb : Str → Option Value) (x t0 : Addr), K.In hp → Ar hp mg mb → hp.get? x = some (excO C t0) → K.lookup x = none → x ≠ C → A.depth < recursionLimit →
    (∀ h' tk', End hp h' x C fs → R (.ok (.ret .none)) ⟨h', g, d, tk', os⟩) → codeAny (model prog w) A (.call (.ref fI) ⟨.ref x :: vs, []⟩) R ⟨hp, g, d, t, os⟩
/-- a made exception -/
structure Made (h h' : Heap) (e C d : Addr) (fs : List (Str × Value)) : Prop where
  keep : ∀ b o, h.get? b = some o → h'.get? b = some o
  new : h.objs.size ≤ e
  obj : ∃ oe vs, h'.get? e = some oe ∧ oe.cls = .ref C ∧ oe.dict = some d ∧ oe.data = .fields vs ∧ vs[1]? = some .none
  dbig : h.objs.size ≤ d
  dne : d ≠ e
  ns : h'.Ns1 d (mapV fs)
/-- the class's facts that making and raising ask -/
structure Cl0 (K : Frag) (C fI : Addr) : Prop where
  cls : ∃ nm q N bs bm sn sub ab col dd k0 k1 k2 k3 k5, K.lookup C = some (excClassObj nm q C N bs bm true sn sub ab col dd k0 k1 k2 k3 k5 "ValueError.__new__") ∧ refsVE bm = true
  iC : findIn K (.ref C) "__init__" = some (some (.ref fI))
  tC : typeIn K (.ref fI) = some (.type "function")
  kC : keepIn K (.ref C) = true
  exC : subIn K (.ref C) (.type "BaseException") = some true
  tyC : typeIn K (.ref C) = some (.type "type")
theorem made {prog : Program} {w : World} {A : Around} {R : Result → Shared → Prop} {s : Shared} {K : Frag} {C fI : Addr} {vs : List Value} {fs : List (Str × Value)} {mg mb : Str → Option Value} (T : Cl0 K C fI) (I : InitOk prog w K C fI vs fs) (X : K.In s.heap) (G : Ar s.heap mg mb) (hv : vs.length ≤ sizeLine) (hroom : A.depth + 1 < recursionLimit)
    (hq : ∀ h' tk e d, Made s.heap h' e C d fs → R (.ok (.ret (.ref e))) { s with heap := h', toks := tk }) :
    codeAny (model prog w) A (.call (.ref C) ⟨vs, []⟩) R s := by
  obtain ⟨nm, q, N, bs, bm, sn, sub, ab, col, dd, k0, k1, k2, k3, k5, hC, hbm⟩ := T.cls
  obtain ⟨hp, g, dr, tk, os⟩ := s
  have k : ∀ b o, hp.get? b = some o → ((hp.push (kdv_tup vs)).push (excO C hp.objs.size)).get? b = some o := fun b o e => Heap.get?_push_of_some _ (Heap.get?_push_of_some _ e)
  have hget : ((hp.push (kdv_tup vs)).push (excO C hp.objs.size)).get? (hp.objs.size + 1) = some (excO C hp.objs.size) := by heap_get
  have hnx : K.lookup (hp.objs.size + 1) = none := by
    cases e : K.lookup (hp.objs.size + 1) with
    | none => rfl
    | some o =>
      have z : hp.get? (hp.objs.size + 1) = some o := X _ _ e
      exact absurd (Nat.lt_of_succ_lt (Heap.lt_size z)) (Nat.lt_irrefl _)
  have hxC : hp.objs.size + 1 ≠ C := fun z => by rw [z, hC] at hnx; cases hnx
  refine call_own F.excBase_ValueError (fun X => refsVE_contains X bm hbm) (X _ _ hC) (looks_findIn X T.iC) (fun self => bind_fn X self T.tC) hv ?_
  refine I _ _ _ g dr tk os mg mb _ _ (X.keeps k) ⟨G.glob.keeps k, G.sup, G.blt.keeps k, G.bsup, G.lim.keeps k⟩ hget hnx hxC ?_ fun h' tk' ⟨k', t1, dx, hx, dn, dne, hns⟩ => ?_
  · show A.depth + 1 < recursionLimit
    exact hroom
  · have old : ∀ b o, hp.get? b = some o → h'.get? b = some o := fun b o e => k' b o (Nat.ne_of_lt (Nat.lt_succ_of_lt (Heap.lt_size e))) (k b o e)
    have z : hp.objs.size + 1 + 1 ≤ dx := by
      first
        | (simpa only [Heap.size_push] using dn)
        | exact dn
        | (have q := dn; rw [Heap.size_push, Heap.size_push] at q; exact q)
    exact ⟨rfl, hq h' tk' (hp.objs.size + 1) dx ⟨old, Nat.le_succ _, ⟨_, _, hx, rfl, rfl, rfl, rfl⟩, Nat.le_trans (Nat.le_trans (Nat.le_succ _) (Nat.le_succ _)) z, dne, hns⟩⟩
end Exs
/-! ## the rule -/
/-- an own exception class named x, whose __init__ stores ns -/
structure ExcK (prog : Program) (w : World) (K : PySem.W.Frag) (mg : Str → Option Value) (x : Str) (ns : List Str) : Prop where
  gC : mg x = some (.ref (He.ga K x))
  sup : mg "super" = none
  cl : Exs.Cl0 K (He.ga K x) (He.ma K (He.ga K x) "__init__")
  ini : ∀ us : List Value, us.length = ns.length → (∀ u ∈ us, Exs.Fmt u) → Exs.InitOk prog w K (He.ga K x) (He.ma K (He.ga K x) "__init__") us (ns.zip us).reverse
def tMkE (C : Addr) (ns : List Str) (ta : TA) : L2.St → Hp → XK → Prop := fun σ H Q => ta σ H fun vs H1 => vs.length = ns.length ∧ vs.length ≤ 1000 ∧ (∀ v ∈ vs, Exs.FmtV v) ∧ ∀ d, H1 d = none → Q (.ref C) (some d) (upd H1 d (.xd (ns.zip vs).reverse))
theorem relO_map : ∀ {fs : List (Str × V)} {us : List (Str × Value)}, Paired (fun (p : Str × V) (q : Str × Value) => p.1 = q.1 ∧ RelV p.2 q.2) fs us → ∀ f, RelO (fs.lookup f) (Exs.mapV us f)
  | _, _, .nil, f => True.intro
  | (a, v) :: fs, (b, u) :: us, .cons r t, f => by
    obtain ⟨e, r⟩ := r
    have e : a = b := e
    subst e
    rw [lookup_put]
    show RelO _ (if f = a then some u else Exs.mapV us f)
    by_cases h : f = a
    · rw [if_pos h, if_pos h]; exact r
    · rw [if_neg h, if_neg h]; exact relO_map t f
theorem paired_snoc {α β : Type} {F : α → β → Prop} : ∀ {as : List α} {bs : List β} {a : α} {b : β}, Paired F as bs → F a b → Paired F (as ++ [a]) (bs ++ [b])
  | _, _, _, _, .nil, h => .cons h .nil
  | _, _, _, _, .cons r t, h => .cons r (paired_snoc t h)
theorem paired_rev {α β : Type} {F : α → β → Prop} : ∀ {as : List α} {bs : List β}, Paired F as bs → Paired F as.reverse bs.reverse
  | _, _, .nil => .nil
  | _, _, .cons r t => by
    rw [List.reverse_cons, List.reverse_cons]
    exact paired_snoc (paired_rev t) r
theorem paired_zip : ∀ {ns : List Str} {vs : List V} {us : List Value}, Vals vs us → Paired (fun (p : Str × V) (q : Str × Value) => p.1 = q.1 ∧ RelV p.2 q.2) (ns.zip vs) (ns.zip us)
  | [], _, _, _ => .nil
  | n :: ns, _, _, .nil => .nil
  | n :: ns, _, _, .cons r t => .cons ⟨rfl, r⟩ (paired_zip t)
theorem vals_fmt : ∀ {vs : List V} {us : List Value}, Vals vs us → (∀ v ∈ vs, Exs.FmtV v) → ∀ u ∈ us, Exs.Fmt u
  | _, _, .nil, _, u, hu => nomatch hu
  | v :: vs, u :: us, .cons r t, h, u', hu => by
    rcases List.mem_cons.mp hu with rfl | hu
    · exact (h v List.mem_cons_self).val r
    · exact vals_fmt t (fun v hv => h v (List.mem_cons_of_mem _ hv)) u' hu
theorem pmk_exs {X : Cx} {x : Str} {ns : List Str} {e : Expr} {es : List Expr} {ta : TA} {p pos : Pos} {k : Nat} (T : ExcK X.prog X.w X.K X.mg x ns) (hr : Room k X.A) (hg : Gl X x) (ha : PA X (e :: es) ta) (hdb : (x == ("__debug__" : Str)) = false := by decide)
    (he : starEach (e :: es) X.env = (false, eval e X.env) :: starEach es X.env := by rfl) (hpl : (backTo pos (starEach es X.env)).any (·.1) = false := by rfl) : PMk X (.Call (.Name x p) (e :: es) [] pos) (tMkE (He.ga X.K x) ns ta) := by
  intro pins s σ H Q I h
  refine wpAny_Call_Name_kw (ld_glob I hg T.gC ?_ hdb)
  refine PySem.W.callWith_K (h₀ := X.base) I.ok.mod.kin T.cl.kC (thn (ha.run pos pins s σ H _ I h) fun us s1 hh => ?_) he hpl
  obtain ⟨vs, H1, I1, r1, hl, hz, hf, q1⟩ := hh
  refine ⟨I1.kIn, ?_⟩
  show wpAny _ _ (call (.ref (He.ga X.K x)) us) _ _ _
  have hlim := I1.nolimit
  obtain ⟨mb, hb1, hb2⟩ := I1.mod.blt
  have G : Exs.Ar s1.heap X.mg mb := ⟨I1.mod.glob.keeps I1.bk, T.sup, hb1.keeps I1.bk, hb2 "super" (by decide), hlim⟩
  have hlu : us.length = vs.length := r1.length.symm
  have J0 := I1.kIn
  obtain ⟨hp, g, dr, tk, os⟩ := s1
  refine wpAny_call (Exs.made T.cl (T.ini us (by omega) (vals_fmt r1 hf)) J0 G (by rw [sizeLine_eq]; omega) (by have := hr.dp; omega) fun h' tk' e d M => ?_)
  show MkP X pins σ Q (.ref e) ⟨h', g, dr, tk', os⟩
  obtain ⟨oe, fv, hoe, hc, hd, hdat, h1⟩ := M.obj
  have hns := M.ns
  obtain ⟨G', g1, g2⟩ := restrict h' fun b => decide (b ≠ e)
  have gk : ∀ b, b ≠ e → G'.get? b = h'.get? b := fun b hb => g1 b (decide_eq_true hb)
  have ge : G'.get? e = none := g2 e (by simp)
  have old : ∀ b o, hp.get? b = some o → G'.get? b = some o := fun b o q => (gk b (Nat.ne_of_lt (Nat.lt_of_lt_of_le (Heap.lt_size q) M.new))).trans (M.keep b o q)
  have rel := relO_map (paired_rev (paired_zip (ns := ns) r1))
  have ob : ObjOk X.prog X.w (upd H1 d (.xd (ns.zip vs).reverse)) G' d (.xd (ns.zip vs).reverse) := ⟨_, hns.at (fun o q => (gk d M.dne).trans q), rel⟩
  have J : Inv X pins σ (upd H1 d (.xd (ns.zip vs).reverse)) ⟨G', g, dr, tk', os⟩ := I1.laid (t' := tk') old M.dbig ob
  refine ⟨e, oe, fv, ⟨G', g, dr, tk', os⟩, _, .ref _, some d, rfl, J, fun b o q => ?_, ge, hoe, ⟨hc, hd⟩, hdat, h1, ?_, rfl, I1.bare, raises_own T.cl.exC T.cl.tyC, q1 d (I1.hok.fresh M.dbig)⟩
  · by_cases hb : b = e
    · have q' : G'.get? b = some o := q
      rw [hb, ge] at q'; cases q'
    · exact (gk b hb).symm.trans q
  · rw [upd_ne (Ne.symm M.dne)]
    exact I1.hok.fresh M.new
end Cl

/-! ## Hk -/
namespace Cl
open PySem PySem.Spec PyProof.Rows L2
/-! ## the head's Hook, with own exceptions -/
namespace Hz
open PySem.W He
def refsZ (o : Obj) : List Addr := refsD o ++ (match o.data with
  | .func fd => fd.closure.map (·.2)
  | _ => [])
def growZ (g : Addr → Option Obj) (as : List Addr) : List Addr := (as ++ as.flatMap fun a => match g a with
  | some o => refsZ o
  | none => []).eraseDups
def asZ (g : Addr → Option Obj) : Nat → List Addr
  | 0 => [mainGlobals, cStatics]
  | n + 1 => growZ g (asZ g n)
/-- a function's text -/
abbrev FnB : Type := Option (Str × Str × Arguments × FuncBody × Scope × Addr × Addr × Value)
def fnB (K : Frag) (x : Str) : FnB := match K.lookup (ma K (ga K x) "__init__") with
  | some ⟨_, _, .func fd, _⟩ => some (fd.name, fd.qualname, fd.params, fd.body, fd.scope, fd.globals, fd.builtins, fd.defaults)
  | _ => none
/-- an exception class of one's own: its name, its fields, its __init__'s statement -/
structure ExD where
  x : Str
  ns : List Str
  qual : Str
  st : Stmt
def ExD.val (e : ExD) : FnB := some ("__init__", e.qual, defArgs e.st, .stmts (defBody e.st), defScope e.st, mainGlobals, builtinsNs, .none)
def shapeB (K : Frag) (C : Addr) : Bool := match K.lookup C with
  | some ⟨.type "type", _, .cls cd, sl⟩ => (match cd.mro, sl.toList with
    | .ref C' :: bm, [_, _, _, _, some (.builtin n), _] => C' == C && n == "ValueError.__new__" && !cd.hasDel && cd.hasDict && PySem.HandSPX.refsVE bm
    | _, _ => false)
  | _ => false
def cellB (K : Frag) (C cc : Addr) : Bool := match K.lookup cc with
  | some ⟨_, _, .cell (some (.ref D)), _⟩ => D == C
  | _ => false
def fileB (K : Frag) (file : Str) (cda : Addr) : Bool := match K.lookup cda with
  | some ⟨_, _, .fields vs, _⟩ => (match (vs[2]? : Option Value) with
    | some (Value.str f _) => file == f
    | _ => false)
  | _ => false
def closB (K : Frag) (file : Str) (C : Addr) (q : Str) : Bool := match K.lookup (ma K C "__init__") with
  | some ⟨_, _, .func fd, _⟩ => (match fd.closure, fd.code with
    | [(n, cc)], .ref cda => n == ("__class__" : Str) && (cellB K C cc && (fileB K file cda && codeIn K (.ref cda) q))
    | _, _ => false)
  | _ => false
def exB (file : Str) (K : Frag) (e : ExD) : Bool :=
  shapeB K (ga K e.x) && (eqO (findIn K (.ref (ga K e.x)) "__setattr__") (some (some (.builtin "object.__setattr__"))) && (eqO (findIn K (.ref (ga K e.x)) "__init__") (some (some (.ref (ma K (ga K e.x) "__init__")))) &&
  (decide (typeIn K (.ref (ma K (ga K e.x) "__init__")) = some (.type "function")) && (keepIn K (.ref (ga K e.x)) && (decide (subIn K (.ref (ga K e.x)) (.type "BaseException") = some true) && (decide (subIn K (.ref (ga K e.x)) (.type "ValueError") = some true) &&
  (decide (typeIn K (.ref (ga K e.x)) = some (.type "type")) && (eqO (ks_superIn K (ga K e.x) (ga K e.x) "__init__") (some (some (.builtin "ValueError.__init__"))) && (decide (mroIn K (ga K e.x) (.ref (ga K e.x)) = some true) && (eqO (nsIn K cStatics "thirdparty.any") (some none) &&
  (closB K file (ga K e.x) e.qual && (e.ns.all (fun f => eqO (findIn K (.ref (ga K e.x)) f) (some none)) && (eqO (nsIn K mainGlobals e.x) (some (some (.ref (ga K e.x)))) && (eqO (nsIn K mainGlobals "super") (some none) &&
  (eqO (findIn K (.ref (ga K e.x)) "__getattribute__") (some (some (.builtin "BaseException.__getattribute__"))) && (eqO (findIn K (.ref (ga K e.x)) "__getattr__") (some none) && hasDictIn K (ga K e.x)))))))))))))))))
abbrev AlZ : Type := AlD × List FnB × Bool
def obsZ (file : Str) (fa : List Fa) (fn : List DefD) (fe : List ExD) (ex : Frag → Bool) (K : Frag) : AlZ := (obsD fa fn K, fe.map (fun e => fnB K e.x), (fe.all fun e => exB file K e) && ex K)
def valZ (fn : List DefD) (fe : List ExD) : AlZ := (valD fn, fe.map ExD.val, true)
def Says (file : Str) (fa : List Fa) (fn : List DefD) (fe : List ExD) (ex : Frag → Bool) (K : Frag) : Prop := obsZ file fa fn fe ex K = valZ fn fe
def obsG (file : Str) (n : Nat) (fa : List Fa) (fn : List DefD) (fe : List ExD) (ex : Frag → Bool) (g : Addr → Option Obj) : AlZ := obsZ file fa fn fe ex (frG g (asZ g n))
def hookZ (file : Str) (n : Nat) (fa : List Fa) (fn : List DefD) (fe : List ExD) (ex : Frag → Bool) : Hook where
  α := AlZ
  obs := fun s => obsG file n fa fn fe ex s.heap.get?
  val := fun _ => valZ fn fe
  says := fun _ h => ∃ K : Frag, K.In h ∧ Says file fa fn fe ex K
  of := fun _ _ e => ⟨_, frG_in, e⟩
  keeps := fun _ _ _ ⟨K, hK, c⟩ k => ⟨K, Frag.In.keeps hK k, c⟩
theorem obsG_eq {file : Str} {n : Nat} {fa : List Fa} {fn : List DefD} {fe : List ExD} {ex : Frag → Bool} {g : Addr → Option Obj} {s : Shared} (h : ∀ a, g a = s.heap.get? a) : obsG file n fa fn fe ex g = (hookZ file n fa fn fe ex).obs s := by
  have e : g = s.heap.get? := funext h
  rw [e] <;> rfl
section
variable {file : Str} {fa : List Fa} {fn : List DefD} {fe : List ExD} {ex : Frag → Bool} {K : Frag}
theorem Says.d (c : Says file fa fn fe ex K) : SaysD fa fn K := congrArg (fun z : AlZ => z.1) c
theorem Says.more (c : Says file fa fn fe ex K) : ex K = true := (ba (show ((fe.all fun e => exB file K e) && ex K) = true from congrArg (fun z : AlZ => z.2.2) c)).2
theorem Says.e (c : Says file fa fn fe ex K) (i : Nat) {e : ExD} (h : fe[i]? = some e := by rfl) : fnB K e.x = e.val ∧ exB file K e = true := by
  have c1 : fe.map (fun e => fnB K e.x) = fe.map ExD.val := congrArg (fun z : AlZ => z.2.1) c
  have c2 := (ba (show ((fe.all fun e => exB file K e) && ex K) = true from congrArg (fun z : AlZ => z.2.2) c)).1
  have e2 : (fe.map fun e => fnB K e.x)[i]? = (fe.map ExD.val)[i]? := by rw [c1]
  rw [List.getElem?_map, List.getElem?_map, h] at e2
  exact ⟨Option.some.inj e2, List.all_eq_true.mp c2 e (List.mem_of_getElem? h)⟩
theorem shape_of {C : Addr} (q : shapeB K C = true) : ∃ nm qn N bs bm sn sub ab col dd k0 k1 k2 k3 k5, K.lookup C = some (excClassObj nm qn C N bs bm true sn sub ab col dd k0 k1 k2 k3 k5 "ValueError.__new__") ∧ PySem.HandSPX.refsVE bm = true := by
  unfold shapeB at q
  split at q
  · rename_i dd cd sl ho
    split at q
    · rename_i C' bm k0 k1 k2 k3 n k5 hm hs
      simp only [Bool.and_eq_true, beq_iff_eq, Bool.not_eq_true'] at q
      obtain ⟨⟨⟨⟨rfl, rfl⟩, hdel⟩, hdi⟩, ht⟩ := q
      obtain ⟨nm, bs, mro, ns, qn, hd, sn, sub, ab, col, del⟩ := cd
      dsimp only at hm hdel hdi
      subst hm hdel hdi
      have hsl : sl = #[k0, k1, k2, k3, some (.builtin "ValueError.__new__"), k5] := by
        obtain ⟨l⟩ := sl
        simp only at hs
        rw [hs]
      subst hsl
      exact ⟨nm, qn, ns, bs, bm, sn, sub, ab, col, dd, k0, k1, k2, k3, k5, ho, ht⟩
    · cases q
  · cases q
theorem cell_of {C cc : Addr} (q : cellB K C cc = true) : ∃ (cl : Value) (dd : Option Addr) (sl : Array (Option Value)), K.lookup cc = some ⟨cl, dd, .cell (some (.ref C)), sl⟩ := by
  unfold cellB at q
  split at q
  · rename_i cl dd D sl ho
    have e : D = C := beq_iff_eq.mp q
    subst e
    exact ⟨_, _, _, ho⟩
  · cases q
theorem file_of {cda : Addr} {prog : Program} (q : fileB K (prog.main.file : Str) cda = true) : ∃ (cl : Value) (dd : Option Addr) (vs : Array Value) (sl : Array (Option Value)) (file : Str) (tf : Tok), K.lookup cda = some ⟨cl, dd, .fields vs, sl⟩ ∧ vs[2]? = some (.str file tf) ∧ ((prog.main.file : Str) == file) = true := by
  unfold fileB at q
  split at q
  · rename_i cl dd vs sl ho
    split at q
    · rename_i f tf hv
      exact ⟨_, _, _, _, f, tf, ho, hv, q⟩
    · cases q
  · cases q
/-- the facts of an exception's class -/
theorem tx_of {prog : Program} {e : ExD} (h1 : fnB K e.x = e.val) (h2 : exB (prog.main.file : Str) K e = true) : ∃ cc cda, Exs.Tx prog K (ga K e.x) (ma K (ga K e.x) "__init__") cc cda e.qual (defArgs e.st) (defBody e.st) (defScope e.st) ∧ Exs.Cl0 K (ga K e.x) (ma K (ga K e.x) "__init__") ∧ (∀ f ∈ e.ns, findIn K (.ref (ga K e.x)) f = some none) ∧
    nsIn K mainGlobals e.x = some (some (.ref (ga K e.x))) ∧ nsIn K mainGlobals "super" = some none := by
  unfold exB at h2
  obtain ⟨a1, h2⟩ := ba h2; obtain ⟨a2, h2⟩ := ba h2; obtain ⟨a3, h2⟩ := ba h2; obtain ⟨a4, h2⟩ := ba h2; obtain ⟨a5, h2⟩ := ba h2; obtain ⟨a6, h2⟩ := ba h2; obtain ⟨a7, h2⟩ := ba h2; obtain ⟨a8, h2⟩ := ba h2
  obtain ⟨a9, h2⟩ := ba h2; obtain ⟨a10, h2⟩ := ba h2; obtain ⟨a11, h2⟩ := ba h2; obtain ⟨a12, h2⟩ := ba h2; obtain ⟨a13, h2⟩ := ba h2; obtain ⟨a14, h2⟩ := ba h2; obtain ⟨a15, h2⟩ := ba h2
  have hns : ∀ f ∈ e.ns, findIn K (.ref (ga K e.x)) f = some none := fun f hf => eqO_ok (List.all_eq_true.mp a13 f hf)
  unfold closB at a12
  split at a12
  · rename_i oc od fd osl ho
    split at a12
    · rename_i n cc cda hcl hcode
      obtain ⟨b1, b2⟩ := ba a12; obtain ⟨b2, b3⟩ := ba b2; obtain ⟨b3, b4⟩ := ba b3
      have en : n = ("__class__" : Str) := beq_iff_eq.mp b1
      subst en
      have hfn : some (fd.name, fd.qualname, fd.params, fd.body, fd.scope, fd.globals, fd.builtins, fd.defaults) = e.val := by
        rw [← h1]
        unfold fnB
        rw [ho]
      obtain ⟨name, qn, params, body, scope, globals, closure, dV, kV, doc, pm, an, code, ct, blt⟩ := fd
      dsimp only at hcl hcode hfn
      subst hcl hcode
      have hfn := Option.some.inj hfn
      injection hfn with i1 hfn
      injection hfn with i2 hfn
      injection hfn with i3 hfn
      injection hfn with i4 hfn
      injection hfn with i5 hfn
      injection hfn with i6 hfn
      injection hfn with i7 i8
      subst i1 i2 i3 i4 i5 i6 i7 i8
      have cls := shape_of a1
      refine ⟨cc, cda, ⟨cls, eqO_ok a2, eqO_ok a3, of_decide_eq_true a4, a5, of_decide_eq_true a6, of_decide_eq_true a7, of_decide_eq_true a8, eqO_ok a9, of_decide_eq_true a10, eqO_ok a11, ⟨_, _, _, _, _, _, _, _, ho, b4⟩, file_of b3, cell_of b2⟩,
        ⟨cls, eqO_ok a3, of_decide_eq_true a4, a5, of_decide_eq_true a6, of_decide_eq_true a8⟩, hns, eqO_ok a14, eqO_ok a15⟩
    · cases a12
  · cases a12
end
end Hz
end Cl

/-! ## Exc2 -/
namespace Cl
open PySem PySem.Spec PyProof.Rows L2
/-! ## several clauses, each 'except x as n' -/
abbrev Hc : Type := Value × Nat × (Addr → Value → Option Addr → TS)
def endN (D : Ends) (i : Nat) : Ends := { nx := fun σ' H' => D.nx (σ'.set i none) H', rt := D.rt, bk := fun σ' H' => D.bk (σ'.set i none) H', ct := fun σ' H' => D.ct (σ'.set i none) H' }
def wMA (K : PySem.W.Frag) (Wout : WX) (D : Ends) : List Hc → WX
  | [] => Wout
  | (c, i, ts) :: r => fun cls d σ H => ∃ b, PySem.W.exmOne K cls c = some b ∧ (b = true → ∀ a, H a = none → ts a cls d (endN D i) (σ.set i (some (.ref a))) H) ∧ (b = false → wMA K Wout D r cls d σ H)
inductive HdsA (X : Cx) : List ExceptHandler → List Hc → Prop
  | nil : HdsA X [] []
  | cons {x n : Str} {c : Value} {i : Nat} {ts : Addr → Value → Option Addr → TS} {b₀ : Stmt} {suite : List Stmt} {np pos' : Pos} {hds : List ExceptHandler} {l : List Hc} (hi : X.N[i]? = some n) (hln : X.env.kindOf n = some .local) (hc : Names X x c)
      (hsu : ∀ (a : Addr) (oe : Obj) (cls : Value) (d : Option Addr) (pn : List (Addr × Obj)), Zc cls d oe → (∃ vs, oe.data = .fields vs) → PSs (X.suite a ((a, oe) :: pn)) (b₀ :: suite) (ts a cls d)) (r : HdsA X hds l) :
      HdsA X (.ExceptHandler (some (.Name x np)) (some n) (b₀ :: suite) pos' :: hds) ((c, i, ts) :: l)
def tTryA (K : PySem.W.Frag) (tb : WX → TS) (Wout : WX) (l : List Hc) : TS := fun D σ H => tb (wMA K Wout D l) D σ H
section
variable {X : Cx} {body : List Stmt} {h₀ : ExceptHandler} {hds : List ExceptHandler} {l : List Hc} {pos : Pos} {tb : WX → TS} {Wout : WX}
/-- an exception a of the body, caught: it lies on the ground, and the state is one of ours -/
structure Air (X : Cx) (pins : List (Addr × Obj)) (σ : L2.St) (H : Hp) (a : Addr) (cls : Value) (d : Option Addr) (B : Heap) (sI s : Shared) : Prop where
  J : Inv X pins σ H sI
  nb : ∀ b o, sI.heap.get? b = some o → b ∉ frs X.stack → B.get? b = some o
  fl : HandSPX.FlyingZ B (X.env :: X.outer) a (Zc cls d) s.heap
  up : sI.heap.UpToSlots s.heap
  na : H a = none
  os : s.os = sI.os
  ag : AllBare s.gens
section
variable {pins : List (Addr × Obj)} {σ : L2.St} {H : Hp} {a : Addr} {cls : Value} {d : Option Addr} {B : Heap} {sI s : Shared} {D : Ends}
theorem Air.inv (h : Air X pins σ H a cls d B sI s) : Inv X pins σ H s := by
  have J := h.J.landed (s' := s) h.nb h.fl.1 h.up h.os h.ag
  exact J
theorem Air.obj (h : Air X pins σ H a cls d B sI s) (hf : X.env.frame = some X.env.locals) : ∃ oe vs, s.heap.get? a = some oe ∧ Zc cls d oe ∧ oe.data = .fields vs ∧ Inv (X.suite a ((a, oe) :: (X.pn ++ pins))) [] σ H s := by
  obtain ⟨oe, vs, ha, hz, hd⟩ := h.fl.there
  have out : a ∉ frs (X.env :: X.outer) := fun hm => by
    obtain ⟨_, o', e', q⟩ := h.fl.2.2.1.mem hm
    have e2 := ha.symm.trans e'
    cases e2
    exact q _ hd
  refine ⟨oe, vs, ha, hz, hd, h.inv.suite ha hd h.na (fun z => ?_) (fun hm => ?_)⟩
  · exact out (List.mem_filterMap.mpr ⟨X.env, List.mem_cons_self, by rw [hf, z]⟩)
  · obtain ⟨e, he, q⟩ := List.mem_filterMap.mp hm
    exact out (List.mem_filterMap.mpr ⟨e, List.mem_cons_of_mem _ he, q⟩)
/-- no clause is left -/
theorem Air.past (h : Air X pins σ H a cls d B sI s) (hs : X.stack = X.env :: X.outer) (hf : X.env.frame = some X.env.locals) (tk : Takes X Wout) (w : Wout cls d σ H) : wpAny (model X.prog X.w) X.A (handleBy (.ref a) X.env []) (SP X pins D) X.xe s := by
  refine wpAny_handleBy_nil ?_
  have fin : wpAny (model X.prog X.w) X.A (setFlight (.ref a) X.env.frame) (fun _ s4 => wpAny (model X.prog X.w) X.A (throw (.ref a) : Sem Flow) (SP X pins D) X.xe s4) X.xe s := by
    rw [hf]
    exact HandSPX.setFlight_upZ h.fl fun h4 held up4 => wpAny_throw (tk _ _ ⟨a, B, sI, pins, σ, H, cls, d, rfl, h.J, h.nb, h.up.trans up4, .inr (.inr (by rw [hs]; exact held)), h.na, h.os, h.ag, w⟩)
  obtain ⟨_, _, _, oe, vs, T, oT, ts', he, _, hd, h1, _⟩ := id h.fl
  unfold PySem.passOn
  refine wpAny_bind (wpAny_field he hd h1 ?_)
  rw [if_neg (show ¬ ((Value.ref T == Value.none) = true) from by simp)]
  first
    | exact wpAny_bind (wpAny_pure (wpAny_bind fin))
    | exact wpAny_bind fin
/-- one clause -/
theorem Air.clause {x n : Str} {c : Value} {i : Nat} {ts : Addr → Value → Option Addr → TS} {b₀ : Stmt} {suite : List Stmt} {np pos' : Pos} {b : Bool} (h : Air X pins σ H a cls d B sI s) (hf : X.env.frame = some X.env.locals) (hN : X.N.Nodup) (hi : X.N[i]? = some n) (hln : X.env.kindOf n = some .local) (hc : Names X x c)
    (hsu : ∀ (a : Addr) (oe : Obj) (cls : Value) (d : Option Addr) (pn : List (Addr × Obj)), Zc cls d oe → (∃ vs, oe.data = .fields vs) → PSs (X.suite a ((a, oe) :: pn)) (b₀ :: suite) (ts a cls d))
    (hb : PySem.W.exmOne X.K cls c = some b) (yes : b = true → ts a cls d (endN D i) (σ.set i (some (.ref a))) H) (no : b = false → wpAny (model X.prog X.w) X.A (handleBy (.ref a) X.env hds) (SP X pins D) X.xe s) :
    wpAny (model X.prog X.w) X.A (handleBy (.ref a) X.env (.ExceptHandler (some (.Name x np)) (some n) (b₀ :: suite) pos' :: hds)) (SP X pins D) X.xe s := by
  obtain ⟨oe, vs, ha, hz, hd, S⟩ := h.obj hf
  refine wpAny_handleBy_cons (codeAny_handlers_test ?_) (by intro q; cases q)
  have LT : PySem.W.Looks (model X.prog X.w) s.heap (typeOf (.ref a)) cls := fun A Q E s k q => wpAny_typeOf_ref (k _ _ ha) (by rw [hz.1]; exact q)
  have LM := PySem.W.exm_one (M := model X.prog X.w) h.inv.kIn LT hb
  have look : ∀ {Q : Value → Shared → Prop} {E : Value → Shared → Prop}, Q c s → wpAny (model X.prog X.w) (X.A.mark (some (.ref a))) (eval (.Name x np) X.env) Q E s := fun {Q E} q => by
    obtain ⟨hg, hdbg, hm | ⟨hm, hv, hnn⟩⟩ := hc
    · exact ld_glob (X := X.suite a ((a, oe) :: (X.pn ++ pins))) S hg hm q hdbg
    · exact ld_blt (X := X.suite a ((a, oe) :: (X.pn ++ pins))) S hg hm hv q hnn hdbg
  obtain ⟨hp, gs, dr, tk, os⟩ := s
  refine look (LM.here ?_)
  cases b with
  | false => exact no rfl
  | true =>
    refine codeAny_handlers_suite_as (HandSPX.lands_againZ h.fl fun h4 fl4 up4 => ?_)
    have h' : Air X pins σ H a cls d B sI ⟨h4, gs, dr, tk, os⟩ := ⟨h.J, h.nb, fl4, h.up.trans up4, h.na, h.os, h.ag⟩
    obtain ⟨oe4, vs4, he4, hz4, hd4, S4⟩ := h'.obj hf
    refine store_ok (X := X.suite a ((a, oe4) :: (X.pn ++ pins))) (v := .ref a) S4 hN hi (.inl hln) rfl (fun s5 S5 => ?_) (.inr hln)
    refine wpAny_mono ((hsu a oe4 cls d (X.pn ++ pins) hz4 ⟨_, hd4⟩).run [] s5 _ H _ S5 (yes rfl)) (fun f s6 hsp => ?_) (fun _ _ z => False.elim z)
    have out : ∀ {σ6 : L2.St} {H6 : Hp} {Q : Shared → Prop}, Inv (X.suite a ((a, oe4) :: (X.pn ++ pins))) [] σ6 H6 s6 → (∀ s7, Inv X pins (σ6.set i none) H6 s7 → Q s7) →
        wpAny (model X.prog X.w) X.A (do bindName X.env n .none; unbindBehindTheSuite X.env n pos') (fun _ s7 => Q s7) X.xe s6 := fun {σ6 H6 Q} S6 hq => gone_ok (S6.unsuite h.J.ok) hN hi hln hq
    cases f with
    | ret u => obtain ⟨v6, σ6, H6, S6, r6, q6⟩ := hsp; exact out S6 fun s7 J7 => ⟨_, _, _, J7, r6, q6⟩
    | next => obtain ⟨σ6, H6, S6, q6⟩ := hsp; exact out S6 fun s7 J7 => ⟨_, _, J7, q6⟩
    | brk => obtain ⟨σ6, H6, S6, q6⟩ := hsp; exact out S6 fun s7 J7 => ⟨_, _, J7, q6⟩
    | cont => obtain ⟨σ6, H6, S6, q6⟩ := hsp; exact out S6 fun s7 J7 => ⟨_, _, J7, q6⟩
theorem Air.all (h : Air X pins σ H a cls d B sI s) (hs : X.stack = X.env :: X.outer) (hf : X.env.frame = some X.env.locals) (hN : X.N.Nodup) (tk : Takes X Wout) {hds' : List ExceptHandler} {l' : List Hc} (hk : HdsA X hds' l') : wMA X.K Wout D l' cls d σ H →
    wpAny (model X.prog X.w) X.A (handleBy (.ref a) X.env hds') (SP X pins D) X.xe s := by
  induction hk with
  | nil => exact fun w => h.past hs hf tk w
  | cons hi hln hc hsu r ih =>
    intro ⟨b, hb, yes, no⟩
    exact h.clause hf hN hi hln hc hsu hb (fun e => yes e a h.na) (fun e => ih (no e))
end
theorem ps_try_ma (hs : X.stack = X.env :: X.outer) (hf : X.env.frame = some X.env.locals) (hN : X.N.Nodup) (tk : Takes X Wout)
    (hb : ∀ (W : WX) (pn : List (Addr × Obj)) (xe : Value → Shared → Prop), Takes (X.tr pn xe) W → PassesOwn (model X.prog X.w) X.A X.env xe → PSs (X.tr pn xe) body (tb W))
    (hh : HdsA X (h₀ :: hds) l) : PS X (.Try body (h₀ :: hds) [] [] pos) (tTryA X.K tb Wout l) := by
  refine ⟨fun pins s σ H D I h => wpAny_Try_except ?_⟩
  have ok := I.ok
  refine wpAny_mono ((hb (wMA X.K Wout D l) (X.pn ++ pins) (fun e s₁ => wpAny (model X.prog X.w) X.A (noteFrame e X.env) (fun _ s₂ => wpAny (model X.prog X.w) X.A (setFlight e none) (fun _ s₃ =>
    wpAny (model X.prog X.w) X.A (handleBy e X.env (h₀ :: hds)) (SP X pins D) X.xe s₃) X.xe s₂) X.xe s₁) (fun u s' xx => ?_) PassesOwn.looking).run [] s σ H D (I.toTry _) h) (fun f s1 hsp => ?_) (fun e s1 he => he)
  · obtain ⟨a, B, sI, pins', σ', H', cls, d, rfl, J', nb, up, sky, na, os, ag, w⟩ := xx
    have sky' : Sky B (X.env :: X.outer) a (Zc cls d) X.env.locals s'.heap := by rw [← hs]; exact sky
    show wpAny (model X.prog X.w) X.A (noteFrame (.ref a) X.env) _ _ _
    refine Sky.land Zc.steady (by rw [ok.frames, hs]) hf sky' fun h3 fl3 up3 => ?_
    exact Air.all (sI := sI) (B := B) (s := { s' with heap := h3 }) ⟨J'.ofTry ok, nb, fl3, up.trans up3, na, os, ag⟩ hs hf hN tk hh w
  · cases f with
    | ret u => obtain ⟨v, σ', H', J', r, q⟩ := hsp; exact ⟨v, σ', H', J'.ofTry ok, r, q⟩
    | next => obtain ⟨σ', H', J', q⟩ := hsp; exact wpAny_execs_nil ⟨σ', H', J'.ofTry ok, q⟩
    | brk => obtain ⟨σ', H', J', q⟩ := hsp; exact ⟨σ', H', J'.ofTry ok, q⟩
    | cont => obtain ⟨σ', H', J', q⟩ := hsp; exact ⟨σ', H', J'.ofTry ok, q⟩
end
/-- isinstance(e, c) in an except suite: e's class is D, with its fields -/
def rIsX (K : PySem.W.Frag) (D a : Addr) (cls : Value) (d : Option Addr) : List V → Hp → VK → Prop := fun xs H Q => ∃ (c : V) (cv : Value) (b : Bool) (dd : Addr) (fs : List (Str × V)), xs = [.ref a, c] ∧ cls = .ref D ∧ d = some dd ∧ H dd = some (.xd fs) ∧ (∀ u, RelV c u → u = cv) ∧ PySem.W.kitOne K (.ref D) cv = some b ∧ Q (.bl b) H
theorem call_isX {X : Cx} {a D : Addr} {oe : Obj} {cls : Value} {d : Option Addr} {pn : List (Addr × Obj)} (C : ExcC X.K D) (hz : Zc cls d oe) (hf : ∃ vs, oe.data = .fields vs) : CallR (X.suite a ((a, oe) :: pn)) (.builtin "isinstance") (rIsX X.K D a cls d) := by
  intro pins s σ H xs us Q I r h
  obtain ⟨c, cv, b, dd, fs, rfl, ecl, edd, hH, hcv, e, q⟩ := h
  subst ecl edd
  cases r with
  | cons rx rr =>
    cases rr with
    | cons rt rr =>
      cases rr
      cases rx
      have ec := hcv _ rt
      subst ec
      obtain ⟨hget, _⟩ := I.pin (a, oe) (List.mem_append.mpr (.inl List.mem_cons_self))
      obtain ⟨vs, hv⟩ := hf
      have hx : ObjOk X.prog X.w H s.heap dd (.xd fs) := I.hok dd _ hH
      obtain ⟨mA, hns, hr⟩ := hx
      obtain ⟨od, ho, hl⟩ := lookIn_ns hns
      have J : PySem.W.InstAt s.heap a oe D (some od) := ⟨hget, hz.1, by unfold PySem.W.notCls; rw [hv] <;> rfl, by rw [hz.2]; exact ho⟩
      exact PySem.W.kia_one (PySem.W.kitx_exc (by obtain ⟨cd, hc, _⟩ := PySem.W.any_some C.hd; rw [hc]; rfl) C.hg C.hk C.hs C.ha C.hn C.ht C.hm) I.kIn J e (fun z => nomatch z) fun tk => ⟨.bl b, H, I.kept (t' := tk) fun _ _ z => z, rfl, q⟩
/-- a global class as a value -/
theorem pgc {X : Cx} {x : Str} {pos : Pos} (hg : Gl X x) (h : X.mg x = some (.ref (He.ga X.K x))) (hd : (x == ("__debug__" : Str)) = false := by decide) : PE X (.Name x pos) (tC (.ref (He.ga X.K x))) := pe_glob hg h rfl hd
/-! ## facts of the head about exceptions -/
inductive Xf where
  | xc (x : Str)
  | kit (x y : Str) (b : Bool)
  | kitT (x : Str) (T : String) (b : Bool)
  | exm (x y : Str) (b : Bool)
  | noat (x f : Str)
def eqB (a b : Option Bool) : Bool := decide (a = b)
def Xf.ok (K : PySem.W.Frag) : Xf → Bool
  | .xc x => He.eqO (PySem.W.findIn K (.ref (He.ga K x)) "__getattribute__") (some (some (.builtin "BaseException.__getattribute__"))) && (He.eqO (PySem.W.findIn K (.ref (He.ga K x)) "__getattr__") (some none) && (eqB (PySem.W.subIn K (.ref (He.ga K x)) (.type "BaseException")) (some true) && (PySem.W.hasDictIn K (He.ga K x) &&
      (He.eqO (PySem.W.findIn K (.ref (He.ga K x)) "__class__") (some (some (.builtin "object.__class__"))) && (He.eqO (PySem.W.specialIn K (.builtin "object.__class__") "__get__") (some (some (.builtin "getset_descriptor.__get__"))) && (eqB (PySem.W.takesIn K (.builtin "object.__class__")) (some true) && eqB (PySem.W.mroIn K (He.ga K x) (.type "object")) (some true)))))))
  | .kit x y b => eqB (PySem.W.kitOne K (.ref (He.ga K x)) (.ref (He.ga K y))) (some b)
  | .kitT x T b => eqB (PySem.W.kitOne K (.ref (He.ga K x)) (.type T)) (some b)
  | .exm x y b => eqB (PySem.W.exmOne K (.ref (He.ga K x)) (.ref (He.ga K y))) (some b)
  | .noat x f => He.eqO (PySem.W.findIn K (.ref (He.ga K x)) f) (some none)
def exOf (xf : List Xf) (K : PySem.W.Frag) : Bool := xf.all fun x => x.ok K
structure Fz (file : Str) (fe : List Hz.ExD) (xf : List Xf) (fa : List He.Fa) (fn : List He.DefD) (K : PySem.W.Frag) (mg : Str → Option Value) : Prop extends Fx fa fn K mg where
  more : Hz.Says file fa fn fe (exOf xf) K
theorem Fz.mk' {file : Str} {fe : List Hz.ExD} {xf : List Xf} {fa : List He.Fa} {fn : List He.DefD} {K : PySem.W.Frag} {h : Heap} {mg : Str → Option Value} (X : K.In h) (G : h.Ns mainGlobals mg) (c : Hz.Says file fa fn fe (exOf xf) K) : Fz file fe xf fa fn K mg := ⟨⟨c.d, h, X, G⟩, c⟩
section
variable {file : Str} {fe : List Hz.ExD} {xf : List Xf} {fa : List He.Fa} {fn : List He.DefD} {K : PySem.W.Frag} {mg : Str → Option Value}
theorem Fz.xf_ (c : Fz file fe xf fa fn K mg) {x : Xf} (i : Nat) (h : xf[i]? = some x) : x.ok K = true := List.all_eq_true.mp c.more.more x (List.mem_of_getElem? h)
theorem Fz.xc (c : Fz file fe xf fa fn K mg) (i : Nat) {x : Str} (h : xf[i]? = some (.xc x) := by rfl) : ExcC K (He.ga K x) := by
  have q := c.xf_ i h
  unfold Xf.ok at q
  obtain ⟨a1, q⟩ := Bool.and_eq_true_iff.mp q; obtain ⟨a2, q⟩ := Bool.and_eq_true_iff.mp q; obtain ⟨a3, q⟩ := Bool.and_eq_true_iff.mp q; obtain ⟨a4, q⟩ := Bool.and_eq_true_iff.mp q
  obtain ⟨a5, q⟩ := Bool.and_eq_true_iff.mp q; obtain ⟨a6, q⟩ := Bool.and_eq_true_iff.mp q; obtain ⟨a7, a8⟩ := Bool.and_eq_true_iff.mp q
  exact ⟨He.eqO_ok a1, He.eqO_ok a2, of_decide_eq_true a3, a4, He.eqO_ok a5, He.eqO_ok a6, of_decide_eq_true a7, of_decide_eq_true a8⟩
theorem Fz.xfc (c : Fz file fe xf fa fn K mg) (i : Nat) {x : Str} (h : xf[i]? = some (.xc x) := by rfl) : XfC K (He.ga K x) := let q := c.xc i h; ⟨q.hg, q.hk, q.hs, q.hd⟩
theorem Fz.kit (c : Fz file fe xf fa fn K mg) (i : Nat) {x y : Str} {b : Bool} (h : xf[i]? = some (.kit x y b) := by rfl) : PySem.W.kitOne K (.ref (He.ga K x)) (.ref (He.ga K y)) = some b := of_decide_eq_true (c.xf_ i h)
theorem Fz.kitT (c : Fz file fe xf fa fn K mg) (i : Nat) {x : Str} {T : String} {b : Bool} (h : xf[i]? = some (.kitT x T b) := by rfl) : PySem.W.kitOne K (.ref (He.ga K x)) (.type T) = some b := of_decide_eq_true (c.xf_ i h)
theorem Fz.exm (c : Fz file fe xf fa fn K mg) (i : Nat) {x y : Str} {b : Bool} (h : xf[i]? = some (.exm x y b) := by rfl) : PySem.W.exmOne K (.ref (He.ga K x)) (.ref (He.ga K y)) = some b := of_decide_eq_true (c.xf_ i h)
theorem Fz.xnoat (c : Fz file fe xf fa fn K mg) (i : Nat) {x f : Str} (h : xf[i]? = some (.noat x f) := by rfl) : PySem.W.findIn K (.ref (He.ga K x)) f = some none := He.eqO_ok (c.xf_ i h)
end
/-- a call that may raise, at the wish W -/
theorem pcallS {X : Cx} {k : Nat} {ps : List Str} {sp : Sp} {W : WX} {x : Str} {p pos : Pos} {e : Expr} {es : List Expr} {t : TA} (F : FnX X.prog X.w X.K X.mg X.base (L2.CX X.prog X.w) k (x, none) ps sp) (hr : Room k X.A) (hg : Gl X x) (hm : X.mg x = some (.ref (He.ga X.K x))) (tk : Takes X W)
    (ha : PA X (e :: es) t) (hdb : (x == ("__debug__" : Str)) = false := by decide) (he : starEach (e :: es) X.env = (false, eval e X.env) :: starEach es X.env := by rfl) (hpl : (backTo pos (starEach es X.env)).any (·.1) = false := by rfl) :
    PE X (.Call (.Name x p) (e :: es) [] pos) (tCallS sp (WE W) t) := by
  obtain ⟨⟨fd, F, b⟩, kp⟩ := F
  exact pe_callS F hr hg hm kp b (fun σ => passAt tk σ) ha hdb he hpl
abbrev WF : WX := fun _ _ _ _ => False
abbrev W0 (E : XK) : WX := fun cls d _ H => E cls d H
def tRaise (t : L2.St → Hp → XK → Prop) (W : WX) : TS := fun _ σ H => t σ H fun cls d H' => W cls d σ H'
theorem praise {X : Cx} {W : WX} {e : Expr} {t : L2.St → Hp → XK → Prop} {pos : Pos} (hc : X.calm = true) (tk : Takes X W) (he : PMk X e t) : PS X (.Raise (some e) none pos) (tRaise t W) := ps_raise hc tk he
end Cl

/-! ## EnumT -/
/-! enumerate(tuple), and enumerate of anything that begins -/
namespace Cl
open PySem PySem.Spec PyProof.Rows L2
namespace En
open PySem.Calls
theorem new1 {v : Value} {o : Obj} {H : Heap → Prop} (B : Begins v o H) :
    Meets (Builtin.«enumerate.__new__» ⟨[.type "enumerate", v], []⟩) (fun _ R s => H s.heap ∧
      R (.ok (.ret (.ref (s.heap.push o).objs.size))) { s with heap := (s.heap.push o).push { cls := .type "enumerate", data := .fields #[.none, .bool false, .ref s.heap.objs.size, rawInt 0, .none, .none] } }) :=
  .of_wp fun prog w A R s h => by
    obtain ⟨hp, g, d, tk, os⟩ := s
    obtain ⟨h1, h⟩ := h
    have hsub := sub_enumerate
    have it : ∀ {A' : Around} {E : Value → Shared → Prop} {Q : Value → Shared → Prop}, Q (.ref hp.objs.size) ⟨hp.push o, g, d, tk, os⟩ → wpAny (model prog w) A' (pyIter v) Q E ⟨hp, g, d, tk, os⟩ :=
      fun q => B.iter prog w _ _ ⟨hp, g, d, tk, os⟩ _ h1 q
    wp_walk using it
    refine wpAny_stack_any fun st => wpAny_pure ?_
    split
    · rename_i c _ _ _ _ _
      cases (c == Value.type "enumerate") <;> (wp_walk using it; exact ⟨_, rfl, h⟩)
    · wp_walk using it
      exact ⟨_, rfl, h⟩
theorem call1 {prog : Program} {w : World} {A : Around} {E : Value → Shared → Prop} {s : Shared} {v : Value} {o : Obj} {H : Heap → Prop} {Q : Value → Shared → Prop} (B : Begins v o H) (h1 : H s.heap)
    (h : ∀ h', IsEnum h' (s.heap.objs.size + 1) s.heap.objs.size 0 .none → h'.get? s.heap.objs.size = some o → h'.objs.size = s.heap.objs.size + 2 →
      (∀ b o, s.heap.get? b = some o → h'.get? b = some o) → Q (.ref (s.heap.objs.size + 1)) { s with heap := h' }) :
    wpAny (model prog w) A (call (.type "enumerate") [v]) Q E s := by
  refine callType_new F.called_enumerate (by decide) (F.typeCall_enumerate_1 _) (F.newCall_enumerate_1 _) (fun obj => F.args_object_init_2 obj _) F.entry_enumerate_new (new1 B) ⟨h1, ?_⟩
  have hz : (s.heap.push o).objs.size = s.heap.objs.size + 1 := Heap.size_push ..
  show _ ∧ _
  rw [hz]
  have he : IsEnum ((s.heap.push o).push { cls := .type "enumerate", data := .fields #[.none, .bool false, .ref s.heap.objs.size, rawInt 0, .none, .none] }) (s.heap.objs.size + 1) s.heap.objs.size 0 .none := by
    have q := Heap.get?_push_size (s.heap.push o) (o := { cls := .type "enumerate", data := .fields #[.none, .bool false, .ref s.heap.objs.size, rawInt 0, .none, .none] }) rfl
    rw [hz] at q; exact q
  exact ⟨⟨_, he, rfl⟩, h _ he (Heap.get?_push_of_some _ (Heap.get?_push_size _ B.free)) (by rw [Heap.size_push, hz]) fun b o x => Heap.get?_push_of_some _ (Heap.get?_push_of_some _ x)⟩
end En
def ItT (K : PySem.W.Frag) (a : Addr) : It :=
  ⟨fun i H => ∃ (xs : List V) (x : V), SqT K H a xs ∧ xs[i]? = some x, fun i H v H' => ∃ T x, v = .ref T ∧ H T = none ∧ H' = upd H T (.tup [.int (i : Nat), x]) ∧ ∀ xs, SqT K H a xs → xs[i]? = some x, fun i H => ∃ xs : List V, SqT K H a xs ∧ xs.length ≤ i⟩
theorem turn_enumT {P : Program} {w : World} {K : PySem.W.Frag} {elts : List Expr} {kk : Nat} {tpos : Pos} (a e it : Addr) (hea : e ≠ a) (hia : a ≠ it) :
    Turn P w K (.Tuple elts kk tpos) (ItT K a) [e, it] e (fun i h => (∃ old, IsEnum h e it ((i : Nat) : Int) old) ∧ h.IsTupleIter it a i ∧ e ≠ it) where
  mem := by simp
  obj := fun i h st b hb => by
    obtain ⟨⟨old, he⟩, ⟨o, ho, hc, hd⟩, _⟩ := st
    rcases (by simpa using hb : b = e ∨ b = it) with z | z
    · rw [z]; exact ⟨_, he, fun v q => nomatch q⟩
    · rw [z]; exact ⟨o, ho, fun v q => by rw [hd] at q; cases q⟩
  keep := fun i h h' st k => let ⟨⟨old, he⟩, hi, hne⟩ := st; ⟨⟨old, k e (by simp) _ he⟩, hi.at fun o q => k it (by simp) o q, hne⟩
  item := by
    intro X hP hw hK hc i pins s σ H E I hf st hg
    subst hP hw hK
    obtain ⟨⟨old, he⟩, hit, hne⟩ := st
    obtain ⟨xs, x, hq, hx⟩ := hg
    obtain ⟨its, rv, p, hz⟩ := I.tuple hq
    obtain ⟨u, hu, ru⟩ := rv.get hx
    have hel : e < s.heap.objs.size := Heap.lt_size he
    have hlt : i < its.toArray.size := by
      have q := (List.getElem?_eq_some_iff.mp hu).1
      simpa using q
    have DD := Draws.tuple (prog := X.prog) (w := X.w) (A := X.A.in1) (by exact I.ok.hd hc) it a hia its.toArray
    refine wpAny_pyNext_enum_itemD DD he ⟨hit, p⟩ hlt hne (by simp [hne, hea]) fun u' h' tk hu' ho hit' hT hsz hk => ?_
    have eu : u' = u := by
      have z : its[i]? = some u' := by simpa using hu'
      rw [hu] at z; exact (Option.some.inj z).symm
    subst eu
    refine ⟨_, rfl, wpAny_letOwnedTupleGo_enum (s := { s with heap := h', toks := tk + 1 }) ho fun h'' he' sb => ?_⟩
    have hT2 : h''.get? s.heap.objs.size = some { cls := .type "tuple", data := .seq #[.int i tk, u'] } := (sb.2 _ (Nat.ne_of_gt hel)).trans hT
    have new : ObjOk X.prog X.w (upd H s.heap.objs.size (.tup [.int (i : Nat), x])) h'' s.heap.objs.size (.tup [.int (i : Nat), x]) :=
      ⟨by show 2 ≤ sizeLine; decide, [.int i tk, u'], .cons ⟨_, rfl⟩ (.cons ru .nil), ⟨_, hT2, rfl, _, rfl⟩⟩
    have I1 : Inv X pins σ (upd H s.heap.objs.size (.tup [.int (i : Nat), x])) { s with heap := h'', toks := tk + 1 } :=
      I.turnedNew (ch := [e, it]) (fun b ob hb q => (sb.2 b (fun z => hb (by simp [z]))).trans (hk b ob (fun z => hb (by simp [z])) (fun z => hb (by simp [z])) q)) hf (Nat.le_refl _) new
    refine ⟨.ref s.heap.objs.size, _, I1, rfl, ⟨_, x, rfl, I.hok.fresh (Nat.le_refl _), rfl, fun ys hy => by rw [I.tuple_inj hy hq]; exact hx⟩, ⟨⟨u', ?_⟩, hit'.1.at fun o q => (sb.2 it (Ne.symm hne)).trans q, hne⟩, fun b hb => ?_⟩
    · have e1 : ((i + 1 : Nat) : Int) = (i : Int) + 1 := by omega
      rw [e1]; exact he'
    · obtain ⟨o1, q1, _⟩ := hit
      have hb' : b < s.heap.objs.size := by
        rcases (by simpa using hb : b = e ∨ b = it) with z | z
        · rw [z]; exact hel
        · rw [z]; exact Heap.lt_size q1
      rw [upd_ne (Nat.ne_of_lt hb')]
      exact (hf b hb).1
  done := by
    intro X hP hw hK hc i pins s σ H E I hf st hg
    subst hP hw hK
    obtain ⟨⟨old, he⟩, hit, hne⟩ := st
    obtain ⟨xs, hq, hx⟩ := hg
    obtain ⟨its, rv, p, hz⟩ := I.tuple hq
    obtain ⟨f0, f1, f2, f3, f4, f5⟩ := hf it (by simp)
    have hl := rv.length
    have hh : X.A.in1.handled = none := I.ok.hd hc
    have DD : Draws X.prog X.w X.A.in1 it [it, a] i (fun i v => its.toArray[i]? = some v) (fun j h => (h.IsTupleIter it a j ∧ h.IsTuple a its.toArray) ∧ j = i) :=
      ⟨fun _ _ st => let ⟨o, ho, _⟩ := st.1.1; ⟨o, ho⟩, fun _ _ _ st hk => ⟨⟨st.1.1.at fun o e => hk it (by simp) o e, st.1.2.at fun o e => hk a (by simp) o e⟩, st.2⟩,
        fun j s Q E hj st hQ => absurd st.2 (Nat.ne_of_lt hj),
        fun s Q E st hE => wpAny_nextOf_tuple_end hh st.1.1 st.1.2 (by simp; omega) hE⟩
    exact wpAny_pyNext_enum_endD DD he ⟨⟨hit, p⟩, rfl⟩ fun h' eb => ⟨rfl, I.turned (t' := s.toks) (fun b o hb q => eb b o hb q) f0 f1 f3 f4 f5⟩
  self := fun A i s Q E st h => let ⟨⟨_, he⟩, _⟩ := st; wpAny_pyIter_enum he h
def iEnumT (K : PySem.W.Frag) (ta : TA) : TI := fun σ H R => ta σ H fun vs H1 => ∃ a xs, vs = [.ref a] ∧ SqT K H1 a xs ∧ R (ItT K a) H1
theorem pi_enumT {X : Cx} {e : Expr} {ta : TA} {p pos tpos : Pos} {elts : List Expr} {kk : Nat} (hg : Gl X "enumerate") (hm : X.mg "enumerate" = none) (ha : PA X [e] ta) (hs : starEach [e] X.env = [(false, eval e X.env)] := by rfl) :
    PI X (.Tuple elts kk tpos) (.Call (.Name "enumerate" p) [e] [] pos) (iEnumT X.K ta) := by
  refine ⟨fun pins s σ H R I h => ?_⟩
  refine Call_ (ld_blt I hg hm boot_enumerate (PyProof.Rows.callWith_type1 (thn (ha.run pos pins s σ H _ I h) fun us s1 ⟨vs, H1, I1, r1, a, xs, ex, hq, q⟩ => ?_) hs rfl))
  subst ex
  cases r1 with
  | cons r rr =>
    cases rr
    cases r
    obtain ⟨its, rv, p', hz⟩ := I1.tuple hq
    have hal : a < s1.heap.objs.size := by obtain ⟨o, ho, _⟩ := id p'; exact Heap.lt_size ho
    refine En.call1 (begins_tuple a its.toArray) p' fun h' he hit hsz hk => wpAny_pyIter_enum he ?_
    have I2 : Inv X pins σ H1 { s1 with heap := h' } := I1.kept (t' := s1.toks) hk
    refine ⟨s1.heap.objs.size + 1, [s1.heap.objs.size + 1, s1.heap.objs.size], _, _, H1, rfl, I2, turn_enumT a (s1.heap.objs.size + 1) s1.heap.objs.size (Nat.ne_of_gt (Nat.lt_succ_of_lt hal)) (Nat.ne_of_lt hal), ⟨⟨.none, he⟩, ⟨_, hit, rfl, rfl⟩, Nat.succ_ne_self _⟩, fun b hb => ?_, q⟩
    have hle : s1.heap.objs.size ≤ b := by
      rcases (by simpa using hb : b = s1.heap.objs.size + 1 ∨ b = s1.heap.objs.size) with z | z
      · rw [z]; exact Nat.le_succ _
      · rw [z]; exact Nat.le_refl _
    exact I1.fpOk hle (I1.hok.fresh hle)
end Cl

/-! ## Lib4 -/
namespace Cl
open PySem PySem.Spec PyProof.Rows L2
theorem t_yesIf {σ : L2.St} {H : Hp} {A B : Hp → Prop} (h : A H) : tYes σ H (fun b H3 => if b = true then A H3 else B H3) := by
  show if true = true then A H else B H
  rw [if_pos rfl]; exact h
/-! ## comprehensions whose blocks change the heap -/
section
variable {K : PySem.W.Frag} {σ : L2.St} {H : Hp} {Q : VK} {j : Nat} {tt : TT} {te : TE} {vs : List Nat} {tl : TE} {ta : TA}
theorem e_lcRW {n : Int} (h : Args ta σ H [.int n]) (hn : 0 ≤ n ∧ n ≤ 1000000) (W : Addr → Nat → Hp → Prop) (h0 : ∀ Dl, H Dl = none → W Dl 0 (upd H Dl (.lst []))) (hw : ∀ x, wipe ((wipe σ vs).set j (some x)) vs = wipe σ vs)
    (hs : ∀ Dl (i : Nat) H', H Dl = none → (i : Int) < n → W Dl i H' → tt ((wipe σ vs).set j (some (.int (i : Nat)))) H' fun b H3 => if b = true then te ((wipe σ vs).set j (some (.int (i : Nat)))) H3 fun y H4 => ∃ acc, H4 Dl = some (.lst acc) ∧ acc.length < sizeLine ∧ W Dl (i + 1) (upd H4 Dl (.lst (acc ++ [y]))) else W Dl (i + 1) H3)
    (q : ∀ Dl H', H Dl = none → W Dl n.toNat H' → Q (.ref Dl) H') : tLc (iRng1 ta) (gName j) tt te vs σ H Q :=
  h _ ⟨n, rfl, by omega, by omega, fun Dl hD => lc_range (lo := 0) (n := n.toNat) (W Dl) (h0 Dl hD) (fun i H' hi p => by
    have e0 : (0 : Int) + (i : Int) = (i : Int) := Int.zero_add _
    rw [e0]
    exact ⟨hw _, hs Dl i H' hD (by omega) p⟩) (fun H' p => q Dl H' hD p)⟩
theorem e_lcLW {a : Addr} {xs : List V} (h : Val tl σ H (.ref a)) (hx : SqL K H a xs) (W : Addr → Nat → Hp → Prop) (h0 : ∀ Dl, H Dl = none → W Dl 0 (upd H Dl (.lst []))) (hl : ∀ Dl i H', H Dl = none → i ≤ xs.length → W Dl i H' → SqL K H' a xs) (hw : ∀ x, wipe ((wipe σ vs).set j (some x)) vs = wipe σ vs)
    (hs : ∀ Dl (i : Nat) x H', H Dl = none → xs[i]? = some x → W Dl i H' → tt ((wipe σ vs).set j (some x)) H' fun b H3 => if b = true then te ((wipe σ vs).set j (some x)) H3 fun y H4 => ∃ acc, H4 Dl = some (.lst acc) ∧ acc.length < sizeLine ∧ W Dl (i + 1) (upd H4 Dl (.lst (acc ++ [y]))) else W Dl (i + 1) H3)
    (q : ∀ Dl H', H Dl = none → W Dl xs.length H' → Q (.ref Dl) H') : tLc (iList K tl) (gName j) tt te vs σ H Q :=
  h _ ⟨a, rfl, ⟨xs, hx⟩, fun Dl hD => lc_list (K := K) (a := a) (xs := xs) (W Dl) (h0 Dl hD) (fun i H' hi p => hl Dl i H' hD hi p) (fun i x H' hi p => ⟨hw x, hs Dl i x H' hD hi p⟩) (fun H' p => q Dl H' hD p)⟩
theorem walk_enumT {a : Addr} {xs : List V} : Walk (ItT K a) xs.length (fun H => SqT K H a xs) (YPair (fun i => some (.int (i : Nat))) (fun i => xs[i]?)) := by
  refine ⟨fun i _ hi q => ⟨xs, xs[i], q, by simp [hi]⟩, fun _ q => ⟨xs, q, Nat.le_refl _⟩, fun i H v H' _ q y => ?_⟩
  obtain ⟨T, x, h1, h2, h3, h4⟩ := y
  exact ⟨T, .int (i : Nat), x, h1, h2, h3, rfl, h4 xs q⟩
theorem e_lcEW {a : Addr} {xs : List V} {i1 i2 : Nat} (h : Args ta σ H [.ref a]) (hx : SqT K H a xs) (W : Addr → Nat → Hp → Prop) (h0 : ∀ Dl, H Dl = none → W Dl 0 (upd H Dl (.lst []))) (hl : ∀ Dl i H', H Dl = none → i ≤ xs.length → W Dl i H' → SqT K H' a xs) (hw : ∀ x y, wipe (((wipe σ vs).set i1 (some x)).set i2 (some y)) vs = wipe σ vs)
    (hs : ∀ Dl (i : Nat) x H' t, H Dl = none → xs[i]? = some x → W Dl i H' → H' t = none → tt (((wipe σ vs).set i1 (some (.int (i : Nat)))).set i2 (some x)) (upd H' t (.tup [.int (i : Nat), x])) fun b H3 => if b = true then te (((wipe σ vs).set i1 (some (.int (i : Nat)))).set i2 (some x)) H3 fun y H4 => ∃ acc, H4 Dl = some (.lst acc) ∧ acc.length < sizeLine ∧ W Dl (i + 1) (upd H4 Dl (.lst (acc ++ [y]))) else W Dl (i + 1) H3)
    (q : ∀ Dl H', H Dl = none → W Dl xs.length H' → Q (.ref Dl) H') : tLc (iEnumT K ta) (gTup K 2 (gCons (gName i1) (gCons (gName i2) gNil))) tt te vs σ H Q :=
  h _ ⟨a, xs, rfl, hx, fun Dl hD => lc_it (walk_enumT (K := K) (a := a) (xs := xs)) (W Dl) (h0 Dl hD) (fun i H' hi p => hl Dl i H' hD hi p) (fun i x H' H'' hi p y => by
    obtain ⟨t, u, v, ex, ht, eH, e1, e2⟩ := y
    have eu : V.int ((i : Nat) : Int) = u := Option.some.inj e1
    subst ex eH eu
    exact ⟨t, _, rfl, SqT.of upd_same, rfl, _, _, rfl, _, _, rfl, rfl, hw _ _, hs Dl i v H' t hD e2 p ht⟩) (fun H' p => q Dl H' hD p)⟩
end
theorem v_lenS {K : PySem.W.Frag} {σ : L2.St} {H : Hp} {ts : TA} {p : Addr} {xs : List V} (h : Args ts σ H [.ref p]) (hl : SqL K H p xs ∨ SqT K H p xs) : Val (tCB (rLen K) ts) σ H (.int xs.length) := v_cb h fun _ q => ⟨p, xs, rfl, hl, q⟩
/-! ## a for over a new list -/
section
variable {K : PySem.W.Frag} {σ : L2.St} {H : Hp} {D : Ends} {tb r : TS} {j : Nat}
theorem s_seq {t : TS} (h : t { D with nx := r D } σ H) : tSeq t r D σ H := h
/-- the loop, once the list is there -/
def ForL (K : PySem.W.Frag) (a : Addr) (j : Nat) (tb : TS) : TS := tFor (fun _ H R => R (Itl K a) H) (gName j) tb
theorem s_for_any {tl : TE} (h : tl σ H fun v H1 => ∃ a, v = .ref a ∧ (∃ xs, SqL K H1 a xs) ∧ ForL K a j tb D σ H1) : tFor (iList K tl) (gName j) tb D σ H := h
theorem s_for_lst {ts : TA} {xs : List V} (h : Args ts σ H xs) (hz : xs.length ≤ sizeLine) (q : ∀ l, H l = none → ForL K l j tb D σ (upd H l (.lst xs))) : tFor (iList K (tLst ts)) (gName j) tb D σ H :=
  h _ ⟨hz, fun l hl => ⟨l, rfl, ⟨xs, SqL.of upd_same⟩, q l hl⟩⟩
theorem s_forLi {a : Addr} {xs : List V} (hx : SqL K H a xs) (Pv : Nat → L2.St → Hp → Prop) (h0 : Pv 0 σ H) (hl : ∀ i σ' H', i ≤ xs.length → Pv i σ' H' → SqL K H' a xs)
    (hs : ∀ i x σ' H', xs[i]? = some x → Pv i σ' H' → tb { D with nx := Pv (i + 1), ct := Pv (i + 1), bk := D.nx } (σ'.set j (some x)) H') (hd : ∀ σ' H', Pv xs.length σ' H' → D.nx σ' H') : ForL K a j tb D σ H := for_list Pv h0 hl hs hd
end
/-! ## exceptions -/
section
variable {K : PySem.W.Frag} {σ : L2.St} {H : Hp} {Q : VK} {D : Ends} {r : TS} {sp : Sp} {ts : TA} {vs : List V} {i : Nat} {te : TE} {E : XK}
theorem q_tryC {Wout : WX} {l : List Hc} (h : Args ts σ H vs) (q : sp vs H (fun v H2 => r D (σ.set i (some v)) H2) (fun cls d H' => wMA K Wout { D with nx := r D } l cls d σ H')) :
    tSeq (tTryA K (fun W => tAsg (tCallS sp (WE W) ts) (gName i)) Wout l) r D σ H := h _ q
theorem q_callS {W : WX} (h : Args ts σ H vs) (q : sp vs H (fun v H2 => r D σ H2) (WE W σ)) : tSeq (tDrop (tCallS sp (WE W) ts)) r D σ H := h _ q
theorem g_callS {W : WX} (h : ts σ H fun vs H1 => sp vs H1 Q (WE W σ)) : tCallS sp (WE W) ts σ H Q := h
theorem w_hit {c : Value} {j : Nat} {t : Addr → Value → Option Addr → TS} {l : List Hc} {Wout : WX} {cls : Value} {d : Option Addr} (hb : PySem.W.exmOne K cls c = some true) (h : ∀ a, H a = none → t a cls d (endN D j) (σ.set j (some (.ref a))) H) : wMA K Wout D ((c, j, t) :: l) cls d σ H := ⟨true, hb, fun _ => h, (fun z => by cases z)⟩
theorem w_miss {c : Value} {j : Nat} {t : Addr → Value → Option Addr → TS} {l : List Hc} {Wout : WX} {cls : Value} {d : Option Addr} (hb : PySem.W.exmOne K cls c = some false) (h : wMA K Wout D l cls d σ H) : wMA K Wout D ((c, j, t) :: l) cls d σ H := ⟨false, hb, (fun z => by cases z), fun _ => h⟩
theorem v_xf {a C dd : Addr} {fs : List (Str × V)} {f : Str} {v : V} (h : Val te σ H (.ref a)) (hd : H dd = some (.xd fs)) (hl : fs.lookup f = some v) : Val (tXf a (.ref C) (some dd) C f te) σ H v := fun Q q => h _ ⟨rfl, rfl, dd, fs, v, rfl, hd, hl, q⟩
theorem v_isX {a C c dd : Addr} {fs : List (Str × V)} {b : Bool} (h : Args ts σ H [.ref a, .ref c]) (hd : H dd = some (.xd fs)) (hk : PySem.W.kitOne K (.ref C) (.ref c) = some b) : Val (tCB (rIsX K C a (.ref C) (some dd)) ts) σ H (.bl b) := v_cb h fun _ q => ⟨_, _, b, dd, fs, rfl, rfl, rfl, hd, fun u hu => hu, hk, q⟩
theorem v_isXT {a C dd : Addr} {fs : List (Str × V)} {T : String} {b : Bool} (h : Args ts σ H [.ref a, .ty T]) (hd : H dd = some (.xd fs)) (hk : PySem.W.kitOne K (.ref C) (.type T) = some b) : Val (tCB (rIsX K C a (.ref C) (some dd)) ts) σ H (.bl b) := v_cb h fun _ q => ⟨_, _, b, dd, fs, rfl, rfl, rfl, hd, fun u hu => hu, hk, q⟩
/-- raise x(v) -/
theorem g_raise1 {W : WX} {C : Addr} {f : Str} {v : V} (h : Args ts σ H [v]) (hf : Exs.FmtV v) (q : ∀ d, H d = none → W (.ref C) (some d) σ (upd H d (.xd [(f, v)]))) : tRaise (tMkE C [f] ts) W D σ H := h _ ⟨rfl, by show 1 ≤ 1000; decide, fun u hu => by
    have e : u = v := by simpa using hu
    rw [e]; exact hf, fun d hd => q d hd⟩
theorem g_raise2 {W : WX} {C : Addr} {f g : Str} {v w : V} (h : Args ts σ H [v, w]) (hf : Exs.FmtV v) (hg : Exs.FmtV w) (q : ∀ d, H d = none → W (.ref C) (some d) σ (upd H d (.xd [(g, w), (f, v)]))) : tRaise (tMkE C [f, g] ts) W D σ H := h _ ⟨rfl, by show 2 ≤ 1000; decide, fun u hu => by
    have e : u = v ∨ u = w := by simpa using hu
    rcases e with e | e
    · rw [e]; exact hf
    · rw [e]; exact hg, fun d hd => q d hd⟩
theorem fmt_int {i : Int} (h : -4611686018427387904 < i ∧ i < 4611686018427387904) : Exs.FmtV (.int i) := by
  show i.natAbs.log2 < 1920
  have e : (2 : Nat) ^ 62 = 4611686018427387904 := by decide
  have h2 : i.natAbs < 2 ^ 62 := by omega
  have h3 := PySem.Flt.log2_lt_of (k := 62) (by decide) h2
  omega
end
end Cl

/-! ## NetSp -/
namespace Cl
open PySem PySem.Spec PyProof.Rows L2
/-! ## spans -/
structure Row where
  s : Int
  e : Int
  l : Int
  m : Int
def Row.vs (r : Row) : List V := [.int r.s, .int r.e, .int r.l, .int r.m]
def Row.d (r : Row) : PyData := .tuple [.int r.s, .int r.e, .int r.l, .int r.m]
structure Row.Ok (T n : Int) (r : Row) : Prop where
  s0 : 0 ≤ r.s
  s1 : r.s < n
  e0 : 0 ≤ r.e
  e1 : r.e < n
  ne : r.s ≠ r.e
  l0 : 0 ≤ r.l
  lm : r.l ≤ r.m
  mT : r.m ≤ r.l + T - 1
  m9 : r.m ≤ 999
/-- the addresses ts hold the rows, as tuples -/
def RowsAt (H : Hp) (ts : List Addr) (rows : List Row) : Prop := ts.length = rows.length ∧ ∀ (i : Nat) t r, ts[i]? = some t → rows[i]? = some r → H t = some (.tup r.vs)
def SpansAt (H : Hp) (a : Addr) (rows : List Row) : Prop := ∃ ts : List Addr, H a = some (.lst (ts.map V.ref)) ∧ RowsAt H ts rows
theorem RowsAt.kp {S : List Addr} {H H' : Hp} {ts : List Addr} {rows : List Row} (h : RowsAt H ts rows) (k : Kp S H H') (hs : ∀ t xs, t ∈ S → H t ≠ some (.tup xs)) : RowsAt H' ts rows :=
  ⟨h.1, fun i t r e1 e2 => k t _ (fun z => hs t _ z (h.2 i t r e1 e2)) (h.2 i t r e1 e2)⟩
theorem RowsAt.nil {H : Hp} : RowsAt H [] [] := ⟨rfl, fun i t r e => by simp at e⟩
theorem RowsAt.snoc {H : Hp} {ts : List Addr} {rows : List Row} {t : Addr} {r : Row} (h : RowsAt H ts rows) (ht : H t = some (.tup r.vs)) : RowsAt H (ts ++ [t]) (rows ++ [r]) := by
  refine ⟨by simp [h.1], fun i u q e1 e2 => ?_⟩
  by_cases hi : i < ts.length
  · rw [List.getElem?_append_left hi] at e1
    rw [List.getElem?_append_left (by rw [← h.1]; exact hi)] at e2
    exact h.2 i u q e1 e2
  · have hi' : ts.length ≤ i := by omega
    rw [List.getElem?_append_right hi'] at e1
    rw [List.getElem?_append_right (by rw [← h.1]; exact hi')] at e2
    rw [← h.1] at e2
    cases e0 : i - ts.length with
    | zero =>
      rw [e0] at e1 e2
      cases e1; cases e2; exact ht
    | succ k => rw [e0] at e1; simp at e1
theorem RowsAt.take {H : Hp} {ts : List Addr} {rows : List Row} (h : RowsAt H ts rows) (k : Nat) : RowsAt H (ts.take k) (rows.take k) := by
  refine ⟨by simp [h.1], fun i u q e1 e2 => ?_⟩
  rw [List.getElem?_take] at e1 e2
  split at e1
  · rename_i hi
    rw [if_pos hi] at e2
    exact h.2 i u q e1 e2
  · cases e1
theorem pool_not_tup {H : Hp} {p t : Addr} {xs : List V} (h : Pool H p) (ht : t ∈ [p]) : H t ≠ some (.tup xs) := by
  obtain ⟨a, f, c, e, _⟩ := h
  have e2 : t = p := by simpa using ht
  intro z; rw [e2, e] at z; cases z
theorem pool_ne_refs {H : Hp} {p a : Addr} {ts : List Addr} (h : Pool H p) (ha : H a = some (.lst (ts.map V.ref))) : a ≠ p := fun z => by
  obtain ⟨x, f, c, e, _⟩ := h
  rw [z, e] at ha
  have q := HO.lst.inj (Option.some.inj ha)
  cases ts <;> simp at q
theorem pool_ne_tup {H : Hp} {p a : Addr} {xs : List V} (h : Pool H p) (ha : H a = some (.tup xs)) : a ≠ p := fun z => by
  obtain ⟨x, f, c, e, _⟩ := h
  rw [z, e] at ha; cases ha
/-! ## promises -/
def sp_is_window : Sp := fun vs H Q _ => ∃ T l m k : Int, vs = [.int T, .int l, .int m, .int k] ∧ Q (.bl (decide (0 ≤ l ∧ l ≤ m ∧ m ≤ l + T - 1 ∧ m ≤ k))) H
def sp_is_span (K : PySem.W.Frag) : Sp := fun vs H Q _ => ∃ (T n : Int) (a : Addr) (r : Row), vs = [.int T, .int n, .ref a] ∧ H a = some (.tup r.vs) ∧ r.Ok T n ∧ Q (.bl true) H
def netF (T n : Int) (a : Addr) : List (Str × V) := putF "spans" (.ref a) (putF "events" (.int n) (putF "round_length" (.int T) []))
/-- a net at x -/
def NetAt (C : Addr) (H : Hp) (x : Addr) (T n : Int) (rows : List Row) : Prop := ∃ (dx a : Addr) (ts : List Addr), H x = some (.ins C dx (netF T n a)) ∧ H a = some (.tup (ts.map V.ref)) ∧ RowsAt H ts rows
def sp_Net___init__ (K : PySem.W.Frag) : Sp := fun vs H Q _ => ∃ (x dx a : Addr) (T n : Int) (rows : List Row), vs = [.ref x, .int T, .int n, .ref a] ∧ H x = some (.ins (He.ga K "Net") dx []) ∧ SpansAt H a rows ∧
  2 ≤ T ∧ T ≤ 60 ∧ 0 ≤ n ∧ n ≤ 12 ∧ rows.length ≤ 24 ∧ (∀ r ∈ rows, r.Ok T n) ∧ ∀ H', Kp [x] H H' → NetAt (He.ga K "Net") H' x T n rows → Q .non H'
def sp_l_length : Sp := fun vs H Q _ => ∃ p, vs = [.ref p] ∧ Pool H p ∧ ∀ T H', 2 ≤ T → T ≤ 60 → Kp [p] H H' → Pool H' p → Q (.int T) H'
/-- some good spans -/
def GotSpans (p : Addr) (T n k : Int) (H : Hp) (Q : VK) : Prop := ∀ l rows H', H l = none → Kp [p] H H' → Pool H' p → SpansAt H' l rows → (rows.length : Int) ≤ k → (∀ r ∈ rows, r.Ok T n) → Q (.ref l) H'
def sp_law (K : PySem.W.Frag) : Sp := fun vs H Q _ => ∃ (a : Addr) (ns : List Int), vs = [.ref a] ∧ SqL K H a (ns.map V.int) ∧ ∀ H', Q (.bl true) H'
theorem start_law {K : PySem.W.Frag} {H : Hp} {a : Addr} {ns : List Int} {n : Nat} (hl : ns.length ≤ n) (hS : SqL K H a (ns.map V.int)) : sp_law K [.ref a] H (fun v _ => v = .bl true) fun _ _ _ => False := ⟨a, ns, rfl, hS, fun _ => rfl⟩
theorem len_is_window {vs H Q E} (h : sp_is_window vs H Q E) : vs.length = 4 := by obtain ⟨_, _, _, _, rfl, _⟩ := h; rfl
theorem len_is_span {K vs H Q E} (h : sp_is_span K vs H Q E) : vs.length = 3 := by obtain ⟨_, _, _, _, rfl, _⟩ := h; rfl
theorem len_Net___init__ {K vs H Q E} (h : sp_Net___init__ K vs H Q E) : vs.length = 4 := by obtain ⟨_, _, _, _, _, _, rfl, _⟩ := h; rfl
theorem len_l_length {vs H Q E} (h : sp_l_length vs H Q E) : vs.length = 1 := by obtain ⟨_, rfl, _⟩ := h; rfl
theorem len_law {K vs H Q E} (h : sp_law K vs H Q E) : vs.length = 1 := by obtain ⟨_, _, rfl, _⟩ := h; rfl
end Cl

/-! ## Sp -/
namespace Cl
open PySem PySem.Spec PyProof.Rows L2
/-- whole numbers at a, as a list or a tuple -/
def TimesAt (H : Hp) (a : Addr) (L : List Int) : Prop := H a = some (.lst (L.map V.int)) ∨ H a = some (.tup (L.map V.int))
theorem TimesAt.kp {S : List Addr} {H H' : Hp} {a : Addr} {L : List Int} (h : TimesAt H a L) (k : Kp S H H') (hs : a ∉ S) : TimesAt H' a L := by
  rcases h with h | h
  · exact .inl (k _ _ hs h)
  · exact .inr (k _ _ hs h)
theorem TimesAt.sq {K : PySem.W.Frag} {H : Hp} {a : Addr} {L : List Int} (h : TimesAt H a L) : SqL K H a (L.map V.int) ∨ SqT K H a (L.map V.int) := by
  rcases h with h | h
  · exact .inl (SqL.of h)
  · exact .inr (SqT.of h)
/-- entry i is no minute -/
def badAt (T n : Int) (L : List Int) (i : Nat) : Bool := decide (L.length ≤ i) || (decide (n ≤ (i : Int)) || !(decide (0 ≤ L.getD i 0) && decide (L.getD i 0 < T)))
def wrongP (T n : Int) (L : List Int) : Option Nat := (List.range (max L.length n.toNat)).find? (badAt T n L)
def goneP (T : Int) (L : List Int) (r : Row) : Int := r.l + (L.getD r.e.toNat 0 - L.getD r.s.toNat 0 - r.l) % T
def overP (T : Int) (L : List Int) (rows : List Row) : List Int := ((List.range rows.length).filter fun (i : Nat) => decide (goneP T L (rows.getD i ⟨0, 0, 0, 0⟩) > (rows.getD i ⟨0, 0, 0, 0⟩).m)).map fun (i : Nat) => (i : Int)
/-- a net, and minutes -/
structure NT (K : PySem.W.Frag) (H : Hp) (x a : Addr) (T n : Int) (rows : List Row) (L : List Int) : Prop where
  net : NetAt (He.ga K "Net") H x T n rows
  tim : TimesAt H a L
  len : L.length ≤ 1000
  t0 : 2 ≤ T
  t1 : T ≤ 60
  n0 : 0 ≤ n
  n1 : n ≤ 12
  rl : rows.length ≤ 24
  ok : ∀ r ∈ rows, r.Ok T n
def noteT (k : Nat) : HO := .xd [("place", .int (k : Nat))]
def noteN (i : Int) : HO := .xd [("number", .int i)]
def sp_check_times (K : PySem.W.Frag) : Sp := fun vs H Q E => ∃ x a T n rows L, vs = [.ref x, .ref a] ∧ NT K H x a T n rows L ∧ (wrongP T n L = none → Q .non H) ∧ ∀ k d, wrongP T n L = some k → H d = none → E (.ref (He.ga K "BadTimes")) (some d) (upd H d (noteT k))
def sp_minutes_on (K : PySem.W.Frag) : Sp := fun vs H Q _ => ∃ x a t T n rows L r, vs = [.ref x, .ref a, .ref t] ∧ NT K H x a T n rows L ∧ H t = some (.tup (Row.vs r)) ∧ r.Ok T n ∧ n ≤ L.length ∧ ∀ H', Kp [] H H' → Q (.int (goneP T L r)) H'
def sp_passed (K : PySem.W.Frag) : Sp := fun vs H Q E => ∃ x a i T n rows L, vs = [.ref x, .ref a, .int i] ∧ NT K H x a T n rows L ∧ -1000000000 ≤ i ∧ i ≤ 1000000000 ∧
  (∀ k d, wrongP T n L = some k → H d = none → E (.ref (He.ga K "BadTimes")) (some d) (upd H d (noteT k))) ∧
  (wrongP T n L = none → (0 ≤ i → i < rows.length → ∀ H', Kp [] H H' → Q (.int (goneP T L (rows.getD i.toNat ⟨0, 0, 0, 0⟩))) H') ∧ ((i < 0 ∨ rows.length ≤ i) → ∀ d, H d = none → E (.ref (He.ga K "UnknownSpan")) (some d) (upd H d (noteN i))))
def sp_broken (K : PySem.W.Frag) : Sp := fun vs H Q E => ∃ x a T n rows L, vs = [.ref x, .ref a] ∧ NT K H x a T n rows L ∧ (∀ k d, wrongP T n L = some k → H d = none → E (.ref (He.ga K "BadTimes")) (some d) (upd H d (noteT k))) ∧
  (wrongP T n L = none → ∀ l H', H l = none → Kp [] H H' → H' l = some (.lst ((overP T L rows).map V.int)) → Q (.ref l) H')
def sp_l_many : Sp := fun vs H Q _ => ∃ p, vs = [.ref p] ∧ Pool H p ∧ ∀ n H', 0 ≤ n → n ≤ 12 → Kp [p] H H' → Pool H' p → Q (.int n) H'
def sp_l_count : Sp := fun vs H Q _ => ∃ p n, vs = [.ref p, .int n] ∧ Pool H p ∧ 0 ≤ n ∧ ∀ c H', 0 ≤ c → c ≤ 24 → (n < 2 → c = 0) → Kp [p] H H' → Pool H' p → Q (.int c) H'
def sp_l_times : Sp := fun vs H Q _ => ∃ p T n, vs = [.ref p, .int T, .int n] ∧ Pool H p ∧ 2 ≤ T ∧ T ≤ 60 ∧ 0 ≤ n ∧ n ≤ 12 ∧ ∀ l (L : List Int) H', H l = none → Kp [p] H H' → Pool H' p → H' l = some (.lst (L.map V.int)) → (L.length : Int) = n → (∀ x ∈ L, 0 ≤ x ∧ x < T) → Q (.ref l) H'
def sp_l_any_spans : Sp := fun vs H Q _ => ∃ (p : Addr) (T n k : Int), vs = [.ref p, .int T, .int n, .int k] ∧ Pool H p ∧ 2 ≤ T ∧ T ≤ 60 ∧ 0 ≤ n ∧ n ≤ 12 ∧ 0 ≤ k ∧ k ≤ 24 ∧ (n < 2 → k = 0) ∧ GotSpans p T n k H Q
def sp_l_kept_spans : Sp := fun vs H Q _ => ∃ (p a : Addr) (T k : Int) (L : List Int), vs = [.ref p, .int T, .ref a, .int k] ∧ Pool H p ∧ H a = some (.lst (L.map V.int)) ∧ a ≠ p ∧ L.length ≤ 12 ∧ (∀ x ∈ L, 0 ≤ x ∧ x < T) ∧ 2 ≤ T ∧ T ≤ 60 ∧ 0 ≤ k ∧ k ≤ 24 ∧ ((L.length : Int) < 2 → k = 0) ∧ GotSpans p T L.length k H Q
def sp_l_spoilt : Sp := fun vs H Q _ => ∃ (p a : Addr) (T : Int) (L : List Int), vs = [.ref p, .int T, .ref a] ∧ Pool H p ∧ H a = some (.lst (L.map V.int)) ∧ a ≠ p ∧ L.length ≤ 12 ∧ 2 ≤ T ∧ T ≤ 60 ∧ ∀ l (M : List Int) H', H l = none → Kp [p] H H' → Pool H' p → H' l = some (.lst (M.map V.int)) → M.length ≤ 30 → Q (.ref l) H'
def optV : Option Nat → V
  | none => .non
  | some k => .int (k : Nat)
def sp_l_wrong (K : PySem.W.Frag) : Sp := fun vs H Q _ => ∃ a T n L, vs = [.int T, .int n, .ref a] ∧ TimesAt H a L ∧ L.length ≤ 1000 ∧ 0 ≤ n ∧ n ≤ 12 ∧ Q (optV (wrongP T n L)) H
def sp_l_gone (K : PySem.W.Frag) : Sp := fun vs H Q _ => ∃ a t T n L r, vs = [.int T, .ref t, .ref a] ∧ TimesAt H a L ∧ H t = some (.tup (Row.vs r)) ∧ r.Ok T n ∧ n ≤ L.length ∧ 2 ≤ T ∧ T ≤ 60 ∧ ∀ H', Kp [] H H' → Q (.int (goneP T L r)) H'
/-- a new tuple of these -/
def GotTup (H : Hp) (Q : VK) (xs : List V) : Prop := ∀ t H', H t = none → Kp [] H H' → H' t = some (.tup xs) → Q (.ref t) H'
def badV (k : Nat) : List V := [.str "bad times", .int (k : Nat), .bl true, .bl true, .bl false]
def sp_l_check_told (K : PySem.W.Frag) : Sp := fun vs H Q _ => ∃ x a T n rows L, vs = [.ref x, .ref a] ∧ NT K H x a T n rows L ∧ (wrongP T n L = none → GotTup H Q [.str "returned", .non]) ∧ ∀ k, wrongP T n L = some k → GotTup H Q (badV k)
def sp_l_broken_told (K : PySem.W.Frag) : Sp := fun vs H Q _ => ∃ x a T n rows L, vs = [.ref x, .ref a] ∧ NT K H x a T n rows L ∧
  (wrongP T n L = none → ∀ t l H', H t = none → Kp [] H H' → H' t = some (.tup [.str "returned", .ref l]) → H' l = some (.lst ((overP T L rows).map V.int)) → Q (.ref t) H') ∧ ∀ k, wrongP T n L = some k → GotTup H Q (badV k)
def sp_l_passed_told (K : PySem.W.Frag) : Sp := fun vs H Q _ => ∃ x a i T n rows L, vs = [.ref x, .ref a, .int i] ∧ NT K H x a T n rows L ∧ -1000000000 ≤ i ∧ i ≤ 1000000000 ∧
  (∀ k, wrongP T n L = some k → GotTup H Q (badV k)) ∧
  (wrongP T n L = none → (0 ≤ i → i < rows.length → GotTup H Q [.str "returned", .int (goneP T L (rows.getD i.toNat ⟨0, 0, 0, 0⟩))]) ∧ ((i < 0 ∨ rows.length ≤ i) → GotTup H Q [.str "unknown", .int i, .bl true, .bl true, .bl false]))
def gonesP (T : Int) (L : List Int) (rows : List Row) : List Int := rows.map (goneP T L)
def sp_l_passed_good (K : PySem.W.Frag) : Sp := fun vs H Q _ => ∃ x a s g f T n rows L, vs = [.ref x, .ref a, .ref s, .ref g, .int f] ∧ NT K H x a T n rows L ∧ SpansAt H s rows ∧ H g = some (.lst ((gonesP T L rows).map V.int)) ∧ 0 ≤ f ∧ f ≤ 100000000 ∧ wrongP T n L = none ∧ ∀ H', Kp [] H H' → Q (.bl true) H'
def sp_l_refused_good (K : PySem.W.Frag) : Sp := fun vs H Q _ => ∃ x a f T n rows L k, vs = [.ref x, .ref a, .int (rows.length : Nat), .int f, .int (k : Nat)] ∧ NT K H x a T n rows L ∧ 0 ≤ f ∧ f ≤ 100000000 ∧ wrongP T n L = some k ∧ ∀ H', Kp [] H H' → Q (.bl true) H'
def sp_l_times_good (K : PySem.W.Frag) : Sp := fun vs H Q _ => ∃ x a s f T n rows L, vs = [.ref x, .int T, .int n, .ref s, .ref a, .int f] ∧ NT K H x a T n rows L ∧ SpansAt H s rows ∧ 0 ≤ f ∧ f ≤ 100000000 ∧ ∀ H', Kp [] H H' → Q (.bl true) H'
def sp_l_asked (K : PySem.W.Frag) : Sp := fun vs H Q _ => ∃ x a s f sh T n rows L, vs = [.ref x, .int T, .int n, .ref s, .ref a, .int f, .int sh] ∧ NT K H x a T n rows L ∧ H a = some (.lst (L.map V.int)) ∧ SpansAt H s rows ∧ 0 ≤ f ∧ f ≤ 100000000 ∧ ∀ H', Kp [] H H' → Q (.bl true) H'
structure TimesK (K : PySem.W.Frag) : Prop where
  bb : PySem.W.exmOne K (.ref (He.ga K "BadTimes")) (.ref (He.ga K "BadTimes")) = some true
  bd : PySem.W.kitOne K (.ref (He.ga K "BadTimes")) (.ref (He.ga K "DepotError")) = some true
  bv : PySem.W.kitOne K (.ref (He.ga K "BadTimes")) (.type "ValueError") = some true
  bu : PySem.W.kitOne K (.ref (He.ga K "BadTimes")) (.ref (He.ga K "UnknownSpan")) = some false
  ub : PySem.W.exmOne K (.ref (He.ga K "UnknownSpan")) (.ref (He.ga K "BadTimes")) = some false
  uu : PySem.W.exmOne K (.ref (He.ga K "UnknownSpan")) (.ref (He.ga K "UnknownSpan")) = some true
  ud : PySem.W.kitOne K (.ref (He.ga K "UnknownSpan")) (.ref (He.ga K "DepotError")) = some true
  uv : PySem.W.kitOne K (.ref (He.ga K "UnknownSpan")) (.type "ValueError") = some true
  ut : PySem.W.kitOne K (.ref (He.ga K "UnknownSpan")) (.ref (He.ga K "BadTimes")) = some false
theorem len_check_times {K vs H Q E} (h : sp_check_times K vs H Q E) : vs.length = 2 := by obtain ⟨_, _, _, _, _, _, rfl, _⟩ := h; rfl
theorem len_minutes_on {K vs H Q E} (h : sp_minutes_on K vs H Q E) : vs.length = 3 := by obtain ⟨_, _, _, _, _, _, _, _, rfl, _⟩ := h; rfl
theorem len_passed {K vs H Q E} (h : sp_passed K vs H Q E) : vs.length = 3 := by obtain ⟨_, _, _, _, _, _, _, rfl, _⟩ := h; rfl
theorem len_broken {K vs H Q E} (h : sp_broken K vs H Q E) : vs.length = 2 := by obtain ⟨_, _, _, _, _, _, rfl, _⟩ := h; rfl
theorem len_l_many {vs H Q E} (h : sp_l_many vs H Q E) : vs.length = 1 := by obtain ⟨_, rfl, _⟩ := h; rfl
theorem len_l_count {vs H Q E} (h : sp_l_count vs H Q E) : vs.length = 2 := by obtain ⟨_, _, rfl, _⟩ := h; rfl
theorem len_l_times {vs H Q E} (h : sp_l_times vs H Q E) : vs.length = 3 := by obtain ⟨_, _, _, rfl, _⟩ := h; rfl
theorem len_l_any_spans {vs H Q E} (h : sp_l_any_spans vs H Q E) : vs.length = 4 := by obtain ⟨_, _, _, _, rfl, _⟩ := h; rfl
theorem len_l_kept_spans {vs H Q E} (h : sp_l_kept_spans vs H Q E) : vs.length = 4 := by obtain ⟨_, _, _, _, _, rfl, _⟩ := h; rfl
theorem len_l_spoilt {vs H Q E} (h : sp_l_spoilt vs H Q E) : vs.length = 3 := by obtain ⟨_, _, _, _, rfl, _⟩ := h; rfl
theorem len_l_wrong {K vs H Q E} (h : sp_l_wrong K vs H Q E) : vs.length = 3 := by obtain ⟨_, _, _, _, rfl, _⟩ := h; rfl
theorem len_l_gone {K vs H Q E} (h : sp_l_gone K vs H Q E) : vs.length = 3 := by obtain ⟨_, _, _, _, _, _, rfl, _⟩ := h; rfl
theorem len_l_check_told {K vs H Q E} (h : sp_l_check_told K vs H Q E) : vs.length = 2 := by obtain ⟨_, _, _, _, _, _, rfl, _⟩ := h; rfl
theorem len_l_broken_told {K vs H Q E} (h : sp_l_broken_told K vs H Q E) : vs.length = 2 := by obtain ⟨_, _, _, _, _, _, rfl, _⟩ := h; rfl
theorem len_l_passed_told {K vs H Q E} (h : sp_l_passed_told K vs H Q E) : vs.length = 3 := by obtain ⟨_, _, _, _, _, _, _, rfl, _⟩ := h; rfl
theorem len_l_passed_good {K vs H Q E} (h : sp_l_passed_good K vs H Q E) : vs.length = 5 := by obtain ⟨_, _, _, _, _, _, _, _, _, rfl, _⟩ := h; rfl
theorem len_l_refused_good {K vs H Q E} (h : sp_l_refused_good K vs H Q E) : vs.length = 5 := by obtain ⟨_, _, _, _, _, _, _, _, rfl, _⟩ := h; rfl
theorem len_l_times_good {K vs H Q E} (h : sp_l_times_good K vs H Q E) : vs.length = 6 := by obtain ⟨_, _, _, _, _, _, _, _, rfl, _⟩ := h; rfl
theorem len_l_asked {K vs H Q E} (h : sp_l_asked K vs H Q E) : vs.length = 7 := by obtain ⟨_, _, _, _, _, _, _, _, _, rfl, _⟩ := h; rfl
end Cl

/-! ## Tx -/

namespace Cl
open PySem PySem.Spec PyProof.Rows L2
abbrev N_is_window : List Str := ["round_length", "least", "most", "limit"]
def t_is_window (K : PySem.W.Frag) : TS :=
  (tRet (tAndV (tChain3 oLe oLe oLe (tC (.int 0)) (tVar 1) (tVar 2) (tOp oSub (tOp oAdd (tVar 1) (tVar 0)) (tC (.int 1)))) (tOp oLe (tVar 2) (tVar 3))))
abbrev N_is_span : List Str := ["round_length", "events", "span", "start", "end", "least", "most"]
def t_is_span (K : PySem.W.Frag) : TS :=
  (tSeq (tIfS (tTest (tOp rNe (tCB (rLen K) (tCons (tVar 2) tNil)) (tC (.int 4)))) (tRet (tC (.bl false))) tNext)
    (tSeq (tAsg (tVar 2) (gTup K 4 (gCons (gName 3) (gCons (gName 4) (gCons (gName 5) (gCons (gName 6) gNil))))))
    (tSeq (tIfS (tOr (tNot (tTest (tChain oLe oLt (tC (.int 0)) (tVar 3) (tVar 1)))) (tOr (tNot (tTest (tChain oLe oLt (tC (.int 0)) (tVar 4) (tVar 1)))) (tTest (tOp rEq (tVar 3) (tVar 4))))) (tRet (tC (.bl false))) tNext)
    (tRet (tCall (sp_is_window) [] E0 (tCons (tVar 0) (tCons (tVar 5) (tCons (tVar 6) (tCons (tC (.int 999)) tNil)))))))))
abbrev N_Net___init__ : List Str := ["self", "round_length", "events", "spans", "place", "span"]
def t_Net___init__ (K : PySem.W.Frag) : TS :=
  (tSeq (tIfS (tNot (tTest (tChain oLe oLe (tC (.int 2)) (tVar 1) (tC (.int 60))))) tNever tNext)
    (tSeq (tIfS (tNot (tTest (tChain oLe oLe (tC (.int 0)) (tVar 2) (tC (.int 12))))) tNever tNext)
    (tSeq (tIfS (tTest (tOp oGt (tCB (rLen K) (tCons (tVar 3) tNil)) (tC (.int 24)))) tNever tNext)
    (tSeq (tFor (iEnum K (tCons (tVar 3) tNil)) (gTup K 2 (gCons (gName 4) (gCons (gName 5) gNil))) (tIfS (tNot (tB (tCall (sp_is_span K) [] E0 (tCons (tVar 1) (tCons (tVar 2) (tCons (tVar 5) tNil)))))) tNever tNext))
    (tSeq (sFld K (tVar 0) (tVar 1) "round_length")
    (tSeq (sFld K (tVar 0) (tVar 2) "events")
    (sFld K (tVar 0) (tCB (rTupOf K) (tCons (tLc (iList K (tVar 3)) (gName 5) tYes (tCB (rTupOf K) (tCons (tVar 5) tNil)) [5]) tNil)) "spans")))))))
abbrev N_check_times : List Str := ["net", "times", "index"]
def t_check_times (K : PySem.W.Frag) (E : XK) : TS :=
  (tFor (iRng1 (tCons (tCB rMax2 (tCons (tCB (rLen K) (tCons (tVar 1) tNil)) (tCons (tFld K (tVar 0) "events") tNil))) tNil)) (gName 2) (tIfS (tOr (tTest (tOp oGe (tVar 2) (tCB (rLen K) (tCons (tVar 1) tNil)))) (tOr (tTest (tOp oGe (tVar 2) (tFld K (tVar 0) "events"))) (tNot (tTest (tChain oLe oLt (tC (.int 0)) (tOp (rIx K) (tVar 1) (tVar 2)) (tFld K (tVar 0) "round_length")))))) (tRaise (tMkE (He.ga K "BadTimes") ["place"] (tCons (tVar 2) tNil)) (W0 E)) tNext))
abbrev N_minutes_on : List Str := ["net", "times", "span", "start", "end", "least"]
def t_minutes_on (K : PySem.W.Frag) : TS :=
  (tSeq (tAsg (tSl (rSlT K) (tVar 2) tNoPart (tPart (tC (.int 3)))) (gTup K 3 (gCons (gName 3) (gCons (gName 4) (gCons (gName 5) gNil)))))
    (tRet (tOp oAdd (tVar 5) (tOp oMod (tOp oSub (tOp oSub (tOp (rIx K) (tVar 1) (tVar 4)) (tOp (rIx K) (tVar 1) (tVar 3))) (tVar 5)) (tFld K (tVar 0) "round_length")))))
abbrev N_passed : List Str := ["net", "times", "number"]
def t_passed (K : PySem.W.Frag) (E : XK) : TS :=
  (tSeq (tDrop (tCallS (sp_check_times K) (WE (W0 E)) (tCons (tVar 0) (tCons (tVar 1) tNil))))
    (tSeq (tIfS (tNot (tTest (tChain oLe oLt (tC (.int 0)) (tVar 2) (tCB (rLen K) (tCons (tFld K (tVar 0) "spans") tNil))))) (tRaise (tMkE (He.ga K "UnknownSpan") ["number"] (tCons (tVar 2) tNil)) (W0 E)) tNext)
    (tRet (tCall (sp_minutes_on K) [] E0 (tCons (tVar 0) (tCons (tVar 1) (tCons (tOp (rIxT K) (tFld K (tVar 0) "spans") (tVar 2)) tNil)))))))
abbrev N_broken : List Str := ["net", "times", "number", "span"]
def t_broken (K : PySem.W.Frag) (E : XK) : TS :=
  (tSeq (tDrop (tCallS (sp_check_times K) (WE (W0 E)) (tCons (tVar 0) (tCons (tVar 1) tNil))))
    (tRet (tLc (iEnumT K (tCons (tFld K (tVar 0) "spans") tNil)) (gTup K 2 (gCons (gName 2) (gCons (gName 3) gNil))) (tTest (tOp oGt (tCall (sp_minutes_on K) [] E0 (tCons (tVar 0) (tCons (tVar 1) (tCons (tVar 3) tNil)))) (tOp (rIxT K) (tVar 3) (tC (.int 3))))) (tVar 2) [2, 3])))
abbrev N_l_length : List Str := ["_law_pool_here"]
def t_l_length (K : PySem.W.Frag) : TS :=
  (tSeq (tIfS (tTest (tOp rEq (tCall (sp_l_take) [] E0 (tCons (tVar 0) (tCons (tC (.int 3)) tNil))) (tC (.int 0)))) (tRet (tOp oAdd (tC (.int 2)) (tCall (sp_l_take) [] E0 (tCons (tVar 0) (tCons (tC (.int 59)) tNil))))) tNext)
    (tRet (tOp (rIxL K) (tLst (tCons (tC (.int 2)) (tCons (tC (.int 3)) (tCons (tC (.int 5)) (tCons (tC (.int 10)) (tCons (tC (.int 24)) (tCons (tC (.int 60)) tNil))))))) (tCall (sp_l_take) [] E0 (tCons (tVar 0) (tCons (tC (.int 6)) tNil))))))
abbrev N_l_many : List Str := ["_law_pool_here", "_law_way"]
def t_l_many (K : PySem.W.Frag) : TS :=
  (tSeq (tAsg (tCall (sp_l_take) [] E0 (tCons (tVar 0) (tCons (tC (.int 10)) tNil))) (gName 1))
    (tSeq (tIfS (tTest (tOp rEq (tVar 1) (tC (.int 0)))) (tRet (tCall (sp_l_take) [] E0 (tCons (tVar 0) (tCons (tC (.int 2)) tNil)))) tNext)
    (tSeq (tIfS (tTest (tOp rEq (tVar 1) (tC (.int 1)))) (tRet (tOp oAdd (tC (.int 7)) (tCall (sp_l_take) [] E0 (tCons (tVar 0) (tCons (tC (.int 6)) tNil))))) tNext)
    (tRet (tOp oAdd (tC (.int 2)) (tCall (sp_l_take) [] E0 (tCons (tVar 0) (tCons (tC (.int 5)) tNil))))))))
abbrev N_l_count : List Str := ["_law_pool_here", "_law_many_here"]
def t_l_count (K : PySem.W.Frag) : TS :=
  (tSeq (tIfS (tTest (tOp oLt (tVar 1) (tC (.int 2)))) (tRet (tC (.int 0))) tNext)
    (tSeq (tIfS (tTest (tOp rEq (tCall (sp_l_take) [] E0 (tCons (tVar 0) (tCons (tC (.int 10)) tNil))) (tC (.int 0)))) (tRet (tOp oAdd (tC (.int 8)) (tCall (sp_l_take) [] E0 (tCons (tVar 0) (tCons (tC (.int 17)) tNil))))) tNext)
    (tRet (tCall (sp_l_take) [] E0 (tCons (tVar 0) (tCons (tC (.int 8)) tNil))))))
abbrev N_l_any_spans : List Str := ["_law_pool_here", "_law_length_here", "_law_many_here", "_law_count_here", "_law_spans", "_law_k", "_law_start", "_law_end", "_law_room", "_law_low"]
def t_l_any_spans (K : PySem.W.Frag) : TS :=
  (tSeq (tAsg (tLst tNil) (gName 4))
    (tSeq (tFor (iRng1 (tCons (tVar 3) tNil)) (gName 5) (tSeq (tAsg (tCall (sp_l_take) [] E0 (tCons (tVar 0) (tCons (tVar 2) tNil))) (gName 6))
    (tSeq (tAsg (tOp oMod (tCB rInt1 (tCons (tOp oAdd (tOp oAdd (tVar 6) (tC (.int 1))) (tCall (sp_l_take) [] E0 (tCons (tVar 0) (tCons (tOp oSub (tVar 2) (tC (.int 1))) tNil)))) tNil)) (tVar 2)) (gName 7))
    (tSeq (tAsg (tOp oMul (tC (.int 3)) (tVar 1)) (gName 8))
    (tSeq (tIfS (tTest (tOp rEq (tCall (sp_l_take) [] E0 (tCons (tVar 0) (tCons (tC (.int 6)) tNil))) (tC (.int 0)))) (tAsg (tC (.int 1000)) (gName 8)) tNext)
    (tSeq (tAsg (tCall (sp_l_take) [] E0 (tCons (tVar 0) (tCons (tVar 8) tNil))) (gName 9))
    (tSeq (tDrop (tBM K "list" rAppend (tVar 4) (tCons (tTup (tCons (tVar 6) (tCons (tVar 7) (tCons (tVar 9) (tCons (tOp oAdd (tVar 9) (tCall (sp_l_take) [] E0 (tCons (tVar 0) (tCons (tCB rMin2 (tCons (tVar 1) (tCons (tOp oSub (tC (.int 1000)) (tVar 9)) tNil))) tNil)))) tNil))))) tNil)))
    (tIfS (tTest (tOp rEq (tCall (sp_l_take) [] E0 (tCons (tVar 0) (tCons (tC (.int 8)) tNil))) (tC (.int 0)))) (tAsg (tOp (rIxL K) (tVar 4) (tCall (sp_l_take) [] E0 (tCons (tVar 0) (tCons (tOp oAdd (tVar 5) (tC (.int 1))) tNil)))) (gSub (tVar 4) (tVar 5) rSetL)) tNext))))))))
    (tRet (tVar 4))))
abbrev N_l_times : List Str := ["_law_pool_here", "_law_length_here", "_law_many_here", "_law_k"]
def t_l_times (K : PySem.W.Frag) : TS :=
  (tRet (tLc (iRng1 (tCons (tVar 2) tNil)) (gName 3) tYes (tCall (sp_l_take) [] E0 (tCons (tVar 0) (tCons (tVar 1) tNil))) [3]))
abbrev N_l_kept_spans : List Str := ["_law_pool_here", "_law_length_here", "_law_minutes", "_law_count_here", "_law_spans", "_law_k", "_law_start", "_law_end", "_law_rest", "_law_turns", "_law_gone_here", "_law_below", "_law_above"]
def t_l_kept_spans (K : PySem.W.Frag) : TS :=
  (tSeq (tAsg (tLst tNil) (gName 4))
    (tSeq (tFor (iRng1 (tCons (tVar 3) tNil)) (gName 5) (tSeq (tAsg (tCall (sp_l_take) [] E0 (tCons (tVar 0) (tCons (tCB (rLen K) (tCons (tVar 2) tNil)) tNil))) (gName 6))
    (tSeq (tAsg (tOp oMod (tCB rInt1 (tCons (tOp oAdd (tOp oAdd (tVar 6) (tC (.int 1))) (tCall (sp_l_take) [] E0 (tCons (tVar 0) (tCons (tOp oSub (tCB (rLen K) (tCons (tVar 2) tNil)) (tC (.int 1))) tNil)))) tNil)) (tCB (rLen K) (tCons (tVar 2) tNil))) (gName 7))
    (tSeq (tAsg (tOp oMod (tCB rInt1 (tCons (tOp oSub (tOp (rIxL K) (tVar 2) (tVar 7)) (tOp (rIxL K) (tVar 2) (tVar 6))) tNil)) (tVar 1)) (gName 8))
    (tSeq (tAsg (tC (.int 3)) (gName 9))
    (tSeq (tIfS (tTest (tOp rEq (tCall (sp_l_take) [] E0 (tCons (tVar 0) (tCons (tC (.int 6)) tNil))) (tC (.int 0)))) (tAsg (tOp oAdd (tC (.int 1)) (tOp oDiv (tOp oSub (tC (.int 999)) (tVar 8)) (tVar 1))) (gName 9)) tNext)
    (tSeq (tAsg (tOp oAdd (tVar 8) (tOp oMul (tVar 1) (tCall (sp_l_take) [] E0 (tCons (tVar 0) (tCons (tVar 9) tNil))))) (gName 10))
    (tSeq (tAsg (tCall (sp_l_take) [] E0 (tCons (tVar 0) (tCons (tOp oAdd (tC (.int 1)) (tCB rMin2 (tCons (tOp oSub (tVar 1) (tC (.int 1))) (tCons (tVar 10) tNil)))) tNil))) (gName 11))
    (tSeq (tAsg (tCall (sp_l_take) [] E0 (tCons (tVar 0) (tCons (tOp oAdd (tC (.int 1)) (tCB rMin2 (tCons (tOp oSub (tOp oSub (tVar 1) (tC (.int 1))) (tVar 11)) (tCons (tOp oSub (tC (.int 999)) (tVar 10)) tNil)))) tNil))) (gName 12))
    (tSeq (tDrop (tBM K "list" rAppend (tVar 4) (tCons (tTup (tCons (tVar 6) (tCons (tVar 7) (tCons (tOp oSub (tVar 10) (tVar 11)) (tCons (tOp oAdd (tVar 10) (tVar 12)) tNil))))) tNil)))
    (tIfS (tTest (tOp rEq (tCall (sp_l_take) [] E0 (tCons (tVar 0) (tCons (tC (.int 8)) tNil))) (tC (.int 0)))) (tAsg (tOp (rIxL K) (tVar 4) (tCall (sp_l_take) [] E0 (tCons (tVar 0) (tCons (tOp oAdd (tVar 5) (tC (.int 1))) tNil)))) (gSub (tVar 4) (tVar 5) rSetL)) tNext)))))))))))
    (tRet (tVar 4))))
abbrev N_l_spoilt : List Str := ["_law_pool_here", "_law_length_here", "_law_times_here", "_law_far", "_law_wrong_here", "_law_way", "_law_at", "_law_row", "_law_k"]
def t_l_spoilt (K : PySem.W.Frag) : TS :=
  (tSeq (tAsg (tOp (rIxL K) (tLst (tCons (tC (.int 0)) (tCons (tC (.int 0)) (tCons (tC (.int 1)) (tCons (tC (.int 60)) (tCons (tOp oPow (tC (.int 10)) (tC (.int 8))) tNil)))))) (tCall (sp_l_take) [] E0 (tCons (tVar 0) (tCons (tC (.int 5)) tNil)))) (gName 3))
    (tSeq (tAsg (tOp (rIxL K) (tLst (tCons (tOp oSub (tUn uNeg (tC (.int 1))) (tVar 3)) (tCons (tOp oAdd (tVar 1) (tVar 3)) tNil))) (tCall (sp_l_take) [] E0 (tCons (tVar 0) (tCons (tC (.int 2)) tNil)))) (gName 4))
    (tSeq (tAsg (tCall (sp_l_take) [] E0 (tCons (tVar 0) (tCons (tC (.int 8)) tNil))) (gName 5))
    (tSeq (tAsg (tCall (sp_l_take) [] E0 (tCons (tVar 0) (tCons (tOp oAdd (tCB (rLen K) (tCons (tVar 2) tNil)) (tC (.int 1))) tNil))) (gName 6))
    (tSeq (tIfS (tTest (tOp rEq (tVar 5) (tC (.int 0)))) (tRet (tSl (rSlL K) (tVar 2) tNoPart (tPart (tVar 6)))) tNext)
    (tSeq (tIfS (tTest (tOp rEq (tVar 5) (tC (.int 1)))) (tRet (tOp rCat (tVar 2) (tLc (iRng1 (tCons (tOp oAdd (tC (.int 1)) (tCall (sp_l_take) [] E0 (tCons (tVar 0) (tCons (tC (.int 3)) tNil)))) tNil)) (gName 8) tYes (tCall (sp_l_take) [] E0 (tCons (tVar 0) (tCons (tVar 1) tNil))) [8]))) tNext)
    (tSeq (tIfS (tTest (tOp rEq (tVar 5) (tC (.int 2)))) (tRet (tOp rCat (tOp rCat (tSl (rSlL K) (tVar 2) tNoPart (tPart (tVar 6))) (tLst (tCons (tVar 4) tNil))) (tSl (rSlL K) (tVar 2) (tPart (tVar 6)) tNoPart))) tNext)
    (tSeq (tIfS (tAnd (tTest (tOp oLt (tVar 5) (tC (.int 5)))) (tTest (tOp oLt (tVar 6) (tCB (rLen K) (tCons (tVar 2) tNil))))) (tSeq (tAsg (tOp rCat (tOp rCat (tSl (rSlL K) (tVar 2) tNoPart (tPart (tVar 6))) (tLst (tCons (tVar 4) tNil))) (tSl (rSlL K) (tVar 2) (tPart (tOp oAdd (tVar 6) (tC (.int 1)))) tNoPart)) (gName 7))
    (tSeq (tIfS (tTest (tOp rEq (tVar 5) (tC (.int 4)))) (tAsg (tVar 1) (gSub (tVar 7) (tOp oSub (tCB (rLen K) (tCons (tVar 7) tNil)) (tC (.int 1))) rSetL)) tNext)
    (tRet (tVar 7)))) tNext)
    (tSeq (tIfS (tTest (tOp rEq (tVar 5) (tC (.int 7)))) (tRet (tLc (iRng1 (tCons (tCall (sp_l_take) [] E0 (tCons (tVar 0) (tCons (tC (.int 15)) tNil))) tNil)) (gName 8) tYes (tOp oSub (tCall (sp_l_take) [] E0 (tCons (tVar 0) (tCons (tOp oAdd (tOp oMul (tC (.int 2)) (tOp oPow (tC (.int 10)) (tC (.int 9)))) (tC (.int 1))) tNil))) (tOp oPow (tC (.int 10)) (tC (.int 9)))) [8])) tNext)
    (tRet (tCB (rListOf K) (tCons (tVar 2) tNil))))))))))))
abbrev N_l_wrong : List Str := ["_law_length_here", "_law_many_here", "_law_times_here", "_law_k"]
def t_l_wrong (K : PySem.W.Frag) : TS :=
  (tSeq (tFor (iRng1 (tCons (tCB rMax2 (tCons (tVar 1) (tCons (tCB (rLen K) (tCons (tVar 2) tNil)) tNil))) tNil)) (gName 3) (tSeq (tIfS (tOr (tTest (tOp oGe (tVar 3) (tVar 1))) (tTest (tOp oGe (tVar 3) (tCB (rLen K) (tCons (tVar 2) tNil))))) (tRet (tVar 3)) tNext)
    (tIfS (tOr (tTest (tOp oLt (tOp (rIx K) (tVar 2) (tVar 3)) (tC (.int 0)))) (tTest (tOp oGt (tOp (rIx K) (tVar 2) (tVar 3)) (tOp oSub (tVar 0) (tC (.int 1)))))) (tRet (tVar 3)) tNext)))
    (tRet (tC .non)))
abbrev N_l_gone : List Str := ["_law_length_here", "_law_span", "_law_times_here", "_law_window", "_law_fits", "_law_k", "_law_gone_here"]
def t_l_gone (K : PySem.W.Frag) : TS :=
  (tSeq (tAsg (tLc (iRng1 (tCons (tVar 0) tNil)) (gName 5) tYes (tOp oAdd (tOp (rIxT K) (tVar 1) (tC (.int 2))) (tVar 5)) [5]) (gName 3))
    (tSeq (tAsg (tLc (iList K (tVar 3)) (gName 6) (tTest (tOp rEq (tOp oMod (tCB rInt1 (tCons (tOp oSub (tOp oAdd (tVar 6) (tOp (rIx K) (tVar 2) (tOp (rIxT K) (tVar 1) (tC (.int 0))))) (tOp (rIx K) (tVar 2) (tOp (rIxT K) (tVar 1) (tC (.int 1))))) tNil)) (tVar 0)) (tC (.int 0)))) (tVar 6) [6]) (gName 4))
    (tRet (tOp (rIxL K) (tVar 4) (tC (.int 0))))))
abbrev N_l_check_told : List Str := ["_law_net", "_law_times_here", "_law_told", "_law_got", "e"]
def t_l_check_told (K : PySem.W.Frag) : TS :=
  (tSeq (tAsg (tC .non) (gName 2))
    (tSeq (tAsg (tC .non) (gName 3))
    (tSeq (tTryA K (fun W => (tAsg (tCallS (sp_check_times K) (WE W) (tCons (tVar 0) (tCons (tVar 1) tNil))) (gName 3))) WF [(.ref (He.ga K "BadTimes"), 4, fun a cls d => (tAsg (tTup (tCons (tC (.str "bad times")) (tCons (tXf a cls d (He.ga K "BadTimes") "place" (tVar 4)) (tCons (tCB (rIsX K (He.ga K "BadTimes") a cls d) (tCons (tVar 4) (tCons (tC (.ref (He.ga K "DepotError"))) tNil))) (tCons (tCB (rIsX K (He.ga K "BadTimes") a cls d) (tCons (tVar 4) (tCons (tC (.ty "ValueError")) tNil))) (tCons (tCB (rIsX K (He.ga K "BadTimes") a cls d) (tCons (tVar 4) (tCons (tC (.ref (He.ga K "UnknownSpan"))) tNil))) tNil)))))) (gName 2)))])
    (tSeq (tIfS (tTest (tOp rIsN (tVar 2) (tC .non))) (tAsg (tTup (tCons (tC (.str "returned")) (tCons (tVar 3) tNil))) (gName 2)) tNext)
    (tRet (tVar 2))))))
abbrev N_l_broken_told : List Str := ["_law_net", "_law_times_here", "_law_told", "_law_got", "e"]
def t_l_broken_told (K : PySem.W.Frag) : TS :=
  (tSeq (tAsg (tC .non) (gName 2))
    (tSeq (tAsg (tC .non) (gName 3))
    (tSeq (tTryA K (fun W => (tAsg (tCallS (sp_broken K) (WE W) (tCons (tVar 0) (tCons (tVar 1) tNil))) (gName 3))) WF [(.ref (He.ga K "BadTimes"), 4, fun a cls d => (tAsg (tTup (tCons (tC (.str "bad times")) (tCons (tXf a cls d (He.ga K "BadTimes") "place" (tVar 4)) (tCons (tCB (rIsX K (He.ga K "BadTimes") a cls d) (tCons (tVar 4) (tCons (tC (.ref (He.ga K "DepotError"))) tNil))) (tCons (tCB (rIsX K (He.ga K "BadTimes") a cls d) (tCons (tVar 4) (tCons (tC (.ty "ValueError")) tNil))) (tCons (tCB (rIsX K (He.ga K "BadTimes") a cls d) (tCons (tVar 4) (tCons (tC (.ref (He.ga K "UnknownSpan"))) tNil))) tNil)))))) (gName 2)))])
    (tSeq (tIfS (tTest (tOp rIsN (tVar 2) (tC .non))) (tAsg (tTup (tCons (tC (.str "returned")) (tCons (tVar 3) tNil))) (gName 2)) tNext)
    (tRet (tVar 2))))))
abbrev N_l_passed_told : List Str := ["_law_net", "_law_times_here", "_law_number", "_law_told", "_law_got", "e", "why", "_law_kinds"]
def t_l_passed_told (K : PySem.W.Frag) : TS :=
  (tSeq (tAsg (tC .non) (gName 3))
    (tSeq (tAsg (tC .non) (gName 4))
    (tSeq (tTryA K (fun W => (tAsg (tCallS (sp_passed K) (WE W) (tCons (tVar 0) (tCons (tVar 1) (tCons (tVar 2) tNil)))) (gName 4))) WF [(.ref (He.ga K "BadTimes"), 5, fun a cls d => (tAsg (tTup (tCons (tC (.str "bad times")) (tCons (tXf a cls d (He.ga K "BadTimes") "place" (tVar 5)) (tCons (tCB (rIsX K (He.ga K "BadTimes") a cls d) (tCons (tVar 5) (tCons (tC (.ref (He.ga K "DepotError"))) tNil))) (tCons (tCB (rIsX K (He.ga K "BadTimes") a cls d) (tCons (tVar 5) (tCons (tC (.ty "ValueError")) tNil))) (tCons (tCB (rIsX K (He.ga K "BadTimes") a cls d) (tCons (tVar 5) (tCons (tC (.ref (He.ga K "UnknownSpan"))) tNil))) tNil)))))) (gName 3))), (.ref (He.ga K "UnknownSpan"), 6, fun a cls d => (tSeq (tAsg (tTup (tCons (tCB (rIsX K (He.ga K "UnknownSpan") a cls d) (tCons (tVar 6) (tCons (tC (.ref (He.ga K "DepotError"))) tNil))) (tCons (tCB (rIsX K (He.ga K "UnknownSpan") a cls d) (tCons (tVar 6) (tCons (tC (.ty "ValueError")) tNil))) (tCons (tCB (rIsX K (He.ga K "UnknownSpan") a cls d) (tCons (tVar 6) (tCons (tC (.ref (He.ga K "BadTimes"))) tNil))) tNil)))) (gName 7))
    (tAsg (tOp (rCatT K) (tTup (tCons (tC (.str "unknown")) (tCons (tXf a cls d (He.ga K "UnknownSpan") "number" (tVar 6)) tNil))) (tVar 7)) (gName 3))))])
    (tSeq (tIfS (tTest (tOp rIsN (tVar 3) (tC .non))) (tAsg (tTup (tCons (tC (.str "returned")) (tCons (tVar 4) tNil))) (gName 3)) tNext)
    (tRet (tVar 3))))))
abbrev N_l_passed_good : List Str := ["_law_net", "_law_handed", "_law_spans", "_law_gone_here", "_law_far", "_law_k", "_law_number"]
def t_l_passed_good (K : PySem.W.Frag) : TS :=
  (tSeq (tFor (iRng1 (tCons (tCB (rLen K) (tCons (tVar 2) tNil)) tNil)) (gName 5) (tIfS (tNot (tB (tCall (sp_l_same) [] E0 (tCons (tCall (sp_l_passed_told K) [] E0 (tCons (tVar 0) (tCons (tVar 1) (tCons (tVar 5) tNil)))) (tCons (tTup (tCons (tC (.str "returned")) (tCons (tOp (rIxL K) (tVar 3) (tVar 5)) tNil))) tNil))))) (tRet (tC (.bl false))) tNext))
    (tSeq (tFor (iList K (tLst (tCons (tOp oSub (tUn uNeg (tC (.int 1))) (tVar 4)) (tCons (tOp oAdd (tCB (rLen K) (tCons (tVar 2) tNil)) (tVar 4)) tNil)))) (gName 6) (tIfS (tNot (tB (tCall (sp_l_same) [] E0 (tCons (tCall (sp_l_passed_told K) [] E0 (tCons (tVar 0) (tCons (tVar 1) (tCons (tVar 6) tNil)))) (tCons (tTup (tCons (tC (.str "unknown")) (tCons (tVar 6) (tCons (tC (.bl true)) (tCons (tC (.bl true)) (tCons (tC (.bl false)) tNil)))))) tNil))))) (tRet (tC (.bl false))) tNext))
    (tRet (tC (.bl true)))))
abbrev N_l_refused_good : List Str := ["_law_net", "_law_handed", "_law_count_here", "_law_far", "_law_place", "_law_due", "_law_number"]
def t_l_refused_good (K : PySem.W.Frag) : TS :=
  (tSeq (tAsg (tTup (tCons (tC (.str "bad times")) (tCons (tVar 4) (tCons (tC (.bl true)) (tCons (tC (.bl true)) (tCons (tC (.bl false)) tNil)))))) (gName 5))
    (tSeq (tIfS (tOr (tNot (tB (tCall (sp_l_same) [] E0 (tCons (tCall (sp_l_check_told K) [] E0 (tCons (tVar 0) (tCons (tVar 1) tNil))) (tCons (tVar 5) tNil))))) (tNot (tB (tCall (sp_l_same) [] E0 (tCons (tCall (sp_l_broken_told K) [] E0 (tCons (tVar 0) (tCons (tVar 1) tNil))) (tCons (tVar 5) tNil)))))) (tRet (tC (.bl false))) tNext)
    (tSeq (tFor (iList K (tOp rCat (tLstRg (tRg1 (tVar 2))) (tLst (tCons (tOp oSub (tUn uNeg (tC (.int 1))) (tVar 3)) (tCons (tOp oAdd (tVar 2) (tVar 3)) tNil))))) (gName 6) (tIfS (tNot (tB (tCall (sp_l_same) [] E0 (tCons (tCall (sp_l_passed_told K) [] E0 (tCons (tVar 0) (tCons (tVar 1) (tCons (tVar 6) tNil)))) (tCons (tVar 5) tNil))))) (tRet (tC (.bl false))) tNext))
    (tRet (tC (.bl true))))))
abbrev N_l_times_good : List Str := ["_law_net", "_law_length_here", "_law_many_here", "_law_spans", "_law_handed", "_law_far", "_law_place", "_law_gone_here", "_law_over", "_law_got", "_law_span", "_law_k"]
def t_l_times_good (K : PySem.W.Frag) : TS :=
  (tSeq (tAsg (tCall (sp_l_wrong K) [] E0 (tCons (tVar 1) (tCons (tVar 2) (tCons (tVar 4) tNil)))) (gName 6))
    (tSeq (tIfS (tTest (tOp rNotN (tVar 6) (tC .non))) (tRet (tCall (sp_l_refused_good K) [] E0 (tCons (tVar 0) (tCons (tVar 4) (tCons (tCB (rLen K) (tCons (tVar 3) tNil)) (tCons (tVar 5) (tCons (tVar 6) tNil))))))) tNext)
    (tSeq (tAsg (tLc (iList K (tVar 3)) (gName 10) tYes (tCall (sp_l_gone K) [] E0 (tCons (tVar 1) (tCons (tVar 10) (tCons (tVar 4) tNil)))) [10]) (gName 7))
    (tSeq (tAsg (tLc (iRng1 (tCons (tCB (rLen K) (tCons (tVar 3) tNil)) tNil)) (gName 11) (tTest (tOp oGt (tOp (rIxL K) (tVar 7) (tVar 11)) (tOp (rIxT K) (tOp (rIxL K) (tVar 3) (tVar 11)) (tC (.int 3))))) (tVar 11) [11]) (gName 8))
    (tSeq (tIfS (tNot (tB (tCall (sp_l_same) [] E0 (tCons (tCall (sp_l_check_told K) [] E0 (tCons (tVar 0) (tCons (tVar 4) tNil))) (tCons (tTup (tCons (tC (.str "returned")) (tCons (tC .non) tNil))) tNil))))) (tRet (tC (.bl false))) tNext)
    (tSeq (tIfS (tNot (tB (tCall (sp_l_same) [] E0 (tCons (tCall (sp_l_broken_told K) [] E0 (tCons (tVar 0) (tCons (tVar 4) tNil))) (tCons (tTup (tCons (tC (.str "returned")) (tCons (tVar 8) tNil))) tNil))))) (tRet (tC (.bl false))) tNext)
    (tSeq (tAsg (tCallS (sp_broken K) (WE WF) (tCons (tVar 0) (tCons (tVar 4) tNil))) (gName 9))
    (tSeq (tDrop (tBM K "list" rAppend (tVar 9) (tCons (tCB (rLen K) (tCons (tVar 3) tNil)) tNil)))
    (tSeq (tIfS (tNot (tB (tCall (sp_l_same) [] E0 (tCons (tCall (sp_l_broken_told K) [] E0 (tCons (tVar 0) (tCons (tVar 4) tNil))) (tCons (tTup (tCons (tC (.str "returned")) (tCons (tVar 8) tNil))) tNil))))) (tRet (tC (.bl false))) tNext)
    (tRet (tCall (sp_l_passed_good K) [] E0 (tCons (tVar 0) (tCons (tVar 4) (tCons (tVar 3) (tCons (tVar 7) (tCons (tVar 5) tNil))))))))))))))))
abbrev N_l_asked : List Str := ["_law_net", "_law_length_here", "_law_many_here", "_law_spans", "_law_times_here", "_law_far", "_law_shape", "_law_handed", "_law_frozen"]
def t_l_asked (K : PySem.W.Frag) : TS :=
  (tSeq (tAsg (tCB (rListOf K) (tCons (tVar 4) tNil)) (gName 7))
    (tSeq (tIfS (tTest (tOp rEq (tVar 6) (tC (.int 1)))) (tSeq (tAsg (tCB (rTupOf K) (tCons (tVar 4) tNil)) (gName 8))
    (tRet (tCall (sp_l_times_good K) [] E0 (tCons (tVar 0) (tCons (tVar 1) (tCons (tVar 2) (tCons (tVar 3) (tCons (tVar 8) (tCons (tVar 5) tNil))))))))) tNext)
    (tRet (tAndV (tCall (sp_l_times_good K) [] E0 (tCons (tVar 0) (tCons (tVar 1) (tCons (tVar 2) (tCons (tVar 3) (tCons (tVar 7) (tCons (tVar 5) tNil))))))) (tCall (sp_l_same) [] E0 (tCons (tVar 7) (tCons (tVar 4) tNil)))))))
abbrev N_law : List Str := ["_law_script", "_law_pool_here", "_law_length_here", "_law_many_here", "_law_minutes", "_law_count_here", "_law_net", "_law_times_here", "_law_shape", "_law_far", "_law_row", "_law_spans", "_law_k"]
def t_law (K : PySem.W.Frag) : TS :=
  (tSeq (tAsg (tCall (sp_l_pool K) [] E0 (tCons (tVar 0) (tCons (tC (.int 0)) tNil))) (gName 1))
    (tSeq (tAsg (tCall (sp_l_length) [] E0 (tCons (tVar 1) tNil)) (gName 2))
    (tSeq (tAsg (tCall (sp_l_many) [] E0 (tCons (tVar 1) tNil)) (gName 3))
    (tSeq (tAsg (tCall (sp_l_times) [] E0 (tCons (tVar 1) (tCons (tVar 2) (tCons (tVar 3) tNil)))) (gName 4))
    (tSeq (tAsg (tCall (sp_l_count) [] E0 (tCons (tVar 1) (tCons (tVar 3) tNil))) (gName 5))
    (tSeq (tIfS (tTest (tOp rEq (tCall (sp_l_take) [] E0 (tCons (tVar 1) (tCons (tC (.int 2)) tNil))) (tC (.int 0)))) (tAsg (tCall (sp_l_kept_spans) [] E0 (tCons (tVar 1) (tCons (tVar 2) (tCons (tVar 4) (tCons (tVar 5) tNil))))) (gName 11)) (tAsg (tCall (sp_l_any_spans) [] E0 (tCons (tVar 1) (tCons (tVar 2) (tCons (tVar 3) (tCons (tVar 5) tNil))))) (gName 11)))
    (tSeq (tAsg (tMake (He.ga K "Net") (sp_Net___init__ K) [] E0 (tCons (tVar 2) (tCons (tVar 3) (tCons (tCB (rListOf K) (tCons (tVar 11) tNil)) tNil)))) (gName 6))
    (tSeq (tAsg (tCall (sp_l_pool K) [] E0 (tCons (tVar 0) (tCons (tC (.int 1)) tNil))) (gName 1))
    (tSeq (tAsg (tCB (rListOf K) (tCons (tVar 4) tNil)) (gName 7))
    (tSeq (tIfS (tTest (tOp rEq (tCall (sp_l_take) [] E0 (tCons (tVar 1) (tCons (tC (.int 2)) tNil))) (tC (.int 0)))) (tAsg (tLc (iRng1 (tCons (tVar 3) tNil)) (gName 12) tYes (tOp oDiv (tCall (sp_l_take) [] E0 (tCons (tVar 1) (tCons (tOp oMul (tC (.int 7)) (tVar 2)) tNil))) (tC (.int 7))) [12]) (gName 7)) tNext)
    (tSeq (tAsg (tCall (sp_l_spoilt) [] E0 (tCons (tVar 1) (tCons (tVar 2) (tCons (tVar 7) tNil)))) (gName 7))
    (tSeq (tAsg (tCall (sp_l_take) [] E0 (tCons (tVar 1) (tCons (tC (.int 2)) tNil))) (gName 8))
    (tSeq (tAsg (tOp (rIxL K) (tLst (tCons (tC (.int 0)) (tCons (tC (.int 0)) (tCons (tC (.int 1)) (tCons (tC (.int 24)) (tCons (tOp oPow (tC (.int 10)) (tC (.int 8))) tNil)))))) (tCall (sp_l_take) [] E0 (tCons (tVar 1) (tCons (tC (.int 5)) tNil)))) (gName 9))
    (tSeq (tFor (iList K (tLst (tCons (tVar 4) (tCons (tVar 7) (tCons (tVar 4) tNil))))) (gName 10) (tIfS (tNot (tB (tCall (sp_l_asked K) [] E0 (tCons (tVar 6) (tCons (tVar 2) (tCons (tVar 3) (tCons (tVar 11) (tCons (tVar 10) (tCons (tVar 9) (tCons (tVar 8) tNil)))))))))) (tRet (tC (.bl false))) tNext))
    (tRet (tCall (sp_l_same) [] E0 (tCons (tFld K (tVar 6) "spans") (tCons (tCB (rTupOf K) (tCons (tVar 11) tNil)) tNil))))))))))))))))))
end Cl

/-! ## NetPu -/
namespace Cl
open PySem PySem.Spec PyProof.Rows L2
/-! ### the walk's own lines: "c" a side condition, "h" what stands at an address, "s" a list that is read, "at" an item, "v" a value, "a" an answer, "ar" arguments -/
local macro_rules | `(tactic| walk_at "c") => `(tactic| first | assumption | (with_reducible rfl) | decide | omega | exact Or.inr ⟨by first | decide | omega, by first | decide | omega⟩ | exact Or.inl ⟨by first | decide | omega, by first | decide | omega⟩ | exact ⟨by first | decide | omega, by first | decide | omega⟩ | exact ⟨by decide, by decide, by decide⟩)
local macro_rules | `(tactic| walk_at "ne") => `(tactic| first | assumption | (exact Ne.symm (by assumption)) | (exact ne_of_none (by assumption) (by assumption)) | (exact Ne.symm (ne_of_none (by assumption) (by assumption))))
local macro_rules | `(tactic| walk_at "h") => `(tactic| first | assumption | exact upd_same | (refine Eq.trans (upd_ne ?_) ?_; walk_at "ne"; walk_at "h"))
local macro_rules | `(tactic| walk_at "s") => `(tactic| first | assumption | (exact SqL.of (by walk_at "h")) | (exact SqT.of (by walk_at "h")))
local macro_rules | `(tactic| walk_at "at") => `(tactic| first | rfl | exact atI_ints (by omega) (by omega))
local macro_rules | `(tactic| walk_at "ty") => `(tactic| first | exact .base (.int _) | exact .base (.bl _) | exact .base .non | exact .base (.str _) | exact .base (.lst (by walk_at "h")) | exact .base (.tup (by walk_at "h")))
local macro_rules | `(tactic| walk_at "v") => `(tactic| first
  | (with_reducible exact val_c)
  | ((with_reducible apply val_var); rfl)
  | ((with_reducible apply v_I0); walk_at "v"; walk_at "v")
  | ((with_reducible apply v_I); walk_at "v"; walk_at "v"; walk_at "c")
  | ((with_reducible apply v_U); walk_at "v")
  | ((with_reducible apply v_eq); walk_at "v"; walk_at "v"; rfl)
  | ((with_reducible apply v_ne); walk_at "v"; walk_at "v"; rfl)
  | ((with_reducible apply v_ixL); walk_at "v"; walk_at "v"; walk_at "s"; walk_at "at")
  | ((with_reducible apply v_ixT); walk_at "v"; walk_at "v"; walk_at "s"; walk_at "at")
  | ((with_reducible apply v_ixS); walk_at "v"; walk_at "v"; assumption; walk_at "at")
  | ((with_reducible apply v_fld); walk_at "v"; walk_at "h"; assumption; assumption; walk_at "fl")
  | ((with_reducible apply v_len); walk_at "ar"; walk_at "s")
  | ((with_reducible apply v_lenS); walk_at "ar"; assumption)
  | ((with_reducible apply v_lenT); walk_at "ar"; walk_at "s")
  | ((with_reducible apply v_abs); walk_at "ar")
  | ((with_reducible apply v_max2); walk_at "ar")
  | ((with_reducible apply v_min2); walk_at "ar")
  | ((with_reducible apply v_intI); walk_at "ar")
  | ((with_reducible apply v_intB); walk_at "ar")
  | ((with_reducible apply v_chain); walk_at "v"; walk_at "v"; walk_at "v"; exact i_B0; exact i_B0)
  | ((with_reducible apply v_chain3); walk_at "v"; walk_at "v"; walk_at "v"; walk_at "v"; exact i_B0; exact i_B0; exact i_B0)
  | ((with_reducible apply v_andV); walk_at "v"; (intro _; walk_at "v"))
  | ((with_reducible apply v_orV); walk_at "v"; (intro _; walk_at "v"))
  | ((with_reducible apply v_notV); walk_at "v")
  | ((with_reducible apply v_isN); walk_at "v")
  | ((with_reducible apply v_notN); walk_at "v")
  | ((with_reducible apply v_isiT); walk_at "ar"; walk_at "ty"; decide +kernel)
  | ((with_reducible apply v_isiF); walk_at "ar"; walk_at "ty"; decide +kernel)
  | ((with_reducible apply v_if); walk_at "a"; (intro _; walk_at "v"); (intro _; walk_at "v")))
local macro_rules | `(tactic| walk_at "ar") => `(tactic| first
  | (with_reducible exact ar_nil)
  | ((with_reducible apply ar_cons); walk_at "v"; walk_at "ar"))
local macro_rules | `(tactic| walk_at "a") => `(tactic| first
  | ((with_reducible apply a_test); walk_at "v")
  | ((with_reducible apply a_B); walk_at "v")
  | ((with_reducible apply a_not); walk_at "a")
  | ((with_reducible apply a_and); walk_at "a"; (intro _; walk_at "a"))
  | ((with_reducible apply a_or); walk_at "a"; (intro _; walk_at "a")))
local macro_rules | `(tactic| walk_at "fl") => `(tactic| first | exact fl_events _ _ _ | exact fl_spans _ _ _ | exact fl_round _ _ _)
local macro_rules | `(tactic| walk_at "call") => `(tactic| refine g_call (g_args (by walk_at "ar") ?_))
structure NetK (K : PySem.W.Frag) : Prop where
  cl : Cls K (He.ga K "Net")
  nT : NoAttr K (He.ga K "Net") "round_length"
  nE : NoAttr K (He.ga K "Net") "events"
  nS : NoAttr K (He.ga K "Net") "spans"
theorem pure_is_window {K : PySem.W.Frag} {vs H Q E} (h : sp_is_window vs H Q E) : t_is_window K { nx := fun _ H' => Q .non H', rt := Q } (start N_is_window vs) H := by
  obtain ⟨T, l, m, k, rfl, q⟩ := h
  refine g_ret (g_val (by walk_at "v") ?_)
  simpa [Bool.and_assoc] using q
theorem pure_is_span {K : PySem.W.Frag} {vs H Q E} (h : sp_is_span K vs H Q E) : t_is_span K { nx := fun _ H' => Q .non H', rt := Q } (start N_is_span vs) H := by
  obtain ⟨T, n, a, r, rfl, ha, ok, q⟩ := h
  have := ok.s0; have := ok.s1; have := ok.e0; have := ok.e1; have hne := ok.ne; have := ok.l0; have := ok.lm; have := ok.mT; have := ok.m9
  refine q_no (by walk_at "a") (by rfl) ?_
  refine q_asg (g_val (by walk_at "v") ⟨a, _, rfl, SqT.of ha, rfl, _, _, rfl, _, _, rfl, _, _, rfl, _, _, rfl, rfl, ?_⟩)
  refine q_no (by walk_at "a") ?_ ?_
  · simp [hne]; omega
  refine g_ret (g_call (g_args (by walk_at "ar") ⟨T, r.l, r.m, 999, rfl, ?_⟩))
  rw [decide_eq_true (by omega)]
  exact q
theorem pure_l_length {K : PySem.W.Frag} {vs H Q E} (h : sp_l_length vs H Q E) : t_l_length K { nx := fun _ H' => Q .non H', rt := Q } (start N_l_length vs) H := by
  obtain ⟨p, rfl, hp, q⟩ := h
  refine q_whenc (g_test (g_op ?_))
  walk_at "call"
  refine call_take hp (by decide) (by decide) fun r H1 r0 r1 k1 _ p1 => ?_
  refine g_c (g_eq rfl ⟨_, rfl, g_if (fun hb => ?_) (fun hb => ?_)⟩)
  · refine g_ret (g_op (g_c ?_))
    walk_at "call"
    refine call_take p1 (by decide) (by decide) fun r2 H2 r20 r21 k2 _ p2 => g_I0 ?_
    exact q _ _ (by omega) (by omega) (k1.trans k2) p2
  · refine g_ret (g_op (g_lst (g_args (by walk_at "ar") ⟨by show 6 ≤ sizeLine; decide, fun l hl => ?_⟩)))
    have hlp := p1.ne hl
    walk_at "call"
    refine call_take (p1.new hl) (by decide) (by decide) fun r2 H2 r20 r21 k2 _ p2 => ?_
    have hL : H2 l = some (.lst [.int 2, .int 3, .int 5, .int 10, .int 24, .int 60]) := k2 l _ (by simpa using hlp) upd_same
    have kk : Kp [p] H H2 := k1.trans ((Kp.new (Kp.refl _ _) hl).trans k2)
    have fin : ∀ T : Int, 2 ≤ T → T ≤ 60 → atI [V.int 2, V.int 3, V.int 5, V.int 10, V.int 24, V.int 60] r2 = some (.int T) → rIxL K (V.ref l) (V.int r2) H2 Q := fun T t0 t1 e => ⟨l, _, r2, _, rfl, rfl, SqL.of hL, e, q T H2 t0 t1 kk p2⟩
    have hc : r2 = 0 ∨ r2 = 1 ∨ r2 = 2 ∨ r2 = 3 ∨ r2 = 4 ∨ r2 = 5 := by omega
    rcases hc with rfl | rfl | rfl | rfl | rfl | rfl
    · exact fin 2 (by decide) (by decide) rfl
    · exact fin 3 (by decide) (by decide) rfl
    · exact fin 5 (by decide) (by decide) rfl
    · exact fin 10 (by decide) (by decide) rfl
    · exact fin 24 (by decide) (by decide) rfl
    · exact fin 60 (by decide) (by decide) rfl
theorem call_length {H : Hp} {Q : VK} {E : XK} {p : Addr} (hp : Pool H p) (q : ∀ T H', 2 ≤ T → T ≤ 60 → Kp [p] H H' → Pool H' p → Q (.int T) H') : sp_l_length [.ref p] H Q E := ⟨p, rfl, hp, q⟩
/-- one span more behind spans at sp -/
theorem spans_more {H0 H H1 : Hp} {p sp t : Addr} {ts : List Addr} {rows : List Row} {r : Row} (k : Kp [p] H0 H) (k1 : Kp [p] H H1) (hp : Pool H p) (hs0 : H0 sp = none) (hs : H sp = some (.lst (ts.map V.ref))) (hr : RowsAt H ts rows) (p1 : Pool H1 p) (ht0 : H t = none) (ht : H1 t = some (.tup r.vs)) :
    H1 sp = some (.lst (ts.map V.ref)) ∧ Kp [p] H0 (upd H1 sp (.lst ((ts ++ [t]).map V.ref))) ∧ Pool (upd H1 sp (.lst ((ts ++ [t]).map V.ref))) p ∧ RowsAt (upd H1 sp (.lst ((ts ++ [t]).map V.ref))) (ts ++ [t]) (rows ++ [r]) := by
  have nsp : sp ≠ p := pool_ne_refs hp hs
  have e1 : H1 sp = some (.lst (ts.map V.ref)) := k1 _ _ (by simpa using nsp) hs
  refine ⟨e1, (k.trans k1).mut hs0, p1.upd nsp.symm, ?_⟩
  have r1 : RowsAt H1 (ts ++ [t]) (rows ++ [r]) := (hr.kp k1 fun u xs hu => pool_not_tup hp hu).snoc ht
  refine r1.kp (S := [sp]) ((Kp.refl _ _).upd (by simp)) fun u xs hu z => ?_
  have e : u = sp := by simpa using hu
  rw [e, e1] at z; cases z
theorem filter_all {α : Type} (xs : List α) : xs.filter (fun _ => true) = xs := List.filter_eq_self.mpr fun _ _ => rfl
theorem refs_at {ts : List Addr} {i : Nat} {x : V} (h : (ts.map V.ref)[i]? = some x) : ∃ t, ts[i]? = some t ∧ x = .ref t := by
  rw [List.getElem?_map] at h
  cases e : ts[i]? with
  | none => rw [e] at h; cases h
  | some t => rw [e] at h; exact ⟨t, rfl, (Option.some.inj h).symm⟩
theorem pure_Net___init__ {K : PySem.W.Frag} (c : NetK K) {vs H Q E} (h : sp_Net___init__ K vs H Q E) : t_Net___init__ K { nx := fun _ H' => Q .non H', rt := Q } (start N_Net___init__ vs) H := by
  obtain ⟨x, dx, a, T, n, rows, rfl, hx, ⟨ts, ha, hr⟩, t0, t1, n0, n1, hl, ok, q⟩ := h
  have el : ts.length = rows.length := hr.1
  refine q_no (by walk_at "a") (by simp; omega) ?_
  refine q_no (by walk_at "a") (by simp; omega) ?_
  refine q_no (by walk_at "a") (by simp; omega) ?_
  refine q_forE (by walk_at "ar") (SqL.of ha) (fun i σ' H' => Kp [] H H' ∧ ∃ y z, σ' = [some (.ref x), some (.int T), some (.int n), some (.ref a), y, z]) ⟨Kp.refl _ _, _, _, rfl⟩ (fun i σ' H' _ ⟨k, _⟩ => SqL.of (k _ _ (by simp) ha)) ?_ ?_
  · rintro i v σ' H' t hi ⟨k, y, z, rfl⟩ ht
    obtain ⟨u, hu, rfl⟩ := refs_at hi
    have hlt : i < rows.length := by
      have := (List.getElem?_eq_some_iff.mp hu).1
      omega
    have hru : H u = some (.tup rows[i].vs) := hr.2 i u _ hu (List.getElem?_eq_getElem hlt)
    have k1 : Kp [] H (upd H' t (.tup [.int (i : Int), .ref u])) := k.new ht
    refine g_no (b := !true) (a_not ?_) rfl ⟨k1, _, _, rfl⟩
    intro Q' q'
    refine g_B ?_
    walk_at "call"
    exact ⟨T, n, u, rows[i], rfl, k1 _ _ (by simp) hru, ok _ (List.getElem_mem hlt), true, rfl, q'⟩
  · rintro σ' H' ⟨k, y, z, rfl⟩
    have hx1 : H' x = some (.ins (He.ga K "Net") dx []) := k _ _ (by simp) hx
    have ha1 : H' a = some (.lst (ts.map V.ref)) := k _ _ (by simp) ha
    have nax : a ≠ x := ne_of ha1 hx1 (by intro z; cases z)
    have hr1 : RowsAt H' ts rows := hr.kp k fun _ _ z => nomatch z
    refine q_fld (by walk_at "v") (by walk_at "v") hx1 c.cl c.nT (by decide) ?_
    refine q_fld (by walk_at "v") (by walk_at "v") upd_same c.cl c.nE (Nat.lt_of_le_of_lt (length_putF _ _ _) (by decide)) ?_
    rw [upd_upd]
    refine s_fldc (g_cb (g_cons (e_lcL (fun v => v) (fun _ => true) (by walk_at "v") (SqL.of (by rw [upd_ne nax]; exact ha1)) (by rw [List.length_map]; omega) (fun _ => rfl) (fun _ _ _ _ _ _ => a_yes) (fun i v Dl o hi _ hD => ?_) fun Dl hD => ?_)))
    · obtain ⟨u, hu, rfl⟩ := refs_at hi
      have hlt : i < rows.length := by
        have := (List.getElem?_eq_some_iff.mp hu).1
        omega
      have hru : H' u = some (.tup rows[i].vs) := hr1.2 i u _ hu (List.getElem?_eq_getElem hlt)
      have nux : u ≠ x := ne_of hru hx1 (by intro z; cases z)
      have e1 : upd H' x (.ins (He.ga K "Net") dx (putF "events" (.int n) (putF "round_length" (.int T) []))) u = some (.tup rows[i].vs) := by rw [upd_ne nux]; exact hru
      exact v_tupT (by walk_at "ar") (SqT.of (by rw [upd_ne (ne_of_none e1 hD)]; exact e1))
    · rw [filter_all, List.map_id'] at *
      refine g_nil ⟨Dl, _, rfl, Or.inl ⟨SqL.of upd_same, fun tt htt => ?_⟩⟩
      have nDx : Dl ≠ x := fun z => by rw [z, upd_same] at hD; cases hD
      have ntD : tt ≠ Dl := fun z => by rw [z, upd_same] at htt; cases htt
      have ntx : tt ≠ x := fun z => by rw [z, upd_ne nDx.symm, upd_same] at htt; cases htt
      refine g_var rfl ⟨x, He.ga K "Net", dx, _, rfl, (by rw [upd_ne ntx.symm, upd_ne nDx.symm, upd_same]), c.cl, c.nS, Nat.lt_of_le_of_lt (length_putF _ _ _) (Nat.lt_of_le_of_lt (Nat.add_le_add_right (length_putF _ _ _) 1) (by decide)), ?_⟩
      have kk : Kp [x] H (upd (upd (upd (upd H' x (.ins (He.ga K "Net") dx (putF "events" (.int n) (putF "round_length" (.int T) [])))) Dl (.lst (ts.map V.ref))) tt (.tup (ts.map V.ref))) x (.ins (He.ga K "Net") dx (putF "spans" (.ref tt) (putF "events" (.int n) (putF "round_length" (.int T) []))))) :=
        ((((k.of [x]).upd (by simp)).new hD).new htt).upd (by simp)
      refine q _ kk ⟨dx, tt, ts, upd_same, ?_, ?_⟩
      · rw [upd_ne ntx, upd_same]
      · refine hr.kp kk fun u xs hu z => ?_
        have e : u = x := by simpa using hu
        rw [e, hx] at z; cases z
/-! ### groups -/
def kvOf (ls : List Int) (ts : List Addr) : List (Key × V) := (ls.zip ts).map fun q => (Sum.inl q.1, V.ref q.2)
theorem fl_events (T n : Int) (a : Addr) : (netF T n a).lookup ("events" : Str) = some (.int n) := by
  unfold netF
  rw [lookup_putF, if_neg (by decide +kernel), lookup_putF, if_pos rfl]
theorem fl_round (T n : Int) (a : Addr) : (netF T n a).lookup ("round_length" : Str) = some (.int T) := by
  unfold netF
  first
    | rfl
    | decide
    | (simp [lookup_putF]; done)
theorem fl_spans (T n : Int) (a : Addr) : (netF T n a).lookup ("spans" : Str) = some (.ref a) := by
  unfold netF
  rw [lookup_putF, if_pos rfl]
theorem fl_no (T n : Int) (a : Addr) {f : Str} (h1 : ¬ f = "spans") (h2 : ¬ f = "events") (h3 : ¬ f = "round_length") : (netF T n a).lookup f = none := by
  unfold netF
  rw [lookup_putF, if_neg h1, lookup_putF, if_neg h2, lookup_putF, if_neg h3]
  rfl
theorem NetAt.kp {C : Addr} {H H' : Hp} {x : Addr} {T n : Int} {rows : List Row} (h : NetAt C H x T n rows) (k : Kp [] H H') : NetAt C H' x T n rows := by
  obtain ⟨dx, a, ts, hx, ha, hr⟩ := h
  exact ⟨dx, a, ts, k _ _ (by simp) hx, k _ _ (by simp) ha, hr.kp k fun _ _ z => nomatch z⟩
theorem g_make {C : Addr} {sp : Sp} {E : XK} {ts : TA} {σ : L2.St} {H : Hp} {Q : VK} (h : ts σ H fun vs H1 => ∀ x dx, H1 x = none → H1 dx = none → dx ≠ x → sp (.ref x :: (vs ++ [])) (upd (upd H1 dx (.own x)) x (.ins C dx [])) (fun v H2 => v = .non ∧ Q (.ref x) H2) E) : tMake C sp [] E ts σ H Q := h
/-- a new instance keeps what was -/
theorem kp_made {S : List Addr} {H H1 : Hp} {x dx C : Addr} (k : Kp S H H1) (hx : H1 x = none) (hd : H1 dx = none) (ne : dx ≠ x) : Kp S H (upd (upd H1 dx (.own x)) x (.ins C dx [])) := (k.new hd).new (by rw [upd_ne ne.symm]; exact hx)
theorem kp_drop {S : List Addr} {H0 H H1 : Hp} {x : Addr} (k0 : Kp S H0 H) (hx : H0 x = none) (k : Kp [x] H H1) : Kp S H0 H1 := fun b o nb e => k b o (fun z => by
  have : b = x := by simpa using z
  rw [this, hx] at e; cases e) (k0 b o nb e)
theorem SpansAt.kp {S : List Addr} {H H' : Hp} {a : Addr} {rows : List Row} (h : SpansAt H a rows) (k : Kp S H H') (hS : ∀ t, t ∈ S → (∀ xs, H t ≠ some (.tup xs)) ∧ ∀ ts : List Addr, H t ≠ some (.lst (ts.map V.ref))) : SpansAt H' a rows := by
  obtain ⟨ts, ha, hr⟩ := h
  exact ⟨ts, k _ _ (fun z => (hS a z).2 ts ha) ha, hr.kp k fun t xs ht => (hS t ht).1 xs⟩
theorem call_net {K : PySem.W.Frag} {H : Hp} {Q : VK} {E : XK} {x dx a : Addr} {T n : Int} {rows : List Row} (hx : H x = some (.ins (He.ga K "Net") dx [])) (ha : SpansAt H a rows) (t0 : 2 ≤ T) (t1 : T ≤ 60) (n0 : 0 ≤ n) (n1 : n ≤ 12) (hl : rows.length ≤ 24) (ok : ∀ r ∈ rows, r.Ok T n) (q : ∀ H', Kp [x] H H' → NetAt (He.ga K "Net") H' x T n rows → Q .non H') : sp_Net___init__ K [.ref x, .int T, .int n, .ref a] H Q E :=
  ⟨x, dx, a, T, n, rows, rfl, hx, ha, t0, t1, n0, n1, hl, ok, q⟩
theorem rows_dat {H : Hp} {ts : List Addr} {rows : List Row} (h : RowsAt H ts rows) (i : Nat) (d : PyData) (x : V) (h1 : (rows.map Row.d)[i]? = some d) (h2 : (ts.map V.ref)[i]? = some x) : Dat H 1 d x := by
  obtain ⟨t, h3, rfl⟩ := refs_at h2
  rw [List.getElem?_map] at h1
  cases e : rows[i]? with
  | none => rw [e] at h1; cases h1
  | some r =>
    rw [e] at h1
    cases h1
    refine ⟨t, _, rfl, h.2 i t r h3 e, (by decide : 4 ≤ 1000000), rfl, fun j d x g1 g2 => ?_⟩
    match j with
    | 0 => cases g1; cases g2; rfl
    | 1 => cases g1; cases g2; rfl
    | 2 => cases g1; cases g2; rfl
    | 3 => cases g1; cases g2; rfl
    | j + 4 => simp at g1
end Cl

/-! ## PuA -/
namespace Cl
open PySem PySem.Spec PyProof.Rows L2
/-! ### the walk's own lines: "c" a side condition, "h" what stands at an address, "s" a list that is read, "at" an item, "v" a value, "a" an answer, "ar" arguments -/
local macro_rules | `(tactic| walk_at "c") => `(tactic| first | assumption | (with_reducible rfl) | decide | omega | exact Or.inr ⟨by first | decide | omega, by first | decide | omega⟩ | exact Or.inl ⟨by first | decide | omega, by first | decide | omega⟩ | exact ⟨by first | decide | omega, by first | decide | omega⟩ | exact ⟨by decide, by decide, by decide⟩)
local macro_rules | `(tactic| walk_at "ne") => `(tactic| first | assumption | (exact Ne.symm (by assumption)) | (exact ne_of_none (by assumption) (by assumption)) | (exact Ne.symm (ne_of_none (by assumption) (by assumption))))
local macro_rules | `(tactic| walk_at "h") => `(tactic| first | assumption | exact upd_same | (refine Eq.trans (upd_ne ?_) ?_; walk_at "ne"; walk_at "h"))
local macro_rules | `(tactic| walk_at "s") => `(tactic| first | assumption | (exact SqL.of (by walk_at "h")) | (exact SqT.of (by walk_at "h")))
local macro_rules | `(tactic| walk_at "at") => `(tactic| first | rfl | exact atI_ints (by omega) (by omega))
local macro_rules | `(tactic| walk_at "ty") => `(tactic| first | exact .base (.int _) | exact .base (.bl _) | exact .base .non | exact .base (.str _) | exact .base (.lst (by walk_at "h")) | exact .base (.tup (by walk_at "h")))
local macro_rules | `(tactic| walk_at "v") => `(tactic| first
  | (with_reducible exact val_c)
  | ((with_reducible apply val_var); rfl)
  | ((with_reducible apply v_I0); walk_at "v"; walk_at "v")
  | ((with_reducible apply v_I); walk_at "v"; walk_at "v"; walk_at "c")
  | ((with_reducible apply v_U); walk_at "v")
  | ((with_reducible apply v_eq); walk_at "v"; walk_at "v"; rfl)
  | ((with_reducible apply v_ne); walk_at "v"; walk_at "v"; rfl)
  | ((with_reducible apply v_ixL); walk_at "v"; walk_at "v"; walk_at "s"; walk_at "at")
  | ((with_reducible apply v_ixT); walk_at "v"; walk_at "v"; walk_at "s"; walk_at "at")
  | ((with_reducible apply v_ixS); walk_at "v"; walk_at "v"; assumption; walk_at "at")
  | ((with_reducible apply v_fld); walk_at "v"; walk_at "h"; assumption; assumption; walk_at "fl")
  | ((with_reducible apply v_len); walk_at "ar"; walk_at "s")
  | ((with_reducible apply v_lenS); walk_at "ar"; assumption)
  | ((with_reducible apply v_lenT); walk_at "ar"; walk_at "s")
  | ((with_reducible apply v_abs); walk_at "ar")
  | ((with_reducible apply v_max2); walk_at "ar")
  | ((with_reducible apply v_min2); walk_at "ar")
  | ((with_reducible apply v_intI); walk_at "ar")
  | ((with_reducible apply v_intB); walk_at "ar")
  | ((with_reducible apply v_chain); walk_at "v"; walk_at "v"; walk_at "v"; exact i_B0; exact i_B0)
  | ((with_reducible apply v_chain3); walk_at "v"; walk_at "v"; walk_at "v"; walk_at "v"; exact i_B0; exact i_B0; exact i_B0)
  | ((with_reducible apply v_andV); walk_at "v"; (intro _; walk_at "v"))
  | ((with_reducible apply v_orV); walk_at "v"; (intro _; walk_at "v"))
  | ((with_reducible apply v_notV); walk_at "v")
  | ((with_reducible apply v_isN); walk_at "v")
  | ((with_reducible apply v_notN); walk_at "v")
  | ((with_reducible apply v_isiT); walk_at "ar"; walk_at "ty"; decide +kernel)
  | ((with_reducible apply v_isiF); walk_at "ar"; walk_at "ty"; decide +kernel)
  | ((with_reducible apply v_if); walk_at "a"; (intro _; walk_at "v"); (intro _; walk_at "v")))
local macro_rules | `(tactic| walk_at "ar") => `(tactic| first
  | (with_reducible exact ar_nil)
  | ((with_reducible apply ar_cons); walk_at "v"; walk_at "ar"))
local macro_rules | `(tactic| walk_at "a") => `(tactic| first
  | ((with_reducible apply a_test); walk_at "v")
  | ((with_reducible apply a_B); walk_at "v")
  | ((with_reducible apply a_not); walk_at "a")
  | ((with_reducible apply a_and); walk_at "a"; (intro _; walk_at "a"))
  | ((with_reducible apply a_or); walk_at "a"; (intro _; walk_at "a")))
local macro_rules | `(tactic| walk_at "fl") => `(tactic| first | exact fl_events _ _ _ | exact fl_spans _ _ _ | exact fl_round _ _ _)
local macro_rules | `(tactic| walk_at "call") => `(tactic| refine g_call (g_args (by walk_at "ar") ?_))
theorem pure_l_many {K : PySem.W.Frag} {vs H Q E} (h : sp_l_many vs H Q E) : t_l_many K { nx := fun _ H' => Q .non H', rt := Q } (start N_l_many vs) H := by
  obtain ⟨p, rfl, hp, q⟩ := h
  refine q_set ?_
  walk_at "call"
  refine call_take hp (by decide) (by decide) fun w H1 w0 w1 k1 _ p1 => ?_
  refine q_when (by walk_at "a") (fun hb => ?_) (fun hb => ?_)
  · refine g_ret ?_
    walk_at "call"
    exact call_take p1 (by decide) (by decide) fun r H2 r0 r1 k2 _ p2 => q r H2 r0 (by omega) (k1.trans k2) p2
  refine q_when (by walk_at "a") (fun hb => ?_) (fun hb => ?_)
  · refine g_ret (g_op (g_c ?_))
    walk_at "call"
    exact call_take p1 (by decide) (by decide) fun r H2 r0 r1 k2 _ p2 => g_I0 (q _ H2 (by omega) (by omega) (k1.trans k2) p2)
  · refine g_ret (g_op (g_c ?_))
    walk_at "call"
    exact call_take p1 (by decide) (by decide) fun r H2 r0 r1 k2 _ p2 => g_I0 (q _ H2 (by omega) (by omega) (k1.trans k2) p2)
theorem call_many {H : Hp} {Q : VK} {E : XK} {p : Addr} (hp : Pool H p) (q : ∀ n H', 0 ≤ n → n ≤ 12 → Kp [p] H H' → Pool H' p → Q (.int n) H') : sp_l_many [.ref p] H Q E := ⟨p, rfl, hp, q⟩
theorem pure_l_count {K : PySem.W.Frag} {vs H Q E} (h : sp_l_count vs H Q E) : t_l_count K { nx := fun _ H' => Q .non H', rt := Q } (start N_l_count vs) H := by
  obtain ⟨p, n, rfl, hp, n0, q⟩ := h
  refine q_when (by walk_at "a") (fun hb => ?_) (fun hb => ?_)
  · exact g_ret (g_c (q 0 H (by decide) (by decide) (fun _ => rfl) (Kp.refl _ _) hp))
  have n2 : ¬ n < 2 := by simpa using hb
  refine q_whenc (g_test (g_op ?_))
  walk_at "call"
  refine call_take hp (by decide) (by decide) fun r H1 r0 r1 k1 _ p1 => ?_
  refine g_c (g_eq rfl ⟨_, rfl, g_if (fun hb => ?_) (fun hb => ?_)⟩)
  · refine g_ret (g_op (g_c ?_))
    walk_at "call"
    exact call_take p1 (by decide) (by decide) fun r H2 r0 r1 k2 _ p2 => g_I0 (q _ H2 (by omega) (by omega) (fun z => absurd z n2) (k1.trans k2) p2)
  · refine g_ret ?_
    walk_at "call"
    exact call_take p1 (by decide) (by decide) fun r H2 r0 r1 k2 _ p2 => q r H2 r0 (by omega) (fun z => absurd z n2) (k1.trans k2) p2
theorem call_count {H : Hp} {Q : VK} {E : XK} {p : Addr} {n : Int} (hp : Pool H p) (n0 : 0 ≤ n) (q : ∀ c H', 0 ≤ c → c ≤ 24 → (n < 2 → c = 0) → Kp [p] H H' → Pool H' p → Q (.int c) H') : sp_l_count [.ref p, .int n] H Q E := ⟨p, n, rfl, hp, n0, q⟩
/-- a comprehension of draws -/
theorem e_takes {σ : L2.St} {H : Hp} {Q : VK} {j : Nat} {te : TE} {vs : List Nat} {ta : TA} {p : Addr} {n : Int} (Ok : Int → Prop) (hp : Pool H p) (h : Args ta σ H [.int n]) (hn : 0 ≤ n ∧ n ≤ 1000) (hw : ∀ x, wipe ((wipe σ vs).set j (some x)) vs = wipe σ vs)
    (he : ∀ (i : Nat) H' (Q' : VK), Pool H' p → (∀ r H2, Ok r → Kp [p] H' H2 → Pool H2 p → Q' (.int r) H2) → te ((wipe σ vs).set j (some (.int (i : Nat)))) H' Q')
    (q : ∀ l (L : List Int) H', H l = none → Kp [p] H H' → Pool H' p → H' l = some (.lst (L.map V.int)) → (L.length : Int) = n → (∀ x ∈ L, Ok x) → Q (.ref l) H') : tLc (iRng1 ta) (gName j) tYes te vs σ H Q := by
  refine e_lcRW h (by omega) (fun Dl i H' => ∃ L : List Int, H' Dl = some (.lst (L.map V.int)) ∧ L.length = i ∧ Kp [p] H H' ∧ Pool H' p ∧ ∀ x ∈ L, Ok x) (fun Dl hD => ⟨[], upd_same, rfl, (Kp.refl _ _).new hD, hp.new hD, fun x hx => nomatch hx⟩) hw (fun Dl i H' hD hi hW => ?_) (fun Dl H' hD hW => ?_)
  · obtain ⟨L, h1, h2, h3, h4, h5⟩ := hW
    refine t_yesIf ?_
    refine he i H' _ h4 fun r H2 hr k2 p2 => ?_
    have nD : Dl ≠ p := hp.ne hD
    have g1 : H2 Dl = some (.lst (L.map V.int)) := k2 _ _ (by simpa using nD) h1
    refine ⟨_, g1, sz_lt (by rw [List.length_map]; omega), L ++ [r], ?_, by simp [h2], (h3.trans k2).mut hD, p2.upd nD.symm, fun x hx => ?_⟩
    · rw [upd_same]; simp
    · rcases List.mem_append.mp hx with z | z
      · exact h5 x z
      · have e : x = r := by simpa using z
        rw [e]; exact hr
  · obtain ⟨L, h1, h2, h3, h4, h5⟩ := hW
    exact q Dl L H' hD h3 h4 h1 (by omega) h5
theorem pure_l_times {K : PySem.W.Frag} {vs H Q E} (h : sp_l_times vs H Q E) : t_l_times K { nx := fun _ H' => Q .non H', rt := Q } (start N_l_times vs) H := by
  obtain ⟨p, T, n, rfl, hp, t0, t1, n0, n1, q⟩ := h
  refine g_ret (e_takes (fun x => 0 ≤ x ∧ x < T) hp (by walk_at "ar") (by omega) (fun _ => rfl) (fun i H' Q' p' q' => ?_) q)
  walk_at "call"
  exact call_take p' (by omega) (by omega) fun r H2 r0 r1 k2 _ p2 => q' r H2 ⟨r0, r1⟩ k2 p2
theorem call_times {H : Hp} {Q : VK} {E : XK} {p : Addr} {T n : Int} (hp : Pool H p) (t0 : 2 ≤ T) (t1 : T ≤ 60) (n0 : 0 ≤ n) (n1 : n ≤ 12) (q : ∀ l (L : List Int) H', H l = none → Kp [p] H H' → Pool H' p → H' l = some (.lst (L.map V.int)) → (L.length : Int) = n → (∀ x ∈ L, 0 ≤ x ∧ x < T) → Q (.ref l) H') : sp_l_times [.ref p, .int T, .int n] H Q E := ⟨p, T, n, rfl, hp, t0, t1, n0, n1, q⟩
/-! ## the first wrong entry -/
theorem wrong_some {T n : Int} {L : List Int} {i : Nat} (hi : i < max L.length n.toNat) (hb : badAt T n L i = true) (h : ∀ j < i, badAt T n L j = false) : wrongP T n L = some i := by
  unfold wrongP
  rw [List.find?_range_eq_some]
  exact ⟨hb, List.mem_range.mpr hi, fun j hj => by simp [h j hj]⟩
theorem wrong_none {T n : Int} {L : List Int} (h : ∀ j < max L.length n.toNat, badAt T n L j = false) : wrongP T n L = none := by
  unfold wrongP
  rw [List.find?_eq_none]
  intro j hj
  simp [h j (List.mem_range.mp hj)]
theorem wrong_len {T n : Int} {L : List Int} (n0 : 0 ≤ n) (h : wrongP T n L = none) : (L.length : Int) = n := by
  unfold wrongP at h
  rw [List.find?_eq_none] at h
  have all : ∀ j < max L.length n.toNat, j < L.length ∧ (j : Int) < n := fun j hj => by
    have z := h j (List.mem_range.mpr hj)
    unfold badAt at z
    simp at z
    constructor <;> omega
  by_cases e : L.length < n.toNat
  · have := all L.length (by omega); omega
  · by_cases e2 : n.toNat < L.length
    · have := all n.toNat (by omega); omega
    · omega
theorem pure_l_wrong {K : PySem.W.Frag} {vs H Q E} (h : sp_l_wrong K vs H Q E) : t_l_wrong K { nx := fun _ H' => Q .non H', rt := Q } (start N_l_wrong vs) H := by
  obtain ⟨a, T, n, L, rfl, ha, hl, n0, n1, q⟩ := h
  have hq : SqL K H a (L.map V.int) ∨ SqT K H a (L.map V.int) := ha.sq
  refine q_forR (n := max n (L.length : Int)) ?_ (by omega) (fun i σ' H' => H' = H ∧ (∃ y, σ' = [some (.int T), some (.int n), some (.ref a), y]) ∧ ∀ j < i, badAt T n L j = false) ⟨rfl, ⟨_, rfl⟩, fun j hj => by omega⟩ ?_ ?_
  · refine ar_cons (v_cast (by walk_at "v") ?_) ar_nil
    rw [List.length_map]
    congr 1; omega
  · rintro i σ' H' hi ⟨rfl, ⟨y, rfl⟩, hj⟩
    refine q_when (by walk_at "a") (fun hb => ?_) (fun hb => ?_)
    · refine g_ret (g_var rfl ?_)
      have e := wrong_some (T := T) (n := n) (L := L) (i := i) (by omega) (by unfold badAt; simp at hb ⊢; omega) hj
      rw [e] at q; exact q
    · have hb' : (i : Int) < n ∧ i < L.length := by simp at hb; omega
      have i0 : (0 : Int) ≤ i := by omega
      have il : (i : Int) < L.length := by omega
      refine g_ifA (by walk_at "a") (fun hb => ?_) (fun hb => ?_)
      · refine g_ret (g_var rfl ?_)
        have e := wrong_some (T := T) (n := n) (L := L) (i := i) (by omega) (by unfold badAt; simp at hb ⊢; omega) hj
        rw [e] at q; exact q
      · refine ⟨rfl, ⟨_, rfl⟩, fun j hj2 => ?_⟩
        by_cases e : j = i
        · subst e
          unfold badAt
          simp at hb ⊢; omega
        · exact hj j (by omega)
  · rintro σ' H' ⟨rfl, ⟨y, rfl⟩, hj⟩
    refine g_ret (g_c ?_)
    have e := wrong_none (T := T) (n := n) (L := L) fun j hj2 => hj j (by omega)
    rw [e] at q; exact q
theorem call_wrong {K : PySem.W.Frag} {H : Hp} {Q : VK} {E : XK} {a : Addr} {T n : Int} {L : List Int} (ha : TimesAt H a L) (hl : L.length ≤ 1000) (n0 : 0 ≤ n) (n1 : n ≤ 12) (q : Q (optV (wrongP T n L)) H) : sp_l_wrong K [.int T, .int n, .ref a] H Q E := ⟨a, T, n, L, rfl, ha, hl, n0, n1, q⟩
theorem pure_check_times {K : PySem.W.Frag} (c : NetK K) {vs H Q E} (h : sp_check_times K vs H Q E) : t_check_times K E { nx := fun _ H' => Q .non H', rt := Q } (start N_check_times vs) H := by
  obtain ⟨x, a, T, n, rows, L, rfl, N, q1, q2⟩ := h
  obtain ⟨dx, sa, ts, hx, hsa, hrs⟩ := N.net
  have hq : SqL K H a (L.map V.int) ∨ SqT K H a (L.map V.int) := N.tim.sq
  have := c.cl; have := c.nT; have := c.nE
  have := N.len; have := N.n0; have := N.n1
  refine s_forR (n := max n (L.length : Int)) ?_ (by omega) (fun i σ' H' => H' = H ∧ (∃ y, σ' = [some (.ref x), some (.ref a), y]) ∧ ∀ j < i, badAt T n L j = false) ⟨rfl, ⟨_, rfl⟩, fun j hj => by omega⟩ ?_ ?_
  · refine ar_cons (v_cast (by walk_at "v") ?_) ar_nil
    rw [List.length_map]
    congr 1; omega
  · rintro i σ' H' hi ⟨rfl, ⟨y, rfl⟩, hj⟩
    have i0 : (0 : Int) ≤ i := by omega
    have key : Ans (tOr (tTest (tOp oGe (tVar 2) (tCB (rLen K) (tCons (tVar 1) tNil)))) (tOr (tTest (tOp oGe (tVar 2) (tFld K (tVar 0) "events"))) (tNot (tTest (tChain oLe oLt (tC (.int 0)) (tOp (rIx K) (tVar 1) (tVar 2)) (tFld K (tVar 0) "round_length")))))) [some (.ref x), some (.ref a), some (.int i)] H' (badAt T n L i) := by
      unfold badAt
      refine a_or (a_test (v_cast (by walk_at "v") ?_)) fun h1 => a_or (a_test (v_cast (by walk_at "v") ?_)) fun h2 => a_not (a_test ?_)
      · rw [List.length_map]; congr 1; simp
      · rfl
      · have il : (i : Int) < L.length := by simp at h1; omega
        have e1 : Val (tOp (rIx K) (tVar 1) (tVar 2)) [some (.ref x), some (.ref a), some (.int i)] H' (.int (L.getD i 0)) := v_ixS (val_var rfl) (val_var rfl) hq (atI_ints (by omega) (by omega))
        have e2 : Val (tFld K (tVar 0) "round_length") [some (.ref x), some (.ref a), some (.int i)] H' (.int T) := v_fld (val_var rfl) hx c.cl c.nT (fl_round _ _ _)
        exact v_chain val_c e1 e2 (i_B0 (p := fun i j => decide (i ≤ j))) (i_B0 (p := fun i j => decide (i < j)))
    refine g_ifA key (fun hb => ?_) (fun hb => ?_)
    · exact g_raise1 (by walk_at "ar") (fmt_int (by omega)) fun d hd => q2 i d (wrong_some (by omega) hb hj) hd
    · refine ⟨rfl, ⟨_, rfl⟩, fun j hj2 => ?_⟩
      by_cases e : j = i
      · rw [e]; exact hb
      · exact hj j (by omega)
  · rintro σ' H' ⟨rfl, ⟨y, rfl⟩, hj⟩
    exact q1 (wrong_none fun j hj2 => hj j (by omega))
end Cl

/-! ## PuB -/
namespace Cl
open PySem PySem.Spec PyProof.Rows L2
/-! ### the walk's own lines: "c" a side condition, "h" what stands at an address, "s" a list that is read, "at" an item, "v" a value, "a" an answer, "ar" arguments -/
local macro_rules | `(tactic| walk_at "c") => `(tactic| first | assumption | (with_reducible rfl) | decide | omega | exact Or.inr ⟨by first | decide | omega, by first | decide | omega⟩ | exact Or.inl ⟨by first | decide | omega, by first | decide | omega⟩ | exact ⟨by first | decide | omega, by first | decide | omega⟩ | exact ⟨by decide, by decide, by decide⟩)
local macro_rules | `(tactic| walk_at "ne") => `(tactic| first | assumption | (exact Ne.symm (by assumption)) | (exact ne_of_none (by assumption) (by assumption)) | (exact Ne.symm (ne_of_none (by assumption) (by assumption))))
local macro_rules | `(tactic| walk_at "h") => `(tactic| first | assumption | exact upd_same | (refine Eq.trans (upd_ne ?_) ?_; walk_at "ne"; walk_at "h"))
local macro_rules | `(tactic| walk_at "s") => `(tactic| first | assumption | (exact SqL.of (by walk_at "h")) | (exact SqT.of (by walk_at "h")))
local macro_rules | `(tactic| walk_at "at") => `(tactic| first | rfl | exact atI_ints (by omega) (by omega))
local macro_rules | `(tactic| walk_at "ty") => `(tactic| first | exact .base (.int _) | exact .base (.bl _) | exact .base .non | exact .base (.str _) | exact .base (.lst (by walk_at "h")) | exact .base (.tup (by walk_at "h")))
local macro_rules | `(tactic| walk_at "v") => `(tactic| first
  | (with_reducible exact val_c)
  | ((with_reducible apply val_var); rfl)
  | ((with_reducible apply v_I0); walk_at "v"; walk_at "v")
  | ((with_reducible apply v_I); walk_at "v"; walk_at "v"; walk_at "c")
  | ((with_reducible apply v_U); walk_at "v")
  | ((with_reducible apply v_eq); walk_at "v"; walk_at "v"; rfl)
  | ((with_reducible apply v_ne); walk_at "v"; walk_at "v"; rfl)
  | ((with_reducible apply v_ixL); walk_at "v"; walk_at "v"; walk_at "s"; walk_at "at")
  | ((with_reducible apply v_ixT); walk_at "v"; walk_at "v"; walk_at "s"; walk_at "at")
  | ((with_reducible apply v_ixS); walk_at "v"; walk_at "v"; assumption; walk_at "at")
  | ((with_reducible apply v_fld); walk_at "v"; walk_at "h"; assumption; assumption; walk_at "fl")
  | ((with_reducible apply v_len); walk_at "ar"; walk_at "s")
  | ((with_reducible apply v_lenS); walk_at "ar"; assumption)
  | ((with_reducible apply v_lenT); walk_at "ar"; walk_at "s")
  | ((with_reducible apply v_abs); walk_at "ar")
  | ((with_reducible apply v_max2); walk_at "ar")
  | ((with_reducible apply v_min2); walk_at "ar")
  | ((with_reducible apply v_intI); walk_at "ar")
  | ((with_reducible apply v_intB); walk_at "ar")
  | ((with_reducible apply v_chain); walk_at "v"; walk_at "v"; walk_at "v"; exact i_B0; exact i_B0)
  | ((with_reducible apply v_chain3); walk_at "v"; walk_at "v"; walk_at "v"; walk_at "v"; exact i_B0; exact i_B0; exact i_B0)
  | ((with_reducible apply v_andV); walk_at "v"; (intro _; walk_at "v"))
  | ((with_reducible apply v_orV); walk_at "v"; (intro _; walk_at "v"))
  | ((with_reducible apply v_notV); walk_at "v")
  | ((with_reducible apply v_isN); walk_at "v")
  | ((with_reducible apply v_notN); walk_at "v")
  | ((with_reducible apply v_isiT); walk_at "ar"; walk_at "ty"; decide +kernel)
  | ((with_reducible apply v_isiF); walk_at "ar"; walk_at "ty"; decide +kernel)
  | ((with_reducible apply v_if); walk_at "a"; (intro _; walk_at "v"); (intro _; walk_at "v")))
local macro_rules | `(tactic| walk_at "ar") => `(tactic| first
  | (with_reducible exact ar_nil)
  | ((with_reducible apply ar_cons); walk_at "v"; walk_at "ar"))
local macro_rules | `(tactic| walk_at "a") => `(tactic| first
  | ((with_reducible apply a_test); walk_at "v")
  | ((with_reducible apply a_B); walk_at "v")
  | ((with_reducible apply a_not); walk_at "a")
  | ((with_reducible apply a_and); walk_at "a"; (intro _; walk_at "a"))
  | ((with_reducible apply a_or); walk_at "a"; (intro _; walk_at "a")))
local macro_rules | `(tactic| walk_at "fl") => `(tactic| first | exact fl_events _ _ _ | exact fl_spans _ _ _ | exact fl_round _ _ _)
local macro_rules | `(tactic| walk_at "call") => `(tactic| refine g_call (g_args (by walk_at "ar") ?_))
theorem e_slT {K : PySem.W.Frag} {σ : L2.St} {H : Hp} {Q : VK} {te : TE} {tl th : TO} {lo hi : Option Int} {a : Addr} {xs : List V} (h : Val te σ H (.ref a)) (h1 : Part tl σ H lo) (h2 : Part th σ H hi) (hs : SqT K H a xs) (ne : ¬ (HT.sIx xs.length 0 lo = 0 ∧ HT.sIx xs.length xs.length hi = xs.length)) (q : ∀ p, H p = none → Q (.ref p) (upd H p (.tup (cutV xs lo hi)))) : tSl (rSlT K) te tl th σ H Q :=
  h _ (h1 _ (h2 _ ⟨a, xs, rfl, hs, ne, q⟩))
theorem NT.kp {K : PySem.W.Frag} {H H' : Hp} {x a : Addr} {T n : Int} {rows : List Row} {L : List Int} (N : NT K H x a T n rows L) (k : Kp [] H H') : NT K H' x a T n rows L := ⟨N.net.kp k, N.tim.kp k (by simp), N.len, N.t0, N.t1, N.n0, N.n1, N.rl, N.ok⟩
theorem pure_minutes_on {K : PySem.W.Frag} (c : NetK K) {vs H Q E} (h : sp_minutes_on K vs H Q E) : t_minutes_on K { nx := fun _ H' => Q .non H', rt := Q } (start N_minutes_on vs) H := by
  obtain ⟨x, a, t, T, n, rows, L, r, rfl, N, ht, ok, hl, q⟩ := h
  refine q_asg (e_slT (by walk_at "v") pt_none (pt_some (by walk_at "v")) (SqT.of ht) (by show ¬ (HT.sIx 4 0 none = 0 ∧ HT.sIx 4 4 (some 3) = 4); decide) fun p hp => ?_)
  have e3 : cutV r.vs none (some 3) = [.int r.s, .int r.e, .int r.l] := by rw [cut_to (by decide)]; rfl
  rw [e3]
  have k : Kp [] H (upd H p (.tup [.int r.s, .int r.e, .int r.l])) := (Kp.refl _ _).new hp
  have N' := N.kp k
  obtain ⟨dx, sa, ts, hx, hsa, hrs⟩ := N'.net
  have hq := N'.tim.sq (K := K)
  have := c.cl; have := c.nT
  have := ok.s0; have := ok.s1; have := ok.e0; have := ok.e1; have t0 := N.t0
  refine ⟨p, _, rfl, SqT.of upd_same, rfl, _, _, rfl, _, _, rfl, _, _, rfl, rfl, ?_⟩
  have e1 : Val (tOp (rIx K) (tVar 1) (tVar 4)) [some (.ref x), some (.ref a), some (.ref t), some (.int r.s), some (.int r.e), some (.int r.l)] (upd H p (.tup [.int r.s, .int r.e, .int r.l])) (.int (L.getD r.e.toNat 0)) := v_ixS (val_var rfl) (val_var rfl) hq (atI_ints (by omega) (by omega))
  have e2 : Val (tOp (rIx K) (tVar 1) (tVar 3)) [some (.ref x), some (.ref a), some (.ref t), some (.int r.s), some (.int r.e), some (.int r.l)] (upd H p (.tup [.int r.s, .int r.e, .int r.l])) (.int (L.getD r.s.toNat 0)) := v_ixS (val_var rfl) (val_var rfl) hq (atI_ints (by omega) (by omega))
  have e4 : Val (tFld K (tVar 0) "round_length") [some (.ref x), some (.ref a), some (.ref t), some (.int r.s), some (.int r.e), some (.int r.l)] (upd H p (.tup [.int r.s, .int r.e, .int r.l])) (.int T) := v_fld (val_var rfl) hx c.cl c.nT (fl_round _ _ _)
  exact g_ret (g_val (v_I0 (val_var rfl) (v_I (v_I0 (v_I0 e1 e2) (val_var rfl)) e4 (by omega))) (q _ k))
theorem call_minutes {K : PySem.W.Frag} {H : Hp} {Q : VK} {E : XK} {x a t : Addr} {T n : Int} {rows : List Row} {L : List Int} {r : Row} (N : NT K H x a T n rows L) (ht : H t = some (.tup r.vs)) (ok : r.Ok T n) (hl : n ≤ L.length) (q : ∀ H', Kp [] H H' → Q (.int (goneP T L r)) H') : sp_minutes_on K [.ref x, .ref a, .ref t] H Q E := ⟨x, a, t, T, n, rows, L, r, rfl, N, ht, ok, hl, q⟩
theorem rows_get {rows : List Row} {i : Nat} (h : i < rows.length) : rows.getD i ⟨0, 0, 0, 0⟩ = rows[i] := by simp [List.getD_eq_getElem?_getD, List.getElem?_eq_getElem h]
theorem pure_passed {K : PySem.W.Frag} (c : NetK K) {vs H Q E} (h : sp_passed K vs H Q E) : t_passed K E { nx := fun _ H' => Q .non H', rt := Q } (start N_passed vs) H := by
  obtain ⟨x, a, i, T, n, rows, L, rfl, N, i0, i1, q1, q2⟩ := h
  refine q_callS (by walk_at "ar") ⟨x, a, T, n, rows, L, rfl, N, fun hw => ?_, q1⟩
  obtain ⟨q2, q3⟩ := q2 hw
  have hl := wrong_len N.n0 hw
  obtain ⟨dx, sa, ts, hx, hsa, hrs⟩ := N.net
  have el : ts.length = rows.length := hrs.1
  have := N.rl
  have e1 : Val (tFld K (tVar 0) "spans") [some (.ref x), some (.ref a), some (.int i)] H (.ref sa) := v_fld (val_var rfl) hx c.cl c.nS (fl_spans _ _ _)
  have e2 : Val (tCB (rLen K) (tCons (tFld K (tVar 0) "spans") tNil)) [some (.ref x), some (.ref a), some (.int i)] H (.int ((ts.map V.ref).length : Nat)) := v_lenT (ar_cons e1 ar_nil) (SqT.of hsa)
  have key : Ans (tNot (tTest (tChain oLe oLt (tC (.int 0)) (tVar 2) (tCB (rLen K) (tCons (tFld K (tVar 0) "spans") tNil))))) [some (.ref x), some (.ref a), some (.int i)] H (!(decide ((0 : Int) ≤ i) && decide (i < ((ts.map V.ref).length : Nat)))) :=
    a_not (a_test (v_chain val_c (val_var rfl) e2 (i_B0 (p := fun i j => decide (i ≤ j))) (i_B0 (p := fun i j => decide (i < j)))))
  refine q_when key (fun hb => ?_) (fun hb => ?_)
  · refine g_raise1 (by walk_at "ar") (fmt_int (by omega)) fun d hd => q3 ?_ d hd
    simp at hb; omega
  · have hi : 0 ≤ i ∧ i < rows.length := by simp at hb; omega
    have hlt : i.toNat < rows.length := by omega
    have hts : ts[i.toNat]? = some ts[i.toNat] := List.getElem?_eq_getElem (by omega)
    have e3 : Val (tOp (rIxT K) (tFld K (tVar 0) "spans") (tVar 2)) [some (.ref x), some (.ref a), some (.int i)] H (.ref ts[i.toNat]) := v_ixT e1 (val_var rfl) (SqT.of hsa) (by
      have z : atI (ts.map V.ref) ((i.toNat : Nat) : Int) = some (V.ref ts[i.toNat]) := atI_nat (by rw [List.getElem?_map, hts]; rfl)
      rw [Int.toNat_of_nonneg hi.1] at z
      exact z)
    refine g_ret (g_call (g_args (ar_cons (val_var rfl) (ar_cons (val_var rfl) (ar_cons e3 ar_nil))) ?_))
    have q4 := q2 hi.1 hi.2
    rw [rows_get hlt] at q4
    exact call_minutes N (hrs.2 _ _ _ hts (List.getElem?_eq_getElem hlt)) (N.ok _ (List.getElem_mem hlt)) (by omega) q4
theorem over_step (T : Int) (L : List Int) (rows : List Row) (i : Nat) : ((List.range (i + 1)).filter fun (j : Nat) => decide (goneP T L (rows.getD j ⟨0, 0, 0, 0⟩) > (rows.getD j ⟨0, 0, 0, 0⟩).m)).map (fun (j : Nat) => (j : Int)) =
    ((List.range i).filter fun (j : Nat) => decide (goneP T L (rows.getD j ⟨0, 0, 0, 0⟩) > (rows.getD j ⟨0, 0, 0, 0⟩).m)).map (fun (j : Nat) => (j : Int)) ++ (if goneP T L (rows.getD i ⟨0, 0, 0, 0⟩) > (rows.getD i ⟨0, 0, 0, 0⟩).m then [(i : Int)] else []) := by
  rw [List.range_succ, List.filter_append, List.map_append]
  congr 1
  by_cases h : goneP T L (rows.getD i ⟨0, 0, 0, 0⟩) > (rows.getD i ⟨0, 0, 0, 0⟩).m
  · rw [if_pos h, List.filter_cons, if_pos (by simpa using h)]; rfl
  · rw [if_neg h, List.filter_cons, if_neg (by simpa using h)]; rfl
theorem pure_broken {K : PySem.W.Frag} (c : NetK K) {vs H Q E} (h : sp_broken K vs H Q E) : t_broken K E { nx := fun _ H' => Q .non H', rt := Q } (start N_broken vs) H := by
  obtain ⟨x, a, T, n, rows, L, rfl, N, q1, q2⟩ := h
  refine q_callS (by walk_at "ar") ⟨x, a, T, n, rows, L, rfl, N, fun hw => ?_, q1⟩
  have q3 := q2 hw
  have hl := wrong_len N.n0 hw
  obtain ⟨dx, sa, ts, hx, hsa, hrs⟩ := N.net
  have el : ts.length = rows.length := hrs.1
  have := N.rl
  have e1 : Val (tFld K (tVar 0) "spans") (start N_broken [.ref x, .ref a]) H (.ref sa) := v_fld (val_var rfl) hx c.cl c.nS (fl_spans _ _ _)
  refine g_ret (e_lcEW (xs := ts.map V.ref) (ar_cons e1 ar_nil) (SqT.of hsa) (fun Dl i H' => Kp [] H H' ∧ H' Dl = some (.lst ((((List.range i).filter fun (j : Nat) => decide (goneP T L (rows.getD j ⟨0, 0, 0, 0⟩) > (rows.getD j ⟨0, 0, 0, 0⟩).m)).map (fun (j : Nat) => (j : Int))).map V.int)))
    (fun Dl hD => ⟨(Kp.refl _ _).new hD, upd_same⟩) (fun Dl i H' hD hi ⟨k, _⟩ => SqT.of (k _ _ (by simp) hsa)) (fun _ _ => rfl) ?_ ?_)
  · rintro Dl i v H' t hD hi ⟨k, hd⟩ ht
    obtain ⟨u, hu, rfl⟩ := refs_at hi
    have hlt : i < rows.length := by
      have := (List.getElem?_eq_some_iff.mp hu).1
      omega
    have hru : H u = some (.tup rows[i].vs) := hrs.2 i u _ hu (List.getElem?_eq_getElem hlt)
    have k1 : Kp [] H (upd H' t (.tup [.int (i : Int), .ref u])) := k.new ht
    have nDt : Dl ≠ t := fun z => by rw [z, ht] at hd; cases hd
    refine g_test (g_op ?_)
    refine g_call (g_args (ar_cons (val_var rfl) (ar_cons (val_var rfl) (ar_cons (val_var rfl) ar_nil))) ?_)
    refine call_minutes (N.kp k1) (k1 _ _ (by simp) hru) (N.ok _ (List.getElem_mem hlt)) (by omega) fun H2 k2 => ?_
    have k3 : Kp [] H H2 := k1.trans k2
    have hd2 := k2 Dl _ (by simp) (by rw [upd_ne nDt]; exact hd)
    refine g_val (v_ixT (v := .int rows[i].m) (val_var rfl) val_c (SqT.of (k3 _ _ (by simp) hru)) rfl) (g_I0 ⟨_, rfl, ?_⟩)
    have st := over_step T L rows i
    rw [rows_get hlt] at st
    refine g_if (fun hb => ?_) (fun hb => ?_)
    · have hb' : rows[i].m < goneP T L rows[i] := by simpa using hb
      rw [if_pos hb'] at st
      refine g_var rfl ⟨_, hd2, sz_lt ?_, k3.mut hD, ?_⟩
      · rw [List.length_map, List.length_map]
        exact Nat.le_trans (List.length_filter_le _ _) (by rw [List.length_range]; omega)
      · rw [upd_same, st, List.map_append]; rfl
    · have hb' : ¬ goneP T L rows[i] > rows[i].m := by simpa using hb
      rw [if_neg hb', List.append_nil] at st
      refine ⟨k3, ?_⟩
      rw [st]; exact hd2
  · rintro Dl H' hD ⟨k, hd⟩
    refine q3 Dl H' hD k ?_
    rw [hd]
    rw [List.length_map, el]; rfl
/-! ## the law's own minutes -/
theorem gone_at {T l s e : Int} (t0 : 0 < T) : ((List.range T.toNat).find? fun (k : Nat) => decide ((l + (k : Int) + s - e) % T = 0)) = some ((e - s - l) % T).toNat := by
  have m0 := Int.emod_nonneg (e - s - l) (show T ≠ 0 by omega)
  have m1 := Int.emod_lt_of_pos (e - s - l) t0
  have em := Int.emod_add_mul_ediv (e - s - l) T
  rw [List.find?_range_eq_some]
  refine ⟨?_, List.mem_range.mpr (by omega), fun j hj => ?_⟩
  · refine decide_eq_true (Int.emod_eq_zero_of_dvd ⟨-((e - s - l) / T), ?_⟩)
    rw [Int.toNat_of_nonneg m0, Int.mul_neg]
    omega
  · simp only [Bool.not_eq_true', decide_eq_false_iff_not]
    intro z
    obtain ⟨w, hw⟩ := Int.dvd_of_emod_eq_zero z
    have d : T ∣ (e - s - l) % T - (j : Int) := ⟨-w - (e - s - l) / T, by rw [Int.mul_sub, Int.mul_neg]; omega⟩
    have := Int.le_of_dvd (by omega) d
    omega
def addV (l : Int) : V → V
  | .int z => .int (l + z)
  | v => v
def fitV (s e T : Int) : V → Bool
  | .int z => decide (V.int ((z + s - e) % T) = V.int 0)
  | _ => false
theorem pure_l_gone {K : PySem.W.Frag} {vs H Q E} (h : sp_l_gone K vs H Q E) : t_l_gone K { nx := fun _ H' => Q .non H', rt := Q } (start N_l_gone vs) H := by
  obtain ⟨a, t, T, n, L, r, rfl, ha, ht, ok, hl, t0, t1, q⟩ := h
  have := ok.s0; have := ok.s1; have := ok.e0; have := ok.e1
  refine q_set (e_lcR (addV r.l) (fun _ => true) (by walk_at "ar") (by omega) (fun _ => rfl) (fun _ _ _ _ _ => a_yes) (fun i Dl o hi _ hD => ?_) fun wl hwl => ?_)
  · exact v_I0 (v_ixT (v := .int r.l) (val_var rfl) val_c (SqT.of (by rw [upd_ne (ne_of_none ht hD)]; exact ht)) rfl) (val_var rfl)
  rw [filter_all]
  have k1 : Kp [] H (upd H wl (.lst ((rgI T.toNat).map (addV r.l)))) := (Kp.refl _ _).new hwl
  generalize hH1 : upd H wl (.lst ((rgI T.toNat).map (addV r.l))) = H1 at k1
  have hw1 : H1 wl = some (.lst ((rgI T.toNat).map (addV r.l))) := by rw [← hH1]; exact upd_same
  refine q_set (e_lcL (fun v => v) (fitV (L.getD r.s.toNat 0) (L.getD r.e.toNat 0) T) (val_var rfl) (SqL.of hw1) (by rw [List.length_map, rgI_len]; omega) (fun _ => rfl) (fun i v Dl o hi hD => ?_) (fun i v Dl o hi _ hD => val_var rfl) fun fl hfl => ?_)
  · rw [List.getElem?_map] at hi
    have hv : ∃ k : Nat, v = .int (r.l + (k : Int)) := by
      by_cases hlt : i < T.toNat
      · rw [rgI_at hlt] at hi; exact ⟨i, (Option.some.inj hi).symm⟩
      · rw [List.getElem?_eq_none (by rw [rgI_len]; omega)] at hi; cases hi
    obtain ⟨k, rfl⟩ := hv
    have k2 : Kp [] H (upd H1 Dl o) := k1.new hD
    have ha2 := ha.kp k2 (by simp)
    have hq := ha2.sq (K := K)
    have ht2 : upd H1 Dl o t = some (.tup r.vs) := k2 _ _ (by simp) ht
    refine a_test (v_eq (v_I (v_intI (ar_cons (v_I0 (v_I0 (val_var rfl) (v_ixS (v := .int (L.getD r.s.toNat 0)) (val_var rfl) (v_ixT (v := .int r.s) (val_var rfl) val_c (SqT.of ht2) rfl) hq (atI_ints (by omega) (by omega)))) (v_ixS (v := .int (L.getD r.e.toNat 0)) (val_var rfl) (v_ixT (v := .int r.e) (val_var rfl) val_c (SqT.of ht2) rfl) hq (atI_ints (by omega) (by omega)))) ar_nil)) (val_var rfl) (by omega)) val_c rfl)
  · have k2 : Kp [] H (upd H1 fl (.lst ((((rgI T.toNat).map (addV r.l)).filter (fitV (L.getD r.s.toNat 0) (L.getD r.e.toNat 0) T)).map fun v => v))) := k1.new hfl
    refine g_ret (g_val (v_ixL (v := .int (goneP T L r)) (val_var rfl) val_c (SqL.of upd_same) (atI_nat (j := 0) ?_)) (q _ k2))
    rw [List.map_id', List.filter_map, ← List.head?_eq_getElem?, List.head?_map, List.head?_filter]
    unfold rgI
    rw [List.find?_map]
    have g := gone_at (T := T) (l := r.l) (s := L.getD r.s.toNat 0) (e := L.getD r.e.toNat 0) (by omega)
    have e : ((fitV (L.getD r.s.toNat 0) (L.getD r.e.toNat 0) T) ∘ (addV r.l)) ∘ (fun (i : Nat) => V.int (i : Nat)) = fun (k : Nat) => decide ((r.l + (k : Int) + L.getD r.s.toNat 0 - L.getD r.e.toNat 0) % T = 0) := by
      funext k
      show decide (V.int _ = V.int 0) = _
      simp
    rw [e, g]
    have m0 := Int.emod_nonneg (L.getD r.e.toNat 0 - L.getD r.s.toNat 0 - r.l) (show T ≠ 0 by omega)
    show some (V.int (r.l + ((((L.getD r.e.toNat 0 - L.getD r.s.toNat 0 - r.l) % T).toNat : Nat) : Int))) = _
    rw [Int.toNat_of_nonneg m0]
    rfl
theorem call_gone {K : PySem.W.Frag} {H : Hp} {Q : VK} {E : XK} {a t : Addr} {T n : Int} {L : List Int} {r : Row} (ha : TimesAt H a L) (ht : H t = some (.tup r.vs)) (ok : r.Ok T n) (hl : n ≤ L.length) (t0 : 2 ≤ T) (t1 : T ≤ 60) (q : ∀ H', Kp [] H H' → Q (.int (goneP T L r)) H') : sp_l_gone K [.int T, .ref t, .ref a] H Q E := ⟨a, t, T, n, L, r, rfl, ha, ht, ok, hl, t0, t1, q⟩
end Cl

/-! ## PuC -/
namespace Cl
open PySem PySem.Spec PyProof.Rows L2
/-! ### the walk's own lines: "c" a side condition, "h" what stands at an address, "s" a list that is read, "at" an item, "v" a value, "a" an answer, "ar" arguments -/
local macro_rules | `(tactic| walk_at "c") => `(tactic| first | assumption | (with_reducible rfl) | decide | omega | exact Or.inr ⟨by first | decide | omega, by first | decide | omega⟩ | exact Or.inl ⟨by first | decide | omega, by first | decide | omega⟩ | exact ⟨by first | decide | omega, by first | decide | omega⟩ | exact ⟨by decide, by decide, by decide⟩)
local macro_rules | `(tactic| walk_at "ne") => `(tactic| first | assumption | (exact Ne.symm (by assumption)) | (exact ne_of_none (by assumption) (by assumption)) | (exact Ne.symm (ne_of_none (by assumption) (by assumption))))
local macro_rules | `(tactic| walk_at "h") => `(tactic| first | assumption | exact upd_same | (refine Eq.trans (upd_ne ?_) ?_; walk_at "ne"; walk_at "h"))
local macro_rules | `(tactic| walk_at "s") => `(tactic| first | assumption | (exact SqL.of (by walk_at "h")) | (exact SqT.of (by walk_at "h")))
local macro_rules | `(tactic| walk_at "at") => `(tactic| first | rfl | exact atI_ints (by omega) (by omega))
local macro_rules | `(tactic| walk_at "ty") => `(tactic| first | exact .base (.int _) | exact .base (.bl _) | exact .base .non | exact .base (.str _) | exact .base (.lst (by walk_at "h")) | exact .base (.tup (by walk_at "h")))
local macro_rules | `(tactic| walk_at "v") => `(tactic| first
  | (with_reducible exact val_c)
  | ((with_reducible apply val_var); rfl)
  | ((with_reducible apply v_I0); walk_at "v"; walk_at "v")
  | ((with_reducible apply v_I); walk_at "v"; walk_at "v"; walk_at "c")
  | ((with_reducible apply v_U); walk_at "v")
  | ((with_reducible apply v_eq); walk_at "v"; walk_at "v"; rfl)
  | ((with_reducible apply v_ne); walk_at "v"; walk_at "v"; rfl)
  | ((with_reducible apply v_ixL); walk_at "v"; walk_at "v"; walk_at "s"; walk_at "at")
  | ((with_reducible apply v_ixT); walk_at "v"; walk_at "v"; walk_at "s"; walk_at "at")
  | ((with_reducible apply v_ixS); walk_at "v"; walk_at "v"; assumption; walk_at "at")
  | ((with_reducible apply v_fld); walk_at "v"; walk_at "h"; assumption; assumption; walk_at "fl")
  | ((with_reducible apply v_len); walk_at "ar"; walk_at "s")
  | ((with_reducible apply v_lenS); walk_at "ar"; assumption)
  | ((with_reducible apply v_lenT); walk_at "ar"; walk_at "s")
  | ((with_reducible apply v_abs); walk_at "ar")
  | ((with_reducible apply v_max2); walk_at "ar")
  | ((with_reducible apply v_min2); walk_at "ar")
  | ((with_reducible apply v_intI); walk_at "ar")
  | ((with_reducible apply v_intB); walk_at "ar")
  | ((with_reducible apply v_chain); walk_at "v"; walk_at "v"; walk_at "v"; exact i_B0; exact i_B0)
  | ((with_reducible apply v_chain3); walk_at "v"; walk_at "v"; walk_at "v"; walk_at "v"; exact i_B0; exact i_B0; exact i_B0)
  | ((with_reducible apply v_andV); walk_at "v"; (intro _; walk_at "v"))
  | ((with_reducible apply v_orV); walk_at "v"; (intro _; walk_at "v"))
  | ((with_reducible apply v_notV); walk_at "v")
  | ((with_reducible apply v_isN); walk_at "v")
  | ((with_reducible apply v_notN); walk_at "v")
  | ((with_reducible apply v_isiT); walk_at "ar"; walk_at "ty"; decide +kernel)
  | ((with_reducible apply v_isiF); walk_at "ar"; walk_at "ty"; decide +kernel)
  | ((with_reducible apply v_if); walk_at "a"; (intro _; walk_at "v"); (intro _; walk_at "v")))
local macro_rules | `(tactic| walk_at "ar") => `(tactic| first
  | (with_reducible exact ar_nil)
  | ((with_reducible apply ar_cons); walk_at "v"; walk_at "ar"))
local macro_rules | `(tactic| walk_at "a") => `(tactic| first
  | ((with_reducible apply a_test); walk_at "v")
  | ((with_reducible apply a_B); walk_at "v")
  | ((with_reducible apply a_not); walk_at "a")
  | ((with_reducible apply a_and); walk_at "a"; (intro _; walk_at "a"))
  | ((with_reducible apply a_or); walk_at "a"; (intro _; walk_at "a")))
local macro_rules | `(tactic| walk_at "fl") => `(tactic| first | exact fl_events _ _ _ | exact fl_spans _ _ _ | exact fl_round _ _ _)
local macro_rules | `(tactic| walk_at "call") => `(tactic| refine g_call (g_args (by walk_at "ar") ?_))
/-! ## data -/
def dV : PyData → V
  | .none => .non
  | .bool b => .bl b
  | .int i => .int i
  | .str s => .str s
  | _ => .non
def isS : PyData → Bool
  | .none => true
  | .bool _ => true
  | .int _ => true
  | .str _ => true
  | _ => false
theorem dat_s {H : Hp} {n : Nat} {d : PyData} (h : isS d = true) : Dat H n d (dV d) := by
  cases d <;> first | (cases n <;> rfl) | cases h
theorem dat_tup {H : Hp} {t : Addr} {ds : List PyData} {n : Nat} {xs : List V} (h : H t = some (.tup xs)) (hx : xs = ds.map dV) (hl : ds.length ≤ 1000000) (hs : ∀ d ∈ ds, isS d = true) : Dat H (n + 1) (.tuple ds) (.ref t) := by
  subst hx
  refine ⟨t, _, rfl, h, hl, by simp, fun i d x h1 h2 => ?_⟩
  rw [List.getElem?_map, h1] at h2
  cases h2
  exact dat_s (hs d (List.mem_of_getElem? h1))
theorem dat_ints {H : Hp} {t : Addr} {L : List Int} {n : Nat} (h : H t = some (.lst (L.map V.int))) (hl : L.length ≤ 1000000) : Dat H (n + 1) (.list (L.map .int)) (.ref t) := by
  refine ⟨t, _, rfl, h, by simpa using hl, by simp, fun i d x h1 h2 => ?_⟩
  rw [List.getElem?_map] at h1 h2
  cases e : L[i]? with
  | none => rw [e] at h1; cases h1
  | some z =>
    rw [e] at h1 h2
    cases h1; cases h2
    cases n <;> rfl
/-! ## what the suites tell -/
theorem bad_suite {K : PySem.W.Frag} (c : TimesK K) {σ : L2.St} {H : Hp} {D : Ends} {r : TS} {a dd : Addr} {i j k : Nat} (hσ : σ[i]? = some (some (.ref a))) (hd : H dd = some (noteT k)) (q : ∀ t, H t = none → r D ((σ.set j (some (.ref t))).set i none) (upd H t (.tup (badV k)))) :
    tAsg (tTup (tCons (tC (.str "bad times")) (tCons (tXf a (.ref (He.ga K "BadTimes")) (some dd) (He.ga K "BadTimes") "place" (tVar i)) (tCons (tCB (rIsX K (He.ga K "BadTimes") a (.ref (He.ga K "BadTimes")) (some dd)) (tCons (tVar i) (tCons (tC (.ref (He.ga K "DepotError"))) tNil))) (tCons (tCB (rIsX K (He.ga K "BadTimes") a (.ref (He.ga K "BadTimes")) (some dd)) (tCons (tVar i) (tCons (tC (.ty "ValueError")) tNil))) (tCons (tCB (rIsX K (He.ga K "BadTimes") a (.ref (He.ga K "BadTimes")) (some dd)) (tCons (tVar i) (tCons (tC (.ref (He.ga K "UnknownSpan"))) tNil))) tNil)))))) (gName j) (endN { D with nx := r D } i) σ H :=
  g_set (g_tup (g_args (ar_cons val_c (ar_cons (v_xf (val_var hσ) hd rfl) (ar_cons (v_isX (ar_cons (val_var hσ) (ar_cons val_c ar_nil)) hd c.bd) (ar_cons (v_isXT (ar_cons (val_var hσ) (ar_cons val_c ar_nil)) hd c.bv) (ar_cons (v_isX (ar_cons (val_var hσ) (ar_cons val_c ar_nil)) hd c.bu) ar_nil))))) ⟨by show 5 ≤ sizeLine; decide, q⟩))
theorem pure_l_check_told {K : PySem.W.Frag} (c : TimesK K) {vs H Q E} (h : sp_l_check_told K vs H Q E) : t_l_check_told K { nx := fun _ H' => Q .non H', rt := Q } (start N_l_check_told vs) H := by
  obtain ⟨x, a, T, n, rows, L, rfl, N, q1, q2⟩ := h
  refine q_val val_c (q_val val_c (q_tryC (by walk_at "ar") ⟨x, a, T, n, rows, L, rfl, N, fun hw => ?_, fun k d hk hd => ?_⟩))
  · refine q_yes (by walk_at "a") (by rfl) ?_
    refine g_set (g_tup (g_args (by walk_at "ar") ⟨by show 2 ≤ sizeLine; decide, fun t ht => ?_⟩))
    exact g_ret (g_var rfl (q1 hw t _ ht ((Kp.refl _ _).new ht) upd_same))
  · refine w_hit c.bb fun e he => bad_suite c rfl upd_same fun t ht => ?_
    have kd : Kp [] H (upd H d (noteT k)) := (Kp.refl _ _).new hd
    refine q_no (by walk_at "a") (by rfl) ?_
    exact g_ret (g_var rfl (q2 k hk t _ (kd.free (by simp) ht) (kd.new ht) upd_same))
theorem pure_l_broken_told {K : PySem.W.Frag} (c : TimesK K) {vs H Q E} (h : sp_l_broken_told K vs H Q E) : t_l_broken_told K { nx := fun _ H' => Q .non H', rt := Q } (start N_l_broken_told vs) H := by
  obtain ⟨x, a, T, n, rows, L, rfl, N, q1, q2⟩ := h
  refine q_val val_c (q_val val_c (q_tryC (by walk_at "ar") ⟨x, a, T, n, rows, L, rfl, N, fun k d hk hd => ?_, fun hw l H1 hl k1 h1 => ?_⟩))
  · refine w_hit c.bb fun e he => bad_suite c rfl upd_same fun t ht => ?_
    have kd : Kp [] H (upd H d (noteT k)) := (Kp.refl _ _).new hd
    refine q_no (by walk_at "a") (by rfl) ?_
    exact g_ret (g_var rfl (q2 k hk t _ (kd.free (by simp) ht) (kd.new ht) upd_same))
  · refine q_yes (by walk_at "a") (by rfl) ?_
    refine g_set (g_tup (g_args (by walk_at "ar") ⟨by show 2 ≤ sizeLine; decide, fun t ht => ?_⟩))
    exact g_ret (g_var rfl (q1 hw t l _ (k1.free (by simp) ht) (k1.new ht) upd_same (by rw [upd_ne (ne_of_none h1 ht)]; exact h1)))
theorem told_end {D : Ends} {s0 s1 s2 s3 s4 s5 s6 : Option V} {H : Hp} {t : Addr} (q : D.rt (.ref t) H) :
    tSeq (tIfS (tTest (tOp rIsN (tVar 3) (tC .non))) (tAsg (tTup (tCons (tC (.str "returned")) (tCons (tVar 4) tNil))) (gName 3)) tNext) (tRet (tVar 3)) D [s0, s1, s2, some (.ref t), s3, s4, s5, s6] H := by
  refine q_no (by walk_at "a") (by rfl) ?_
  exact g_ret (g_var rfl q)
theorem pure_l_passed_told {K : PySem.W.Frag} (c : TimesK K) {vs H Q E} (h : sp_l_passed_told K vs H Q E) : t_l_passed_told K { nx := fun _ H' => Q .non H', rt := Q } (start N_l_passed_told vs) H := by
  obtain ⟨x, a, i, T, n, rows, L, rfl, N, i0, i1, q1, q2⟩ := h
  refine q_val val_c (q_val val_c (q_tryC (by walk_at "ar") ⟨x, a, i, T, n, rows, L, rfl, N, i0, i1, fun k d hk hd => ?_, fun hw => ⟨fun h0 h1 H1 k1 => ?_, fun hi d hd => ?_⟩⟩))
  · refine w_hit c.bb fun e he => bad_suite c rfl upd_same fun t ht => ?_
    have kd : Kp [] H (upd H d (noteT k)) := (Kp.refl _ _).new hd
    refine q_no (by walk_at "a") (by rfl) ?_
    exact g_ret (g_var rfl (q1 k hk t _ (kd.free (by simp) ht) (kd.new ht) upd_same))
  · refine q_yes (by walk_at "a") (by rfl) ?_
    refine g_set (g_tup (g_args (by walk_at "ar") ⟨by show 2 ≤ sizeLine; decide, fun t ht => ?_⟩))
    exact g_ret (g_var rfl ((q2 hw).1 h0 h1 t _ (k1.free (by simp) ht) (k1.new ht) upd_same))
  · refine w_miss c.ub (w_hit c.uu fun e he => ?_)
    have kd : Kp [] H (upd H d (noteN i)) := (Kp.refl _ _).new hd
    have hd1 : upd H d (noteN i) d = some (noteN i) := upd_same
    refine q_set (g_tup (g_args (ar_cons (v_isX (ar_cons (val_var rfl) (ar_cons val_c ar_nil)) hd1 c.ud) (ar_cons (v_isXT (ar_cons (val_var rfl) (ar_cons val_c ar_nil)) hd1 c.uv) (ar_cons (v_isX (ar_cons (val_var rfl) (ar_cons val_c ar_nil)) hd1 c.ut) ar_nil))) ⟨by show 3 ≤ sizeLine; decide, fun s hs => ?_⟩))
    have hd2 : upd (upd H d (noteN i)) s (.tup [.bl true, .bl true, .bl false]) d = some (noteN i) := by rw [upd_ne (ne_of_none hd1 hs)]; exact hd1
    refine g_set (g_op (g_tup (g_args (ar_cons val_c (ar_cons (v_xf (val_var rfl) hd2 rfl) ar_nil)) ⟨by show 2 ≤ sizeLine; decide, fun u hu => ?_⟩)))
    have hs2 : upd (upd (upd H d (noteN i)) s (.tup [.bl true, .bl true, .bl false])) u (.tup [.str "unknown", .int i]) s = some (.tup [.bl true, .bl true, .bl false]) := by
      rw [upd_ne (ne_of_none upd_same hu)]; exact upd_same
    refine g_var rfl ?_
    refine ⟨u, s, _, _, rfl, rfl, SqT.of upd_same, SqT.of hs2, (fun z => by cases z), by show 5 ≤ sizeLine; decide, fun z => (by cases z), fun _ t ht => ?_⟩
    have k3 := (kd.new (o := .tup [.bl true, .bl true, .bl false]) hs).new (o := .tup [.str "unknown", .int i]) hu
    have fin := (q2 hw).2 hi t _ (k3.free (by simp) ht) (k3.new ht) upd_same
    exact told_end fin
end Cl

/-! ## PuD -/
namespace Cl
open PySem PySem.Spec PyProof.Rows L2
/-! ### the walk's own lines: "c" a side condition, "h" what stands at an address, "s" a list that is read, "at" an item, "v" a value, "a" an answer, "ar" arguments -/
local macro_rules | `(tactic| walk_at "c") => `(tactic| first | assumption | (with_reducible rfl) | decide | omega | exact Or.inr ⟨by first | decide | omega, by first | decide | omega⟩ | exact Or.inl ⟨by first | decide | omega, by first | decide | omega⟩ | exact ⟨by first | decide | omega, by first | decide | omega⟩ | exact ⟨by decide, by decide, by decide⟩)
local macro_rules | `(tactic| walk_at "ne") => `(tactic| first | assumption | (exact Ne.symm (by assumption)) | (exact ne_of_none (by assumption) (by assumption)) | (exact Ne.symm (ne_of_none (by assumption) (by assumption))))
local macro_rules | `(tactic| walk_at "h") => `(tactic| first | assumption | exact upd_same | (refine Eq.trans (upd_ne ?_) ?_; walk_at "ne"; walk_at "h"))
local macro_rules | `(tactic| walk_at "s") => `(tactic| first | assumption | (exact SqL.of (by walk_at "h")) | (exact SqT.of (by walk_at "h")))
local macro_rules | `(tactic| walk_at "at") => `(tactic| first | rfl | exact atI_ints (by omega) (by omega))
local macro_rules | `(tactic| walk_at "ty") => `(tactic| first | exact .base (.int _) | exact .base (.bl _) | exact .base .non | exact .base (.str _) | exact .base (.lst (by walk_at "h")) | exact .base (.tup (by walk_at "h")))
local macro_rules | `(tactic| walk_at "v") => `(tactic| first
  | (with_reducible exact val_c)
  | ((with_reducible apply val_var); rfl)
  | ((with_reducible apply v_I0); walk_at "v"; walk_at "v")
  | ((with_reducible apply v_I); walk_at "v"; walk_at "v"; walk_at "c")
  | ((with_reducible apply v_U); walk_at "v")
  | ((with_reducible apply v_eq); walk_at "v"; walk_at "v"; rfl)
  | ((with_reducible apply v_ne); walk_at "v"; walk_at "v"; rfl)
  | ((with_reducible apply v_ixL); walk_at "v"; walk_at "v"; walk_at "s"; walk_at "at")
  | ((with_reducible apply v_ixT); walk_at "v"; walk_at "v"; walk_at "s"; walk_at "at")
  | ((with_reducible apply v_ixS); walk_at "v"; walk_at "v"; assumption; walk_at "at")
  | ((with_reducible apply v_fld); walk_at "v"; walk_at "h"; assumption; assumption; walk_at "fl")
  | ((with_reducible apply v_len); walk_at "ar"; walk_at "s")
  | ((with_reducible apply v_lenS); walk_at "ar"; assumption)
  | ((with_reducible apply v_lenT); walk_at "ar"; walk_at "s")
  | ((with_reducible apply v_abs); walk_at "ar")
  | ((with_reducible apply v_max2); walk_at "ar")
  | ((with_reducible apply v_min2); walk_at "ar")
  | ((with_reducible apply v_intI); walk_at "ar")
  | ((with_reducible apply v_intB); walk_at "ar")
  | ((with_reducible apply v_chain); walk_at "v"; walk_at "v"; walk_at "v"; exact i_B0; exact i_B0)
  | ((with_reducible apply v_chain3); walk_at "v"; walk_at "v"; walk_at "v"; walk_at "v"; exact i_B0; exact i_B0; exact i_B0)
  | ((with_reducible apply v_andV); walk_at "v"; (intro _; walk_at "v"))
  | ((with_reducible apply v_orV); walk_at "v"; (intro _; walk_at "v"))
  | ((with_reducible apply v_notV); walk_at "v")
  | ((with_reducible apply v_isN); walk_at "v")
  | ((with_reducible apply v_notN); walk_at "v")
  | ((with_reducible apply v_isiT); walk_at "ar"; walk_at "ty"; decide +kernel)
  | ((with_reducible apply v_isiF); walk_at "ar"; walk_at "ty"; decide +kernel)
  | ((with_reducible apply v_if); walk_at "a"; (intro _; walk_at "v"); (intro _; walk_at "v")))
local macro_rules | `(tactic| walk_at "ar") => `(tactic| first
  | (with_reducible exact ar_nil)
  | ((with_reducible apply ar_cons); walk_at "v"; walk_at "ar"))
local macro_rules | `(tactic| walk_at "a") => `(tactic| first
  | ((with_reducible apply a_test); walk_at "v")
  | ((with_reducible apply a_B); walk_at "v")
  | ((with_reducible apply a_not); walk_at "a")
  | ((with_reducible apply a_and); walk_at "a"; (intro _; walk_at "a"))
  | ((with_reducible apply a_or); walk_at "a"; (intro _; walk_at "a")))
local macro_rules | `(tactic| walk_at "fl") => `(tactic| first | exact fl_events _ _ _ | exact fl_spans _ _ _ | exact fl_round _ _ _)
local macro_rules | `(tactic| walk_at "call") => `(tactic| refine g_call (g_args (by walk_at "ar") ?_))
theorem call_check_told {K : PySem.W.Frag} {H : Hp} {Q : VK} {E : XK} {x a : Addr} {T n : Int} {rows : List Row} {L : List Int} (N : NT K H x a T n rows L) (q1 : wrongP T n L = none → GotTup H Q [.str "returned", .non]) (q2 : ∀ k, wrongP T n L = some k → GotTup H Q (badV k)) : sp_l_check_told K [.ref x, .ref a] H Q E := ⟨x, a, T, n, rows, L, rfl, N, q1, q2⟩
theorem call_broken_told {K : PySem.W.Frag} {H : Hp} {Q : VK} {E : XK} {x a : Addr} {T n : Int} {rows : List Row} {L : List Int} (N : NT K H x a T n rows L) (q1 : wrongP T n L = none → ∀ t l H', H t = none → Kp [] H H' → H' t = some (.tup [.str "returned", .ref l]) → H' l = some (.lst ((overP T L rows).map V.int)) → Q (.ref t) H') (q2 : ∀ k, wrongP T n L = some k → GotTup H Q (badV k)) : sp_l_broken_told K [.ref x, .ref a] H Q E := ⟨x, a, T, n, rows, L, rfl, N, q1, q2⟩
theorem call_passed_told {K : PySem.W.Frag} {H : Hp} {Q : VK} {E : XK} {x a : Addr} {i T n : Int} {rows : List Row} {L : List Int} (N : NT K H x a T n rows L) (i0 : -1000000000 ≤ i) (i1 : i ≤ 1000000000) (q1 : ∀ k, wrongP T n L = some k → GotTup H Q (badV k))
    (q2 : wrongP T n L = none → (0 ≤ i → i < rows.length → GotTup H Q [.str "returned", .int (goneP T L (rows.getD i.toNat ⟨0, 0, 0, 0⟩))]) ∧ ((i < 0 ∨ rows.length ≤ i) → GotTup H Q [.str "unknown", .int i, .bl true, .bl true, .bl false])) : sp_l_passed_told K [.ref x, .ref a, .int i] H Q E := ⟨x, a, i, T, n, rows, L, rfl, N, i0, i1, q1, q2⟩
theorem no_some {o : Option Nat} {P : Nat → Prop} (h : o = none) : ∀ k, o = some k → P k := fun k e => by rw [h] at e; cases e
theorem no_some2 {o : Option Nat} {P : Nat → Addr → Prop} (h : o = none) : ∀ k d, o = some k → P k d := fun k d e => by rw [h] at e; cases e
theorem no_none {o : Option Nat} {k : Nat} {P : Prop} (h : o = some k) : o = none → P := fun e => by rw [h] at e; cases e
theorem pure_l_passed_good {K : PySem.W.Frag} {vs H Q E} (h : sp_l_passed_good K vs H Q E) : t_l_passed_good K { nx := fun _ H' => Q .non H', rt := Q } (start N_l_passed_good vs) H := by
  obtain ⟨x, a, s, g, f, T, n, rows, L, rfl, N, ⟨ts, hs, hrs⟩, hg, f0, f1, hw, q⟩ := h
  have el : ts.length = rows.length := hrs.1
  have rl := N.rl
  refine q_forR (n := (rows.length : Nat)) (ar_cons (v_cast (by walk_at "v") (by rw [List.length_map, el])) ar_nil) (by omega) (fun i σ' H' => Kp [] H H' ∧ ∃ y, σ' = [some (.ref x), some (.ref a), some (.ref s), some (.ref g), some (.int f), y, none]) ⟨Kp.refl _ _, _, rfl⟩ ?_ ?_
  · rintro i σ' H' hi ⟨k, y, rfl⟩
    have hlt : i < rows.length := by omega
    refine g_ifS (g_not (g_B (g_call (g_cons ?_))))
    walk_at "call"
    refine call_passed_told (N.kp k) (by omega) (by omega) (no_some hw) fun _ => ⟨fun _ _ t H1 ht k1 h1 => ?_, fun z => by omega⟩
    have hg1 : H1 g = some (.lst ((gonesP T L rows).map V.int)) := (k.trans k1) _ _ (by simp) hg
    have e1 : (rows.getD ((i : Nat) : Int).toNat ⟨0, 0, 0, 0⟩) = rows[i] := rows_get hlt
    have e2 : atI ((gonesP T L rows).map V.int) (i : Int) = some (.int (goneP T L rows[i])) := atI_nat (by unfold gonesP; simp [hlt])
    refine g_cons (g_tup (g_args (ar_cons val_c (ar_cons (v_ixL (val_var rfl) (val_var rfl) (SqL.of hg1) e2) ar_nil)) ⟨by show 2 ≤ sizeLine; decide, fun u hu => g_nil ?_⟩))
    rw [e1] at h1
    refine call_same 1 (.tuple [.str "returned", .int (goneP T L rows[i])]) (by decide) (dat_tup (by rw [upd_ne (ne_of_none h1 hu)]; exact h1) rfl (by simp) (by simp [isS])) (dat_tup upd_same rfl (by simp) (by simp [isS])) ⟨true, rfl, iteF ?_⟩
    exact ⟨(k.trans k1).new hu, _, rfl⟩
  · rintro σ' H' ⟨k, y, rfl⟩
    have hs1 : H' s = some (.lst (ts.map V.ref)) := k _ _ (by simp) hs
    refine s_seq (s_for_lst (xs := [.int (-1 - f), .int (((ts.map V.ref).length : Nat) + f)]) (ar_cons (by walk_at "v") (ar_cons (by walk_at "v") ar_nil)) (by show 2 ≤ sizeLine; decide) fun lp hlp => ?_)
    refine s_forLi (K := K) (SqL.of upd_same) (fun i σ' H2 => Kp [] (upd H' lp (.lst [.int (-1 - f), .int (((ts.map V.ref).length : Nat) + f)])) H2 ∧ ∃ y z, σ' = [some (.ref x), some (.ref a), some (.ref s), some (.ref g), some (.int f), y, z]) ⟨Kp.refl _ _, _, _, rfl⟩ (fun i σ' H2 _ ⟨k2, _⟩ => SqL.of (k2 _ _ (by simp) upd_same)) ?_ ?_
    · rintro i v σ' H2 hi ⟨k2, y, z, rfl⟩
      have k3 : Kp [] H H2 := (k.new hlp).trans k2
      have hv : ∃ m : Int, v = .int m ∧ -1000000000 ≤ m ∧ m ≤ 1000000000 ∧ (m < 0 ∨ (rows.length : Int) ≤ m) := by
        match i with
        | 0 => cases hi; exact ⟨_, rfl, by omega, by omega, by omega⟩
        | 1 => cases hi; rw [List.length_map]; exact ⟨_, rfl, by omega, by omega, by omega⟩
        | i + 2 => simp at hi
      obtain ⟨m, rfl, m0, m1, m2⟩ := hv
      refine g_ifS (g_not (g_B (g_call (g_cons ?_))))
      walk_at "call"
      refine call_passed_told (N.kp k3) m0 m1 (no_some hw) fun _ => ⟨fun _ _ => by omega, fun _ t H3 ht k4 h1 => ?_⟩
      refine g_cons (g_tup (g_args (by walk_at "ar") ⟨by show 5 ≤ sizeLine; decide, fun u hu => g_nil ?_⟩))
      refine call_same 1 (.tuple [.str "unknown", .int m, .bool true, .bool true, .bool false]) (by decide) (dat_tup (by rw [upd_ne (ne_of_none h1 hu)]; exact h1) rfl (by simp) (by simp [isS])) (dat_tup upd_same rfl (by simp) (by simp [isS])) ⟨true, rfl, iteF ?_⟩
      exact ⟨(k2.trans k4).new hu, _, _, rfl⟩
    · rintro σ' H2 ⟨k2, y, z, rfl⟩
      exact q _ ((k.new hlp).trans k2)
theorem call_passed_good {K : PySem.W.Frag} {H : Hp} {Q : VK} {E : XK} {x a s g : Addr} {f T n : Int} {rows : List Row} {L : List Int} (N : NT K H x a T n rows L) (hs : SpansAt H s rows) (hg : H g = some (.lst ((gonesP T L rows).map V.int))) (f0 : 0 ≤ f) (f1 : f ≤ 100000000) (hw : wrongP T n L = none) (q : ∀ H', Kp [] H H' → Q (.bl true) H') : sp_l_passed_good K [.ref x, .ref a, .ref s, .ref g, .int f] H Q E := ⟨x, a, s, g, f, T, n, rows, L, rfl, N, hs, hg, f0, f1, hw, q⟩
theorem pure_l_refused_good {K : PySem.W.Frag} {vs H Q E} (h : sp_l_refused_good K vs H Q E) : t_l_refused_good K { nx := fun _ H' => Q .non H', rt := Q } (start N_l_refused_good vs) H := by
  obtain ⟨x, a, f, T, n, rows, L, w, rfl, N, f0, f1, hw, q⟩ := h
  have rl := N.rl
  refine q_set (g_tup (g_args (by walk_at "ar") ⟨by show 5 ≤ sizeLine; decide, fun du hdu => ?_⟩))
  generalize hH0 : upd H du (.tup [.str "bad times", .int (w : Int), .bl true, .bl true, .bl false]) = H0
  have k0 : Kp [] H H0 := by rw [← hH0]; exact (Kp.refl _ _).new hdu
  have h0 : H0 du = some (.tup (badV w)) := by rw [← hH0]; exact upd_same
  have same : ∀ {H1 : Hp} {t : Addr} {Q' : VK} {E : XK}, Kp [] H0 H1 → H1 t = some (.tup (badV w)) → Q' (.bl true) H1 → sp_l_same [.ref t, .ref du] H1 Q' E := fun {H1 t Q' E} k1 h1 q' =>
    call_same 1 (.tuple [.str "bad times", .int (w : Int), .bool true, .bool true, .bool false]) (by decide) (dat_tup h1 rfl (by simp) (by simp [isS])) (dat_tup (k1 _ _ (by simp) h0) rfl (by simp) (by simp [isS])) q'
  refine q_whenc (g_or (g_not (g_B (g_call (g_cons ?_)))))
  walk_at "call"
  refine call_check_told (N.kp k0) (no_none hw) fun k hk t H1 ht k1 h1 => ?_
  have ek : k = w := by rw [hw] at hk; exact (Option.some.inj hk).symm
  subst ek
  refine g_cons (g_var rfl (g_nil (same k1 h1 ⟨true, rfl, iteF ?_⟩)))
  refine g_not (g_B (g_call (g_cons ?_)))
  walk_at "call"
  refine call_broken_told (N.kp (k0.trans k1)) (no_none hw) fun k' hk t2 H2 ht2 k2 h2 => ?_
  have ek : k' = k := by rw [hw] at hk; exact (Option.some.inj hk).symm
  subst ek
  refine g_cons (g_var rfl (g_nil (same (k1.trans k2) h2 ⟨true, rfl, iteF ?_⟩)))
  have k02 : Kp [] H0 H2 := k1.trans k2
  refine s_seq (s_for_any (g_op (e_lstRg (by walk_at "v") (by omega) fun l1 hl1 => ?_)))
  refine g_lst (g_args (by walk_at "ar") ⟨by show 2 ≤ sizeLine; decide, fun l2 hl2 => ?_⟩)
  have e1 : upd H2 l1 (.lst (rgI ((rows.length : Nat) : Int).toNat)) l1 = some (.lst (rgI ((rows.length : Nat) : Int).toNat)) := upd_same
  refine e_cat (xs := rgI ((rows.length : Nat) : Int).toNat) (zs := [.int (-1 - f), .int ((rows.length : Nat) + f)]) (by rw [upd_ne (ne_of_none e1 hl2)]; exact e1) upd_same (by rw [rgI_len]; simp; omega) fun l hl => ?_
  refine ⟨l, rfl, ⟨_, SqL.of upd_same⟩, ?_⟩
  have k3 : Kp [] H0 (upd (upd (upd H2 l1 (.lst (rgI ((rows.length : Nat) : Int).toNat))) l2 (.lst [.int (-1 - f), .int ((rows.length : Nat) + f)])) l (.lst (rgI ((rows.length : Nat) : Int).toNat ++ [.int (-1 - f), .int ((rows.length : Nat) + f)]))) := ((k02.new hl1).new hl2).new hl
  generalize hH3 : upd (upd (upd H2 l1 (.lst (rgI ((rows.length : Nat) : Int).toNat))) l2 (.lst [.int (-1 - f), .int ((rows.length : Nat) + f)])) l (.lst (rgI ((rows.length : Nat) : Int).toNat ++ [.int (-1 - f), .int ((rows.length : Nat) + f)])) = H3 at k3
  have h3 : H3 l = some (.lst (rgI ((rows.length : Nat) : Int).toNat ++ [.int (-1 - f), .int ((rows.length : Nat) + f)])) := by rw [← hH3]; exact upd_same
  refine s_forLi (K := K) (SqL.of h3) (fun i σ' H4 => Kp [] H3 H4 ∧ ∃ y, σ' = [some (.ref x), some (.ref a), some (.int (rows.length : Nat)), some (.int f), some (.int (k' : Nat)), some (.ref du), y]) ⟨Kp.refl _ _, _, rfl⟩ (fun i σ' H4 _ ⟨k4, _⟩ => SqL.of (k4 _ _ (by simp) h3)) ?_ ?_
  · rintro i v σ' H4 hi ⟨k4, y, rfl⟩
    have hv : ∃ m : Int, v = .int m ∧ -1000000000 ≤ m ∧ m ≤ 1000000000 := by
      have mem := List.mem_of_getElem? hi
      rcases List.mem_append.mp mem with z | z
      · unfold rgI at z
        obtain ⟨j, hj, rfl⟩ := List.mem_map.mp z
        have := List.mem_range.mp hj
        exact ⟨_, rfl, by omega, by omega⟩
      · have e : v = .int (-1 - f) ∨ v = .int ((rows.length : Nat) + f) := by simpa using z
        rcases e with rfl | rfl
        · exact ⟨_, rfl, by omega, by omega⟩
        · exact ⟨_, rfl, by omega, by omega⟩
    obtain ⟨m, rfl, m0, m1⟩ := hv
    refine g_ifS (g_not (g_B (g_call (g_cons ?_))))
    walk_at "call"
    refine call_passed_told (N.kp (k0.trans (k3.trans k4))) m0 m1 (fun k'' hk t5 H5 ht5 k5 h5 => ?_) (no_none hw)
    have ek : k'' = k' := by rw [hw] at hk; exact (Option.some.inj hk).symm
    subst ek
    refine g_cons (g_var rfl (g_nil (same ((k3.trans k4).trans k5) h5 ⟨true, rfl, iteF ?_⟩)))
    exact ⟨k4.trans k5, _, rfl⟩
  · rintro σ' H4 ⟨k4, y, rfl⟩
    exact q _ (k0.trans (k3.trans k4))
theorem call_refused_good {K : PySem.W.Frag} {H : Hp} {Q : VK} {E : XK} {x a : Addr} {f T n : Int} {rows : List Row} {L : List Int} {k : Nat} {c w : Int} (N : NT K H x a T n rows L) (f0 : 0 ≤ f) (f1 : f ≤ 100000000) (hw : wrongP T n L = some k) (hc : c = (rows.length : Nat)) (hk : w = (k : Nat)) (q : ∀ H', Kp [] H H' → Q (.bl true) H') : sp_l_refused_good K [.ref x, .ref a, .int c, .int f, .int w] H Q E := by
  subst hc hk
  exact ⟨x, a, f, T, n, rows, L, k, rfl, N, f0, f1, hw, q⟩
end Cl

/-! ## PuE -/
namespace Cl
open PySem PySem.Spec PyProof.Rows L2
/-! ### the walk's own lines: "c" a side condition, "h" what stands at an address, "s" a list that is read, "at" an item, "v" a value, "a" an answer, "ar" arguments -/
local macro_rules | `(tactic| walk_at "c") => `(tactic| first | assumption | (with_reducible rfl) | decide | omega | exact Or.inr ⟨by first | decide | omega, by first | decide | omega⟩ | exact Or.inl ⟨by first | decide | omega, by first | decide | omega⟩ | exact ⟨by first | decide | omega, by first | decide | omega⟩ | exact ⟨by decide, by decide, by decide⟩)
local macro_rules | `(tactic| walk_at "ne") => `(tactic| first | assumption | (exact Ne.symm (by assumption)) | (exact ne_of_none (by assumption) (by assumption)) | (exact Ne.symm (ne_of_none (by assumption) (by assumption))))
local macro_rules | `(tactic| walk_at "h") => `(tactic| first | assumption | exact upd_same | (refine Eq.trans (upd_ne ?_) ?_; walk_at "ne"; walk_at "h"))
local macro_rules | `(tactic| walk_at "s") => `(tactic| first | assumption | (exact SqL.of (by walk_at "h")) | (exact SqT.of (by walk_at "h")))
local macro_rules | `(tactic| walk_at "at") => `(tactic| first | rfl | exact atI_ints (by omega) (by omega))
local macro_rules | `(tactic| walk_at "ty") => `(tactic| first | exact .base (.int _) | exact .base (.bl _) | exact .base .non | exact .base (.str _) | exact .base (.lst (by walk_at "h")) | exact .base (.tup (by walk_at "h")))
local macro_rules | `(tactic| walk_at "v") => `(tactic| first
  | (with_reducible exact val_c)
  | ((with_reducible apply val_var); rfl)
  | ((with_reducible apply v_I0); walk_at "v"; walk_at "v")
  | ((with_reducible apply v_I); walk_at "v"; walk_at "v"; walk_at "c")
  | ((with_reducible apply v_U); walk_at "v")
  | ((with_reducible apply v_eq); walk_at "v"; walk_at "v"; rfl)
  | ((with_reducible apply v_ne); walk_at "v"; walk_at "v"; rfl)
  | ((with_reducible apply v_ixL); walk_at "v"; walk_at "v"; walk_at "s"; walk_at "at")
  | ((with_reducible apply v_ixT); walk_at "v"; walk_at "v"; walk_at "s"; walk_at "at")
  | ((with_reducible apply v_ixS); walk_at "v"; walk_at "v"; assumption; walk_at "at")
  | ((with_reducible apply v_fld); walk_at "v"; walk_at "h"; assumption; assumption; walk_at "fl")
  | ((with_reducible apply v_len); walk_at "ar"; walk_at "s")
  | ((with_reducible apply v_lenS); walk_at "ar"; assumption)
  | ((with_reducible apply v_lenT); walk_at "ar"; walk_at "s")
  | ((with_reducible apply v_abs); walk_at "ar")
  | ((with_reducible apply v_max2); walk_at "ar")
  | ((with_reducible apply v_min2); walk_at "ar")
  | ((with_reducible apply v_intI); walk_at "ar")
  | ((with_reducible apply v_intB); walk_at "ar")
  | ((with_reducible apply v_chain); walk_at "v"; walk_at "v"; walk_at "v"; exact i_B0; exact i_B0)
  | ((with_reducible apply v_chain3); walk_at "v"; walk_at "v"; walk_at "v"; walk_at "v"; exact i_B0; exact i_B0; exact i_B0)
  | ((with_reducible apply v_andV); walk_at "v"; (intro _; walk_at "v"))
  | ((with_reducible apply v_orV); walk_at "v"; (intro _; walk_at "v"))
  | ((with_reducible apply v_notV); walk_at "v")
  | ((with_reducible apply v_isN); walk_at "v")
  | ((with_reducible apply v_notN); walk_at "v")
  | ((with_reducible apply v_isiT); walk_at "ar"; walk_at "ty"; decide +kernel)
  | ((with_reducible apply v_isiF); walk_at "ar"; walk_at "ty"; decide +kernel)
  | ((with_reducible apply v_if); walk_at "a"; (intro _; walk_at "v"); (intro _; walk_at "v")))
local macro_rules | `(tactic| walk_at "ar") => `(tactic| first
  | (with_reducible exact ar_nil)
  | ((with_reducible apply ar_cons); walk_at "v"; walk_at "ar"))
local macro_rules | `(tactic| walk_at "a") => `(tactic| first
  | ((with_reducible apply a_test); walk_at "v")
  | ((with_reducible apply a_B); walk_at "v")
  | ((with_reducible apply a_not); walk_at "a")
  | ((with_reducible apply a_and); walk_at "a"; (intro _; walk_at "a"))
  | ((with_reducible apply a_or); walk_at "a"; (intro _; walk_at "a")))
local macro_rules | `(tactic| walk_at "fl") => `(tactic| first | exact fl_events _ _ _ | exact fl_spans _ _ _ | exact fl_round _ _ _)
local macro_rules | `(tactic| walk_at "call") => `(tactic| refine g_call (g_args (by walk_at "ar") ?_))
def overV (T : Int) (L : List Int) (rows : List Row) : V → Bool
  | .int z => decide ((rows.getD z.toNat ⟨0, 0, 0, 0⟩).m < goneP T L (rows.getD z.toNat ⟨0, 0, 0, 0⟩))
  | _ => false
theorem over_eq (T : Int) (L : List Int) (rows : List Row) : ((rgI rows.length).filter (overV T L rows)).map (fun v => v) = (overP T L rows).map V.int := by
  unfold overP rgI
  rw [List.map_id', List.filter_map, List.map_map]
  rfl
theorem over_len (T : Int) (L : List Int) (rows : List Row) : (overP T L rows).length ≤ rows.length := by
  unfold overP
  rw [List.length_map]
  exact Nat.le_trans (List.length_filter_le _ _) (by rw [List.length_range]; omega)
theorem pure_l_times_good {K : PySem.W.Frag} {vs H Q E} (h : sp_l_times_good K vs H Q E) : t_l_times_good K { nx := fun _ H' => Q .non H', rt := Q } (start N_l_times_good vs) H := by
  obtain ⟨x, a, s, f, T, n, rows, L, rfl, N, ⟨ts, hs, hrs⟩, f0, f1, q⟩ := h
  have el : ts.length = rows.length := hrs.1
  have rl := N.rl
  refine q_set ?_
  walk_at "call"
  refine call_wrong N.tim N.len N.n0 N.n1 ?_
  cases hw : wrongP T n L with
  | some k =>
    refine q_yes (b := !decide (V.int (k : Nat) = .non)) (a_test (v_notN (val_var rfl))) (by rfl) ?_
    refine g_ret ?_
    refine g_call (g_args (ar_cons (val_var rfl) (ar_cons (val_var rfl) (ar_cons (v_len (ar_cons (val_var rfl) ar_nil) (SqL.of hs)) (ar_cons (val_var rfl) (ar_cons (val_var rfl) ar_nil))))) ?_)
    exact call_refused_good N f0 f1 hw (by rw [List.length_map, el]) rfl q
  | none =>
    refine q_no (b := !decide (V.non = .non)) (a_test (v_notN (val_var rfl))) (by rfl) ?_
    have hl := wrong_len N.n0 hw
    refine q_set (e_lcLW (K := K) (xs := ts.map V.ref) (val_var rfl) (SqL.of hs) (fun Dl i H' => Kp [] H H' ∧ H' Dl = some (.lst ((gonesP T L (rows.take i)).map V.int))) (fun Dl hD => ⟨(Kp.refl _ _).new hD, upd_same⟩) (fun Dl i H' hD hi ⟨k, _⟩ => SqL.of (k _ _ (by simp) hs)) (fun _ => rfl) ?_ ?_)
    · rintro Dl i v H' hD hi ⟨k, hd⟩
      obtain ⟨u, hu, rfl⟩ := refs_at hi
      have hlt : i < rows.length := by
        have := (List.getElem?_eq_some_iff.mp hu).1
        omega
      have hru : H' u = some (.tup rows[i].vs) := k _ _ (by simp) (hrs.2 i u _ hu (List.getElem?_eq_getElem hlt))
      refine t_yesIf ?_
      refine g_call (g_args (ar_cons (val_var rfl) (ar_cons (val_var rfl) (ar_cons (val_var rfl) ar_nil))) ?_)
      refine call_gone (n := n) (N.kp k).tim hru (N.ok _ (List.getElem_mem hlt)) (by omega) N.t0 N.t1 fun H2 k2 => ?_
      refine ⟨_, k2 _ _ (by simp) hd, sz_lt ?_, (k.trans k2).mut hD, ?_⟩
      · unfold gonesP; rw [List.length_map, List.length_map, List.length_take]; omega
      · rw [upd_same]
        unfold gonesP
        rw [List.take_succ, List.getElem?_eq_getElem hlt, List.map_append, List.map_append]; rfl
    · rintro gl H1 hgl ⟨k1, h1⟩
      rw [List.length_map, el, List.take_length] at h1
      have hs1 : H1 s = some (.lst (ts.map V.ref)) := k1 _ _ (by simp) hs
      refine q_set (e_lcR (n := (rows.length : Nat)) (fun v => v) (overV T L rows) (ar_cons (v_cast (v_len (ar_cons (val_var rfl) ar_nil) (SqL.of hs1)) (by rw [List.length_map, el])) ar_nil) (by omega) (fun _ => rfl) (fun i Dl o hi hD => ?_) (fun i Dl o hi _ hD => val_var rfl) fun ol hol => ?_)
      · have hlt : i < rows.length := by omega
        have e1 : atI ((gonesP T L rows).map V.int) (i : Int) = some (.int (goneP T L rows[i])) := atI_nat (by unfold gonesP; simp [hlt])
        have hts : ts[i]? = some ts[i] := List.getElem?_eq_getElem (by omega)
        have e2 : atI (ts.map V.ref) (i : Int) = some (.ref ts[i]) := atI_nat (by rw [List.getElem?_map, hts]; rfl)
        have hru : H1 ts[i] = some (.tup rows[i].vs) := k1 _ _ (by simp) (hrs.2 i _ _ hts (List.getElem?_eq_getElem hlt))
        have e3 : overV T L rows (.int (i : Nat)) = decide (rows[i].m < goneP T L rows[i]) := by
          have z : rows.getD ((i : Nat) : Int).toNat ⟨0, 0, 0, 0⟩ = rows[i] := rows_get hlt
          show decide ((rows.getD ((i : Nat) : Int).toNat ⟨0, 0, 0, 0⟩).m < goneP T L (rows.getD ((i : Nat) : Int).toNat ⟨0, 0, 0, 0⟩)) = _
          rw [z]
        rw [e3]
        exact a_test (v_I0 (g := fun i j => .bl (decide (j < i))) (v_ixL (val_var rfl) (val_var rfl) (SqL.of (by rw [upd_ne (ne_of_none h1 hD)]; exact h1)) e1) (v_ixT (v := .int rows[i].m) (v_ixL (val_var rfl) (val_var rfl) (SqL.of (by rw [upd_ne (ne_of_none hs1 hD)]; exact hs1)) e2) val_c (SqT.of (by rw [upd_ne (ne_of_none hru hD)]; exact hru)) rfl))
      have e4 : ((rgI ((rows.length : Nat) : Int).toNat).filter (overV T L rows)).map (fun v => v) = (overP T L rows).map V.int := over_eq T L rows
      rw [e4]
      have k2 : Kp [] H1 (upd H1 ol (.lst ((overP T L rows).map V.int))) := (Kp.refl _ _).new hol
      have hol2 : upd H1 ol (.lst ((overP T L rows).map V.int)) ol = some (.lst ((overP T L rows).map V.int)) := upd_same
      generalize upd H1 ol (.lst ((overP T L rows).map V.int)) = H2 at k2 hol2
      have k02 : Kp [] H H2 := k1.trans k2
      have ovl := over_len T L rows
      -- check_told
      refine q_whenc (g_not (g_B (g_call (g_cons ?_))))
      walk_at "call"
      refine call_check_told (N.kp k02) (fun _ t H3 ht k3 h3 => ?_) (no_some hw)
      refine g_cons (g_tup (g_args (by walk_at "ar") ⟨by show 2 ≤ sizeLine; decide, fun u hu => g_nil ?_⟩))
      refine call_same 1 (.tuple [.str "returned", .none]) (by decide) (dat_tup (by rw [upd_ne (ne_of_none h3 hu)]; exact h3) rfl (by simp) (by simp [isS])) (dat_tup upd_same rfl (by simp) (by simp [isS])) ⟨true, rfl, iteF ?_⟩
      have k4 : Kp [] H2 (upd H3 u (.tup [.str "returned", .non])) := k3.new hu
      generalize upd H3 u (.tup [.str "returned", .non]) = H4 at k4
      -- broken_told
      have told : ∀ {H5 : Hp} {t l u : Addr} {Q' : VK} {E : XK}, H5 t = some (.tup [.str "returned", .ref l]) → H5 l = some (.lst ((overP T L rows).map V.int)) → H5 u = none → Kp [] H2 H5 → Q' (.bl true) (upd H5 u (.tup [.str "returned", .ref ol])) → sp_l_same [.ref t, .ref u] (upd H5 u (.tup [.str "returned", .ref ol])) Q' E := fun {H5 t l u Q' E} a1 a2 a3 a4 q' => by
        have ho5 : H5 ol = some (.lst ((overP T L rows).map V.int)) := a4 _ _ (by simp) hol2
        refine call_same 2 (.tuple [.str "returned", .list ((overP T L rows).map .int)]) (by decide) ⟨t, _, rfl, by rw [upd_ne (ne_of_none a1 a3)]; exact a1, by simp, rfl, fun i d x g1 g2 => ?_⟩ ⟨u, _, rfl, upd_same, by simp, rfl, fun i d x g1 g2 => ?_⟩ q'
        · match i with
          | 0 => cases g1; cases g2; rfl
          | 1 => cases g1; cases g2; exact dat_ints (by rw [upd_ne (ne_of_none a2 a3)]; exact a2) (by omega)
          | i + 2 => simp at g1
        · match i with
          | 0 => cases g1; cases g2; rfl
          | 1 => cases g1; cases g2; exact dat_ints (by rw [upd_ne (ne_of_none ho5 a3)]; exact ho5) (by omega)
          | i + 2 => simp at g1
      refine q_whenc (g_not (g_B (g_call (g_cons ?_))))
      walk_at "call"
      refine call_broken_told (N.kp (k02.trans k4)) (fun _ t l H5 ht k5 h5 h5l => ?_) (no_some hw)
      refine g_cons (g_tup (g_args (by walk_at "ar") ⟨by show 2 ≤ sizeLine; decide, fun u hu => g_nil ?_⟩))
      refine told h5 h5l hu (k4.trans k5) ⟨true, rfl, iteF ?_⟩
      have k6 : Kp [] H2 (upd H5 u (.tup [.str "returned", .ref ol])) := (k4.trans k5).new hu
      generalize upd H5 u (.tup [.str "returned", .ref ol]) = H6 at k6
      -- broken, changed
      refine q_set (g_callS (g_args (by walk_at "ar") ⟨x, a, T, n, rows, L, rfl, N.kp (k02.trans k6), no_some2 hw, fun _ bl H7 hbl k7 h7 => ?_⟩))
      have k67 : Kp [] H2 H7 := k6.trans k7
      have hs7 : H7 s = some (.lst (ts.map V.ref)) := (k02.trans k67) _ _ (by simp) hs
      refine q_drop (e_appV (v := .int ((ts.map V.ref).length : Nat)) (val_var rfl) (v_len (ar_cons (val_var rfl) ar_nil) (SqL.of hs7)) h7 (sz_lt (by rw [List.length_map]; omega)) ?_)
      have k8 : Kp [] H6 (upd H7 bl (.lst ((overP T L rows).map V.int ++ [.int ((ts.map V.ref).length : Nat)]))) := k7.mut hbl
      generalize upd H7 bl (.lst ((overP T L rows).map V.int ++ [.int ((ts.map V.ref).length : Nat)])) = H8 at k8
      refine q_whenc (g_not (g_B (g_call (g_cons ?_))))
      walk_at "call"
      refine call_broken_told (N.kp (k02.trans (k6.trans k8))) (fun _ t l H9 ht k9 h9 h9l => ?_) (no_some hw)
      refine g_cons (g_tup (g_args (by walk_at "ar") ⟨by show 2 ≤ sizeLine; decide, fun u hu => g_nil ?_⟩))
      refine told h9 h9l hu ((k6.trans k8).trans k9) ⟨true, rfl, iteF ?_⟩
      have k10 : Kp [] H1 (upd H9 u (.tup [.str "returned", .ref ol])) := k2.trans (((k6.trans k8).trans k9).new hu)
      generalize upd H9 u (.tup [.str "returned", .ref ol]) = H10 at k10
      have k010 : Kp [] H H10 := k1.trans k10
      refine g_ret ?_
      walk_at "call"
      exact call_passed_good (N.kp k010) ⟨ts, k010 _ _ (by simp) hs, hrs.kp k010 fun _ _ z => nomatch z⟩ (k10 _ _ (by simp) h1) f0 f1 hw fun H11 k11 => q _ (k010.trans k11)
theorem call_times_good {K : PySem.W.Frag} {H : Hp} {Q : VK} {E : XK} {x a s : Addr} {f T n : Int} {rows : List Row} {L : List Int} (N : NT K H x a T n rows L) (hs : SpansAt H s rows) (f0 : 0 ≤ f) (f1 : f ≤ 100000000) (q : ∀ H', Kp [] H H' → Q (.bl true) H') : sp_l_times_good K [.ref x, .int T, .int n, .ref s, .ref a, .int f] H Q E := ⟨x, a, s, f, T, n, rows, L, rfl, N, hs, f0, f1, q⟩
theorem pure_l_asked {K : PySem.W.Frag} {vs H Q E} (h : sp_l_asked K vs H Q E) : t_l_asked K { nx := fun _ H' => Q .non H', rt := Q } (start N_l_asked vs) H := by
  obtain ⟨x, a, s, f, sh, T, n, rows, L, rfl, N, ha, ⟨ts, hs, hrs⟩, f0, f1, q⟩ := h
  refine q_set (e_listL (by walk_at "ar") (SqL.of ha) fun l hl => ?_)
  have k1 : Kp [] H (upd H l (.lst (L.map V.int))) := (Kp.refl _ _).new hl
  have hl1 : upd H l (.lst (L.map V.int)) l = some (.lst (L.map V.int)) := upd_same
  generalize upd H l (.lst (L.map V.int)) = H1 at k1 hl1
  have ha1 : H1 a = some (.lst (L.map V.int)) := k1 _ _ (by simp) ha
  have hs1 : SpansAt H1 s rows := ⟨ts, k1 _ _ (by simp) hs, hrs.kp k1 fun _ _ z => nomatch z⟩
  have N1 := N.kp k1
  refine q_when (by walk_at "a") (fun hb => ?_) (fun hb => ?_)
  · refine q_set (e_tupL (by walk_at "ar") (SqL.of ha1) fun t ht => ?_)
    have k2 : Kp [] H1 (upd H1 t (.tup (L.map V.int))) := (Kp.refl _ _).new ht
    refine g_ret ?_
    walk_at "call"
    have N2 := N1.kp k2
    obtain ⟨ts', hs', hrs'⟩ := hs1
    exact call_times_good ⟨N2.net, .inr upd_same, N.len, N.t0, N.t1, N.n0, N.n1, N.rl, N.ok⟩ ⟨ts', k2 _ _ (by simp) hs', hrs'.kp k2 fun _ _ z => nomatch z⟩ f0 f1 fun H3 k3 => q _ ((k1.trans k2).trans k3)
  · refine g_ret ?_
    show tCall (sp_l_times_good K) [] E0 _ _ H1 (fun x H1 => ∃ c, x = .bl c ∧ if c = true then tCall sp_l_same [] E0 _ _ H1 Q else Q (.bl false) H1)
    walk_at "call"
    refine call_times_good ⟨N1.net, .inl hl1, N.len, N.t0, N.t1, N.n0, N.n1, N.rl, N.ok⟩ hs1 f0 f1 fun H3 k3 => ⟨true, rfl, iteT ?_⟩
    walk_at "call"
    exact call_same 1 (.list (L.map .int)) (by decide) (dat_ints (k3 _ _ (by simp) hl1) (by have := N.len; omega)) (dat_ints (k3 _ _ (by simp) ha1) (by have := N.len; omega)) (q _ (k1.trans k3))
theorem call_asked {K : PySem.W.Frag} {H : Hp} {Q : VK} {E : XK} {x a s : Addr} {f sh T n : Int} {rows : List Row} {L : List Int} (N : NT K H x a T n rows L) (ha : H a = some (.lst (L.map V.int))) (hs : SpansAt H s rows) (f0 : 0 ≤ f) (f1 : f ≤ 100000000) (q : ∀ H', Kp [] H H' → Q (.bl true) H') : sp_l_asked K [.ref x, .int T, .int n, .ref s, .ref a, .int f, .int sh] H Q E := ⟨x, a, s, f, sh, T, n, rows, L, rfl, N, ha, hs, f0, f1, q⟩
end Cl

/-! ## PuF -/
namespace Cl
open PySem PySem.Spec PyProof.Rows L2
/-! ### the walk's own lines: "c" a side condition, "h" what stands at an address, "s" a list that is read, "at" an item, "v" a value, "a" an answer, "ar" arguments -/
local macro_rules | `(tactic| walk_at "c") => `(tactic| first | assumption | (with_reducible rfl) | decide | omega | exact Or.inr ⟨by first | decide | omega, by first | decide | omega⟩ | exact Or.inl ⟨by first | decide | omega, by first | decide | omega⟩ | exact ⟨by first | decide | omega, by first | decide | omega⟩ | exact ⟨by decide, by decide, by decide⟩)
local macro_rules | `(tactic| walk_at "ne") => `(tactic| first | assumption | (exact Ne.symm (by assumption)) | (exact ne_of_none (by assumption) (by assumption)) | (exact Ne.symm (ne_of_none (by assumption) (by assumption))))
local macro_rules | `(tactic| walk_at "h") => `(tactic| first | assumption | exact upd_same | (refine Eq.trans (upd_ne ?_) ?_; walk_at "ne"; walk_at "h"))
local macro_rules | `(tactic| walk_at "s") => `(tactic| first | assumption | (exact SqL.of (by walk_at "h")) | (exact SqT.of (by walk_at "h")))
local macro_rules | `(tactic| walk_at "at") => `(tactic| first | rfl | exact atI_ints (by omega) (by omega))
local macro_rules | `(tactic| walk_at "ty") => `(tactic| first | exact .base (.int _) | exact .base (.bl _) | exact .base .non | exact .base (.str _) | exact .base (.lst (by walk_at "h")) | exact .base (.tup (by walk_at "h")))
local macro_rules | `(tactic| walk_at "v") => `(tactic| first
  | (with_reducible exact val_c)
  | ((with_reducible apply val_var); rfl)
  | ((with_reducible apply v_I0); walk_at "v"; walk_at "v")
  | ((with_reducible apply v_I); walk_at "v"; walk_at "v"; walk_at "c")
  | ((with_reducible apply v_U); walk_at "v")
  | ((with_reducible apply v_eq); walk_at "v"; walk_at "v"; rfl)
  | ((with_reducible apply v_ne); walk_at "v"; walk_at "v"; rfl)
  | ((with_reducible apply v_ixL); walk_at "v"; walk_at "v"; walk_at "s"; walk_at "at")
  | ((with_reducible apply v_ixT); walk_at "v"; walk_at "v"; walk_at "s"; walk_at "at")
  | ((with_reducible apply v_ixS); walk_at "v"; walk_at "v"; assumption; walk_at "at")
  | ((with_reducible apply v_fld); walk_at "v"; walk_at "h"; assumption; assumption; walk_at "fl")
  | ((with_reducible apply v_len); walk_at "ar"; walk_at "s")
  | ((with_reducible apply v_lenS); walk_at "ar"; assumption)
  | ((with_reducible apply v_lenT); walk_at "ar"; walk_at "s")
  | ((with_reducible apply v_abs); walk_at "ar")
  | ((with_reducible apply v_max2); walk_at "ar")
  | ((with_reducible apply v_min2); walk_at "ar")
  | ((with_reducible apply v_intI); walk_at "ar")
  | ((with_reducible apply v_intB); walk_at "ar")
  | ((with_reducible apply v_chain); walk_at "v"; walk_at "v"; walk_at "v"; exact i_B0; exact i_B0)
  | ((with_reducible apply v_chain3); walk_at "v"; walk_at "v"; walk_at "v"; walk_at "v"; exact i_B0; exact i_B0; exact i_B0)
  | ((with_reducible apply v_andV); walk_at "v"; (intro _; walk_at "v"))
  | ((with_reducible apply v_orV); walk_at "v"; (intro _; walk_at "v"))
  | ((with_reducible apply v_notV); walk_at "v")
  | ((with_reducible apply v_isN); walk_at "v")
  | ((with_reducible apply v_notN); walk_at "v")
  | ((with_reducible apply v_isiT); walk_at "ar"; walk_at "ty"; decide +kernel)
  | ((with_reducible apply v_isiF); walk_at "ar"; walk_at "ty"; decide +kernel)
  | ((with_reducible apply v_if); walk_at "a"; (intro _; walk_at "v"); (intro _; walk_at "v")))
local macro_rules | `(tactic| walk_at "ar") => `(tactic| first
  | (with_reducible exact ar_nil)
  | ((with_reducible apply ar_cons); walk_at "v"; walk_at "ar"))
local macro_rules | `(tactic| walk_at "a") => `(tactic| first
  | ((with_reducible apply a_test); walk_at "v")
  | ((with_reducible apply a_B); walk_at "v")
  | ((with_reducible apply a_not); walk_at "a")
  | ((with_reducible apply a_and); walk_at "a"; (intro _; walk_at "a"))
  | ((with_reducible apply a_or); walk_at "a"; (intro _; walk_at "a")))
local macro_rules | `(tactic| walk_at "fl") => `(tactic| first | exact fl_events _ _ _ | exact fl_spans _ _ _ | exact fl_round _ _ _)
local macro_rules | `(tactic| walk_at "call") => `(tactic| refine g_call (g_args (by walk_at "ar") ?_))
theorem next_ne {s w n : Int} (n0 : 2 ≤ n) (s0 : 0 ≤ s) (s1 : s < n) (w0 : 0 ≤ w) (w1 : w < n - 1) : s ≠ (s + 1 + w) % n := by
  intro z
  have hc : s + 1 + w < n ∨ n ≤ s + 1 + w := by omega
  rcases hc with hc | hc
  · rw [Int.emod_eq_of_lt (by omega) hc] at z; omega
  · have e2 : (s + 1 + w) % n = s + 1 + w - n := by
      have e3 : s + 1 + w = (s + 1 + w - n) + n * 1 := by omega
      rw [e3, Int.add_mul_emod_self_left]
      rw [← e3]
      exact Int.emod_eq_of_lt (by omega) (by omega)
    omega
theorem Kp.dropS {H0 H H' : Hp} {p sp : Addr} (k0 : Kp [p] H0 H) (h : H0 sp = none) (k : Kp [p, sp] H H') : Kp [p] H0 H' := fun b o nb e => k b o (fun z => by
  have z2 : b = p ∨ b = sp := by simpa using z
  rcases z2 with z2 | z2
  · exact nb (by simp [z2])
  · rw [z2, h] at e; cases e) (k0 b o nb e)
theorem RowsAt.set {H : Hp} {ts : List Addr} {rows : List Row} {i j : Nat} {t : Addr} {r : Row} (h : RowsAt H ts rows) (ht : ts[j]? = some t) (hr : rows[j]? = some r) : RowsAt H (ts.set i t) (rows.set i r) := by
  refine ⟨by simp [h.1], fun m u q e1 e2 => ?_⟩
  rw [List.getElem?_set] at e1 e2
  by_cases e : i = m
  · rw [if_pos e] at e1 e2
    split at e1
    · split at e2
      · cases e1; cases e2
        exact h.2 j t r ht hr
      · cases e2
    · cases e1
  · rw [if_neg e] at e1 e2
    exact h.2 m u q e1 e2
theorem dup_end {K : PySem.W.Frag} {σ : L2.St} {H : Hp} {D : Ends} {p sp : Addr} {i : Nat} {ts : List Addr} {rows : List Row} {T n : Int} (h0 : σ[0]? = some (some (.ref p))) (h4 : σ[4]? = some (some (.ref sp))) (h5 : σ[5]? = some (some (.int (i : Nat)))) (hp : Pool H p) (hs : H sp = some (.lst (ts.map V.ref))) (hr : RowsAt H ts rows) (hl : rows.length = i + 1) (hi : i < 1000) (ok : ∀ r ∈ rows, r.Ok T n)
    (q : ∀ ts' rows' H', Kp [p, sp] H H' → Pool H' p → H' sp = some (.lst (ts'.map V.ref)) → RowsAt H' ts' rows' → rows'.length = i + 1 → (∀ r ∈ rows', r.Ok T n) → D.nx σ H') :
    tIfS (tTest (tOp rEq (tCall (sp_l_take) [] E0 (tCons (tVar 0) (tCons (tC (.int 8)) tNil))) (tC (.int 0)))) (tAsg (tOp (rIxL K) (tVar 4) (tCall (sp_l_take) [] E0 (tCons (tVar 0) (tCons (tOp oAdd (tVar 5) (tC (.int 1))) tNil)))) (gSub (tVar 4) (tVar 5) rSetL)) tNext D σ H := by
  have el : ts.length = rows.length := hr.1
  have nsp : sp ≠ p := pool_ne_refs hp hs
  refine g_ifS (g_test (g_op (g_call (g_args (ar_cons (val_var h0) (ar_cons val_c ar_nil)) ?_))))
  refine call_take hp (by decide) (by decide) fun r H1 r0 r1 k1 _ p1 => ?_
  have hs1 : H1 sp = some (.lst (ts.map V.ref)) := k1 _ _ (by simpa using nsp) hs
  have hr1 : RowsAt H1 ts rows := hr.kp k1 fun u xs hu => pool_not_tup hp hu
  refine g_c (g_eq rfl ⟨_, rfl, g_if (fun hb => ?_) (fun hb => ?_)⟩)
  · refine g_asg (g_op (g_var h4 (g_call (g_args (ar_cons (val_var h0) (ar_cons (v_I0 (g := fun i j => .int (i + j)) (val_var h5) val_c) ar_nil)) ?_))))
    refine call_take p1 (by omega) (by omega) fun m H2 m0 m1 k2 _ p2 => ?_
    have hs2 : H2 sp = some (.lst (ts.map V.ref)) := k2 _ _ (by simpa using nsp) hs1
    have hr2 : RowsAt H2 ts rows := hr1.kp k2 fun u xs hu => pool_not_tup p1 hu
    have hm : m.toNat < rows.length := by omega
    have hmt : ts[m.toNat]? = some ts[m.toNat] := List.getElem?_eq_getElem (by omega)
    have em : atI (ts.map V.ref) m = some (.ref ts[m.toNat]) := by
      have z : atI (ts.map V.ref) ((m.toNat : Nat) : Int) = some (V.ref ts[m.toNat]) := atI_nat (by rw [List.getElem?_map, hmt]; rfl)
      rw [Int.toNat_of_nonneg m0] at z
      exact z
    refine ⟨sp, _, m, _, rfl, rfl, SqL.of hs2, em, ?_⟩
    have hj : ixN (ts.map V.ref).length ((i : Nat) : Int) = some i := by
      rw [List.length_map, el, hl]
      unfold ixN
      simp <;> omega
    have r3 : RowsAt (upd H2 sp (.lst ((ts.map V.ref).set i (.ref ts[m.toNat])))) (ts.set i ts[m.toNat]) (rows.set i rows[m.toNat]) := by
      refine (hr2.set hmt (List.getElem?_eq_getElem hm)).kp (S := [sp]) ((Kp.refl _ _).upd (by simp)) fun u xs hu z => ?_
      have e : u = sp := by simpa using hu
      rw [e, hs2] at z; cases z
    have fin := q (ts.set i ts[m.toNat]) (rows.set i rows[m.toNat]) (upd H2 sp (.lst ((ts.map V.ref).set i (.ref ts[m.toNat])))) (((k1.trans k2).mono (by simp)).upd (by simp)) (p2.upd nsp.symm) (by rw [upd_same, List.map_set]) r3 (by simp [hl]) (fun r hr => by
      rcases List.mem_or_eq_of_mem_set hr with z | z
      · exact ok r z
      · rw [z]; exact ok _ (List.getElem_mem hm))
    exact g_var h4 (g_var h5 ⟨sp, _, _, i, rfl, rfl, hs2, hj, fin⟩)
  · exact q ts rows H1 (k1.mono (by simp)) p1 hs1 hr1 hl ok
theorem pure_l_any_spans {K : PySem.W.Frag} {vs H Q E} (h : sp_l_any_spans vs H Q E) : t_l_any_spans K { nx := fun _ H' => Q .non H', rt := Q } (start N_l_any_spans vs) H := by
  obtain ⟨p, T, n, c, rfl, hp, t0, t1, n0, n1, c0, c1, nc, q⟩ := h
  refine q_set (g_lst (g_nil ⟨by decide, fun sp hsp => ?_⟩))
  refine q_forR (by walk_at "ar") (by omega) (fun i σ' H' => ∃ (ts : List Addr) (rows : List Row) (x1 x2 x3 x4 x5 : Option V), σ' = [some (.ref p), some (.int T), some (.int n), some (.int c), some (.ref sp), x1, x2, x3, x4, x5] ∧ Kp [p] H H' ∧ Pool H' p ∧ H' sp = some (.lst (ts.map V.ref)) ∧ RowsAt H' ts rows ∧ rows.length = i ∧ ∀ r ∈ rows, r.Ok T n)
    ⟨[], [], none, none, none, none, none, rfl, (Kp.refl _ _).new hsp, hp.new hsp, upd_same, RowsAt.nil, rfl, fun r hr => nomatch hr⟩ ?_ ?_
  · rintro i σ' H' hi ⟨ts, rows, x1, x2, x3, x4, x5, rfl, k, hp, hs, hr, hl, ok⟩
    have n2 : 2 ≤ n := by
      rcases Int.lt_or_le n 2 with z | z
      · have := nc z; omega
      · exact z
    have el : ts.length = rows.length := hr.1
    refine q_set ?_
    walk_at "call"
    refine call_take hp (by omega) (by omega) fun s H1 s0 s1 k1 _ p1 => ?_
    refine q_set (g_op (g_cb (g_cons (g_op (g_val (by walk_at "v") ?_)))))
    walk_at "call"
    refine call_take p1 (by omega) (by omega) fun w H2 w0 w1 k2 _ p2 => ?_
    refine g_I0 (g_nil (Or.inl ⟨_, rfl, g_val (by walk_at "v") ⟨_, _, rfl, rfl, by omega, ?_⟩⟩))
    refine q_val (by walk_at "v") ?_
    have b1 := Int.emod_nonneg (s + 1 + w) (show n ≠ 0 by omega)
    have b2 := Int.emod_lt_of_pos (s + 1 + w) (show 0 < n by omega)
    have b3 := next_ne n2 s0 s1 w0 w1
    have nsp : sp ≠ p := pool_ne_refs hp hs
    have k12 := k1.trans k2
    have hs2 : H2 sp = some (.lst (ts.map V.ref)) := k12 _ _ (by simpa using nsp) hs
    have hr2 : RowsAt H2 ts rows := hr.kp k12 fun u xs hu => pool_not_tup hp hu
    refine q_whenc (g_test (g_op ?_))
    walk_at "call"
    refine call_take p2 (by decide) (by decide) fun v H3 v0 v1 k3 _ p3 => ?_
    have hs3 : H3 sp = some (.lst (ts.map V.ref)) := k3 _ _ (by simpa using nsp) hs2
    have hr3 : RowsAt H3 ts rows := hr2.kp k3 fun u xs hu => pool_not_tup p2 hu
    have k03 : Kp [p] H H3 := k.trans (k12.trans k3)
    have rest : ∀ room : Int, 0 < room → room ≤ 1000 → tSeq (tAsg (tCall (sp_l_take) [] E0 (tCons (tVar 0) (tCons (tVar 8) tNil))) (gName 9))
        (tSeq (tDrop (tBM K "list" rAppend (tVar 4) (tCons (tTup (tCons (tVar 6) (tCons (tVar 7) (tCons (tVar 9) (tCons (tOp oAdd (tVar 9) (tCall (sp_l_take) [] E0 (tCons (tVar 0) (tCons (tCB rMin2 (tCons (tVar 1) (tCons (tOp oSub (tC (.int 1000)) (tVar 9)) tNil))) tNil)))) tNil))))) tNil)))
        (tIfS (tTest (tOp rEq (tCall (sp_l_take) [] E0 (tCons (tVar 0) (tCons (tC (.int 8)) tNil))) (tC (.int 0)))) (tAsg (tOp (rIxL K) (tVar 4) (tCall (sp_l_take) [] E0 (tCons (tVar 0) (tCons (tOp oAdd (tVar 5) (tC (.int 1))) tNil)))) (gSub (tVar 4) (tVar 5) rSetL)) tNext))
        { nx := fun σ' H' => ∃ (ts : List Addr) (rows : List Row) (x1 x2 x3 x4 x5 : Option V), σ' = [some (.ref p), some (.int T), some (.int n), some (.int c), some (.ref sp), x1, x2, x3, x4, x5] ∧ Kp [p] H H' ∧ Pool H' p ∧ H' sp = some (.lst (ts.map V.ref)) ∧ RowsAt H' ts rows ∧ rows.length = i + 1 ∧ ∀ r ∈ rows, r.Ok T n, rt := Q, bk := tRet (tVar 4) { nx := fun _ H' => Q .non H', rt := Q }, ct := fun σ' H' => ∃ (ts : List Addr) (rows : List Row) (x1 x2 x3 x4 x5 : Option V), σ' = [some (.ref p), some (.int T), some (.int n), some (.int c), some (.ref sp), x1, x2, x3, x4, x5] ∧ Kp [p] H H' ∧ Pool H' p ∧ H' sp = some (.lst (ts.map V.ref)) ∧ RowsAt H' ts rows ∧ rows.length = i + 1 ∧ ∀ r ∈ rows, r.Ok T n }
      [some (.ref p), some (.int T), some (.int n), some (.int c), some (.ref sp), some (.int (i : Nat)), some (.int s), some (.int ((s + 1 + w) % n)), some (.int room), x5] H3 := fun room m0 m1 => by
      refine q_set ?_
      walk_at "call"
      refine call_take p3 m0 (by omega) fun low H4 l0 l1 k4 _ p4 => ?_
      have hs4 : H4 sp = some (.lst (ts.map V.ref)) := k4 _ _ (by simpa using nsp) hs3
      have hr4 : RowsAt H4 ts rows := hr3.kp k4 fun u xs hu => pool_not_tup p3 hu
      refine q_drop (e_appc (by walk_at "v") hs4 ?_)
      refine g_tup (g_cons (g_val (by walk_at "v") (g_cons (g_val (by walk_at "v") (g_cons (g_val (by walk_at "v") (g_cons (g_op (g_val (by walk_at "v") ?_)))))))))
      walk_at "call"
      refine call_take p4 ?_ ?_ fun d H5 d0 d1 k5 _ p5 => ?_
      · split <;> omega
      · split <;> omega
      have d2 : d < T ∧ d < 1000 - low := by split at d1 <;> constructor <;> omega
      refine g_I0 (g_nil ⟨by show 4 ≤ sizeLine; decide, fun t ht => g_nil ?_⟩)
      have ht4 : H4 t = none := k5.free (by simpa using p5.ne ht) ht
      obtain ⟨g1, g2, g3, g4⟩ := spans_more (r := Row.mk s ((s + 1 + w) % n) low (low + d)) (k03.trans k4) (k5.new ht) p4 hsp hs4 hr4 (p5.new ht) ht4 upd_same
      refine ⟨sp, _, _, rfl, rfl, g1, sz_lt (by rw [List.length_map]; omega), ?_⟩
      rw [show ts.map V.ref ++ [V.ref t] = (ts ++ [t]).map V.ref by simp]
      refine dup_end (rows := rows ++ [Row.mk s ((s + 1 + w) % n) low (low + d)]) (T := T) (n := n) rfl rfl rfl g3 upd_same g4 (by simp [hl]) (by omega) (fun r hr => ?_) fun ts' rows' H' kk pp a1 a2 a3 a4 => ⟨ts', rows', _, _, _, _, _, rfl, g2.dropS hsp kk, pp, a1, a2, a3, a4⟩
      rcases List.mem_append.mp hr with z | z
      · exact ok r z
      · have e : r = Row.mk s ((s + 1 + w) % n) low (low + d) := by simpa using z
        subst e
        exact ⟨s0, s1, b1, b2, b3, l0, by show low ≤ low + d; omega, by show low + d ≤ low + T - 1; omega, by show low + d ≤ 999; omega⟩
    refine g_c (g_eq rfl ⟨_, rfl, g_if (fun hb => ?_) (fun hb => ?_)⟩)
    · exact g_set (g_c (rest 1000 (by decide) (by decide)))
    · exact rest (3 * T) (by omega) (by omega)
  · rintro σ' H' ⟨ts, rows, x1, x2, x3, x4, x5, rfl, k, hp, hs, hr, hl, ok⟩
    exact g_ret (g_val (by walk_at "v") (q sp rows H' hsp k hp ⟨ts, hs, hr⟩ (by omega) ok))
theorem call_any {H : Hp} {Q : VK} {E : XK} {p : Addr} {T n k : Int} (hp : Pool H p) (t0 : 2 ≤ T) (t1 : T ≤ 60) (n0 : 0 ≤ n) (n1 : n ≤ 12) (k0 : 0 ≤ k) (k1 : k ≤ 24) (nk : n < 2 → k = 0) (q : GotSpans p T n k H Q) : sp_l_any_spans [.ref p, .int T, .int n, .int k] H Q E := ⟨p, T, n, k, rfl, hp, t0, t1, n0, n1, k0, k1, nk, q⟩
end Cl

/-! ## PuG -/
namespace Cl
open PySem PySem.Spec PyProof.Rows L2
/-! ### the walk's own lines: "c" a side condition, "h" what stands at an address, "s" a list that is read, "at" an item, "v" a value, "a" an answer, "ar" arguments -/
local macro_rules | `(tactic| walk_at "c") => `(tactic| first | assumption | (with_reducible rfl) | decide | omega | exact Or.inr ⟨by first | decide | omega, by first | decide | omega⟩ | exact Or.inl ⟨by first | decide | omega, by first | decide | omega⟩ | exact ⟨by first | decide | omega, by first | decide | omega⟩ | exact ⟨by decide, by decide, by decide⟩)
local macro_rules | `(tactic| walk_at "ne") => `(tactic| first | assumption | (exact Ne.symm (by assumption)) | (exact ne_of_none (by assumption) (by assumption)) | (exact Ne.symm (ne_of_none (by assumption) (by assumption))))
local macro_rules | `(tactic| walk_at "h") => `(tactic| first | assumption | exact upd_same | (refine Eq.trans (upd_ne ?_) ?_; walk_at "ne"; walk_at "h"))
local macro_rules | `(tactic| walk_at "s") => `(tactic| first | assumption | (exact SqL.of (by walk_at "h")) | (exact SqT.of (by walk_at "h")))
local macro_rules | `(tactic| walk_at "at") => `(tactic| first | rfl | exact atI_ints (by omega) (by omega))
local macro_rules | `(tactic| walk_at "ty") => `(tactic| first | exact .base (.int _) | exact .base (.bl _) | exact .base .non | exact .base (.str _) | exact .base (.lst (by walk_at "h")) | exact .base (.tup (by walk_at "h")))
local macro_rules | `(tactic| walk_at "v") => `(tactic| first
  | (with_reducible exact val_c)
  | ((with_reducible apply val_var); rfl)
  | ((with_reducible apply v_I0); walk_at "v"; walk_at "v")
  | ((with_reducible apply v_I); walk_at "v"; walk_at "v"; walk_at "c")
  | ((with_reducible apply v_U); walk_at "v")
  | ((with_reducible apply v_eq); walk_at "v"; walk_at "v"; rfl)
  | ((with_reducible apply v_ne); walk_at "v"; walk_at "v"; rfl)
  | ((with_reducible apply v_ixL); walk_at "v"; walk_at "v"; walk_at "s"; walk_at "at")
  | ((with_reducible apply v_ixT); walk_at "v"; walk_at "v"; walk_at "s"; walk_at "at")
  | ((with_reducible apply v_ixS); walk_at "v"; walk_at "v"; assumption; walk_at "at")
  | ((with_reducible apply v_fld); walk_at "v"; walk_at "h"; assumption; assumption; walk_at "fl")
  | ((with_reducible apply v_len); walk_at "ar"; walk_at "s")
  | ((with_reducible apply v_lenS); walk_at "ar"; assumption)
  | ((with_reducible apply v_lenT); walk_at "ar"; walk_at "s")
  | ((with_reducible apply v_abs); walk_at "ar")
  | ((with_reducible apply v_max2); walk_at "ar")
  | ((with_reducible apply v_min2); walk_at "ar")
  | ((with_reducible apply v_intI); walk_at "ar")
  | ((with_reducible apply v_intB); walk_at "ar")
  | ((with_reducible apply v_chain); walk_at "v"; walk_at "v"; walk_at "v"; exact i_B0; exact i_B0)
  | ((with_reducible apply v_chain3); walk_at "v"; walk_at "v"; walk_at "v"; walk_at "v"; exact i_B0; exact i_B0; exact i_B0)
  | ((with_reducible apply v_andV); walk_at "v"; (intro _; walk_at "v"))
  | ((with_reducible apply v_orV); walk_at "v"; (intro _; walk_at "v"))
  | ((with_reducible apply v_notV); walk_at "v")
  | ((with_reducible apply v_isN); walk_at "v")
  | ((with_reducible apply v_notN); walk_at "v")
  | ((with_reducible apply v_isiT); walk_at "ar"; walk_at "ty"; decide +kernel)
  | ((with_reducible apply v_isiF); walk_at "ar"; walk_at "ty"; decide +kernel)
  | ((with_reducible apply v_if); walk_at "a"; (intro _; walk_at "v"); (intro _; walk_at "v")))
local macro_rules | `(tactic| walk_at "ar") => `(tactic| first
  | (with_reducible exact ar_nil)
  | ((with_reducible apply ar_cons); walk_at "v"; walk_at "ar"))
local macro_rules | `(tactic| walk_at "a") => `(tactic| first
  | ((with_reducible apply a_test); walk_at "v")
  | ((with_reducible apply a_B); walk_at "v")
  | ((with_reducible apply a_not); walk_at "a")
  | ((with_reducible apply a_and); walk_at "a"; (intro _; walk_at "a"))
  | ((with_reducible apply a_or); walk_at "a"; (intro _; walk_at "a")))
local macro_rules | `(tactic| walk_at "fl") => `(tactic| first | exact fl_events _ _ _ | exact fl_spans _ _ _ | exact fl_round _ _ _)
local macro_rules | `(tactic| walk_at "call") => `(tactic| refine g_call (g_args (by walk_at "ar") ?_))
theorem pure_l_kept_spans {K : PySem.W.Frag} {vs H Q E} (h : sp_l_kept_spans vs H Q E) : t_l_kept_spans K { nx := fun _ H' => Q .non H', rt := Q } (start N_l_kept_spans vs) H := by
  obtain ⟨p, a, T, c, L, rfl, hp, ha, nap, hL, hv, t0, t1, c0, c1, nc, q⟩ := h
  refine q_set (g_lst (g_nil ⟨by decide, fun sp hsp => ?_⟩))
  refine q_forR (by walk_at "ar") (by omega) (fun i σ' H' => ∃ (ts : List Addr) (rows : List Row) (x1 x2 x3 x4 x5 x6 x7 x8 : Option V), σ' = [some (.ref p), some (.int T), some (.ref a), some (.int c), some (.ref sp), x1, x2, x3, x4, x5, x6, x7, x8] ∧ Kp [p] H H' ∧ Pool H' p ∧ H' sp = some (.lst (ts.map V.ref)) ∧ RowsAt H' ts rows ∧ rows.length = i ∧ ∀ r ∈ rows, r.Ok T L.length)
    ⟨[], [], none, none, none, none, none, none, none, none, rfl, (Kp.refl _ _).new hsp, hp.new hsp, upd_same, RowsAt.nil, rfl, fun r hr => nomatch hr⟩ ?_ ?_
  · rintro i σ' H' hi ⟨ts, rows, x1, x2, x3, x4, x5, x6, x7, x8, rfl, k, hp, hs, hr, hl, ok⟩
    have n2 : 2 ≤ (L.length : Int) := by
      rcases Int.lt_or_le (L.length : Int) 2 with z | z
      · have := nc z; omega
      · exact z
    have el : ts.length = rows.length := hr.1
    have nsp : sp ≠ p := pool_ne_refs hp hs
    have A : ∀ {H2 : Hp}, Kp [p] H' H2 → H2 a = some (.lst (L.map V.int)) := fun k2 => (k.trans k2) _ _ (by simpa using nap) ha
    have S : ∀ {H2 : Hp}, Kp [p] H' H2 → H2 sp = some (.lst (ts.map V.ref)) := fun k2 => k2 _ _ (by simpa using nsp) hs
    have R : ∀ {H2 : Hp}, Kp [p] H' H2 → RowsAt H2 ts rows := fun k2 => hr.kp k2 fun u xs hu => pool_not_tup hp hu
    have ha0 := A (Kp.refl _ _)
    have lm : (L.map V.int).length = L.length := List.length_map ..
    refine q_set ?_
    walk_at "call"
    rw [lm]
    refine call_take hp (by omega) (by omega) fun s H1 s0 s1 k1 _ p1 => ?_
    have ha1 := A k1
    refine q_set (g_op (g_cb (g_cons (g_op (g_val (by walk_at "v") ?_)))))
    walk_at "call"
    rw [lm]
    refine call_take p1 (by omega) (by omega) fun w H2 w0 w1 k2 _ p2 => ?_
    have k02 := k1.trans k2
    have ha2 := A k02
    refine g_I0 (g_nil (Or.inl ⟨_, rfl, g_val (v_len (ar_cons (val_var rfl) ar_nil) (SqL.of ha2)) ⟨_, _, rfl, rfl, by rw [lm]; omega, ?_⟩⟩))
    rw [lm]
    have b1 := Int.emod_nonneg (s + 1 + w) (show (L.length : Int) ≠ 0 by omega)
    have b2 := Int.emod_lt_of_pos (s + 1 + w) (show 0 < (L.length : Int) by omega)
    have b3 := next_ne n2 s0 s1 w0 w1
    dsimp only
    generalize (s + 1 + w) % (L.length : Int) = en at b1 b2 b3 ⊢
    refine q_val (v := .int ((L.getD en.toNat 0 - L.getD s.toNat 0) % T)) (v_I (v_intI (ar_cons (v_I0 (g := fun i j => .int (i - j)) (v_ixL (val_var rfl) (val_var rfl) (SqL.of ha2) (atI_ints b1 b2)) (v_ixL (val_var rfl) (val_var rfl) (SqL.of ha2) (atI_ints s0 s1))) ar_nil)) (val_var rfl) (by omega)) ?_
    have r0 := Int.emod_nonneg (L.getD en.toNat 0 - L.getD s.toNat 0) (show T ≠ 0 by omega)
    have r1 := Int.emod_lt_of_pos (L.getD en.toNat 0 - L.getD s.toNat 0) (show 0 < T by omega)
    generalize (L.getD en.toNat 0 - L.getD s.toNat 0) % T = rs at r0 r1 ⊢
    refine q_val (by walk_at "v") ?_
    refine q_whenc (g_test (g_op ?_))
    walk_at "call"
    refine call_take p2 (by decide) (by decide) fun v H3 v0 v1 k3 _ p3 => ?_
    have k03 := k02.trans k3
    have rest : ∀ turns : Int, 0 < turns → turns < 2000 → (∀ m, 0 ≤ m → m < turns → rs + T * m ≤ 999) →
        tSeq (tAsg (tOp oAdd (tVar 8) (tOp oMul (tVar 1) (tCall (sp_l_take) [] E0 (tCons (tVar 0) (tCons (tVar 9) tNil))))) (gName 10))
        (tSeq (tAsg (tCall (sp_l_take) [] E0 (tCons (tVar 0) (tCons (tOp oAdd (tC (.int 1)) (tCB rMin2 (tCons (tOp oSub (tVar 1) (tC (.int 1))) (tCons (tVar 10) tNil)))) tNil))) (gName 11))
        (tSeq (tAsg (tCall (sp_l_take) [] E0 (tCons (tVar 0) (tCons (tOp oAdd (tC (.int 1)) (tCB rMin2 (tCons (tOp oSub (tOp oSub (tVar 1) (tC (.int 1))) (tVar 11)) (tCons (tOp oSub (tC (.int 999)) (tVar 10)) tNil)))) tNil))) (gName 12))
        (tSeq (tDrop (tBM K "list" rAppend (tVar 4) (tCons (tTup (tCons (tVar 6) (tCons (tVar 7) (tCons (tOp oSub (tVar 10) (tVar 11)) (tCons (tOp oAdd (tVar 10) (tVar 12)) tNil))))) tNil)))
        (tIfS (tTest (tOp rEq (tCall (sp_l_take) [] E0 (tCons (tVar 0) (tCons (tC (.int 8)) tNil))) (tC (.int 0)))) (tAsg (tOp (rIxL K) (tVar 4) (tCall (sp_l_take) [] E0 (tCons (tVar 0) (tCons (tOp oAdd (tVar 5) (tC (.int 1))) tNil)))) (gSub (tVar 4) (tVar 5) rSetL)) tNext))))
        { nx := fun σ' H' => ∃ (ts : List Addr) (rows : List Row) (x1 x2 x3 x4 x5 x6 x7 x8 : Option V), σ' = [some (.ref p), some (.int T), some (.ref a), some (.int c), some (.ref sp), x1, x2, x3, x4, x5, x6, x7, x8] ∧ Kp [p] H H' ∧ Pool H' p ∧ H' sp = some (.lst (ts.map V.ref)) ∧ RowsAt H' ts rows ∧ rows.length = i + 1 ∧ ∀ r ∈ rows, r.Ok T L.length, rt := Q, bk := tRet (tVar 4) { nx := fun _ H' => Q .non H', rt := Q }, ct := fun σ' H' => ∃ (ts : List Addr) (rows : List Row) (x1 x2 x3 x4 x5 x6 x7 x8 : Option V), σ' = [some (.ref p), some (.int T), some (.ref a), some (.int c), some (.ref sp), x1, x2, x3, x4, x5, x6, x7, x8] ∧ Kp [p] H H' ∧ Pool H' p ∧ H' sp = some (.lst (ts.map V.ref)) ∧ RowsAt H' ts rows ∧ rows.length = i + 1 ∧ ∀ r ∈ rows, r.Ok T L.length }
        [some (.ref p), some (.int T), some (.ref a), some (.int c), some (.ref sp), some (.int (i : Nat)), some (.int s), some (.int en), some (.int rs), some (.int turns), x6, x7, x8] H3 := fun turns m0 m1 hm => by
      refine q_set (g_op (g_val (by walk_at "v") (g_op (g_val (by walk_at "v") ?_))))
      walk_at "call"
      refine call_take p3 m0 (by omega) fun m H4 a0 a1 k4 _ p4 => ?_
      refine g_I (Or.inl ⟨by omega, by omega⟩) (g_I0 ?_)
      have gm := hm m a0 a1
      have g0 : 0 ≤ T * m := Int.mul_nonneg (by omega) a0
      generalize hg : rs + T * m = gone at gm ⊢
      have g1 : 0 ≤ gone := by omega
      refine q_set ?_
      walk_at "call"
      refine call_take p4 ?_ ?_ fun be H5 be0 be1 k5 _ p5 => ?_
      · split <;> omega
      · split <;> omega
      have be2 : be ≤ T - 1 ∧ be ≤ gone := by split at be1 <;> constructor <;> omega
      refine q_set ?_
      walk_at "call"
      refine call_take p5 ?_ ?_ fun ab H6 ab0 ab1 k6 _ p6 => ?_
      · split <;> omega
      · split <;> omega
      have ab2 : ab ≤ T - 1 - be ∧ ab ≤ 999 - gone := by split at ab1 <;> constructor <;> omega
      have k06 : Kp [p] H' H6 := k03.trans (k4.trans (k5.trans k6))
      refine q_drop (e_appc (by walk_at "v") (S k06) ?_)
      refine g_tup (g_args (by walk_at "ar") ⟨by show 4 ≤ sizeLine; decide, fun t ht => g_nil ?_⟩)
      obtain ⟨g1', g2, g3, g4⟩ := spans_more (r := Row.mk s en (gone - be) (gone + ab)) (k.trans k06) ((Kp.refl _ _).new ht) p6 hsp (S k06) (R k06) (p6.new ht) ht upd_same
      refine ⟨sp, _, _, rfl, rfl, g1', sz_lt (by rw [List.length_map]; omega), ?_⟩
      rw [show ts.map V.ref ++ [V.ref t] = (ts ++ [t]).map V.ref by simp]
      refine dup_end (rows := rows ++ [Row.mk s en (gone - be) (gone + ab)]) (T := T) (n := L.length) rfl rfl rfl g3 upd_same g4 (by simp [hl]) (by omega) (fun r hr => ?_) fun ts' rows' H' kk pp a1 a2 a3 a4 => ⟨ts', rows', _, _, _, _, _, _, _, _, rfl, g2.dropS hsp kk, pp, a1, a2, a3, a4⟩
      rcases List.mem_append.mp hr with z | z
      · exact ok r z
      · have e : r = Row.mk s en (gone - be) (gone + ab) := by simpa using z
        subst e
        exact ⟨s0, s1, b1, b2, b3, by show 0 ≤ gone - be; omega, by show gone - be ≤ gone + ab; omega, by show gone + ab ≤ gone - be + T - 1; omega, by show gone + ab ≤ 999; omega⟩
    refine g_c (g_eq rfl ⟨_, rfl, g_if (fun hb => ?_) (fun hb => ?_)⟩)
    · have d0 : 0 ≤ (999 - rs) / T := Int.ediv_nonneg (by omega) (by omega)
      have d1 : T * ((999 - rs) / T) ≤ 999 - rs := Int.mul_ediv_self_le (by omega)
      have d2 : (999 - rs) / T ≤ 999 - rs := Int.ediv_le_self _ (by omega)
      refine g_set (g_val (by walk_at "v") (rest (1 + (999 - rs) / T) (by omega) (by omega) fun m m0 m1 => ?_))
      have : T * m ≤ T * ((999 - rs) / T) := Int.mul_le_mul_of_nonneg_left (by omega) (by omega)
      omega
    · refine rest 3 (by decide) (by decide) fun m m0 m1 => ?_
      have : T * m ≤ T * 2 := Int.mul_le_mul_of_nonneg_left (by omega) (by omega)
      omega
  · rintro σ' H' ⟨ts, rows, x1, x2, x3, x4, x5, x6, x7, x8, rfl, k, hp, hs, hr, hl, ok⟩
    exact g_ret (g_val (by walk_at "v") (q sp rows H' hsp k hp ⟨ts, hs, hr⟩ (by omega) ok))
theorem call_kept {H : Hp} {Q : VK} {E : XK} {p a : Addr} {T k : Int} {L : List Int} (hp : Pool H p) (ha : H a = some (.lst (L.map V.int))) (nap : a ≠ p) (hL : L.length ≤ 12) (hv : ∀ x ∈ L, 0 ≤ x ∧ x < T) (t0 : 2 ≤ T) (t1 : T ≤ 60) (k0 : 0 ≤ k) (k1 : k ≤ 24) (nk : (L.length : Int) < 2 → k = 0) (q : GotSpans p T L.length k H Q) : sp_l_kept_spans [.ref p, .int T, .ref a, .int k] H Q E := ⟨p, a, T, k, L, rfl, hp, ha, nap, hL, hv, t0, t1, k0, k1, nk, q⟩
end Cl

/-! ## PuH -/
namespace Cl
open PySem PySem.Spec PyProof.Rows L2
/-! ### the walk's own lines: "c" a side condition, "h" what stands at an address, "s" a list that is read, "at" an item, "v" a value, "a" an answer, "ar" arguments -/
local macro_rules | `(tactic| walk_at "c") => `(tactic| first | assumption | (with_reducible rfl) | decide | omega | exact Or.inr ⟨by first | decide | omega, by first | decide | omega⟩ | exact Or.inl ⟨by first | decide | omega, by first | decide | omega⟩ | exact ⟨by first | decide | omega, by first | decide | omega⟩ | exact ⟨by decide, by decide, by decide⟩)
local macro_rules | `(tactic| walk_at "ne") => `(tactic| first | assumption | (exact Ne.symm (by assumption)) | (exact ne_of_none (by assumption) (by assumption)) | (exact Ne.symm (ne_of_none (by assumption) (by assumption))))
local macro_rules | `(tactic| walk_at "h") => `(tactic| first | assumption | exact upd_same | (refine Eq.trans (upd_ne ?_) ?_; walk_at "ne"; walk_at "h"))
local macro_rules | `(tactic| walk_at "s") => `(tactic| first | assumption | (exact SqL.of (by walk_at "h")) | (exact SqT.of (by walk_at "h")))
local macro_rules | `(tactic| walk_at "at") => `(tactic| first | rfl | exact atI_ints (by omega) (by omega))
local macro_rules | `(tactic| walk_at "ty") => `(tactic| first | exact .base (.int _) | exact .base (.bl _) | exact .base .non | exact .base (.str _) | exact .base (.lst (by walk_at "h")) | exact .base (.tup (by walk_at "h")))
local macro_rules | `(tactic| walk_at "v") => `(tactic| first
  | (with_reducible exact val_c)
  | ((with_reducible apply val_var); rfl)
  | ((with_reducible apply v_I0); walk_at "v"; walk_at "v")
  | ((with_reducible apply v_I); walk_at "v"; walk_at "v"; walk_at "c")
  | ((with_reducible apply v_U); walk_at "v")
  | ((with_reducible apply v_eq); walk_at "v"; walk_at "v"; rfl)
  | ((with_reducible apply v_ne); walk_at "v"; walk_at "v"; rfl)
  | ((with_reducible apply v_ixL); walk_at "v"; walk_at "v"; walk_at "s"; walk_at "at")
  | ((with_reducible apply v_ixT); walk_at "v"; walk_at "v"; walk_at "s"; walk_at "at")
  | ((with_reducible apply v_ixS); walk_at "v"; walk_at "v"; assumption; walk_at "at")
  | ((with_reducible apply v_fld); walk_at "v"; walk_at "h"; assumption; assumption; walk_at "fl")
  | ((with_reducible apply v_len); walk_at "ar"; walk_at "s")
  | ((with_reducible apply v_lenS); walk_at "ar"; assumption)
  | ((with_reducible apply v_lenT); walk_at "ar"; walk_at "s")
  | ((with_reducible apply v_abs); walk_at "ar")
  | ((with_reducible apply v_max2); walk_at "ar")
  | ((with_reducible apply v_min2); walk_at "ar")
  | ((with_reducible apply v_intI); walk_at "ar")
  | ((with_reducible apply v_intB); walk_at "ar")
  | ((with_reducible apply v_chain); walk_at "v"; walk_at "v"; walk_at "v"; exact i_B0; exact i_B0)
  | ((with_reducible apply v_chain3); walk_at "v"; walk_at "v"; walk_at "v"; walk_at "v"; exact i_B0; exact i_B0; exact i_B0)
  | ((with_reducible apply v_andV); walk_at "v"; (intro _; walk_at "v"))
  | ((with_reducible apply v_orV); walk_at "v"; (intro _; walk_at "v"))
  | ((with_reducible apply v_notV); walk_at "v")
  | ((with_reducible apply v_isN); walk_at "v")
  | ((with_reducible apply v_notN); walk_at "v")
  | ((with_reducible apply v_isiT); walk_at "ar"; walk_at "ty"; decide +kernel)
  | ((with_reducible apply v_isiF); walk_at "ar"; walk_at "ty"; decide +kernel)
  | ((with_reducible apply v_if); walk_at "a"; (intro _; walk_at "v"); (intro _; walk_at "v")))
local macro_rules | `(tactic| walk_at "ar") => `(tactic| first
  | (with_reducible exact ar_nil)
  | ((with_reducible apply ar_cons); walk_at "v"; walk_at "ar"))
local macro_rules | `(tactic| walk_at "a") => `(tactic| first
  | ((with_reducible apply a_test); walk_at "v")
  | ((with_reducible apply a_B); walk_at "v")
  | ((with_reducible apply a_not); walk_at "a")
  | ((with_reducible apply a_and); walk_at "a"; (intro _; walk_at "a"))
  | ((with_reducible apply a_or); walk_at "a"; (intro _; walk_at "a")))
local macro_rules | `(tactic| walk_at "fl") => `(tactic| first | exact fl_events _ _ _ | exact fl_spans _ _ _ | exact fl_round _ _ _)
local macro_rules | `(tactic| walk_at "call") => `(tactic| refine g_call (g_args (by walk_at "ar") ?_))
theorem e_pick {K : PySem.W.Frag} {σ : L2.St} {H : Hp} {Q : VK} {ts ta : TA} {p : Addr} {xs : List V} (L : List Int) {m : Int} (hp : Pool H p) (h : Args ts σ H xs) (hx : xs = L.map V.int) (hz : (L.length : Int) = m) (m0 : 0 < m) (m1 : m < 1000) (ha : ∀ H', Args ta σ H' [.ref p, .int m])
    (q : ∀ r H', 0 ≤ r → r < m → Kp [p] H H' → Pool H' p → Q (.int (L.getD r.toNat 0)) H') : tOp (rIxL K) (tLst ts) (tCall sp_l_take [] E0 ta) σ H Q := by
  subst hx
  refine g_op (g_lst (g_args h ⟨?_, fun l hl => ?_⟩))
  · rw [List.length_map]; exact Nat.le_of_lt (sz_lt (by omega))
  refine g_call (g_args (ha _) ?_)
  have hlp := hp.ne hl
  refine call_take (hp.new hl) m0 (by omega) fun r H2 r0 r1 k2 _ p2 => ?_
  exact ⟨l, _, r, _, rfl, rfl, SqL.of (k2 l _ (by simpa using hlp) upd_same), atI_ints r0 (by omega), q r H2 r0 r1 (((Kp.refl _ _).new hl).trans k2) p2⟩
theorem e_cat3 {K : PySem.W.Frag} {σ : L2.St} {H : Hp} {Q : VK} {tx : TE} {a : Addr} {L : List Int} {w at_ m : Int} (h2 : σ[2]? = some (some (.ref a))) (h4 : σ[4]? = some (some (.int w))) (h6 : σ[6]? = some (some (.int at_))) (hx : ∀ H', Val tx σ H' (.int m)) (a0 : 0 ≤ at_) (m0 : 0 ≤ m) (ha : H a = some (.lst (L.map V.int))) (hL : L.length ≤ 12)
    (q : ∀ l (M : List Int) H', H l = none → Kp [] H H' → H' l = some (.lst (M.map V.int)) → M.length ≤ 30 → 0 < M.length → Q (.ref l) H') :
    tOp rCat (tOp rCat (tSl (rSlL K) (tVar 2) tNoPart (tPart (tVar 6))) (tLst (tCons (tVar 4) tNil))) (tSl (rSlL K) (tVar 2) (tPart tx) tNoPart) σ H Q := by
  refine g_op (g_op (e_slL (xs := L.map V.int) (val_var h2) pt_none (pt_some (val_var h6)) (SqL.of ha) fun b hb => ?_))
  rw [cut_to a0, ← List.map_take]
  have eb : upd H b (.lst ((L.take at_.toNat).map V.int)) b = some (.lst ((L.take at_.toNat).map V.int)) := upd_same
  have k1 : Kp [] H (upd H b (.lst ((L.take at_.toNat).map V.int))) := (Kp.refl _ _).new hb
  generalize upd H b (.lst ((L.take at_.toNat).map V.int)) = H1 at eb k1 ⊢
  refine g_lst (g_args (ar_cons (val_var h4) ar_nil) ⟨by show 1 ≤ sizeLine; decide, fun d hd => ?_⟩)
  refine e_cat (xs := (L.take at_.toNat).map V.int) (zs := [.int w]) (by rw [upd_ne (ne_of_none eb hd)]; exact eb) upd_same (by simp; omega) fun e he => ?_
  have k2 : Kp [] H (upd (upd H1 d (.lst [.int w])) e (.lst ((L.take at_.toNat).map V.int ++ [.int w]))) := (k1.new hd).new he
  have ee : upd (upd H1 d (.lst [.int w])) e (.lst ((L.take at_.toNat).map V.int ++ [.int w])) e = some (.lst ((L.take at_.toNat).map V.int ++ [.int w])) := upd_same
  generalize upd (upd H1 d (.lst [.int w])) e (.lst ((L.take at_.toNat).map V.int ++ [.int w])) = H2 at k2 ee ⊢
  refine e_slL (xs := L.map V.int) (val_var h2) (pt_some (hx _)) pt_none (SqL.of (k2 _ _ (by simp) ha)) fun f hf => ?_
  rw [cut_from m0, ← List.map_drop]
  refine e_cat (xs := (L.take at_.toNat).map V.int ++ [.int w]) (zs := (L.drop m.toNat).map V.int) (by rw [upd_ne (ne_of_none ee hf)]; exact ee) upd_same (by simp; omega) fun g hg => ?_
  have k3 := (k2.new (o := .lst ((L.drop m.toNat).map V.int)) hf)
  refine q g (L.take at_.toNat ++ [w] ++ L.drop m.toNat) _ (k3.free (by simp) hg) (k3.new hg) (by rw [upd_same]; simp) (by simp; omega) (by simp; omega)
theorem g_lc {J : It} {wi : TI} {g : TG} {tt : TT} {te : TE} {vs : List Nat} {σ : L2.St} {H : Hp} {Q : VK} (h : wi σ H fun J H1 => tLc (fun _ H R => R J H) g tt te vs σ H1 Q) : tLc wi g tt te vs σ H Q := h
theorem e_takesB {σ : L2.St} {H : Hp} {Q : VK} {j : Nat} {te : TE} {vs : List Nat} {p : Addr} {n : Int} (Ok : Int → Prop) (hp : Pool H p) (hn : 0 ≤ n ∧ n ≤ 1000) (hw : ∀ x, wipe ((wipe σ vs).set j (some x)) vs = wipe σ vs)
    (he : ∀ (i : Nat) H' (Q' : VK), Pool H' p → (∀ r H2, Ok r → Kp [p] H' H2 → Pool H2 p → Q' (.int r) H2) → te ((wipe σ vs).set j (some (.int (i : Nat)))) H' Q')
    (q : ∀ l (L : List Int) H', H l = none → Kp [p] H H' → Pool H' p → H' l = some (.lst (L.map V.int)) → (L.length : Int) = n → (∀ x ∈ L, Ok x) → Q (.ref l) H') : tLc (fun _ H R => R (Itr 0 n.toNat) H) (gName j) tYes te vs σ H Q := by
  have h : tLc (iRng1 (tCons (tC (.int n)) tNil)) (gName j) tYes te vs σ H Q := e_takes Ok hp (ar_cons val_c ar_nil) hn hw he q
  obtain ⟨j', e, _, _, h⟩ := h
  cases e
  exact h
theorem pure_l_spoilt {K : PySem.W.Frag} {vs H Q E} (h : sp_l_spoilt vs H Q E) : t_l_spoilt K { nx := fun _ H' => Q .non H', rt := Q } (start N_l_spoilt vs) H := by
  obtain ⟨p, a, T, L, rfl, hp, ha, nap, hL, t0, t1, q⟩ := h
  have lm : (L.map V.int).length = L.length := List.length_map ..
  refine q_set (e_pick [0, 0, 1, 60, 10 ^ (8 : Int).toNat] (m := 5) hp (by walk_at "ar") (by rfl) rfl (by decide) (by decide) (fun _ => by walk_at "ar") fun r1 H1 _ _ k1 p1 => ?_)
  generalize List.getD [0, 0, 1, 60, 10 ^ (8 : Int).toNat] r1.toNat (0 : Int) = f
  refine q_set (e_pick [-1 - f, T + f] (m := 2) p1 (by walk_at "ar") (by rfl) rfl (by decide) (by decide) (fun _ => by walk_at "ar") fun r2 H2 _ _ k2 p2 => ?_)
  generalize List.getD [-1 - f, T + f] r2.toNat (0 : Int) = w
  have A2 : H2 a = some (.lst (L.map V.int)) := (k1.trans k2) _ _ (by simpa using nap) ha
  refine q_set ?_
  walk_at "call"
  refine call_take p2 (by decide) (by decide) fun way H3 w0 w1 k3 _ p3 => ?_
  have A3 : H3 a = some (.lst (L.map V.int)) := k3 _ _ (by simpa using nap) A2
  refine q_set ?_
  walk_at "call"
  rw [lm]
  refine call_take p3 (by omega) (by omega) fun at_ H4 a0 a1 k4 _ p4 => ?_
  have A4 : H4 a = some (.lst (L.map V.int)) := k4 _ _ (by simpa using nap) A3
  have k04 : Kp [p] H H4 := k1.trans (k2.trans (k3.trans k4))
  have fin : ∀ l (M : List Int) H', H4 l = none → Kp [] H4 H' → H' l = some (.lst (M.map V.int)) → M.length ≤ 30 → Pool H' p → Q (.ref l) H' := fun l M H' hl k hl' hM hp' => q l M H' (k04.free (by simpa using p4.ne hl) hl) (k04.trans (k.of [p])) hp' hl' hM
  have pk : ∀ {H' : Hp}, Kp [] H4 H' → Pool H' p := fun k => by
    obtain ⟨x, y, z, e, h0, h1⟩ := p4
    exact ⟨x, y, z, k _ _ (by simp) e, h0, h1⟩
  refine q_when (by walk_at "a") (fun _ => ?_) (fun _ => ?_)
  · refine g_ret (e_slL (xs := L.map V.int) (by walk_at "v") pt_none (pt_some (by walk_at "v")) (SqL.of A4) fun l hl => ?_)
    rw [cut_to a0, ← List.map_take]
    have k : Kp [] H4 (upd H4 l (.lst ((L.take at_.toNat).map V.int))) := (Kp.refl _ _).new hl
    exact fin l _ _ hl k upd_same (by rw [List.length_take]; omega) (pk k)
  refine q_when (by walk_at "a") (fun _ => ?_) (fun _ => ?_)
  · refine g_ret (g_op (g_var rfl (g_lc (J := Itr 0 0) (g_cons (g_op (g_c ?_))))))
    walk_at "call"
    refine call_take p4 (by decide) (by decide) fun c H5 c0 c1 k5 _ p5 => g_I0 (g_nil ⟨_, rfl, by omega, by omega, ?_⟩)
    refine e_takesB (fun _ => True) p5 (by omega) (fun _ => rfl) (fun i H' Q' p' q' => ?_) fun l M H6 hl k6 p6 h6 hM _ => ?_
    · walk_at "call"
      exact call_take p' (by omega) (by omega) fun r H2 _ _ k2 _ p2 => q' r H2 True.intro k2 p2
    · have A6 : H6 a = some (.lst (L.map V.int)) := (k5.trans k6) _ _ (by simpa using nap) A4
      refine e_cat (xs := L.map V.int) (zs := M.map V.int) A6 h6 (by rw [List.length_map, List.length_map]; omega) fun g hg => ?_
      have k06 := k04.trans (k5.trans k6)
      exact q g (L ++ M) _ (k06.free (by simpa using p6.ne hg) hg) (k06.new hg) (p6.new hg) (by rw [upd_same, List.map_append]) (by rw [List.length_append]; omega)
  refine q_when (by walk_at "a") (fun _ => ?_) (fun _ => ?_)
  · exact g_ret (e_cat3 rfl rfl rfl (fun _ => val_var rfl) a0 a0 A4 hL fun l M H' hl k h1 h2 _ => fin l M H' hl k h1 h2 (pk k))
  refine q_when (by walk_at "a") (fun _ => ?_) (fun _ => ?_)
  · refine q_set (e_cat3 rfl rfl rfl (fun _ => v_I0 (g := fun i j => .int (i + j)) (val_var rfl) val_c) a0 (by omega) A4 hL fun l M H' hl k h1 h2 h3 => ?_)
    have mm : (M.map V.int).length = M.length := List.length_map ..
    refine q_when (by walk_at "a") (fun _ => ?_) (fun _ => ?_)
    · refine g_setI (xs := M.map V.int) (n := (M.length : Int) - 1) (j := M.length - 1) (val_var rfl) (val_var rfl) (v_cast (by walk_at "v") (by rw [mm])) h1 ?_ ?_
      · rw [mm]; unfold ixN; rw [if_pos (by omega), if_pos (by omega)]; congr 1; omega
      · have k' : Kp [] H4 (upd H' l (.lst ((M.map V.int).set (M.length - 1) (.int T)))) := k.mut hl
        refine g_ret (g_var rfl ?_)
        refine fin l (M.set (M.length - 1) T) _ hl k' (by rw [upd_same, List.map_set]) (by rw [List.length_set]; exact h2) (pk k')
    · exact g_ret (g_var rfl (fin l M H' hl k h1 h2 (pk k)))
  refine q_when (by walk_at "a") (fun _ => ?_) (fun _ => ?_)
  · refine g_ret (g_lc (J := Itr 0 0) (g_cons ?_))
    walk_at "call"
    refine call_take p4 (by decide) (by decide) fun c H5 c0 c1 k5 _ p5 => g_nil ⟨_, rfl, by omega, by omega, ?_⟩
    refine e_takesB (fun _ => True) p5 (by omega) (fun _ => rfl) (fun i H' Q' p' q' => ?_) fun l M H6 hl k6 p6 h6 hM _ => ?_
    · refine g_op ?_
      walk_at "call"
      refine call_take p' (by decide) (by decide) fun r H2 _ _ k2 _ p2 => ?_
      exact g_val (by walk_at "v") (g_I0 (q' _ H2 True.intro k2 p2))
    · have k06 := k04.trans (k5.trans k6)
      exact q l M _ ((k04.trans k5).free (by simpa using p5.ne hl) hl) k06 p6 h6 (by omega)
  · refine g_ret (e_listL (by walk_at "ar") (SqL.of A4) fun l hl => ?_)
    have k : Kp [] H4 (upd H4 l (.lst (L.map V.int))) := (Kp.refl _ _).new hl
    exact fin l L _ hl k upd_same (by omega) (pk k)
theorem call_spoilt {H : Hp} {Q : VK} {E : XK} {p a : Addr} {T : Int} {L : List Int} (hp : Pool H p) (ha : H a = some (.lst (L.map V.int))) (nap : a ≠ p) (hL : L.length ≤ 12) (t0 : 2 ≤ T) (t1 : T ≤ 60) (q : ∀ l (M : List Int) H', H l = none → Kp [p] H H' → Pool H' p → H' l = some (.lst (M.map V.int)) → M.length ≤ 30 → Q (.ref l) H') : sp_l_spoilt [.ref p, .int T, .ref a] H Q E := ⟨p, a, T, L, rfl, hp, ha, nap, hL, t0, t1, q⟩
end Cl

/-! ## Pu -/
namespace Cl
open PySem PySem.Spec PyProof.Rows L2
/-! ### the walk's own lines: "c" a side condition, "h" what stands at an address, "s" a list that is read, "at" an item, "v" a value, "a" an answer, "ar" arguments -/
local macro_rules | `(tactic| walk_at "c") => `(tactic| first | assumption | (with_reducible rfl) | decide | omega | exact Or.inr ⟨by first | decide | omega, by first | decide | omega⟩ | exact Or.inl ⟨by first | decide | omega, by first | decide | omega⟩ | exact ⟨by first | decide | omega, by first | decide | omega⟩ | exact ⟨by decide, by decide, by decide⟩)
local macro_rules | `(tactic| walk_at "ne") => `(tactic| first | assumption | (exact Ne.symm (by assumption)) | (exact ne_of_none (by assumption) (by assumption)) | (exact Ne.symm (ne_of_none (by assumption) (by assumption))))
local macro_rules | `(tactic| walk_at "h") => `(tactic| first | assumption | exact upd_same | (refine Eq.trans (upd_ne ?_) ?_; walk_at "ne"; walk_at "h"))
local macro_rules | `(tactic| walk_at "s") => `(tactic| first | assumption | (exact SqL.of (by walk_at "h")) | (exact SqT.of (by walk_at "h")))
local macro_rules | `(tactic| walk_at "at") => `(tactic| first | rfl | exact atI_ints (by omega) (by omega))
local macro_rules | `(tactic| walk_at "ty") => `(tactic| first | exact .base (.int _) | exact .base (.bl _) | exact .base .non | exact .base (.str _) | exact .base (.lst (by walk_at "h")) | exact .base (.tup (by walk_at "h")))
local macro_rules | `(tactic| walk_at "v") => `(tactic| first
  | (with_reducible exact val_c)
  | ((with_reducible apply val_var); rfl)
  | ((with_reducible apply v_I0); walk_at "v"; walk_at "v")
  | ((with_reducible apply v_I); walk_at "v"; walk_at "v"; walk_at "c")
  | ((with_reducible apply v_U); walk_at "v")
  | ((with_reducible apply v_eq); walk_at "v"; walk_at "v"; rfl)
  | ((with_reducible apply v_ne); walk_at "v"; walk_at "v"; rfl)
  | ((with_reducible apply v_ixL); walk_at "v"; walk_at "v"; walk_at "s"; walk_at "at")
  | ((with_reducible apply v_ixT); walk_at "v"; walk_at "v"; walk_at "s"; walk_at "at")
  | ((with_reducible apply v_ixS); walk_at "v"; walk_at "v"; assumption; walk_at "at")
  | ((with_reducible apply v_fld); walk_at "v"; walk_at "h"; assumption; assumption; walk_at "fl")
  | ((with_reducible apply v_len); walk_at "ar"; walk_at "s")
  | ((with_reducible apply v_lenS); walk_at "ar"; assumption)
  | ((with_reducible apply v_lenT); walk_at "ar"; walk_at "s")
  | ((with_reducible apply v_abs); walk_at "ar")
  | ((with_reducible apply v_max2); walk_at "ar")
  | ((with_reducible apply v_min2); walk_at "ar")
  | ((with_reducible apply v_intI); walk_at "ar")
  | ((with_reducible apply v_intB); walk_at "ar")
  | ((with_reducible apply v_chain); walk_at "v"; walk_at "v"; walk_at "v"; exact i_B0; exact i_B0)
  | ((with_reducible apply v_chain3); walk_at "v"; walk_at "v"; walk_at "v"; walk_at "v"; exact i_B0; exact i_B0; exact i_B0)
  | ((with_reducible apply v_andV); walk_at "v"; (intro _; walk_at "v"))
  | ((with_reducible apply v_orV); walk_at "v"; (intro _; walk_at "v"))
  | ((with_reducible apply v_notV); walk_at "v")
  | ((with_reducible apply v_isN); walk_at "v")
  | ((with_reducible apply v_notN); walk_at "v")
  | ((with_reducible apply v_isiT); walk_at "ar"; walk_at "ty"; decide +kernel)
  | ((with_reducible apply v_isiF); walk_at "ar"; walk_at "ty"; decide +kernel)
  | ((with_reducible apply v_if); walk_at "a"; (intro _; walk_at "v"); (intro _; walk_at "v")))
local macro_rules | `(tactic| walk_at "ar") => `(tactic| first
  | (with_reducible exact ar_nil)
  | ((with_reducible apply ar_cons); walk_at "v"; walk_at "ar"))
local macro_rules | `(tactic| walk_at "a") => `(tactic| first
  | ((with_reducible apply a_test); walk_at "v")
  | ((with_reducible apply a_B); walk_at "v")
  | ((with_reducible apply a_not); walk_at "a")
  | ((with_reducible apply a_and); walk_at "a"; (intro _; walk_at "a"))
  | ((with_reducible apply a_or); walk_at "a"; (intro _; walk_at "a")))
local macro_rules | `(tactic| walk_at "fl") => `(tactic| first | exact fl_events _ _ _ | exact fl_spans _ _ _ | exact fl_round _ _ _)
local macro_rules | `(tactic| walk_at "call") => `(tactic| refine g_call (g_args (by walk_at "ar") ?_))
theorem sq_new {K : PySem.W.Frag} {H H' : Hp} {a p : Addr} {xs : List V} (h : SqL K H a xs) (k : Kp [p] H H') (hp : H p = none) : SqL K H' a xs := by
  have ne : ∀ {o : HO}, H a = some o → H' a = some o := fun {o} e => k a o (fun z => by
    have z2 : a = p := by simpa using z
    rw [z2, hp] at e; cases e) e
  rcases h with (h | ⟨o, h⟩) | h
  · exact .inl (.inl (ne h))
  · exact .inl (.inr ⟨o, ne h⟩)
  · exact .inr h
theorem sq_kp {K : PySem.W.Frag} {H H' : Hp} {a : Addr} {xs : List V} (h : SqL K H a xs) (k : Kp [] H H') : SqL K H' a xs := by
  rcases h with (h | ⟨o, h⟩) | h
  · exact .inl (.inl (k _ _ (by simp) h))
  · exact .inl (.inr ⟨o, k _ _ (by simp) h⟩)
  · exact .inr h
def t_rest2 (K : PySem.W.Frag) : TS :=
  (tSeq (tAsg (tCall (sp_l_spoilt) [] E0 (tCons (tVar 1) (tCons (tVar 2) (tCons (tVar 7) tNil)))) (gName 7))
    (tSeq (tAsg (tCall (sp_l_take) [] E0 (tCons (tVar 1) (tCons (tC (.int 2)) tNil))) (gName 8))
    (tSeq (tAsg (tOp (rIxL K) (tLst (tCons (tC (.int 0)) (tCons (tC (.int 0)) (tCons (tC (.int 1)) (tCons (tC (.int 24)) (tCons (tOp oPow (tC (.int 10)) (tC (.int 8))) tNil)))))) (tCall (sp_l_take) [] E0 (tCons (tVar 1) (tCons (tC (.int 5)) tNil)))) (gName 9))
    (tSeq (tFor (iList K (tLst (tCons (tVar 4) (tCons (tVar 7) (tCons (tVar 4) tNil))))) (gName 10) (tIfS (tNot (tB (tCall (sp_l_asked K) [] E0 (tCons (tVar 6) (tCons (tVar 2) (tCons (tVar 3) (tCons (tVar 11) (tCons (tVar 10) (tCons (tVar 9) (tCons (tVar 8) tNil)))))))))) (tRet (tC (.bl false))) tNext))
    (tRet (tCall (sp_l_same) [] E0 (tCons (tFld K (tVar 6) "spans") (tCons (tCB (rTupOf K) (tCons (tVar 11) tNil)) tNil))))))))
def t_rest1 (K : PySem.W.Frag) : TS :=
  (tSeq (tAsg (tMake (He.ga K "Net") (sp_Net___init__ K) [] E0 (tCons (tVar 2) (tCons (tVar 3) (tCons (tCB (rListOf K) (tCons (tVar 11) tNil)) tNil)))) (gName 6))
    (tSeq (tAsg (tCall (sp_l_pool K) [] E0 (tCons (tVar 0) (tCons (tC (.int 1)) tNil))) (gName 1))
    (tSeq (tAsg (tCB (rListOf K) (tCons (tVar 4) tNil)) (gName 7))
    (tSeq (tIfS (tTest (tOp rEq (tCall (sp_l_take) [] E0 (tCons (tVar 1) (tCons (tC (.int 2)) tNil))) (tC (.int 0)))) (tAsg (tLc (iRng1 (tCons (tVar 3) tNil)) (gName 12) tYes (tOp oDiv (tCall (sp_l_take) [] E0 (tCons (tVar 1) (tCons (tOp oMul (tC (.int 7)) (tVar 2)) tNil))) (tC (.int 7))) [12]) (gName 7)) tNext)
    (tSeq (tAsg (tCall (sp_l_spoilt) [] E0 (tCons (tVar 1) (tCons (tVar 2) (tCons (tVar 7) tNil)))) (gName 7))
    (tSeq (tAsg (tCall (sp_l_take) [] E0 (tCons (tVar 1) (tCons (tC (.int 2)) tNil))) (gName 8))
    (tSeq (tAsg (tOp (rIxL K) (tLst (tCons (tC (.int 0)) (tCons (tC (.int 0)) (tCons (tC (.int 1)) (tCons (tC (.int 24)) (tCons (tOp oPow (tC (.int 10)) (tC (.int 8))) tNil)))))) (tCall (sp_l_take) [] E0 (tCons (tVar 1) (tCons (tC (.int 5)) tNil)))) (gName 9))
    (tSeq (tFor (iList K (tLst (tCons (tVar 4) (tCons (tVar 7) (tCons (tVar 4) tNil))))) (gName 10) (tIfS (tNot (tB (tCall (sp_l_asked K) [] E0 (tCons (tVar 6) (tCons (tVar 2) (tCons (tVar 3) (tCons (tVar 11) (tCons (tVar 10) (tCons (tVar 9) (tCons (tVar 8) tNil)))))))))) (tRet (tC (.bl false))) tNext))
    (tRet (tCall (sp_l_same) [] E0 (tCons (tFld K (tVar 6) "spans") (tCons (tCB (rTupOf K) (tCons (tVar 11) tNil)) tNil))))))))))))
theorem pure_rest2 {K : PySem.W.Frag} (c : NetK K) {H0 H : Hp} {Q : VK} {sc p a b s x : Addr} {T n cc : Int} {L M : List Int} {rows : List Row} (k0 : Kp [] H0 H) (hp0 : H0 p = none) (hp : Pool H p) (hb0 : H0 b = none) (hb : H b = some (.lst (M.map V.int))) (hbp : b ≠ p) (hM : M.length ≤ 12) (hA : H0 a = some (.lst (L.map V.int))) (hL : L.length ≤ 12) (hsp : SpansAt H0 s rows) (hn : NetAt (He.ga K "Net") H0 x T n rows)
    (rl : rows.length ≤ 24) (ok : ∀ r ∈ rows, r.Ok T n) (t0 : 2 ≤ T) (t1 : T ≤ 60) (n0 : 0 ≤ n) (n1 : n ≤ 12) (q : ∀ H', Q (.bl true) H') :
    t_rest2 K { nx := fun _ H' => Q .non H', rt := Q } [some (.ref sc), some (.ref p), some (.int T), some (.int n), some (.ref a), some (.int cc), some (.ref x), some (.ref b), none, none, none, some (.ref s), none] H := by
  refine q_set ?_
  walk_at "call"
  refine call_spoilt hp hb hbp hM t0 t1 fun tl M2 H1 htl k1 p1 h1 hM2 => ?_
  refine q_set ?_
  walk_at "call"
  refine call_take p1 (by decide) (by decide) fun sh H2 _ _ k2 _ p2 => ?_
  have ntp : tl ≠ p := hp.ne htl
  have h2 : H2 tl = some (.lst (M2.map V.int)) := k2 _ _ (by simpa using ntp) h1
  refine q_set (e_pick [0, 0, 1, 24, 10 ^ (8 : Int).toNat] (m := 5) p2 (by walk_at "ar") (by rfl) rfl (by decide) (by decide) (fun _ => by walk_at "ar") fun r3 H3 r0 r1 k3 p3 => ?_)
  have hf : 0 ≤ List.getD [0, 0, 1, 24, 10 ^ (8 : Int).toNat] r3.toNat (0 : Int) ∧ List.getD [0, 0, 1, 24, 10 ^ (8 : Int).toNat] r3.toNat (0 : Int) ≤ 100000000 := by
    have hc : r3 = 0 ∨ r3 = 1 ∨ r3 = 2 ∨ r3 = 3 ∨ r3 = 4 := by omega
    rcases hc with rfl | rfl | rfl | rfl | rfl <;> decide
  generalize List.getD [0, 0, 1, 24, 10 ^ (8 : Int).toNat] r3.toNat (0 : Int) = f at hf ⊢
  have h3 : H3 tl = some (.lst (M2.map V.int)) := k3 _ _ (by simpa using ntp) h2
  have k03 : Kp [] H0 H3 := kp_drop k0 hp0 (k1.trans (k2.trans k3))
  refine s_seq (s_for_lst (xs := [.ref a, .ref tl, .ref a]) (by walk_at "ar") (by show 3 ≤ sizeLine; decide) fun lp hlp => ?_)
  have k4 : Kp [] H3 (upd H3 lp (.lst [.ref a, .ref tl, .ref a])) := (Kp.refl _ _).new hlp
  have hlp4 : upd H3 lp (.lst [.ref a, .ref tl, .ref a]) lp = some (.lst [.ref a, .ref tl, .ref a]) := upd_same
  generalize upd H3 lp (.lst [.ref a, .ref tl, .ref a]) = H4 at k4 hlp4 ⊢
  obtain ⟨ts, hts, hrs⟩ := hsp
  refine s_forLi (K := K) (SqL.of hlp4) (fun i σ' H5 => Kp [] H4 H5 ∧ ∃ y, σ' = [some (.ref sc), some (.ref p), some (.int T), some (.int n), some (.ref a), some (.int cc), some (.ref x), some (.ref tl), some (.int sh), some (.int f), y, some (.ref s), none]) ⟨Kp.refl _ _, _, rfl⟩ (fun i σ' H5 _ ⟨k5, _⟩ => SqL.of (k5 _ _ (by simp) hlp4)) ?_ ?_
  · rintro i v σ' H5 hi ⟨k5, y, rfl⟩
    have k05 : Kp [] H0 H5 := k03.trans (k4.trans k5)
    have hv : ∃ (u : Addr) (N : List Int), v = .ref u ∧ H5 u = some (.lst (N.map V.int)) ∧ N.length ≤ 1000 := by
      have ca : H5 a = some (.lst (L.map V.int)) := k05 _ _ (by simp) hA
      have cb : H5 tl = some (.lst (M2.map V.int)) := (k4.trans k5) _ _ (by simp) h3
      match i with
      | 0 => cases hi; exact ⟨a, L, rfl, ca, by omega⟩
      | 1 => cases hi; exact ⟨tl, M2, rfl, cb, by omega⟩
      | 2 => cases hi; exact ⟨a, L, rfl, ca, by omega⟩
      | i + 3 => simp at hi
    obtain ⟨u, N, rfl, hu, hN⟩ := hv
    refine g_ifS (g_not (g_B ?_))
    walk_at "call"
    exact call_asked ⟨hn.kp k05, .inl hu, hN, t0, t1, n0, n1, rl, ok⟩ hu ⟨ts, k05 _ _ (by simp) hts, hrs.kp k05 fun _ _ z => nomatch z⟩ hf.1 hf.2 fun H6 k6 => ⟨true, rfl, iteF ⟨k5.trans k6, _, rfl⟩⟩
  · rintro σ' H5 ⟨k5, y, rfl⟩
    have k05 : Kp [] H0 H5 := k03.trans (k4.trans k5)
    obtain ⟨dx', sa, ts', hxx, hsa, hrr⟩ := hn.kp k05
    have hts5 : H5 s = some (.lst (ts.map V.ref)) := k05 _ _ (by simp) hts
    have hrs5 : RowsAt H5 ts rows := hrs.kp k05 fun _ _ z => nomatch z
    refine g_ret (g_call (g_cons (g_val (v_fld (val_var rfl) hxx c.cl c.nS (fl_spans _ _ _)) (g_cons (e_tupL (by walk_at "ar") (SqL.of hts5) fun tt htt => g_nil ?_)))))
    refine call_same 2 (.tuple (rows.map Row.d)) (by decide) ⟨sa, _, rfl, by rw [upd_ne (ne_of_none hsa htt)]; exact hsa, by rw [List.length_map]; omega, by rw [List.length_map, List.length_map]; exact hrr.1, fun i d x h1 h2 => ?_⟩ ⟨tt, _, rfl, upd_same, by rw [List.length_map]; omega, by rw [List.length_map, List.length_map]; exact hrs.1, fun i d x h1 h2 => ?_⟩ (q _)
    · exact rows_dat (hrr.kp ((Kp.refl [] _).new htt) fun _ _ z => nomatch z) i d x h1 h2
    · exact rows_dat (hrs5.kp ((Kp.refl [] _).new htt) fun _ _ z => nomatch z) i d x h1 h2
theorem pure_rest1 {K : PySem.W.Frag} (c : NetK K) {H : Hp} {Q : VK} {sc p a s : Addr} {T n cc : Int} {ns L : List Int} {rows : List Row} (hS : SqL K H sc (ns.map V.int)) (hA : H a = some (.lst (L.map V.int))) (hL : (L.length : Int) = n) (hsp : SpansAt H s rows) (rl : rows.length ≤ 24) (ok : ∀ r ∈ rows, r.Ok T n) (t0 : 2 ≤ T) (t1 : T ≤ 60) (n0 : 0 ≤ n) (n1 : n ≤ 12) (q : ∀ H', Q (.bl true) H') :
    t_rest1 K { nx := fun _ H' => Q .non H', rt := Q } [some (.ref sc), some (.ref p), some (.int T), some (.int n), some (.ref a), some (.int cc), none, none, none, none, none, some (.ref s), none] H := by
  obtain ⟨ts, hts, hrs⟩ := hsp
  refine q_set (g_make (g_cons (g_val (by walk_at "v") (g_cons (g_val (by walk_at "v") (g_cons (e_listL (by walk_at "ar") (SqL.of hts) fun l1 hl1 => g_nil fun x dx hx hd ne => ?_)))))))
  have kx : Kp [] H (upd (upd (upd H l1 (.lst (ts.map V.ref))) dx (.own x)) x (.ins (He.ga K "Net") dx [])) := kp_made ((Kp.refl _ _).new hl1) hx hd ne
  have nlx : l1 ≠ x := fun z => by rw [← z, upd_same] at hx; cases hx
  have nld : l1 ≠ dx := fun z => by rw [← z, upd_same] at hd; cases hd
  have hx5 : H x = none := by rw [upd_ne nlx.symm] at hx; exact hx
  refine call_net upd_same ⟨ts, by rw [upd_ne nlx, upd_ne nld, upd_same], hrs.kp kx fun _ _ z => nomatch z⟩ t0 t1 n0 (by omega) (by omega) ok fun H6 k6 hn6 => ⟨rfl, ?_⟩
  have k06 : Kp [] H H6 := kp_drop kx hx5 k6
  have hA6 : H6 a = some (.lst (L.map V.int)) := k06 _ _ (by simp) hA
  have hs6 : SpansAt H6 s rows := ⟨ts, k06 _ _ (by simp) hts, hrs.kp k06 fun _ _ z => nomatch z⟩
  refine q_set ?_
  walk_at "call"
  refine call_pool (sq_kp hS k06) (by decide) (by decide) fun p2 H7 hp7 k7 pp7 => ?_
  refine q_set (e_listL (by walk_at "ar") (SqL.of (k7 _ _ (by simp) hA6)) fun b hb => ?_)
  have nbp : b ≠ p2 := pp7.ne hb
  have k8 : Kp [] H6 (upd H7 b (.lst (L.map V.int))) := k7.new hb
  have hb8 : upd H7 b (.lst (L.map V.int)) b = some (.lst (L.map V.int)) := upd_same
  have p8 : Pool (upd H7 b (.lst (L.map V.int))) p2 := pp7.new hb
  have hb6 : H6 b = none := k7.free (by simp) hb
  generalize upd H7 b (.lst (L.map V.int)) = H8 at k8 hb8 p8 ⊢
  refine q_whenc (g_test (g_op ?_))
  walk_at "call"
  refine call_take p8 (by decide) (by decide) fun r H9 _ _ k9 _ p9 => ?_
  have k09 : Kp [] H6 H9 := kp_drop k8 hp7 k9
  refine g_c (g_eq rfl ⟨_, rfl, g_if (fun _ => ?_) (fun _ => ?_)⟩)
  · refine g_set (e_takes (fun _ => True) p9 (by walk_at "ar") (by omega) (fun _ => rfl) (fun i H' Q' p' q' => ?_) fun l M H10 hl k10 p10 h10 hM _ => ?_)
    · refine g_op ?_
      walk_at "call"
      refine call_take p' (by omega) (by omega) fun r H2 _ _ k2 _ p2 => ?_
      exact g_val val_c (g_I (by constructor <;> decide) (q' _ H2 True.intro k2 p2))
    · have hl6 : H6 l = none := k09.free (by simp) hl
      exact pure_rest2 c (kp_drop k09 hp7 k10) hp7 p10 hl6 h10 (p9.ne hl) (by omega) hA6 (by omega) hs6 hn6 rl ok t0 t1 n0 n1 q
  · exact pure_rest2 c k09 hp7 p9 hb6 (k9 _ _ (by simpa using nbp) hb8) nbp (by omega) hA6 (by omega) hs6 hn6 rl ok t0 t1 n0 n1 q
theorem pure_law {K : PySem.W.Frag} (c : NetK K) {vs H Q E} (h : sp_law K vs H Q E) : t_law K { nx := fun _ H' => Q .non H', rt := Q } (start N_law vs) H := by
  obtain ⟨sc, ns, rfl, hS, q⟩ := h
  refine q_set ?_
  walk_at "call"
  refine call_pool hS (by decide) (by decide) fun p H1 hp0 k1 p1 => ?_
  refine q_set ?_
  walk_at "call"
  refine call_length p1 fun T H2 t0 t1 k2 p2 => ?_
  refine q_set ?_
  walk_at "call"
  refine call_many p2 fun n H3 n0 n1 k3 p3 => ?_
  refine q_set ?_
  walk_at "call"
  refine call_times p3 t0 t1 n0 n1 fun a L H4 ha4 k4 p4 hA hLn hv => ?_
  refine q_set ?_
  walk_at "call"
  refine call_count p4 n0 fun cc H5 c0 c1 nc k5 p5 => ?_
  have nap : a ≠ p := p3.ne ha4
  refine q_ifc (g_test (g_op ?_))
  walk_at "call"
  refine call_take p5 (by decide) (by decide) fun r H6 _ _ k6 _ p6 => ?_
  have k06 : Kp [p] H H6 := (k1.of [p]).trans (k2.trans (k3.trans (k4.trans (k5.trans k6))))
  have hA6 : H6 a = some (.lst (L.map V.int)) := (k5.trans k6) _ _ (by simpa using nap) hA
  have rest : ∀ s rows H7, Kp [p] H6 H7 → SpansAt H7 s rows → (rows.length : Int) ≤ cc → (∀ r ∈ rows, r.Ok T n) → t_rest1 K { nx := fun _ H' => Q .non H', rt := Q } [some (.ref sc), some (.ref p), some (.int T), some (.int n), some (.ref a), some (.int cc), none, none, none, none, none, some (.ref s), none] H7 := fun s rows H7 k7 hs hl ok =>
    pure_rest1 c (sq_new hS (k06.trans k7) hp0) (k7 _ _ (by simpa using nap) hA6) hLn hs (by omega) ok t0 t1 n0 n1 q
  refine g_c (g_eq rfl ⟨_, rfl, g_if (fun _ => ?_) (fun _ => ?_)⟩)
  · refine g_set ?_
    walk_at "call"
    refine call_kept p6 hA6 nap (by omega) hv t0 t1 c0 c1 (fun z => nc (by omega)) fun s rows H7 hs k7 p7 h7 hl ok => ?_
    rw [hLn] at ok
    exact rest s rows H7 k7 h7 hl ok
  · refine g_set ?_
    walk_at "call"
    exact call_any p6 t0 t1 n0 n1 c0 c1 nc fun s rows H7 hs k7 p7 h7 hl ok => rest s rows H7 k7 h7 hl ok
end Cl

/-! ## Hd -/

namespace Cl
open PySem PySem.Spec PyProof.Rows L2
def top (i : Nat) : Stmt := PySem.Challenge.pw_depotday_k14_minutes_that_pass.main.body.getD i (.Pass ⟨0, 0, 0, 0⟩)
abbrev s_l_cell : Stmt := top 21
def d_l_cell : He.DefD := ⟨("_law_cell", none), "_law_cell", "_law_cell", defArgs s_l_cell, defBody s_l_cell, defScope s_l_cell, [], []⟩
theorem sc_l_cell : FnScope N_l_cell ["_law_script", "_law_k"] (defScope s_l_cell) := ⟨rfl, rfl, rfl, by decide +kernel, rfl, by decide +kernel, by decide +kernel⟩
abbrev s_l_pool : Stmt := top 22
def d_l_pool : He.DefD := ⟨("_law_pool", none), "_law_pool", "_law_pool", defArgs s_l_pool, defBody s_l_pool, defScope s_l_pool, [], []⟩
theorem sc_l_pool : FnScope N_l_pool ["_law_script", "_law_k"] (defScope s_l_pool) := ⟨rfl, rfl, rfl, by decide +kernel, rfl, by decide +kernel, by decide +kernel⟩
abbrev s_l_take : Stmt := top 23
def d_l_take : He.DefD := ⟨("_law_take", none), "_law_take", "_law_take", defArgs s_l_take, defBody s_l_take, defScope s_l_take, [], []⟩
theorem sc_l_take : FnScope N_l_take ["_law_pool_here", "_law_many_here"] (defScope s_l_take) := ⟨rfl, rfl, rfl, by decide +kernel, rfl, by decide +kernel, by decide +kernel⟩
abbrev s_l_same : Stmt := top 24
def d_l_same : He.DefD := ⟨("_law_same", none), "_law_same", "_law_same", defArgs s_l_same, defBody s_l_same, defScope s_l_same, [], []⟩
theorem sc_l_same : FnScope N_l_same ["_law_got", "_law_due"] (defScope s_l_same) := ⟨rfl, rfl, rfl, by decide +kernel, rfl, by decide +kernel, by decide +kernel⟩
abbrev s_is_window : Stmt := top 17
def d_is_window : He.DefD := ⟨("is_window", none), "is_window", "is_window", defArgs s_is_window, defBody s_is_window, defScope s_is_window, [], []⟩
theorem sc_is_window : FnScope N_is_window ["round_length", "least", "most", "limit"] (defScope s_is_window) := ⟨rfl, rfl, rfl, by decide +kernel, rfl, by decide +kernel, by decide +kernel⟩
abbrev s_is_span : Stmt := top 18
def d_is_span : He.DefD := ⟨("is_span", none), "is_span", "is_span", defArgs s_is_span, defBody s_is_span, defScope s_is_span, [], []⟩
theorem sc_is_span : FnScope N_is_span ["round_length", "events", "span"] (defScope s_is_span) := ⟨rfl, rfl, rfl, by decide +kernel, rfl, by decide +kernel, by decide +kernel⟩
abbrev s_Net___init__ : Stmt := inClass (top 19) 0
def d_Net___init__ : He.DefD := ⟨("Net", some "__init__"), "__init__", "Net.__init__", defArgs s_Net___init__, defBody s_Net___init__, defScope s_Net___init__, [], []⟩
theorem sc_Net___init__ : FnScope N_Net___init__ ["self", "round_length", "events", "spans"] (defScope s_Net___init__) := ⟨rfl, rfl, rfl, by decide +kernel, rfl, by decide +kernel, by decide +kernel⟩
abbrev s_check_times : Stmt := top 7
def d_check_times : He.DefD := ⟨("check_times", none), "check_times", "check_times", defArgs s_check_times, defBody s_check_times, defScope s_check_times, [], []⟩
theorem sc_check_times : FnScope N_check_times ["net", "times"] (defScope s_check_times) := ⟨rfl, rfl, rfl, by decide +kernel, rfl, by decide +kernel, by decide +kernel⟩
abbrev s_minutes_on : Stmt := top 8
def d_minutes_on : He.DefD := ⟨("minutes_on", none), "minutes_on", "minutes_on", defArgs s_minutes_on, defBody s_minutes_on, defScope s_minutes_on, [], []⟩
theorem sc_minutes_on : FnScope N_minutes_on ["net", "times", "span"] (defScope s_minutes_on) := ⟨rfl, rfl, rfl, by decide +kernel, rfl, by decide +kernel, by decide +kernel⟩
abbrev s_passed : Stmt := top 9
def d_passed : He.DefD := ⟨("passed", none), "passed", "passed", defArgs s_passed, defBody s_passed, defScope s_passed, [], []⟩
theorem sc_passed : FnScope N_passed ["net", "times", "number"] (defScope s_passed) := ⟨rfl, rfl, rfl, by decide +kernel, rfl, by decide +kernel, by decide +kernel⟩
abbrev s_broken : Stmt := top 10
def d_broken : He.DefD := ⟨("broken", none), "broken", "broken", defArgs s_broken, defBody s_broken, defScope s_broken, [], []⟩
theorem sc_broken : FnScope N_broken ["net", "times"] (defScope s_broken) := ⟨rfl, rfl, rfl, by decide +kernel, rfl, by decide +kernel, by decide +kernel⟩
abbrev s_l_length : Stmt := top 25
def d_l_length : He.DefD := ⟨("_law_length", none), "_law_length", "_law_length", defArgs s_l_length, defBody s_l_length, defScope s_l_length, [], []⟩
theorem sc_l_length : FnScope N_l_length ["_law_pool_here"] (defScope s_l_length) := ⟨rfl, rfl, rfl, by decide +kernel, rfl, by decide +kernel, by decide +kernel⟩
abbrev s_l_many : Stmt := top 26
def d_l_many : He.DefD := ⟨("_law_many", none), "_law_many", "_law_many", defArgs s_l_many, defBody s_l_many, defScope s_l_many, [], []⟩
theorem sc_l_many : FnScope N_l_many ["_law_pool_here"] (defScope s_l_many) := ⟨rfl, rfl, rfl, by decide +kernel, rfl, by decide +kernel, by decide +kernel⟩
abbrev s_l_count : Stmt := top 27
def d_l_count : He.DefD := ⟨("_law_count", none), "_law_count", "_law_count", defArgs s_l_count, defBody s_l_count, defScope s_l_count, [], []⟩
theorem sc_l_count : FnScope N_l_count ["_law_pool_here", "_law_many_here"] (defScope s_l_count) := ⟨rfl, rfl, rfl, by decide +kernel, rfl, by decide +kernel, by decide +kernel⟩
abbrev s_l_any_spans : Stmt := top 28
def d_l_any_spans : He.DefD := ⟨("_law_any_spans", none), "_law_any_spans", "_law_any_spans", defArgs s_l_any_spans, defBody s_l_any_spans, defScope s_l_any_spans, [], []⟩
theorem sc_l_any_spans : FnScope N_l_any_spans ["_law_pool_here", "_law_length_here", "_law_many_here", "_law_count_here"] (defScope s_l_any_spans) := ⟨rfl, rfl, rfl, by decide +kernel, rfl, by decide +kernel, by decide +kernel⟩
abbrev s_l_times : Stmt := top 29
def d_l_times : He.DefD := ⟨("_law_times", none), "_law_times", "_law_times", defArgs s_l_times, defBody s_l_times, defScope s_l_times, [], []⟩
theorem sc_l_times : FnScope N_l_times ["_law_pool_here", "_law_length_here", "_law_many_here"] (defScope s_l_times) := ⟨rfl, rfl, rfl, by decide +kernel, rfl, by decide +kernel, by decide +kernel⟩
abbrev s_l_kept_spans : Stmt := top 30
def d_l_kept_spans : He.DefD := ⟨("_law_kept_spans", none), "_law_kept_spans", "_law_kept_spans", defArgs s_l_kept_spans, defBody s_l_kept_spans, defScope s_l_kept_spans, [], []⟩
theorem sc_l_kept_spans : FnScope N_l_kept_spans ["_law_pool_here", "_law_length_here", "_law_minutes", "_law_count_here"] (defScope s_l_kept_spans) := ⟨rfl, rfl, rfl, by decide +kernel, rfl, by decide +kernel, by decide +kernel⟩
abbrev s_l_spoilt : Stmt := top 31
def d_l_spoilt : He.DefD := ⟨("_law_spoilt", none), "_law_spoilt", "_law_spoilt", defArgs s_l_spoilt, defBody s_l_spoilt, defScope s_l_spoilt, [], []⟩
theorem sc_l_spoilt : FnScope N_l_spoilt ["_law_pool_here", "_law_length_here", "_law_times_here"] (defScope s_l_spoilt) := ⟨rfl, rfl, rfl, by decide +kernel, rfl, by decide +kernel, by decide +kernel⟩
abbrev s_l_wrong : Stmt := top 32
def d_l_wrong : He.DefD := ⟨("_law_wrong", none), "_law_wrong", "_law_wrong", defArgs s_l_wrong, defBody s_l_wrong, defScope s_l_wrong, [], []⟩
theorem sc_l_wrong : FnScope N_l_wrong ["_law_length_here", "_law_many_here", "_law_times_here"] (defScope s_l_wrong) := ⟨rfl, rfl, rfl, by decide +kernel, rfl, by decide +kernel, by decide +kernel⟩
abbrev s_l_gone : Stmt := top 33
def d_l_gone : He.DefD := ⟨("_law_gone", none), "_law_gone", "_law_gone", defArgs s_l_gone, defBody s_l_gone, defScope s_l_gone, [], []⟩
theorem sc_l_gone : FnScope N_l_gone ["_law_length_here", "_law_span", "_law_times_here"] (defScope s_l_gone) := ⟨rfl, rfl, rfl, by decide +kernel, rfl, by decide +kernel, by decide +kernel⟩
abbrev s_l_check_told : Stmt := top 34
def d_l_check_told : He.DefD := ⟨("_law_check_told", none), "_law_check_told", "_law_check_told", defArgs s_l_check_told, defBody s_l_check_told, defScope s_l_check_told, [], []⟩
theorem sc_l_check_told : FnScope N_l_check_told ["_law_net", "_law_times_here"] (defScope s_l_check_told) := ⟨rfl, rfl, rfl, by decide +kernel, rfl, by decide +kernel, by decide +kernel⟩
abbrev s_l_broken_told : Stmt := top 35
def d_l_broken_told : He.DefD := ⟨("_law_broken_told", none), "_law_broken_told", "_law_broken_told", defArgs s_l_broken_told, defBody s_l_broken_told, defScope s_l_broken_told, [], []⟩
theorem sc_l_broken_told : FnScope N_l_broken_told ["_law_net", "_law_times_here"] (defScope s_l_broken_told) := ⟨rfl, rfl, rfl, by decide +kernel, rfl, by decide +kernel, by decide +kernel⟩
abbrev s_l_passed_told : Stmt := top 36
def d_l_passed_told : He.DefD := ⟨("_law_passed_told", none), "_law_passed_told", "_law_passed_told", defArgs s_l_passed_told, defBody s_l_passed_told, defScope s_l_passed_told, [], []⟩
theorem sc_l_passed_told : FnScope N_l_passed_told ["_law_net", "_law_times_here", "_law_number"] (defScope s_l_passed_told) := ⟨rfl, rfl, rfl, by decide +kernel, rfl, by decide +kernel, by decide +kernel⟩
abbrev s_l_passed_good : Stmt := top 37
def d_l_passed_good : He.DefD := ⟨("_law_passed_good", none), "_law_passed_good", "_law_passed_good", defArgs s_l_passed_good, defBody s_l_passed_good, defScope s_l_passed_good, [], []⟩
theorem sc_l_passed_good : FnScope N_l_passed_good ["_law_net", "_law_handed", "_law_spans", "_law_gone_here", "_law_far"] (defScope s_l_passed_good) := ⟨rfl, rfl, rfl, by decide +kernel, rfl, by decide +kernel, by decide +kernel⟩
abbrev s_l_refused_good : Stmt := top 38
def d_l_refused_good : He.DefD := ⟨("_law_refused_good", none), "_law_refused_good", "_law_refused_good", defArgs s_l_refused_good, defBody s_l_refused_good, defScope s_l_refused_good, [], []⟩
theorem sc_l_refused_good : FnScope N_l_refused_good ["_law_net", "_law_handed", "_law_count_here", "_law_far", "_law_place"] (defScope s_l_refused_good) := ⟨rfl, rfl, rfl, by decide +kernel, rfl, by decide +kernel, by decide +kernel⟩
abbrev s_l_times_good : Stmt := top 39
def d_l_times_good : He.DefD := ⟨("_law_times_good", none), "_law_times_good", "_law_times_good", defArgs s_l_times_good, defBody s_l_times_good, defScope s_l_times_good, [], []⟩
theorem sc_l_times_good : FnScope N_l_times_good ["_law_net", "_law_length_here", "_law_many_here", "_law_spans", "_law_handed", "_law_far"] (defScope s_l_times_good) := ⟨rfl, rfl, rfl, by decide +kernel, rfl, by decide +kernel, by decide +kernel⟩
abbrev s_l_asked : Stmt := top 40
def d_l_asked : He.DefD := ⟨("_law_asked", none), "_law_asked", "_law_asked", defArgs s_l_asked, defBody s_l_asked, defScope s_l_asked, [], []⟩
theorem sc_l_asked : FnScope N_l_asked ["_law_net", "_law_length_here", "_law_many_here", "_law_spans", "_law_times_here", "_law_far", "_law_shape"] (defScope s_l_asked) := ⟨rfl, rfl, rfl, by decide +kernel, rfl, by decide +kernel, by decide +kernel⟩
abbrev s_law : Stmt := top 41
def d_law : He.DefD := ⟨("law", none), "law", "law", defArgs s_law, defBody s_law, defScope s_law, [], []⟩
theorem sc_law : FnScope N_law ["_law_script"] (defScope s_law) := ⟨rfl, rfl, rfl, by decide +kernel, rfl, by decide +kernel, by decide +kernel⟩
def fn_0 : List He.DefD := [d_l_cell, d_l_pool, d_l_take, d_l_same, d_is_window, d_is_span, d_Net___init__, d_check_times, d_minutes_on, d_passed, d_broken, d_l_length, d_l_many, d_l_count, d_l_any_spans, d_l_times, d_l_kept_spans, d_l_spoilt, d_l_wrong, d_l_gone, d_l_check_told, d_l_broken_told, d_l_passed_told, d_l_passed_good, d_l_refused_good, d_l_times_good, d_l_asked, d_law]
def fn : List He.DefD := fn_0
def fa_0 : List He.Fa := [.free "len", .free "abs", .glo "_law_cell", .free "int", .free "isinstance", .free "bool", .free "str", .free "list", .free "tuple", .free "range", .glo "_law_same", .int "MOST_MINUTES" 999, .glo "is_window", .int "SHORTEST_ROUND" 2, .int "LONGEST_ROUND" 60, .int "MOST_EVENTS" 12, .int "MOST_SPANS" 24, .free "enumerate", .glo "is_span", .free "max", .glo "BadTimes", .free "super", .glo "check_times", .glo "UnknownSpan", .glo "minutes_on", .glo "_law_take", .free "min", .glo "DepotError", .free "ValueError", .glo "broken"]
def fa_1 : List He.Fa := [.glo "passed", .glo "_law_passed_told", .glo "_law_check_told", .glo "_law_broken_told", .glo "_law_wrong", .glo "_law_refused_good", .glo "_law_gone", .glo "_law_passed_good", .glo "_law_times_good", .glo "_law_pool", .glo "_law_length", .glo "_law_many", .glo "_law_times", .glo "_law_count", .glo "_law_kept_spans", .glo "_law_any_spans", .mkr "Net", .glo "Net", .glo "_law_spoilt", .glo "_law_asked", .glo "law", .cls "Net", .noat "Net" "round_length", .noat "Net" "events", .noat "Net" "spans"]
def fa : List He.Fa := fa_0 ++ fa_1
def e_BadTimes : Hz.ExD := ⟨"BadTimes", ["place"], "BadTimes.__init__", inClass (top 4) 0⟩
def e_UnknownSpan : Hz.ExD := ⟨"UnknownSpan", ["number"], "UnknownSpan.__init__", inClass (top 5) 0⟩
def fe_0 : List Hz.ExD := [e_BadTimes, e_UnknownSpan]
def fe : List Hz.ExD := fe_0
def xf_0 : List Xf := [.xc "BadTimes", .noat "BadTimes" "place", .xc "UnknownSpan", .noat "UnknownSpan" "number", .exm "BadTimes" "BadTimes" true, .kit "BadTimes" "DepotError" true, .kitT "BadTimes" "ValueError" true, .kit "BadTimes" "UnknownSpan" false, .exm "UnknownSpan" "BadTimes" false, .exm "UnknownSpan" "UnknownSpan" true, .kit "UnknownSpan" "DepotError" true, .kitT "UnknownSpan" "ValueError" true, .kit "UnknownSpan" "BadTimes" false]
def xf : List Xf := xf_0
abbrev PP : Program := PySem.Challenge.pw_depotday_k14_minutes_that_pass
abbrev FZ (K : PySem.W.Frag) (mg : Str → Option Value) : Prop := Fz (PP.main.file : Str) fe xf fa fn K mg
theorem netK {K : PySem.W.Frag} {mg : Str → Option Value} (c : FZ K mg) : NetK K := ⟨c.cls 51, c.noat 52, c.noat 53, c.noat 54⟩
theorem timesK {K : PySem.W.Frag} {mg : Str → Option Value} (c : FZ K mg) : TimesK K := ⟨c.exm 4, c.kit 5, c.kitT 6, c.kit 7, c.exm 8, c.exm 9, c.kit 10, c.kitT 11, c.kit 12⟩
theorem xk_BadTimes {w : World} {K : PySem.W.Frag} {mg : Str → Option Value} (c : FZ K mg) : ExcK PP w K mg "BadTimes" ["place"] := by
  obtain ⟨h1, h2⟩ := c.more.e 0 (e := e_BadTimes) rfl
  obtain ⟨cc, cda, T, C0, hno, g1, g2⟩ := Hz.tx_of (prog := PP) h1 h2
  refine ⟨c.glo 20, c.free 21, C0, fun us hl hf => ?_⟩
  match us, hl, hf with
  | [v0], _, hf =>
    intro A R hp g d t os mg mb x t0 X G hx hnx hxC hroom hq
    exact Exs.init1 (f := "place") T ⟨⟨_, rfl, rfl⟩, rfl, rfl, rfl, rfl, by decide +kernel⟩ (hno _ (by simp [e_BadTimes])) rfl (by decide) (by decide) (by decide) (by decide +kernel) rfl rfl (fun _ _ _ _ _ => rfl) (fun _ => rfl) (fun _ => rfl) (fun _ => rfl) (fun _ => rfl) (hf _ (by simp)) X G hx hnx hxC hroom hq
theorem xk_UnknownSpan {w : World} {K : PySem.W.Frag} {mg : Str → Option Value} (c : FZ K mg) : ExcK PP w K mg "UnknownSpan" ["number"] := by
  obtain ⟨h1, h2⟩ := c.more.e 1 (e := e_UnknownSpan) rfl
  obtain ⟨cc, cda, T, C0, hno, g1, g2⟩ := Hz.tx_of (prog := PP) h1 h2
  refine ⟨c.glo 23, c.free 21, C0, fun us hl hf => ?_⟩
  match us, hl, hf with
  | [v0], _, hf =>
    intro A R hp g d t os mg mb x t0 X G hx hnx hxC hroom hq
    exact Exs.init1 (f := "number") T ⟨⟨_, rfl, rfl⟩, rfl, rfl, rfl, rfl, by decide +kernel⟩ (hno _ (by simp [e_UnknownSpan])) rfl (by decide) (by decide) (by decide) (by decide +kernel) rfl rfl (fun _ _ _ _ _ => rfl) (fun _ => rfl) (fun _ => rfl) (fun _ => rfl) (fun _ => rfl) (hf _ (by simp)) X G hx hnx hxC hroom hq
end Cl

/-! ## Ok -/

namespace Cl
open PySem PySem.Spec PyProof.Rows L2
section
variable {w : World} {K : PySem.W.Frag} {mg : Str → Option Value} {base : Heap}
theorem ok_l_cell_fd (c : FZ K mg) {fd : FuncData} (F' : FunD K "_law_cell" "_law_cell" (defArgs s_l_cell) (defBody s_l_cell) (defScope s_l_cell) [] [] (He.fAd K ("_law_cell", none)) fd) : FnOk PP w K mg base CX0 1 (He.fAd K ("_law_cell", none)) fd ["_law_script", "_law_k"] (sp_l_cell K) := by
  refine F'.ok sc_l_cell (fun vs H Q E h => len_l_cell h) (fun cdv A outer s H vs Q E hr h => ⟨t_l_cell K, PSs.nox ?_, pure_l_cell h⟩)
  exact (pss_cons (ps_if (pt_cmpR op_lt (pv 1) (pe_callB cl_len (by rfl) (c.free 0) (by decide +kernel) (pa_cons (pv 0) pa_nil)) (nomark _)) (pss_one (ps_ret (pe_callB cl_abs (by rfl) (c.free 1) (by decide +kernel) (pa_cons (pe_ix ix_list (pv 0) (pv 1) (fun _ _ => rfl)) pa_nil)))) pss_nil)
      (pss_one (ps_ret pe_int)))
theorem ok_l_cell (c : FZ K mg) : FnX PP w K mg base CX0 1 ("_law_cell", none) ["_law_script", "_law_k"] (sp_l_cell K) := by
  obtain ⟨fd, F⟩ := c.says.def_ 0 (d := d_l_cell) rfl
  have F' : FunD K "_law_cell" "_law_cell" (defArgs s_l_cell) (defBody s_l_cell) (defScope s_l_cell) [] [] (He.fAd K ("_law_cell", none)) fd := F
  exact ⟨⟨fd, ok_l_cell_fd c F', F'.bindsN fun _ _ _ _ _ _ us hl => match us, hl with | [_, _], _ => rfl⟩, F'.kp⟩
theorem ok_l_pool_fd (c : FZ K mg) {fd : FuncData} (F' : FunD K "_law_pool" "_law_pool" (defArgs s_l_pool) (defBody s_l_pool) (defScope s_l_pool) [] [] (He.fAd K ("_law_pool", none)) fd) : FnOk PP w K mg base CX0 2 (He.fAd K ("_law_pool", none)) fd ["_law_script", "_law_k"] (sp_l_pool K) := by
  refine F'.ok sc_l_pool (fun vs H Q E h => len_l_pool h) (fun cdv A outer s H vs Q E hr h => ⟨t_l_pool K, PSs.nox ?_, pure_l_pool h⟩)
  exact (pss_cons (ps_set (i := 2) sc_l_pool.nd rfl (by first | exact Or.inl rfl | exact Or.inr rfl) (pcall (ok_l_cell c) (hr.mono (by decide)) (by rfl) (c.glo 2) pass0 (pa_cons (pv 0) (pa_cons (pv 1) pa_nil))))
      (pss_one (ps_ret (pe_lst (pa_cons (pv 2) (pa_cons (pe_callTy cl_int1 (by rfl) (c.free 3) (by decide +kernel) (pa_cons (pe_cmpR op_ge (pv 2) (pe_op op_pow pe_int pe_int) (nomark _)) pa_nil)) (pa_cons (pe_op op_mul pe_int (pv 1)) pa_nil)))))))
theorem ok_l_pool (c : FZ K mg) : FnX PP w K mg base CX0 2 ("_law_pool", none) ["_law_script", "_law_k"] (sp_l_pool K) := by
  obtain ⟨fd, F⟩ := c.says.def_ 1 (d := d_l_pool) rfl
  have F' : FunD K "_law_pool" "_law_pool" (defArgs s_l_pool) (defBody s_l_pool) (defScope s_l_pool) [] [] (He.fAd K ("_law_pool", none)) fd := F
  exact ⟨⟨fd, ok_l_pool_fd c F', F'.bindsN fun _ _ _ _ _ _ us hl => match us, hl with | [_, _], _ => rfl⟩, F'.kp⟩
theorem ok_l_take_fd (c : FZ K mg) {fd : FuncData} (F' : FunD K "_law_take" "_law_take" (defArgs s_l_take) (defBody s_l_take) (defScope s_l_take) [] [] (He.fAd K ("_law_take", none)) fd) : FnOk PP w K mg base CX0 1 (He.fAd K ("_law_take", none)) fd ["_law_pool_here", "_law_many_here"] (sp_l_take) := by
  refine F'.ok sc_l_take (fun vs H Q E h => len_l_take h) (fun cdv A outer s H vs Q E hr h => ⟨t_l_take K, PSs.nox ?_, pure_l_take h⟩)
  exact (pss_cons (ps_if (PW.pt (pw_and (pt_cmpR op_eq (pe_ix ix_list (pv 0) pe_int (fun _ _ => rfl)) pe_int (nomark _)) (pw_and1 (pt_cmpR op_gt (pe_ix ix_list (pv 0) pe_int (fun _ _ => rfl)) pe_int (nomark _))))) (pss_cons (ps_set (i := 3) sc_l_take.nd rfl (by first | exact Or.inl rfl | exact Or.inr rfl) (pe_op op_mod (pe_callTy cl_int1 (by rfl) (c.free 3) (by decide +kernel) (pa_cons (pe_ix ix_list (pv 0) pe_int (fun _ _ => rfl)) pa_nil)) (pv 1)))
      (pss_cons (ps_asg (pe_op op_fdivB (pe_ix ix_list (pv 0) pe_int (fun _ _ => rfl)) (pv 1)) (pg_sub (pv 0) pe_int set_list))
      (pss_one (ps_ret (pv 3))))) pss_nil)
      (pss_cons (ps_asg (pe_op op_add (pe_ix ix_list (pv 0) pe_int (fun _ _ => rfl)) pe_int) (pg_sub (pv 0) pe_int set_list))
      (pss_cons (ps_set (i := 2) sc_l_take.nd rfl (by first | exact Or.inl rfl | exact Or.inr rfl) (pe_op op_mod (pe_callTy cl_int1 (by rfl) (c.free 3) (by decide +kernel) (pa_cons (pe_op op_add (pe_op op_mul (pe_op op_add (pe_ix ix_list (pv 0) pe_int (fun _ _ => rfl)) pe_int) pe_int) (pe_op op_mul (pe_ix ix_list (pv 0) pe_int (fun _ _ => rfl)) pe_int)) pa_nil)) pe_int))
      (pss_cons (ps_set (i := 2) sc_l_take.nd rfl (by first | exact Or.inl rfl | exact Or.inr rfl) (pe_op op_mod (pe_callTy cl_int1 (by rfl) (c.free 3) (by decide +kernel) (pa_cons (pe_op op_add (pe_op op_mul (pv 2) pe_int) (pe_op op_mul (pe_ix ix_list (pv 0) pe_int (fun _ _ => rfl)) pe_int)) pa_nil)) pe_int))
      (pss_cons (ps_if (pt_cmpR op_gt (pe_ix ix_list (pv 0) pe_int (fun _ _ => rfl)) pe_int (nomark _)) (pss_one (ps_set (i := 2) sc_l_take.nd rfl (by first | exact Or.inl rfl | exact Or.inr rfl) (pe_op op_mod (pe_callTy cl_int1 (by rfl) (c.free 3) (by decide +kernel) (pa_cons (pe_op op_mul (pe_op op_fdivB (pv 2) pe_int) (pe_op op_add (pe_op op_add (pe_op op_fdivB (pv 2) pe_int) (pe_ix ix_list (pv 0) pe_int (fun _ _ => rfl))) pe_int)) pa_nil)) pe_int))) pss_nil)
      (pss_one (ps_ret (pe_op op_mod (pe_callTy cl_int1 (by rfl) (c.free 3) (by decide +kernel) (pa_cons (pe_op op_fdivB (pv 2) pe_int) pa_nil)) (pv 1)))))))))
theorem ok_l_take (c : FZ K mg) : FnX PP w K mg base CX0 1 ("_law_take", none) ["_law_pool_here", "_law_many_here"] (sp_l_take) := by
  obtain ⟨fd, F⟩ := c.says.def_ 2 (d := d_l_take) rfl
  have F' : FunD K "_law_take" "_law_take" (defArgs s_l_take) (defBody s_l_take) (defScope s_l_take) [] [] (He.fAd K ("_law_take", none)) fd := F
  exact ⟨⟨fd, ok_l_take_fd c F', F'.bindsN fun _ _ _ _ _ _ us hl => match us, hl with | [_, _], _ => rfl⟩, F'.kp⟩
theorem ok_l_same_st (c : FZ K mg) {fd : FuncData} (F' : FunD K "_law_same" "_law_same" (defArgs s_l_same) (defBody s_l_same) (defScope s_l_same) [] [] (He.fAd K ("_law_same", none)) fd) (n : Nat) (ih : FnX PP w K mg base CX0 n ("_law_same", none) ["_law_got", "_law_due"] (sp_l_same_r n)) : FnOk PP w K mg base CX0 (n + 1) (He.fAd K ("_law_same", none)) fd ["_law_got", "_law_due"] (sp_l_same_n n) := by
  refine F'.ok sc_l_same (fun vs H Q E h => len_l_same h) (fun cdv A outer s H vs Q E hr h => ⟨t_l_same K (sp_l_same_r n), PSs.nox ?_, pure_l_same h⟩)
  exact (pss_cons (ps_if (PW.pt (pw_or (pt_val (pe_callB call_isi (by rfl) (c.free 4) (by decide +kernel) (pa_cons (pv 0) (pa_cons (pe_bltn (v := .ty "bool") (by rfl) (c.free 5) (by decide +kernel) rfl) pa_nil)))) (pw_or1 (pt_val (pe_callB call_isi (by rfl) (c.free 4) (by decide +kernel) (pa_cons (pv 1) (pa_cons (pe_bltn (v := .ty "bool") (by rfl) (c.free 5) (by decide +kernel) rfl) pa_nil))))))) (pss_one (ps_ret (pe_and (pe_callB call_isi (by rfl) (c.free 4) (by decide +kernel) (pa_cons (pv 0) (pa_cons (pe_bltn (v := .ty "bool") (by rfl) (c.free 5) (by decide +kernel) rfl) pa_nil))) (pe_and (pe_callB call_isi (by rfl) (c.free 4) (by decide +kernel) (pa_cons (pv 1) (pa_cons (pe_bltn (v := .ty "bool") (by rfl) (c.free 5) (by decide +kernel) rfl) pa_nil))) (pe_one (pe_cmpR op_eq (pv 0) (pv 1) (nomark _))))))) pss_nil)
      (pss_cons (ps_if (PW.pt (pw_or (pt_cmpR op_isN1 (pv 0) pe_non (nomark _)) (pw_or1 (pt_cmpR op_isN1 (pv 1) pe_non (nomark _))))) (pss_one (ps_ret (pe_and (pe_cmpR op_isN1 (pv 0) pe_non (nomark _)) (pe_one (pe_cmpR op_isN1 (pv 1) pe_non (nomark _)))))) pss_nil)
      (pss_cons (ps_if (pt_val (pe_callB call_isi (by rfl) (c.free 4) (by decide +kernel) (pa_cons (pv 1) (pa_cons (pe_bltn (v := .ty "int") (by rfl) (c.free 3) (by decide +kernel) rfl) pa_nil)))) (pss_one (ps_ret (pe_and (pe_callB call_isi (by rfl) (c.free 4) (by decide +kernel) (pa_cons (pv 0) (pa_cons (pe_bltn (v := .ty "int") (by rfl) (c.free 3) (by decide +kernel) rfl) pa_nil))) (pe_one (pe_cmpR op_eq (pv 0) (pv 1) (nomark _)))))) pss_nil)
      (pss_cons (ps_if (pt_val (pe_callB call_isi (by rfl) (c.free 4) (by decide +kernel) (pa_cons (pv 1) (pa_cons (pe_bltn (v := .ty "str") (by rfl) (c.free 6) (by decide +kernel) rfl) pa_nil)))) (pss_one (ps_ret (pe_and (pe_callB call_isi (by rfl) (c.free 4) (by decide +kernel) (pa_cons (pv 0) (pa_cons (pe_bltn (v := .ty "str") (by rfl) (c.free 6) (by decide +kernel) rfl) pa_nil))) (pe_one (pe_cmpR op_eq (pv 0) (pv 1) (nomark _)))))) pss_nil)
      (pss_cons (ps_if (PW.pt (pw_and (pt_val (pe_callB call_isi (by rfl) (c.free 4) (by decide +kernel) (pa_cons (pv 1) (pa_cons (pe_bltn (v := .ty "list") (by rfl) (c.free 7) (by decide +kernel) rfl) pa_nil)))) (pw_and1 (pt_not (pt_val (pe_callB call_isi (by rfl) (c.free 4) (by decide +kernel) (pa_cons (pv 0) (pa_cons (pe_bltn (v := .ty "list") (by rfl) (c.free 7) (by decide +kernel) rfl) pa_nil)))))))) (pss_one (ps_ret pe_bl)) pss_nil)
      (pss_cons (ps_if (PW.pt (pw_and (pt_val (pe_callB call_isi (by rfl) (c.free 4) (by decide +kernel) (pa_cons (pv 1) (pa_cons (pe_bltn (v := .ty "tuple") (by rfl) (c.free 8) (by decide +kernel) rfl) pa_nil)))) (pw_and1 (pt_not (pt_val (pe_callB call_isi (by rfl) (c.free 4) (by decide +kernel) (pa_cons (pv 0) (pa_cons (pe_bltn (v := .ty "tuple") (by rfl) (c.free 8) (by decide +kernel) rfl) pa_nil)))))))) (pss_one (ps_ret pe_bl)) pss_nil)
      (pss_cons (ps_if (pt_cmpR op_ne (pe_callB cl_len (by rfl) (c.free 0) (by decide +kernel) (pa_cons (pv 0) pa_nil)) (pe_callB cl_len (by rfl) (c.free 0) (by decide +kernel) (pa_cons (pv 1) pa_nil)) (nomark _)) (pss_one (ps_ret pe_bl)) pss_nil)
      (pss_cons (ps_for PassesOwn.never rfl (pi_range1 (by rfl) (c.free 9) (pa_cons (pe_callB cl_len (by rfl) (c.free 0) (by decide +kernel) (pa_cons (pv 1) pa_nil)) pa_nil)) (pg_name (i := 2) sc_l_same.nd rfl (by first | exact Or.inl rfl | exact Or.inr rfl)) (pss_one (ps_if (pt_not (pt_val (pcall (ih) (hr.mono (by omega)) (by rfl) (c.glo 10) pass0 (pa_cons (pe_ix ix_seq (pv 0) (pv 2) (fun _ _ => rfl)) (pa_cons (pe_ix ix_seq (pv 1) (pv 2) (fun _ _ => rfl)) pa_nil))))) (pss_one (ps_ret pe_bl)) pss_nil)))
      (pss_one (ps_ret pe_bl))))))))))
theorem ok_l_same_fd (c : FZ K mg) {fd : FuncData} (F' : FunD K "_law_same" "_law_same" (defArgs s_l_same) (defBody s_l_same) (defScope s_l_same) [] [] (He.fAd K ("_law_same", none)) fd) : ∀ n, FnOk PP w K mg base CX0 (n + 1) (He.fAd K ("_law_same", none)) fd ["_law_got", "_law_due"] (sp_l_same_n n) := by
  have bn : Binds K fd ["_law_got", "_law_due"] [] := F'.bindsN fun _ _ _ _ _ _ us hl => match us, hl with | [_, _], _ => rfl
  intro n
  induction n with
  | zero => exact ok_l_same_st c F' 0 ⟨⟨fd, ⟨fun _ _ _ _ h => h.elim, fun _ _ _ _ _ _ _ _ _ _ _ _ _ h => h.elim⟩, bn⟩, F'.kp⟩
  | succ n ih => exact ok_l_same_st c F' (n + 1) ⟨⟨fd, ih, bn⟩, F'.kp⟩
theorem ok_l_same (c : FZ K mg) : FnX PP w K mg base CX0 8 ("_law_same", none) ["_law_got", "_law_due"] sp_l_same := by
  obtain ⟨fd, F⟩ := c.says.def_ 3 (d := d_l_same) rfl
  have F' : FunD K "_law_same" "_law_same" (defArgs s_l_same) (defBody s_l_same) (defScope s_l_same) [] [] (He.fAd K ("_law_same", none)) fd := F
  have bn : Binds K fd ["_law_got", "_law_due"] [] := F'.bindsN fun _ _ _ _ _ _ us hl => match us, hl with | [_, _], _ => rfl
  exact ⟨⟨fd, ⟨fun vs H Q E ⟨n, _, h⟩ => (ok_l_same_fd (w := w) (base := base) c F' n).len vs H Q E h, fun A outer s H args us vs Q E hr he hb hv ⟨n, hn, h⟩ => (ok_l_same_fd c F' n).run A outer s H args us vs Q E (hr.mono hn) he hb hv h⟩, bn⟩, F'.kp⟩
theorem ok_is_window_fd (c : FZ K mg) {fd : FuncData} (F' : FunD K "is_window" "is_window" (defArgs s_is_window) (defBody s_is_window) (defScope s_is_window) [] [] (He.fAd K ("is_window", none)) fd) : FnOk PP w K mg base CX0 1 (He.fAd K ("is_window", none)) fd ["round_length", "least", "most", "limit"] (sp_is_window) := by
  refine F'.ok sc_is_window (fun vs H Q E h => len_is_window h) (fun cdv A outer s H vs Q E hr h => ⟨t_is_window K, PSs.nox ?_, pure_is_window h⟩)
  exact (pss_one (ps_ret (pe_and (pe_chain3 op_le op_le op_le pe_int (pv 1) (pv 2) (pe_op op_sub (pe_op op_add (pv 1) (pv 0)) pe_int)) (pe_one (pe_cmpR op_le (pv 2) (pv 3) (nomark _))))))
theorem ok_is_window (c : FZ K mg) : FnX PP w K mg base CX0 1 ("is_window", none) ["round_length", "least", "most", "limit"] (sp_is_window) := by
  obtain ⟨fd, F⟩ := c.says.def_ 4 (d := d_is_window) rfl
  have F' : FunD K "is_window" "is_window" (defArgs s_is_window) (defBody s_is_window) (defScope s_is_window) [] [] (He.fAd K ("is_window", none)) fd := F
  exact ⟨⟨fd, ok_is_window_fd c F', F'.bindsN fun _ _ _ _ _ _ us hl => match us, hl with | [_, _, _, _], _ => rfl⟩, F'.kp⟩
theorem ok_is_span_fd (c : FZ K mg) {fd : FuncData} (F' : FunD K "is_span" "is_span" (defArgs s_is_span) (defBody s_is_span) (defScope s_is_span) [] [] (He.fAd K ("is_span", none)) fd) : FnOk PP w K mg base CX0 2 (He.fAd K ("is_span", none)) fd ["round_length", "events", "span"] (sp_is_span K) := by
  refine F'.ok sc_is_span (fun vs H Q E h => len_is_span h) (fun cdv A outer s H vs Q E hr h => ⟨t_is_span K, PSs.nox ?_, pure_is_span h⟩)
  exact (pss_cons (ps_if (pt_cmpR op_ne (pe_callB cl_len (by rfl) (c.free 0) (by decide +kernel) (pa_cons (pv 2) pa_nil)) pe_int (nomark _)) (pss_one (ps_ret pe_bl)) pss_nil)
      (pss_cons (ps_asg (pv 2) (pg_tup rfl (pgs_cons (pg_name (i := 3) sc_is_span.nd rfl (by first | exact Or.inl rfl | exact Or.inr rfl)) (pgs_cons (pg_name (i := 4) sc_is_span.nd rfl (by first | exact Or.inl rfl | exact Or.inr rfl)) (pgs_cons (pg_name (i := 5) sc_is_span.nd rfl (by first | exact Or.inl rfl | exact Or.inr rfl)) (pgs_cons (pg_name (i := 6) sc_is_span.nd rfl (by first | exact Or.inl rfl | exact Or.inr rfl)) pgs_nil))))))
      (pss_cons (ps_if (PW.pt (pw_or (pt_not (pt_chain op_le op_lt pe_int (pv 3) (pv 1))) (pw_or (pt_not (pt_chain op_le op_lt pe_int (pv 4) (pv 1))) (pw_or1 (pt_cmpR op_eq (pv 3) (pv 4) (nomark _)))))) (pss_one (ps_ret pe_bl)) pss_nil)
      (pss_one (ps_ret (pcall (ok_is_window c) (hr.mono (by decide)) (by rfl) (c.glo 12) pass0 (pa_cons (pv 0) (pa_cons (pv 5) (pa_cons (pv 6) (pa_cons (pgi (by rfl) (c.int 11)) pa_nil))))))))))
theorem ok_is_span (c : FZ K mg) : FnX PP w K mg base CX0 2 ("is_span", none) ["round_length", "events", "span"] (sp_is_span K) := by
  obtain ⟨fd, F⟩ := c.says.def_ 5 (d := d_is_span) rfl
  have F' : FunD K "is_span" "is_span" (defArgs s_is_span) (defBody s_is_span) (defScope s_is_span) [] [] (He.fAd K ("is_span", none)) fd := F
  exact ⟨⟨fd, ok_is_span_fd c F', F'.bindsN fun _ _ _ _ _ _ us hl => match us, hl with | [_, _, _], _ => rfl⟩, F'.kp⟩
theorem ok_Net___init___fd (c : FZ K mg) {fd : FuncData} (F' : FunD K "__init__" "Net.__init__" (defArgs s_Net___init__) (defBody s_Net___init__) (defScope s_Net___init__) [] [] (He.fAd K ("Net", some "__init__")) fd) : FnOk PP w K mg base CX0 3 (He.fAd K ("Net", some "__init__")) fd ["self", "round_length", "events", "spans"] (sp_Net___init__ K) := by
  refine F'.ok sc_Net___init__ (fun vs H Q E h => len_Net___init__ h) (fun cdv A outer s H vs Q E hr h => ⟨t_Net___init__ K, PSs.nox ?_, pure_Net___init__ (netK c) h⟩)
  exact (pss_cons (ps_if (pt_not (pt_chain op_le op_le (pgi (by rfl) (c.int 13)) (pv 1) (pgi (by rfl) (c.int 14)))) (pss_one ps_never) pss_nil)
      (pss_cons (ps_if (pt_not (pt_chain op_le op_le pe_int (pv 2) (pgi (by rfl) (c.int 15)))) (pss_one ps_never) pss_nil)
      (pss_cons (ps_if (pt_cmpR op_gt (pe_callB cl_len (by rfl) (c.free 0) (by decide +kernel) (pa_cons (pv 3) pa_nil)) (pgi (by rfl) (c.int 16)) (nomark _)) (pss_one ps_never) pss_nil)
      (pss_cons (ps_for PassesOwn.never rfl (pi_enum (by rfl) (c.free 17) (pa_cons (pv 3) pa_nil)) (pg_tup rfl (pgs_cons (pg_name (i := 4) sc_Net___init__.nd rfl (by first | exact Or.inl rfl | exact Or.inr rfl)) (pgs_cons (pg_name (i := 5) sc_Net___init__.nd rfl (by first | exact Or.inl rfl | exact Or.inr rfl)) pgs_nil))) (pss_one (ps_if (pt_not (pt_val (pcall (ok_is_span c) (hr.mono (by decide)) (by rfl) (c.glo 18) pass0 (pa_cons (pv 1) (pa_cons (pv 2) (pa_cons (pv 5) pa_nil)))))) (pss_one ps_never) pss_nil)))
      (pss_cons (ps_fld (pv 0) (pv 1) rfl)
      (pss_cons (ps_fld (pv 0) (pv 2) rfl)
      (pss_one (ps_fld (pv 0) (pe_callTy cl_tuple (by rfl) (c.free 8) (by decide +kernel) (pa_cons (pe_lc (own := [("span", 5)]) (g := (gName 5)) (tt := tYes) rfl sc_Net___init__.nd (pi_list (pv 3)) (blkOk_by (own := [("span", 5)]) (N := N_Net___init__) (sc := defScope s_Net___init__) (by decide +kernel)) (fun _ _ _ _ _ => (pg_name (i := 5) sc_Net___init__.nd rfl (by first | exact Or.inl rfl | exact Or.inr rfl))) (fun _ _ _ _ _ => pts_nil) (fun _ _ _ _ _ => (pe_callTy cl_tuple (by rfl) (c.free 8) (by decide +kernel) (pa_cons (pv 5) pa_nil)))) pa_nil)) rfl))))))))
theorem ok_Net___init__ (c : FZ K mg) : FnX PP w K mg base CX0 3 ("Net", some "__init__") ["self", "round_length", "events", "spans"] (sp_Net___init__ K) := by
  obtain ⟨fd, F⟩ := c.says.def_ 6 (d := d_Net___init__) rfl
  have F' : FunD K "__init__" "Net.__init__" (defArgs s_Net___init__) (defBody s_Net___init__) (defScope s_Net___init__) [] [] (He.fAd K ("Net", some "__init__")) fd := F
  exact ⟨⟨fd, ok_Net___init___fd c F', F'.bindsN fun _ _ _ _ _ _ us hl => match us, hl with | [_, _, _, _], _ => rfl⟩, F'.kp⟩
theorem ok_check_times_fd (c : FZ K mg) {fd : FuncData} (F' : FunD K "check_times" "check_times" (defArgs s_check_times) (defBody s_check_times) (defScope s_check_times) [] [] (He.fAd K ("check_times", none)) fd) : FnOk PP w K mg base (L2.CX PP w) 3 (He.fAd K ("check_times", none)) fd ["net", "times"] (sp_check_times K) := by
  refine F'.ok sc_check_times (fun vs H Q E h => len_check_times h) (fun cdv A outer s H vs Q E hr h => ⟨t_check_times K E, ?_, pure_check_times (netK c) h⟩)
  exact (pss_one (ps_for (passes_of rfl) rfl (pi_range1 (by rfl) (c.free 9) (pa_cons (pe_callB (cl_max2 rfl) (by rfl) (c.free 19) (by decide +kernel) (pa_cons (pe_callB cl_len (by rfl) (c.free 0) (by decide +kernel) (pa_cons (pv 1) pa_nil)) (pa_cons (pe_fld (pv 0) rfl) pa_nil))) pa_nil)) (pg_name (i := 2) sc_check_times.nd rfl (by first | exact Or.inl rfl | exact Or.inr rfl)) (pss_one (ps_if (PW.pt (pw_or (pt_cmpR op_ge (pv 2) (pe_callB cl_len (by rfl) (c.free 0) (by decide +kernel) (pa_cons (pv 1) pa_nil)) (nomark _)) (pw_or (pt_cmpR op_ge (pv 2) (pe_fld (pv 0) rfl) (nomark _)) (pw_or1 (pt_not (pt_chain op_le op_lt pe_int (pe_ix ix_seq (pv 1) (pv 2) (fun _ _ => rfl)) (pe_fld (pv 0) rfl))))))) (pss_one (praise rfl (takes_of rfl rfl rfl rfl) (pmk_exs (xk_BadTimes c) (hr.mono (by decide) : Room 2 _) (by rfl) (pa_cons (pv 2) pa_nil)))) pss_nil))))
theorem ok_check_times (c : FZ K mg) : FnX PP w K mg base (L2.CX PP w) 3 ("check_times", none) ["net", "times"] (sp_check_times K) := by
  obtain ⟨fd, F⟩ := c.says.def_ 7 (d := d_check_times) rfl
  have F' : FunD K "check_times" "check_times" (defArgs s_check_times) (defBody s_check_times) (defScope s_check_times) [] [] (He.fAd K ("check_times", none)) fd := F
  exact ⟨⟨fd, ok_check_times_fd c F', F'.bindsN fun _ _ _ _ _ _ us hl => match us, hl with | [_, _], _ => rfl⟩, F'.kp⟩
theorem ok_minutes_on_fd (c : FZ K mg) {fd : FuncData} (F' : FunD K "minutes_on" "minutes_on" (defArgs s_minutes_on) (defBody s_minutes_on) (defScope s_minutes_on) [] [] (He.fAd K ("minutes_on", none)) fd) : FnOk PP w K mg base CX0 1 (He.fAd K ("minutes_on", none)) fd ["net", "times", "span"] (sp_minutes_on K) := by
  refine F'.ok sc_minutes_on (fun vs H Q E h => len_minutes_on h) (fun cdv A outer s H vs Q E hr h => ⟨t_minutes_on K, PSs.nox ?_, pure_minutes_on (netK c) h⟩)
  exact (pss_cons (ps_asg (pe_slice sl_tup (pv 2) po_none (po_some pe_int)) (pg_tup rfl (pgs_cons (pg_name (i := 3) sc_minutes_on.nd rfl (by first | exact Or.inl rfl | exact Or.inr rfl)) (pgs_cons (pg_name (i := 4) sc_minutes_on.nd rfl (by first | exact Or.inl rfl | exact Or.inr rfl)) (pgs_cons (pg_name (i := 5) sc_minutes_on.nd rfl (by first | exact Or.inl rfl | exact Or.inr rfl)) pgs_nil)))))
      (pss_one (ps_ret (pe_op op_add (pv 5) (pe_op op_mod (pe_op op_sub (pe_op op_sub (pe_ix ix_seq (pv 1) (pv 4) (fun _ _ => rfl)) (pe_ix ix_seq (pv 1) (pv 3) (fun _ _ => rfl))) (pv 5)) (pe_fld (pv 0) rfl))))))
theorem ok_minutes_on (c : FZ K mg) : FnX PP w K mg base CX0 1 ("minutes_on", none) ["net", "times", "span"] (sp_minutes_on K) := by
  obtain ⟨fd, F⟩ := c.says.def_ 8 (d := d_minutes_on) rfl
  have F' : FunD K "minutes_on" "minutes_on" (defArgs s_minutes_on) (defBody s_minutes_on) (defScope s_minutes_on) [] [] (He.fAd K ("minutes_on", none)) fd := F
  exact ⟨⟨fd, ok_minutes_on_fd c F', F'.bindsN fun _ _ _ _ _ _ us hl => match us, hl with | [_, _, _], _ => rfl⟩, F'.kp⟩
theorem ok_passed_fd (c : FZ K mg) {fd : FuncData} (F' : FunD K "passed" "passed" (defArgs s_passed) (defBody s_passed) (defScope s_passed) [] [] (He.fAd K ("passed", none)) fd) : FnOk PP w K mg base (L2.CX PP w) 4 (He.fAd K ("passed", none)) fd ["net", "times", "number"] (sp_passed K) := by
  refine F'.ok sc_passed (fun vs H Q E h => len_passed h) (fun cdv A outer s H vs Q E hr h => ⟨t_passed K E, ?_, pure_passed (netK c) h⟩)
  exact (pss_cons (ps_expr (pcallS (ok_check_times c) (hr.mono (by decide)) (by rfl) (c.glo 22) (takes_of rfl rfl rfl rfl) (pa_cons (pv 0) (pa_cons (pv 1) pa_nil))))
      (pss_cons (ps_if (pt_not (pt_chain op_le op_lt pe_int (pv 2) (pe_callB cl_len (by rfl) (c.free 0) (by decide +kernel) (pa_cons (pe_fld (pv 0) rfl) pa_nil)))) (pss_one (praise rfl (takes_of rfl rfl rfl rfl) (pmk_exs (xk_UnknownSpan c) (hr.mono (by decide) : Room 2 _) (by rfl) (pa_cons (pv 2) pa_nil)))) pss_nil)
      (pss_one (ps_ret (pcall (ok_minutes_on c) (hr.mono (by decide)) (by rfl) (c.glo 24) pass0 (pa_cons (pv 0) (pa_cons (pv 1) (pa_cons (pe_ix ix_tup (pe_fld (pv 0) rfl) (pv 2) (fun _ _ => rfl)) pa_nil))))))))
theorem ok_passed (c : FZ K mg) : FnX PP w K mg base (L2.CX PP w) 4 ("passed", none) ["net", "times", "number"] (sp_passed K) := by
  obtain ⟨fd, F⟩ := c.says.def_ 9 (d := d_passed) rfl
  have F' : FunD K "passed" "passed" (defArgs s_passed) (defBody s_passed) (defScope s_passed) [] [] (He.fAd K ("passed", none)) fd := F
  exact ⟨⟨fd, ok_passed_fd c F', F'.bindsN fun _ _ _ _ _ _ us hl => match us, hl with | [_, _, _], _ => rfl⟩, F'.kp⟩
theorem ok_broken_fd (c : FZ K mg) {fd : FuncData} (F' : FunD K "broken" "broken" (defArgs s_broken) (defBody s_broken) (defScope s_broken) [] [] (He.fAd K ("broken", none)) fd) : FnOk PP w K mg base (L2.CX PP w) 4 (He.fAd K ("broken", none)) fd ["net", "times"] (sp_broken K) := by
  refine F'.ok sc_broken (fun vs H Q E h => len_broken h) (fun cdv A outer s H vs Q E hr h => ⟨t_broken K E, ?_, pure_broken (netK c) h⟩)
  exact (pss_cons (ps_expr (pcallS (ok_check_times c) (hr.mono (by decide)) (by rfl) (c.glo 22) (takes_of rfl rfl rfl rfl) (pa_cons (pv 0) (pa_cons (pv 1) pa_nil))))
      (pss_one (ps_ret (pe_lc (own := [("number", 2), ("span", 3)]) (g := (gTup K 2 (gCons (gName 2) (gCons (gName 3) gNil)))) (tt := (tTest (tOp oGt (tCall (sp_minutes_on K) [] E0 (tCons (tVar 0) (tCons (tVar 1) (tCons (tVar 3) tNil)))) (tOp (rIxT K) (tVar 3) (tC (.int 3)))))) rfl sc_broken.nd (pi_enumT (by rfl) (c.free 17) (pa_cons (pe_fld (pv 0) rfl) pa_nil)) (blkOk_by (own := [("number", 2), ("span", 3)]) (N := N_broken) (sc := defScope s_broken) (by decide +kernel)) (fun _ _ _ _ _ => (pg_tup rfl (pgs_cons (pg_name (i := 2) sc_broken.nd rfl (by first | exact Or.inl rfl | exact Or.inr rfl)) (pgs_cons (pg_name (i := 3) sc_broken.nd rfl (by first | exact Or.inl rfl | exact Or.inr rfl)) pgs_nil)))) (fun _ _ _ _ _ => (pts_one (pt_cmpR op_gt (pcall (ok_minutes_on c) (hr.mono (by decide)) (by rfl) (c.glo 24) pass0 (pa_cons (pv 0) (pa_cons (pv 1) (pa_cons (pv 3) pa_nil)))) (pe_ix ix_tup (pv 3) pe_int (fun _ _ => rfl)) (nomark _)))) (fun _ _ _ _ _ => (pv 2))))))
theorem ok_broken (c : FZ K mg) : FnX PP w K mg base (L2.CX PP w) 4 ("broken", none) ["net", "times"] (sp_broken K) := by
  obtain ⟨fd, F⟩ := c.says.def_ 10 (d := d_broken) rfl
  have F' : FunD K "broken" "broken" (defArgs s_broken) (defBody s_broken) (defScope s_broken) [] [] (He.fAd K ("broken", none)) fd := F
  exact ⟨⟨fd, ok_broken_fd c F', F'.bindsN fun _ _ _ _ _ _ us hl => match us, hl with | [_, _], _ => rfl⟩, F'.kp⟩
theorem ok_l_length_fd (c : FZ K mg) {fd : FuncData} (F' : FunD K "_law_length" "_law_length" (defArgs s_l_length) (defBody s_l_length) (defScope s_l_length) [] [] (He.fAd K ("_law_length", none)) fd) : FnOk PP w K mg base CX0 2 (He.fAd K ("_law_length", none)) fd ["_law_pool_here"] (sp_l_length) := by
  refine F'.ok sc_l_length (fun vs H Q E h => len_l_length h) (fun cdv A outer s H vs Q E hr h => ⟨t_l_length K, PSs.nox ?_, pure_l_length h⟩)
  exact (pss_cons (ps_if (pt_cmpR op_eq (pcall (ok_l_take c) (hr.mono (by decide)) (by rfl) (c.glo 25) pass0 (pa_cons (pv 0) (pa_cons pe_int pa_nil))) pe_int (nomark _)) (pss_one (ps_ret (pe_op op_add pe_int (pcall (ok_l_take c) (hr.mono (by decide)) (by rfl) (c.glo 25) pass0 (pa_cons (pv 0) (pa_cons pe_int pa_nil)))))) pss_nil)
      (pss_one (ps_ret (pe_ix ix_list (pe_lst (pa_cons pe_int (pa_cons pe_int (pa_cons pe_int (pa_cons pe_int (pa_cons pe_int (pa_cons pe_int pa_nil))))))) (pcall (ok_l_take c) (hr.mono (by decide)) (by rfl) (c.glo 25) pass0 (pa_cons (pv 0) (pa_cons pe_int pa_nil))) (fun _ _ => rfl)))))
theorem ok_l_length (c : FZ K mg) : FnX PP w K mg base CX0 2 ("_law_length", none) ["_law_pool_here"] (sp_l_length) := by
  obtain ⟨fd, F⟩ := c.says.def_ 11 (d := d_l_length) rfl
  have F' : FunD K "_law_length" "_law_length" (defArgs s_l_length) (defBody s_l_length) (defScope s_l_length) [] [] (He.fAd K ("_law_length", none)) fd := F
  exact ⟨⟨fd, ok_l_length_fd c F', F'.bindsN fun _ _ _ _ _ _ us hl => match us, hl with | [_], _ => rfl⟩, F'.kp⟩
theorem ok_l_many_fd (c : FZ K mg) {fd : FuncData} (F' : FunD K "_law_many" "_law_many" (defArgs s_l_many) (defBody s_l_many) (defScope s_l_many) [] [] (He.fAd K ("_law_many", none)) fd) : FnOk PP w K mg base CX0 2 (He.fAd K ("_law_many", none)) fd ["_law_pool_here"] (sp_l_many) := by
  refine F'.ok sc_l_many (fun vs H Q E h => len_l_many h) (fun cdv A outer s H vs Q E hr h => ⟨t_l_many K, PSs.nox ?_, pure_l_many h⟩)
  exact (pss_cons (ps_set (i := 1) sc_l_many.nd rfl (by first | exact Or.inl rfl | exact Or.inr rfl) (pcall (ok_l_take c) (hr.mono (by decide)) (by rfl) (c.glo 25) pass0 (pa_cons (pv 0) (pa_cons pe_int pa_nil))))
      (pss_cons (ps_if (pt_cmpR op_eq (pv 1) pe_int (nomark _)) (pss_one (ps_ret (pcall (ok_l_take c) (hr.mono (by decide)) (by rfl) (c.glo 25) pass0 (pa_cons (pv 0) (pa_cons pe_int pa_nil))))) pss_nil)
      (pss_cons (ps_if (pt_cmpR op_eq (pv 1) pe_int (nomark _)) (pss_one (ps_ret (pe_op op_add pe_int (pcall (ok_l_take c) (hr.mono (by decide)) (by rfl) (c.glo 25) pass0 (pa_cons (pv 0) (pa_cons pe_int pa_nil)))))) pss_nil)
      (pss_one (ps_ret (pe_op op_add pe_int (pcall (ok_l_take c) (hr.mono (by decide)) (by rfl) (c.glo 25) pass0 (pa_cons (pv 0) (pa_cons pe_int pa_nil)))))))))
theorem ok_l_many (c : FZ K mg) : FnX PP w K mg base CX0 2 ("_law_many", none) ["_law_pool_here"] (sp_l_many) := by
  obtain ⟨fd, F⟩ := c.says.def_ 12 (d := d_l_many) rfl
  have F' : FunD K "_law_many" "_law_many" (defArgs s_l_many) (defBody s_l_many) (defScope s_l_many) [] [] (He.fAd K ("_law_many", none)) fd := F
  exact ⟨⟨fd, ok_l_many_fd c F', F'.bindsN fun _ _ _ _ _ _ us hl => match us, hl with | [_], _ => rfl⟩, F'.kp⟩
theorem ok_l_count_fd (c : FZ K mg) {fd : FuncData} (F' : FunD K "_law_count" "_law_count" (defArgs s_l_count) (defBody s_l_count) (defScope s_l_count) [] [] (He.fAd K ("_law_count", none)) fd) : FnOk PP w K mg base CX0 2 (He.fAd K ("_law_count", none)) fd ["_law_pool_here", "_law_many_here"] (sp_l_count) := by
  refine F'.ok sc_l_count (fun vs H Q E h => len_l_count h) (fun cdv A outer s H vs Q E hr h => ⟨t_l_count K, PSs.nox ?_, pure_l_count h⟩)
  exact (pss_cons (ps_if (pt_cmpR op_lt (pv 1) pe_int (nomark _)) (pss_one (ps_ret pe_int)) pss_nil)
      (pss_cons (ps_if (pt_cmpR op_eq (pcall (ok_l_take c) (hr.mono (by decide)) (by rfl) (c.glo 25) pass0 (pa_cons (pv 0) (pa_cons pe_int pa_nil))) pe_int (nomark _)) (pss_one (ps_ret (pe_op op_add pe_int (pcall (ok_l_take c) (hr.mono (by decide)) (by rfl) (c.glo 25) pass0 (pa_cons (pv 0) (pa_cons pe_int pa_nil)))))) pss_nil)
      (pss_one (ps_ret (pcall (ok_l_take c) (hr.mono (by decide)) (by rfl) (c.glo 25) pass0 (pa_cons (pv 0) (pa_cons pe_int pa_nil)))))))
theorem ok_l_count (c : FZ K mg) : FnX PP w K mg base CX0 2 ("_law_count", none) ["_law_pool_here", "_law_many_here"] (sp_l_count) := by
  obtain ⟨fd, F⟩ := c.says.def_ 13 (d := d_l_count) rfl
  have F' : FunD K "_law_count" "_law_count" (defArgs s_l_count) (defBody s_l_count) (defScope s_l_count) [] [] (He.fAd K ("_law_count", none)) fd := F
  exact ⟨⟨fd, ok_l_count_fd c F', F'.bindsN fun _ _ _ _ _ _ us hl => match us, hl with | [_, _], _ => rfl⟩, F'.kp⟩
theorem ok_l_any_spans_fd (c : FZ K mg) {fd : FuncData} (F' : FunD K "_law_any_spans" "_law_any_spans" (defArgs s_l_any_spans) (defBody s_l_any_spans) (defScope s_l_any_spans) [] [] (He.fAd K ("_law_any_spans", none)) fd) : FnOk PP w K mg base CX0 2 (He.fAd K ("_law_any_spans", none)) fd ["_law_pool_here", "_law_length_here", "_law_many_here", "_law_count_here"] (sp_l_any_spans) := by
  refine F'.ok sc_l_any_spans (fun vs H Q E h => len_l_any_spans h) (fun cdv A outer s H vs Q E hr h => ⟨t_l_any_spans K, PSs.nox ?_, pure_l_any_spans h⟩)
  exact (pss_cons (ps_set (i := 4) sc_l_any_spans.nd rfl (by first | exact Or.inl rfl | exact Or.inr rfl) (pe_lst pa_nil))
      (pss_cons (ps_for PassesOwn.never rfl (pi_range1 (by rfl) (c.free 9) (pa_cons (pv 3) pa_nil)) (pg_name (i := 5) sc_l_any_spans.nd rfl (by first | exact Or.inl rfl | exact Or.inr rfl)) (pss_cons (ps_set (i := 6) sc_l_any_spans.nd rfl (by first | exact Or.inl rfl | exact Or.inr rfl) (pcall (ok_l_take c) (hr.mono (by decide)) (by rfl) (c.glo 25) pass0 (pa_cons (pv 0) (pa_cons (pv 2) pa_nil))))
      (pss_cons (ps_set (i := 7) sc_l_any_spans.nd rfl (by first | exact Or.inl rfl | exact Or.inr rfl) (pe_op op_mod (pe_callTy cl_int1 (by rfl) (c.free 3) (by decide +kernel) (pa_cons (pe_op op_add (pe_op op_add (pv 6) pe_int) (pcall (ok_l_take c) (hr.mono (by decide)) (by rfl) (c.glo 25) pass0 (pa_cons (pv 0) (pa_cons (pe_op op_sub (pv 2) pe_int) pa_nil)))) pa_nil)) (pv 2)))
      (pss_cons (ps_set (i := 8) sc_l_any_spans.nd rfl (by first | exact Or.inl rfl | exact Or.inr rfl) (pe_op op_mul pe_int (pv 1)))
      (pss_cons (ps_if (pt_cmpR op_eq (pcall (ok_l_take c) (hr.mono (by decide)) (by rfl) (c.glo 25) pass0 (pa_cons (pv 0) (pa_cons pe_int pa_nil))) pe_int (nomark _)) (pss_one (ps_set (i := 8) sc_l_any_spans.nd rfl (by first | exact Or.inl rfl | exact Or.inr rfl) pe_int)) pss_nil)
      (pss_cons (ps_set (i := 9) sc_l_any_spans.nd rfl (by first | exact Or.inl rfl | exact Or.inr rfl) (pcall (ok_l_take c) (hr.mono (by decide)) (by rfl) (c.glo 25) pass0 (pa_cons (pv 0) (pa_cons (pv 8) pa_nil))))
      (pss_cons (ps_expr (pe_bm PySem.F.plainAttrs_list PySem.F.slot_list_append PySem.F.type_list_append mt_append (pv 4) (pa_cons (pe_tup (pa_cons (pv 6) (pa_cons (pv 7) (pa_cons (pv 9) (pa_cons (pe_op op_add (pv 9) (pcall (ok_l_take c) (hr.mono (by decide)) (by rfl) (c.glo 25) pass0 (pa_cons (pv 0) (pa_cons (pe_callB (cl_min2 rfl) (by rfl) (c.free 26) (by decide +kernel) (pa_cons (pv 1) (pa_cons (pe_op op_sub pe_int (pv 9)) pa_nil))) pa_nil)))) pa_nil))))) pa_nil)))
      (pss_one (ps_if (pt_cmpR op_eq (pcall (ok_l_take c) (hr.mono (by decide)) (by rfl) (c.glo 25) pass0 (pa_cons (pv 0) (pa_cons pe_int pa_nil))) pe_int (nomark _)) (pss_one (ps_asg (pe_ix ix_list (pv 4) (pcall (ok_l_take c) (hr.mono (by decide)) (by rfl) (c.glo 25) pass0 (pa_cons (pv 0) (pa_cons (pe_op op_add (pv 5) pe_int) pa_nil))) (fun _ _ => rfl)) (pg_sub (pv 4) (pv 5) set_list))) pss_nil)))))))))
      (pss_one (ps_ret (pv 4)))))
theorem ok_l_any_spans (c : FZ K mg) : FnX PP w K mg base CX0 2 ("_law_any_spans", none) ["_law_pool_here", "_law_length_here", "_law_many_here", "_law_count_here"] (sp_l_any_spans) := by
  obtain ⟨fd, F⟩ := c.says.def_ 14 (d := d_l_any_spans) rfl
  have F' : FunD K "_law_any_spans" "_law_any_spans" (defArgs s_l_any_spans) (defBody s_l_any_spans) (defScope s_l_any_spans) [] [] (He.fAd K ("_law_any_spans", none)) fd := F
  exact ⟨⟨fd, ok_l_any_spans_fd c F', F'.bindsN fun _ _ _ _ _ _ us hl => match us, hl with | [_, _, _, _], _ => rfl⟩, F'.kp⟩
theorem ok_l_times_fd (c : FZ K mg) {fd : FuncData} (F' : FunD K "_law_times" "_law_times" (defArgs s_l_times) (defBody s_l_times) (defScope s_l_times) [] [] (He.fAd K ("_law_times", none)) fd) : FnOk PP w K mg base CX0 2 (He.fAd K ("_law_times", none)) fd ["_law_pool_here", "_law_length_here", "_law_many_here"] (sp_l_times) := by
  refine F'.ok sc_l_times (fun vs H Q E h => len_l_times h) (fun cdv A outer s H vs Q E hr h => ⟨t_l_times K, PSs.nox ?_, pure_l_times h⟩)
  exact (pss_one (ps_ret (pe_lc (own := [("_law_k", 3)]) (g := (gName 3)) (tt := tYes) rfl sc_l_times.nd (pi_range1 (by rfl) (c.free 9) (pa_cons (pv 2) pa_nil)) (blkOk_by (own := [("_law_k", 3)]) (N := N_l_times) (sc := defScope s_l_times) (by decide +kernel)) (fun _ _ _ _ _ => (pg_name (i := 3) sc_l_times.nd rfl (by first | exact Or.inl rfl | exact Or.inr rfl))) (fun _ _ _ _ _ => pts_nil) (fun _ _ _ _ _ => (pcall (ok_l_take c) (hr.mono (by decide)) (by rfl) (c.glo 25) pass0 (pa_cons (pv 0) (pa_cons (pv 1) pa_nil)))))))
theorem ok_l_times (c : FZ K mg) : FnX PP w K mg base CX0 2 ("_law_times", none) ["_law_pool_here", "_law_length_here", "_law_many_here"] (sp_l_times) := by
  obtain ⟨fd, F⟩ := c.says.def_ 15 (d := d_l_times) rfl
  have F' : FunD K "_law_times" "_law_times" (defArgs s_l_times) (defBody s_l_times) (defScope s_l_times) [] [] (He.fAd K ("_law_times", none)) fd := F
  exact ⟨⟨fd, ok_l_times_fd c F', F'.bindsN fun _ _ _ _ _ _ us hl => match us, hl with | [_, _, _], _ => rfl⟩, F'.kp⟩
theorem ok_l_kept_spans_fd (c : FZ K mg) {fd : FuncData} (F' : FunD K "_law_kept_spans" "_law_kept_spans" (defArgs s_l_kept_spans) (defBody s_l_kept_spans) (defScope s_l_kept_spans) [] [] (He.fAd K ("_law_kept_spans", none)) fd) : FnOk PP w K mg base CX0 2 (He.fAd K ("_law_kept_spans", none)) fd ["_law_pool_here", "_law_length_here", "_law_minutes", "_law_count_here"] (sp_l_kept_spans) := by
  refine F'.ok sc_l_kept_spans (fun vs H Q E h => len_l_kept_spans h) (fun cdv A outer s H vs Q E hr h => ⟨t_l_kept_spans K, PSs.nox ?_, pure_l_kept_spans h⟩)
  exact (pss_cons (ps_set (i := 4) sc_l_kept_spans.nd rfl (by first | exact Or.inl rfl | exact Or.inr rfl) (pe_lst pa_nil))
      (pss_cons (ps_for PassesOwn.never rfl (pi_range1 (by rfl) (c.free 9) (pa_cons (pv 3) pa_nil)) (pg_name (i := 5) sc_l_kept_spans.nd rfl (by first | exact Or.inl rfl | exact Or.inr rfl)) (pss_cons (ps_set (i := 6) sc_l_kept_spans.nd rfl (by first | exact Or.inl rfl | exact Or.inr rfl) (pcall (ok_l_take c) (hr.mono (by decide)) (by rfl) (c.glo 25) pass0 (pa_cons (pv 0) (pa_cons (pe_callB cl_len (by rfl) (c.free 0) (by decide +kernel) (pa_cons (pv 2) pa_nil)) pa_nil))))
      (pss_cons (ps_set (i := 7) sc_l_kept_spans.nd rfl (by first | exact Or.inl rfl | exact Or.inr rfl) (pe_op op_mod (pe_callTy cl_int1 (by rfl) (c.free 3) (by decide +kernel) (pa_cons (pe_op op_add (pe_op op_add (pv 6) pe_int) (pcall (ok_l_take c) (hr.mono (by decide)) (by rfl) (c.glo 25) pass0 (pa_cons (pv 0) (pa_cons (pe_op op_sub (pe_callB cl_len (by rfl) (c.free 0) (by decide +kernel) (pa_cons (pv 2) pa_nil)) pe_int) pa_nil)))) pa_nil)) (pe_callB cl_len (by rfl) (c.free 0) (by decide +kernel) (pa_cons (pv 2) pa_nil))))
      (pss_cons (ps_set (i := 8) sc_l_kept_spans.nd rfl (by first | exact Or.inl rfl | exact Or.inr rfl) (pe_op op_mod (pe_callTy cl_int1 (by rfl) (c.free 3) (by decide +kernel) (pa_cons (pe_op op_sub (pe_ix ix_list (pv 2) (pv 7) (fun _ _ => rfl)) (pe_ix ix_list (pv 2) (pv 6) (fun _ _ => rfl))) pa_nil)) (pv 1)))
      (pss_cons (ps_set (i := 9) sc_l_kept_spans.nd rfl (by first | exact Or.inl rfl | exact Or.inr rfl) pe_int)
      (pss_cons (ps_if (pt_cmpR op_eq (pcall (ok_l_take c) (hr.mono (by decide)) (by rfl) (c.glo 25) pass0 (pa_cons (pv 0) (pa_cons pe_int pa_nil))) pe_int (nomark _)) (pss_one (ps_set (i := 9) sc_l_kept_spans.nd rfl (by first | exact Or.inl rfl | exact Or.inr rfl) (pe_op op_add pe_int (pe_op op_fdivB (pe_op op_sub pe_int (pv 8)) (pv 1))))) pss_nil)
      (pss_cons (ps_set (i := 10) sc_l_kept_spans.nd rfl (by first | exact Or.inl rfl | exact Or.inr rfl) (pe_op op_add (pv 8) (pe_op op_mul (pv 1) (pcall (ok_l_take c) (hr.mono (by decide)) (by rfl) (c.glo 25) pass0 (pa_cons (pv 0) (pa_cons (pv 9) pa_nil))))))
      (pss_cons (ps_set (i := 11) sc_l_kept_spans.nd rfl (by first | exact Or.inl rfl | exact Or.inr rfl) (pcall (ok_l_take c) (hr.mono (by decide)) (by rfl) (c.glo 25) pass0 (pa_cons (pv 0) (pa_cons (pe_op op_add pe_int (pe_callB (cl_min2 rfl) (by rfl) (c.free 26) (by decide +kernel) (pa_cons (pe_op op_sub (pv 1) pe_int) (pa_cons (pv 10) pa_nil)))) pa_nil))))
      (pss_cons (ps_set (i := 12) sc_l_kept_spans.nd rfl (by first | exact Or.inl rfl | exact Or.inr rfl) (pcall (ok_l_take c) (hr.mono (by decide)) (by rfl) (c.glo 25) pass0 (pa_cons (pv 0) (pa_cons (pe_op op_add pe_int (pe_callB (cl_min2 rfl) (by rfl) (c.free 26) (by decide +kernel) (pa_cons (pe_op op_sub (pe_op op_sub (pv 1) pe_int) (pv 11)) (pa_cons (pe_op op_sub pe_int (pv 10)) pa_nil)))) pa_nil))))
      (pss_cons (ps_expr (pe_bm PySem.F.plainAttrs_list PySem.F.slot_list_append PySem.F.type_list_append mt_append (pv 4) (pa_cons (pe_tup (pa_cons (pv 6) (pa_cons (pv 7) (pa_cons (pe_op op_sub (pv 10) (pv 11)) (pa_cons (pe_op op_add (pv 10) (pv 12)) pa_nil))))) pa_nil)))
      (pss_one (ps_if (pt_cmpR op_eq (pcall (ok_l_take c) (hr.mono (by decide)) (by rfl) (c.glo 25) pass0 (pa_cons (pv 0) (pa_cons pe_int pa_nil))) pe_int (nomark _)) (pss_one (ps_asg (pe_ix ix_list (pv 4) (pcall (ok_l_take c) (hr.mono (by decide)) (by rfl) (c.glo 25) pass0 (pa_cons (pv 0) (pa_cons (pe_op op_add (pv 5) pe_int) pa_nil))) (fun _ _ => rfl)) (pg_sub (pv 4) (pv 5) set_list))) pss_nil))))))))))))
      (pss_one (ps_ret (pv 4)))))
theorem ok_l_kept_spans (c : FZ K mg) : FnX PP w K mg base CX0 2 ("_law_kept_spans", none) ["_law_pool_here", "_law_length_here", "_law_minutes", "_law_count_here"] (sp_l_kept_spans) := by
  obtain ⟨fd, F⟩ := c.says.def_ 16 (d := d_l_kept_spans) rfl
  have F' : FunD K "_law_kept_spans" "_law_kept_spans" (defArgs s_l_kept_spans) (defBody s_l_kept_spans) (defScope s_l_kept_spans) [] [] (He.fAd K ("_law_kept_spans", none)) fd := F
  exact ⟨⟨fd, ok_l_kept_spans_fd c F', F'.bindsN fun _ _ _ _ _ _ us hl => match us, hl with | [_, _, _, _], _ => rfl⟩, F'.kp⟩
theorem ok_l_spoilt_fd (c : FZ K mg) {fd : FuncData} (F' : FunD K "_law_spoilt" "_law_spoilt" (defArgs s_l_spoilt) (defBody s_l_spoilt) (defScope s_l_spoilt) [] [] (He.fAd K ("_law_spoilt", none)) fd) : FnOk PP w K mg base CX0 2 (He.fAd K ("_law_spoilt", none)) fd ["_law_pool_here", "_law_length_here", "_law_times_here"] (sp_l_spoilt) := by
  refine F'.ok sc_l_spoilt (fun vs H Q E h => len_l_spoilt h) (fun cdv A outer s H vs Q E hr h => ⟨t_l_spoilt K, PSs.nox ?_, pure_l_spoilt h⟩)
  exact (pss_cons (ps_set (i := 3) sc_l_spoilt.nd rfl (by first | exact Or.inl rfl | exact Or.inr rfl) (pe_ix ix_list (pe_lst (pa_cons pe_int (pa_cons pe_int (pa_cons pe_int (pa_cons pe_int (pa_cons (pe_op op_pow pe_int pe_int) pa_nil)))))) (pcall (ok_l_take c) (hr.mono (by decide)) (by rfl) (c.glo 25) pass0 (pa_cons (pv 0) (pa_cons pe_int pa_nil))) (fun _ _ => rfl)))
      (pss_cons (ps_set (i := 4) sc_l_spoilt.nd rfl (by first | exact Or.inl rfl | exact Or.inr rfl) (pe_ix ix_list (pe_lst (pa_cons (pe_op op_sub (pe_un un_neg pe_int) (pv 3)) (pa_cons (pe_op op_add (pv 1) (pv 3)) pa_nil))) (pcall (ok_l_take c) (hr.mono (by decide)) (by rfl) (c.glo 25) pass0 (pa_cons (pv 0) (pa_cons pe_int pa_nil))) (fun _ _ => rfl)))
      (pss_cons (ps_set (i := 5) sc_l_spoilt.nd rfl (by first | exact Or.inl rfl | exact Or.inr rfl) (pcall (ok_l_take c) (hr.mono (by decide)) (by rfl) (c.glo 25) pass0 (pa_cons (pv 0) (pa_cons pe_int pa_nil))))
      (pss_cons (ps_set (i := 6) sc_l_spoilt.nd rfl (by first | exact Or.inl rfl | exact Or.inr rfl) (pcall (ok_l_take c) (hr.mono (by decide)) (by rfl) (c.glo 25) pass0 (pa_cons (pv 0) (pa_cons (pe_op op_add (pe_callB cl_len (by rfl) (c.free 0) (by decide +kernel) (pa_cons (pv 2) pa_nil)) pe_int) pa_nil))))
      (pss_cons (ps_if (pt_cmpR op_eq (pv 5) pe_int (nomark _)) (pss_one (ps_ret (pe_slice sl_list (pv 2) po_none (po_some (pv 6))))) pss_nil)
      (pss_cons (ps_if (pt_cmpR op_eq (pv 5) pe_int (nomark _)) (pss_one (ps_ret (pe_op op_cat (pv 2) (pe_lc (own := [("_law_k", 8)]) (g := (gName 8)) (tt := tYes) rfl sc_l_spoilt.nd (pi_range1 (by rfl) (c.free 9) (pa_cons (pe_op op_add pe_int (pcall (ok_l_take c) (hr.mono (by decide)) (by rfl) (c.glo 25) pass0 (pa_cons (pv 0) (pa_cons pe_int pa_nil)))) pa_nil)) (blkOk_by (own := [("_law_k", 8)]) (N := N_l_spoilt) (sc := defScope s_l_spoilt) (by decide +kernel)) (fun _ _ _ _ _ => (pg_name (i := 8) sc_l_spoilt.nd rfl (by first | exact Or.inl rfl | exact Or.inr rfl))) (fun _ _ _ _ _ => pts_nil) (fun _ _ _ _ _ => (pcall (ok_l_take c) (hr.mono (by decide)) (by rfl) (c.glo 25) pass0 (pa_cons (pv 0) (pa_cons (pv 1) pa_nil)))))))) pss_nil)
      (pss_cons (ps_if (pt_cmpR op_eq (pv 5) pe_int (nomark _)) (pss_one (ps_ret (pe_op op_cat (pe_op op_cat (pe_slice sl_list (pv 2) po_none (po_some (pv 6))) (pe_lst (pa_cons (pv 4) pa_nil))) (pe_slice sl_list (pv 2) (po_some (pv 6)) po_none)))) pss_nil)
      (pss_cons (ps_if (PW.pt (pw_and (pt_cmpR op_lt (pv 5) pe_int (nomark _)) (pw_and1 (pt_cmpR op_lt (pv 6) (pe_callB cl_len (by rfl) (c.free 0) (by decide +kernel) (pa_cons (pv 2) pa_nil)) (nomark _))))) (pss_cons (ps_set (i := 7) sc_l_spoilt.nd rfl (by first | exact Or.inl rfl | exact Or.inr rfl) (pe_op op_cat (pe_op op_cat (pe_slice sl_list (pv 2) po_none (po_some (pv 6))) (pe_lst (pa_cons (pv 4) pa_nil))) (pe_slice sl_list (pv 2) (po_some (pe_op op_add (pv 6) pe_int)) po_none)))
      (pss_cons (ps_if (pt_cmpR op_eq (pv 5) pe_int (nomark _)) (pss_one (ps_asg (pv 1) (pg_sub (pv 7) (pe_op op_sub (pe_callB cl_len (by rfl) (c.free 0) (by decide +kernel) (pa_cons (pv 7) pa_nil)) pe_int) set_list))) pss_nil)
      (pss_one (ps_ret (pv 7))))) pss_nil)
      (pss_cons (ps_if (pt_cmpR op_eq (pv 5) pe_int (nomark _)) (pss_one (ps_ret (pe_lc (own := [("_law_k", 8)]) (g := (gName 8)) (tt := tYes) rfl sc_l_spoilt.nd (pi_range1 (by rfl) (c.free 9) (pa_cons (pcall (ok_l_take c) (hr.mono (by decide)) (by rfl) (c.glo 25) pass0 (pa_cons (pv 0) (pa_cons pe_int pa_nil))) pa_nil)) (blkOk_by (own := [("_law_k", 8)]) (N := N_l_spoilt) (sc := defScope s_l_spoilt) (by decide +kernel)) (fun _ _ _ _ _ => (pg_name (i := 8) sc_l_spoilt.nd rfl (by first | exact Or.inl rfl | exact Or.inr rfl))) (fun _ _ _ _ _ => pts_nil) (fun _ _ _ _ _ => (pe_op op_sub (pcall (ok_l_take c) (hr.mono (by decide)) (by rfl) (c.glo 25) pass0 (pa_cons (pv 0) (pa_cons (pe_op op_add (pe_op op_mul pe_int (pe_op op_pow pe_int pe_int)) pe_int) pa_nil))) (pe_op op_pow pe_int pe_int)))))) pss_nil)
      (pss_one (ps_ret (pe_callTy cl_list (by rfl) (c.free 7) (by decide +kernel) (pa_cons (pv 2) pa_nil)))))))))))))
theorem ok_l_spoilt (c : FZ K mg) : FnX PP w K mg base CX0 2 ("_law_spoilt", none) ["_law_pool_here", "_law_length_here", "_law_times_here"] (sp_l_spoilt) := by
  obtain ⟨fd, F⟩ := c.says.def_ 17 (d := d_l_spoilt) rfl
  have F' : FunD K "_law_spoilt" "_law_spoilt" (defArgs s_l_spoilt) (defBody s_l_spoilt) (defScope s_l_spoilt) [] [] (He.fAd K ("_law_spoilt", none)) fd := F
  exact ⟨⟨fd, ok_l_spoilt_fd c F', F'.bindsN fun _ _ _ _ _ _ us hl => match us, hl with | [_, _, _], _ => rfl⟩, F'.kp⟩
theorem ok_l_wrong_fd (c : FZ K mg) {fd : FuncData} (F' : FunD K "_law_wrong" "_law_wrong" (defArgs s_l_wrong) (defBody s_l_wrong) (defScope s_l_wrong) [] [] (He.fAd K ("_law_wrong", none)) fd) : FnOk PP w K mg base CX0 1 (He.fAd K ("_law_wrong", none)) fd ["_law_length_here", "_law_many_here", "_law_times_here"] (sp_l_wrong K) := by
  refine F'.ok sc_l_wrong (fun vs H Q E h => len_l_wrong h) (fun cdv A outer s H vs Q E hr h => ⟨t_l_wrong K, PSs.nox ?_, pure_l_wrong h⟩)
  exact (pss_cons (ps_for PassesOwn.never rfl (pi_range1 (by rfl) (c.free 9) (pa_cons (pe_callB (cl_max2 rfl) (by rfl) (c.free 19) (by decide +kernel) (pa_cons (pv 1) (pa_cons (pe_callB cl_len (by rfl) (c.free 0) (by decide +kernel) (pa_cons (pv 2) pa_nil)) pa_nil))) pa_nil)) (pg_name (i := 3) sc_l_wrong.nd rfl (by first | exact Or.inl rfl | exact Or.inr rfl)) (pss_cons (ps_if (PW.pt (pw_or (pt_cmpR op_ge (pv 3) (pv 1) (nomark _)) (pw_or1 (pt_cmpR op_ge (pv 3) (pe_callB cl_len (by rfl) (c.free 0) (by decide +kernel) (pa_cons (pv 2) pa_nil)) (nomark _))))) (pss_one (ps_ret (pv 3))) pss_nil)
      (pss_one (ps_if (PW.pt (pw_or (pt_cmpR op_lt (pe_ix ix_seq (pv 2) (pv 3) (fun _ _ => rfl)) pe_int (nomark _)) (pw_or1 (pt_cmpR op_gt (pe_ix ix_seq (pv 2) (pv 3) (fun _ _ => rfl)) (pe_op op_sub (pv 0) pe_int) (nomark _))))) (pss_one (ps_ret (pv 3))) pss_nil))))
      (pss_one (ps_ret pe_non)))
theorem ok_l_wrong (c : FZ K mg) : FnX PP w K mg base CX0 1 ("_law_wrong", none) ["_law_length_here", "_law_many_here", "_law_times_here"] (sp_l_wrong K) := by
  obtain ⟨fd, F⟩ := c.says.def_ 18 (d := d_l_wrong) rfl
  have F' : FunD K "_law_wrong" "_law_wrong" (defArgs s_l_wrong) (defBody s_l_wrong) (defScope s_l_wrong) [] [] (He.fAd K ("_law_wrong", none)) fd := F
  exact ⟨⟨fd, ok_l_wrong_fd c F', F'.bindsN fun _ _ _ _ _ _ us hl => match us, hl with | [_, _, _], _ => rfl⟩, F'.kp⟩
theorem ok_l_gone_fd (c : FZ K mg) {fd : FuncData} (F' : FunD K "_law_gone" "_law_gone" (defArgs s_l_gone) (defBody s_l_gone) (defScope s_l_gone) [] [] (He.fAd K ("_law_gone", none)) fd) : FnOk PP w K mg base CX0 1 (He.fAd K ("_law_gone", none)) fd ["_law_length_here", "_law_span", "_law_times_here"] (sp_l_gone K) := by
  refine F'.ok sc_l_gone (fun vs H Q E h => len_l_gone h) (fun cdv A outer s H vs Q E hr h => ⟨t_l_gone K, PSs.nox ?_, pure_l_gone h⟩)
  exact (pss_cons (ps_setLc (i := 3) (own := [("_law_k", 5)]) (g := (gName 5)) (tt := tYes) rfl sc_l_gone.nd rfl rfl (sw_true rfl rfl rfl (by decide +kernel)) (pi_range1 (by rfl) (c.free 9) (pa_cons (pv 0) pa_nil)) (blkOk_by (own := [("_law_k", 5)]) (N := N_l_gone) (sc := defScope s_l_gone) (by decide +kernel)) (fun _ _ _ _ _ => (pg_name (i := 5) sc_l_gone.nd rfl (by first | exact Or.inl rfl | exact Or.inr rfl))) (fun _ _ _ _ _ => pts_nil) (fun _ _ _ _ _ => (pe_op op_add (pe_ix ix_tup (pv 1) pe_int (fun _ _ => rfl)) (pv 5))))
      (pss_cons (ps_setLc (i := 4) (own := [("_law_gone_here", 6)]) (g := (gName 6)) (tt := (tTest (tOp rEq (tOp oMod (tCB rInt1 (tCons (tOp oSub (tOp oAdd (tVar 6) (tOp (rIx K) (tVar 2) (tOp (rIxT K) (tVar 1) (tC (.int 0))))) (tOp (rIx K) (tVar 2) (tOp (rIxT K) (tVar 1) (tC (.int 1))))) tNil)) (tVar 0)) (tC (.int 0))))) rfl sc_l_gone.nd rfl rfl (sw_true rfl rfl rfl (by decide +kernel)) (pi_list (pv 3)) (blkOk_by (own := [("_law_gone_here", 6)]) (N := N_l_gone) (sc := defScope s_l_gone) (by decide +kernel)) (fun _ _ _ _ _ => (pg_name (i := 6) sc_l_gone.nd rfl (by first | exact Or.inl rfl | exact Or.inr rfl))) (fun _ _ _ _ _ => (pts_one (pt_cmpR op_eq (pe_op op_mod (pe_callTy cl_int1 (by rfl) (c.free 3) (by decide +kernel) (pa_cons (pe_op op_sub (pe_op op_add (pv 6) (pe_ix ix_seq (pv 2) (pe_ix ix_tup (pv 1) pe_int (fun _ _ => rfl)) (fun _ _ => rfl))) (pe_ix ix_seq (pv 2) (pe_ix ix_tup (pv 1) pe_int (fun _ _ => rfl)) (fun _ _ => rfl))) pa_nil)) (pv 0)) pe_int (nomark _)))) (fun _ _ _ _ _ => (pv 6)))
      (pss_one (ps_ret (pe_ix ix_list (pv 4) pe_int (fun _ _ => rfl))))))
theorem ok_l_gone (c : FZ K mg) : FnX PP w K mg base CX0 1 ("_law_gone", none) ["_law_length_here", "_law_span", "_law_times_here"] (sp_l_gone K) := by
  obtain ⟨fd, F⟩ := c.says.def_ 19 (d := d_l_gone) rfl
  have F' : FunD K "_law_gone" "_law_gone" (defArgs s_l_gone) (defBody s_l_gone) (defScope s_l_gone) [] [] (He.fAd K ("_law_gone", none)) fd := F
  exact ⟨⟨fd, ok_l_gone_fd c F', F'.bindsN fun _ _ _ _ _ _ us hl => match us, hl with | [_, _, _], _ => rfl⟩, F'.kp⟩
theorem ok_l_check_told_fd (c : FZ K mg) {fd : FuncData} (F' : FunD K "_law_check_told" "_law_check_told" (defArgs s_l_check_told) (defBody s_l_check_told) (defScope s_l_check_told) [] [] (He.fAd K ("_law_check_told", none)) fd) : FnOk PP w K mg base CX0 4 (He.fAd K ("_law_check_told", none)) fd ["_law_net", "_law_times_here"] (sp_l_check_told K) := by
  refine F'.ok sc_l_check_told (fun vs H Q E h => len_l_check_told h) (fun cdv A outer s H vs Q E hr h => ⟨t_l_check_told K, PSs.nox ?_, pure_l_check_told (timesK c) h⟩)
  exact (pss_cons (ps_set (i := 2) sc_l_check_told.nd rfl (by first | exact Or.inl rfl | exact Or.inr rfl) pe_non)
      (pss_cons (ps_set (i := 3) sc_l_check_told.nd rfl (by first | exact Or.inl rfl | exact Or.inr rfl) pe_non)
      (pss_cons (ps_try_ma rfl rfl sc_l_check_told.nd takes0 (fun W pn xe tk po => (pss_one (ps_set (i := 3) sc_l_check_told.nd rfl (by first | exact Or.inl rfl | exact Or.inr rfl) (pcallS (ok_check_times c) (hr.mono (by decide)) (by rfl) (c.glo 22) tk (pa_cons (pv 0) (pa_cons (pv 1) pa_nil)))))) (HdsA.cons (i := 4) rfl rfl ⟨rfl, by decide, .inl (c.glo 20)⟩ (fun a oe cls d pn hz hf => (pss_one (ps_set (i := 2) sc_l_check_told.nd rfl (by first | exact Or.inl rfl | exact Or.inr rfl) (pe_tup (pa_cons pe_str (pa_cons (pe_xf (c.xfc 0) (c.xnoat 1) hz hf (pv 4)) (pa_cons (pe_callB (call_isX (c.xc 0) hz hf) (by rfl) (c.free 4) (by decide +kernel) (pa_cons (pv 4) (pa_cons (pgc (by rfl) (c.glo 27)) pa_nil))) (pa_cons (pe_callB (call_isX (c.xc 0) hz hf) (by rfl) (c.free 4) (by decide +kernel) (pa_cons (pv 4) (pa_cons (pe_bltn (v := .ty "ValueError") (by rfl) (c.free 28) (by decide +kernel) rfl) pa_nil))) (pa_cons (pe_callB (call_isX (c.xc 0) hz hf) (by rfl) (c.free 4) (by decide +kernel) (pa_cons (pv 4) (pa_cons (pgc (by rfl) (c.glo 23)) pa_nil))) pa_nil))))))))) HdsA.nil))
      (pss_cons (ps_if (pt_cmpR op_isN1 (pv 2) pe_non (nomark _)) (pss_one (ps_set (i := 2) sc_l_check_told.nd rfl (by first | exact Or.inl rfl | exact Or.inr rfl) (pe_tup (pa_cons pe_str (pa_cons (pv 3) pa_nil))))) pss_nil)
      (pss_one (ps_ret (pv 2)))))))
theorem ok_l_check_told (c : FZ K mg) : FnX PP w K mg base CX0 4 ("_law_check_told", none) ["_law_net", "_law_times_here"] (sp_l_check_told K) := by
  obtain ⟨fd, F⟩ := c.says.def_ 20 (d := d_l_check_told) rfl
  have F' : FunD K "_law_check_told" "_law_check_told" (defArgs s_l_check_told) (defBody s_l_check_told) (defScope s_l_check_told) [] [] (He.fAd K ("_law_check_told", none)) fd := F
  exact ⟨⟨fd, ok_l_check_told_fd c F', F'.bindsN fun _ _ _ _ _ _ us hl => match us, hl with | [_, _], _ => rfl⟩, F'.kp⟩
theorem ok_l_broken_told_fd (c : FZ K mg) {fd : FuncData} (F' : FunD K "_law_broken_told" "_law_broken_told" (defArgs s_l_broken_told) (defBody s_l_broken_told) (defScope s_l_broken_told) [] [] (He.fAd K ("_law_broken_told", none)) fd) : FnOk PP w K mg base CX0 5 (He.fAd K ("_law_broken_told", none)) fd ["_law_net", "_law_times_here"] (sp_l_broken_told K) := by
  refine F'.ok sc_l_broken_told (fun vs H Q E h => len_l_broken_told h) (fun cdv A outer s H vs Q E hr h => ⟨t_l_broken_told K, PSs.nox ?_, pure_l_broken_told (timesK c) h⟩)
  exact (pss_cons (ps_set (i := 2) sc_l_broken_told.nd rfl (by first | exact Or.inl rfl | exact Or.inr rfl) pe_non)
      (pss_cons (ps_set (i := 3) sc_l_broken_told.nd rfl (by first | exact Or.inl rfl | exact Or.inr rfl) pe_non)
      (pss_cons (ps_try_ma rfl rfl sc_l_broken_told.nd takes0 (fun W pn xe tk po => (pss_one (ps_set (i := 3) sc_l_broken_told.nd rfl (by first | exact Or.inl rfl | exact Or.inr rfl) (pcallS (ok_broken c) (hr.mono (by decide)) (by rfl) (c.glo 29) tk (pa_cons (pv 0) (pa_cons (pv 1) pa_nil)))))) (HdsA.cons (i := 4) rfl rfl ⟨rfl, by decide, .inl (c.glo 20)⟩ (fun a oe cls d pn hz hf => (pss_one (ps_set (i := 2) sc_l_broken_told.nd rfl (by first | exact Or.inl rfl | exact Or.inr rfl) (pe_tup (pa_cons pe_str (pa_cons (pe_xf (c.xfc 0) (c.xnoat 1) hz hf (pv 4)) (pa_cons (pe_callB (call_isX (c.xc 0) hz hf) (by rfl) (c.free 4) (by decide +kernel) (pa_cons (pv 4) (pa_cons (pgc (by rfl) (c.glo 27)) pa_nil))) (pa_cons (pe_callB (call_isX (c.xc 0) hz hf) (by rfl) (c.free 4) (by decide +kernel) (pa_cons (pv 4) (pa_cons (pe_bltn (v := .ty "ValueError") (by rfl) (c.free 28) (by decide +kernel) rfl) pa_nil))) (pa_cons (pe_callB (call_isX (c.xc 0) hz hf) (by rfl) (c.free 4) (by decide +kernel) (pa_cons (pv 4) (pa_cons (pgc (by rfl) (c.glo 23)) pa_nil))) pa_nil))))))))) HdsA.nil))
      (pss_cons (ps_if (pt_cmpR op_isN1 (pv 2) pe_non (nomark _)) (pss_one (ps_set (i := 2) sc_l_broken_told.nd rfl (by first | exact Or.inl rfl | exact Or.inr rfl) (pe_tup (pa_cons pe_str (pa_cons (pv 3) pa_nil))))) pss_nil)
      (pss_one (ps_ret (pv 2)))))))
theorem ok_l_broken_told (c : FZ K mg) : FnX PP w K mg base CX0 5 ("_law_broken_told", none) ["_law_net", "_law_times_here"] (sp_l_broken_told K) := by
  obtain ⟨fd, F⟩ := c.says.def_ 21 (d := d_l_broken_told) rfl
  have F' : FunD K "_law_broken_told" "_law_broken_told" (defArgs s_l_broken_told) (defBody s_l_broken_told) (defScope s_l_broken_told) [] [] (He.fAd K ("_law_broken_told", none)) fd := F
  exact ⟨⟨fd, ok_l_broken_told_fd c F', F'.bindsN fun _ _ _ _ _ _ us hl => match us, hl with | [_, _], _ => rfl⟩, F'.kp⟩
theorem ok_l_passed_told_fd (c : FZ K mg) {fd : FuncData} (F' : FunD K "_law_passed_told" "_law_passed_told" (defArgs s_l_passed_told) (defBody s_l_passed_told) (defScope s_l_passed_told) [] [] (He.fAd K ("_law_passed_told", none)) fd) : FnOk PP w K mg base CX0 5 (He.fAd K ("_law_passed_told", none)) fd ["_law_net", "_law_times_here", "_law_number"] (sp_l_passed_told K) := by
  refine F'.ok sc_l_passed_told (fun vs H Q E h => len_l_passed_told h) (fun cdv A outer s H vs Q E hr h => ⟨t_l_passed_told K, PSs.nox ?_, pure_l_passed_told (timesK c) h⟩)
  exact (pss_cons (ps_set (i := 3) sc_l_passed_told.nd rfl (by first | exact Or.inl rfl | exact Or.inr rfl) pe_non)
      (pss_cons (ps_set (i := 4) sc_l_passed_told.nd rfl (by first | exact Or.inl rfl | exact Or.inr rfl) pe_non)
      (pss_cons (ps_try_ma rfl rfl sc_l_passed_told.nd takes0 (fun W pn xe tk po => (pss_one (ps_set (i := 4) sc_l_passed_told.nd rfl (by first | exact Or.inl rfl | exact Or.inr rfl) (pcallS (ok_passed c) (hr.mono (by decide)) (by rfl) (c.glo 30) tk (pa_cons (pv 0) (pa_cons (pv 1) (pa_cons (pv 2) pa_nil))))))) (HdsA.cons (i := 5) rfl rfl ⟨rfl, by decide, .inl (c.glo 20)⟩ (fun a oe cls d pn hz hf => (pss_one (ps_set (i := 3) sc_l_passed_told.nd rfl (by first | exact Or.inl rfl | exact Or.inr rfl) (pe_tup (pa_cons pe_str (pa_cons (pe_xf (c.xfc 0) (c.xnoat 1) hz hf (pv 5)) (pa_cons (pe_callB (call_isX (c.xc 0) hz hf) (by rfl) (c.free 4) (by decide +kernel) (pa_cons (pv 5) (pa_cons (pgc (by rfl) (c.glo 27)) pa_nil))) (pa_cons (pe_callB (call_isX (c.xc 0) hz hf) (by rfl) (c.free 4) (by decide +kernel) (pa_cons (pv 5) (pa_cons (pe_bltn (v := .ty "ValueError") (by rfl) (c.free 28) (by decide +kernel) rfl) pa_nil))) (pa_cons (pe_callB (call_isX (c.xc 0) hz hf) (by rfl) (c.free 4) (by decide +kernel) (pa_cons (pv 5) (pa_cons (pgc (by rfl) (c.glo 23)) pa_nil))) pa_nil))))))))) (HdsA.cons (i := 6) rfl rfl ⟨rfl, by decide, .inl (c.glo 23)⟩ (fun a oe cls d pn hz hf => (pss_cons (ps_set (i := 7) sc_l_passed_told.nd rfl (by first | exact Or.inl rfl | exact Or.inr rfl) (pe_tup (pa_cons (pe_callB (call_isX (c.xc 2) hz hf) (by rfl) (c.free 4) (by decide +kernel) (pa_cons (pv 6) (pa_cons (pgc (by rfl) (c.glo 27)) pa_nil))) (pa_cons (pe_callB (call_isX (c.xc 2) hz hf) (by rfl) (c.free 4) (by decide +kernel) (pa_cons (pv 6) (pa_cons (pe_bltn (v := .ty "ValueError") (by rfl) (c.free 28) (by decide +kernel) rfl) pa_nil))) (pa_cons (pe_callB (call_isX (c.xc 2) hz hf) (by rfl) (c.free 4) (by decide +kernel) (pa_cons (pv 6) (pa_cons (pgc (by rfl) (c.glo 20)) pa_nil))) pa_nil)))))
      (pss_one (ps_set (i := 3) sc_l_passed_told.nd rfl (by first | exact Or.inl rfl | exact Or.inr rfl) (pe_op op_catT (pe_tup (pa_cons pe_str (pa_cons (pe_xf (c.xfc 2) (c.xnoat 3) hz hf (pv 6)) pa_nil))) (pv 7)))))) HdsA.nil)))
      (pss_cons (ps_if (pt_cmpR op_isN1 (pv 3) pe_non (nomark _)) (pss_one (ps_set (i := 3) sc_l_passed_told.nd rfl (by first | exact Or.inl rfl | exact Or.inr rfl) (pe_tup (pa_cons pe_str (pa_cons (pv 4) pa_nil))))) pss_nil)
      (pss_one (ps_ret (pv 3)))))))
theorem ok_l_passed_told (c : FZ K mg) : FnX PP w K mg base CX0 5 ("_law_passed_told", none) ["_law_net", "_law_times_here", "_law_number"] (sp_l_passed_told K) := by
  obtain ⟨fd, F⟩ := c.says.def_ 22 (d := d_l_passed_told) rfl
  have F' : FunD K "_law_passed_told" "_law_passed_told" (defArgs s_l_passed_told) (defBody s_l_passed_told) (defScope s_l_passed_told) [] [] (He.fAd K ("_law_passed_told", none)) fd := F
  exact ⟨⟨fd, ok_l_passed_told_fd c F', F'.bindsN fun _ _ _ _ _ _ us hl => match us, hl with | [_, _, _], _ => rfl⟩, F'.kp⟩
theorem ok_l_passed_good_fd (c : FZ K mg) {fd : FuncData} (F' : FunD K "_law_passed_good" "_law_passed_good" (defArgs s_l_passed_good) (defBody s_l_passed_good) (defScope s_l_passed_good) [] [] (He.fAd K ("_law_passed_good", none)) fd) : FnOk PP w K mg base CX0 9 (He.fAd K ("_law_passed_good", none)) fd ["_law_net", "_law_handed", "_law_spans", "_law_gone_here", "_law_far"] (sp_l_passed_good K) := by
  refine F'.ok sc_l_passed_good (fun vs H Q E h => len_l_passed_good h) (fun cdv A outer s H vs Q E hr h => ⟨t_l_passed_good K, PSs.nox ?_, pure_l_passed_good h⟩)
  exact (pss_cons (ps_for PassesOwn.never rfl (pi_range1 (by rfl) (c.free 9) (pa_cons (pe_callB cl_len (by rfl) (c.free 0) (by decide +kernel) (pa_cons (pv 2) pa_nil)) pa_nil)) (pg_name (i := 5) sc_l_passed_good.nd rfl (by first | exact Or.inl rfl | exact Or.inr rfl)) (pss_one (ps_if (pt_not (pt_val (pcall (ok_l_same c) (hr.mono (by decide)) (by rfl) (c.glo 10) pass0 (pa_cons (pcall (ok_l_passed_told c) (hr.mono (by decide)) (by rfl) (c.glo 31) pass0 (pa_cons (pv 0) (pa_cons (pv 1) (pa_cons (pv 5) pa_nil)))) (pa_cons (pe_tup (pa_cons pe_str (pa_cons (pe_ix ix_list (pv 3) (pv 5) (fun _ _ => rfl)) pa_nil))) pa_nil))))) (pss_one (ps_ret pe_bl)) pss_nil)))
      (pss_cons (ps_for PassesOwn.never rfl (pi_list (pe_lst (pa_cons (pe_op op_sub (pe_un un_neg pe_int) (pv 4)) (pa_cons (pe_op op_add (pe_callB cl_len (by rfl) (c.free 0) (by decide +kernel) (pa_cons (pv 2) pa_nil)) (pv 4)) pa_nil)))) (pg_name (i := 6) sc_l_passed_good.nd rfl (by first | exact Or.inl rfl | exact Or.inr rfl)) (pss_one (ps_if (pt_not (pt_val (pcall (ok_l_same c) (hr.mono (by decide)) (by rfl) (c.glo 10) pass0 (pa_cons (pcall (ok_l_passed_told c) (hr.mono (by decide)) (by rfl) (c.glo 31) pass0 (pa_cons (pv 0) (pa_cons (pv 1) (pa_cons (pv 6) pa_nil)))) (pa_cons (pe_tup (pa_cons pe_str (pa_cons (pv 6) (pa_cons pe_bl (pa_cons pe_bl (pa_cons pe_bl pa_nil)))))) pa_nil))))) (pss_one (ps_ret pe_bl)) pss_nil)))
      (pss_one (ps_ret pe_bl))))
theorem ok_l_passed_good (c : FZ K mg) : FnX PP w K mg base CX0 9 ("_law_passed_good", none) ["_law_net", "_law_handed", "_law_spans", "_law_gone_here", "_law_far"] (sp_l_passed_good K) := by
  obtain ⟨fd, F⟩ := c.says.def_ 23 (d := d_l_passed_good) rfl
  have F' : FunD K "_law_passed_good" "_law_passed_good" (defArgs s_l_passed_good) (defBody s_l_passed_good) (defScope s_l_passed_good) [] [] (He.fAd K ("_law_passed_good", none)) fd := F
  exact ⟨⟨fd, ok_l_passed_good_fd c F', F'.bindsN fun _ _ _ _ _ _ us hl => match us, hl with | [_, _, _, _, _], _ => rfl⟩, F'.kp⟩
theorem ok_l_refused_good_fd (c : FZ K mg) {fd : FuncData} (F' : FunD K "_law_refused_good" "_law_refused_good" (defArgs s_l_refused_good) (defBody s_l_refused_good) (defScope s_l_refused_good) [] [] (He.fAd K ("_law_refused_good", none)) fd) : FnOk PP w K mg base CX0 9 (He.fAd K ("_law_refused_good", none)) fd ["_law_net", "_law_handed", "_law_count_here", "_law_far", "_law_place"] (sp_l_refused_good K) := by
  refine F'.ok sc_l_refused_good (fun vs H Q E h => len_l_refused_good h) (fun cdv A outer s H vs Q E hr h => ⟨t_l_refused_good K, PSs.nox ?_, pure_l_refused_good h⟩)
  exact (pss_cons (ps_set (i := 5) sc_l_refused_good.nd rfl (by first | exact Or.inl rfl | exact Or.inr rfl) (pe_tup (pa_cons pe_str (pa_cons (pv 4) (pa_cons pe_bl (pa_cons pe_bl (pa_cons pe_bl pa_nil)))))))
      (pss_cons (ps_if (PW.pt (pw_or (pt_not (pt_val (pcall (ok_l_same c) (hr.mono (by decide)) (by rfl) (c.glo 10) pass0 (pa_cons (pcall (ok_l_check_told c) (hr.mono (by decide)) (by rfl) (c.glo 32) pass0 (pa_cons (pv 0) (pa_cons (pv 1) pa_nil))) (pa_cons (pv 5) pa_nil))))) (pw_or1 (pt_not (pt_val (pcall (ok_l_same c) (hr.mono (by decide)) (by rfl) (c.glo 10) pass0 (pa_cons (pcall (ok_l_broken_told c) (hr.mono (by decide)) (by rfl) (c.glo 33) pass0 (pa_cons (pv 0) (pa_cons (pv 1) pa_nil))) (pa_cons (pv 5) pa_nil)))))))) (pss_one (ps_ret pe_bl)) pss_nil)
      (pss_cons (ps_for PassesOwn.never rfl (pi_list (pe_op op_cat (pe_listRg rfl (by rfl) (c.free 7) (prg_1 (by rfl) (c.free 9) (pv 2))) (pe_lst (pa_cons (pe_op op_sub (pe_un un_neg pe_int) (pv 3)) (pa_cons (pe_op op_add (pv 2) (pv 3)) pa_nil))))) (pg_name (i := 6) sc_l_refused_good.nd rfl (by first | exact Or.inl rfl | exact Or.inr rfl)) (pss_one (ps_if (pt_not (pt_val (pcall (ok_l_same c) (hr.mono (by decide)) (by rfl) (c.glo 10) pass0 (pa_cons (pcall (ok_l_passed_told c) (hr.mono (by decide)) (by rfl) (c.glo 31) pass0 (pa_cons (pv 0) (pa_cons (pv 1) (pa_cons (pv 6) pa_nil)))) (pa_cons (pv 5) pa_nil))))) (pss_one (ps_ret pe_bl)) pss_nil)))
      (pss_one (ps_ret pe_bl)))))
theorem ok_l_refused_good (c : FZ K mg) : FnX PP w K mg base CX0 9 ("_law_refused_good", none) ["_law_net", "_law_handed", "_law_count_here", "_law_far", "_law_place"] (sp_l_refused_good K) := by
  obtain ⟨fd, F⟩ := c.says.def_ 24 (d := d_l_refused_good) rfl
  have F' : FunD K "_law_refused_good" "_law_refused_good" (defArgs s_l_refused_good) (defBody s_l_refused_good) (defScope s_l_refused_good) [] [] (He.fAd K ("_law_refused_good", none)) fd := F
  exact ⟨⟨fd, ok_l_refused_good_fd c F', F'.bindsN fun _ _ _ _ _ _ us hl => match us, hl with | [_, _, _, _, _], _ => rfl⟩, F'.kp⟩
theorem ok_l_times_good_fd (c : FZ K mg) {fd : FuncData} (F' : FunD K "_law_times_good" "_law_times_good" (defArgs s_l_times_good) (defBody s_l_times_good) (defScope s_l_times_good) [] [] (He.fAd K ("_law_times_good", none)) fd) : FnOk PP w K mg base CX0 10 (He.fAd K ("_law_times_good", none)) fd ["_law_net", "_law_length_here", "_law_many_here", "_law_spans", "_law_handed", "_law_far"] (sp_l_times_good K) := by
  refine F'.ok sc_l_times_good (fun vs H Q E h => len_l_times_good h) (fun cdv A outer s H vs Q E hr h => ⟨t_l_times_good K, PSs.nox ?_, pure_l_times_good h⟩)
  exact (pss_cons (ps_set (i := 6) sc_l_times_good.nd rfl (by first | exact Or.inl rfl | exact Or.inr rfl) (pcall (ok_l_wrong c) (hr.mono (by decide)) (by rfl) (c.glo 34) pass0 (pa_cons (pv 1) (pa_cons (pv 2) (pa_cons (pv 4) pa_nil)))))
      (pss_cons (ps_if (pt_cmpR op_notN1 (pv 6) pe_non (nomark _)) (pss_one (ps_ret (pcall (ok_l_refused_good c) (hr.mono (by decide)) (by rfl) (c.glo 35) pass0 (pa_cons (pv 0) (pa_cons (pv 4) (pa_cons (pe_callB cl_len (by rfl) (c.free 0) (by decide +kernel) (pa_cons (pv 3) pa_nil)) (pa_cons (pv 5) (pa_cons (pv 6) pa_nil)))))))) pss_nil)
      (pss_cons (ps_set (i := 7) sc_l_times_good.nd rfl (by first | exact Or.inl rfl | exact Or.inr rfl) (pe_lc (own := [("_law_span", 10)]) (g := (gName 10)) (tt := tYes) rfl sc_l_times_good.nd (pi_list (pv 3)) (blkOk_by (own := [("_law_span", 10)]) (N := N_l_times_good) (sc := defScope s_l_times_good) (by decide +kernel)) (fun _ _ _ _ _ => (pg_name (i := 10) sc_l_times_good.nd rfl (by first | exact Or.inl rfl | exact Or.inr rfl))) (fun _ _ _ _ _ => pts_nil) (fun _ _ _ _ _ => (pcall (ok_l_gone c) (hr.mono (by decide)) (by rfl) (c.glo 36) pass0 (pa_cons (pv 1) (pa_cons (pv 10) (pa_cons (pv 4) pa_nil)))))))
      (pss_cons (ps_setLc (i := 8) (own := [("_law_k", 11)]) (g := (gName 11)) (tt := (tTest (tOp oGt (tOp (rIxL K) (tVar 7) (tVar 11)) (tOp (rIxT K) (tOp (rIxL K) (tVar 3) (tVar 11)) (tC (.int 3)))))) rfl sc_l_times_good.nd rfl rfl (sw_true rfl rfl rfl (by decide +kernel)) (pi_range1 (by rfl) (c.free 9) (pa_cons (pe_callB cl_len (by rfl) (c.free 0) (by decide +kernel) (pa_cons (pv 3) pa_nil)) pa_nil)) (blkOk_by (own := [("_law_k", 11)]) (N := N_l_times_good) (sc := defScope s_l_times_good) (by decide +kernel)) (fun _ _ _ _ _ => (pg_name (i := 11) sc_l_times_good.nd rfl (by first | exact Or.inl rfl | exact Or.inr rfl))) (fun _ _ _ _ _ => (pts_one (pt_cmpR op_gt (pe_ix ix_list (pv 7) (pv 11) (fun _ _ => rfl)) (pe_ix ix_tup (pe_ix ix_list (pv 3) (pv 11) (fun _ _ => rfl)) pe_int (fun _ _ => rfl)) (nomark _)))) (fun _ _ _ _ _ => (pv 11)))
      (pss_cons (ps_if (pt_not (pt_val (pcall (ok_l_same c) (hr.mono (by decide)) (by rfl) (c.glo 10) pass0 (pa_cons (pcall (ok_l_check_told c) (hr.mono (by decide)) (by rfl) (c.glo 32) pass0 (pa_cons (pv 0) (pa_cons (pv 4) pa_nil))) (pa_cons (pe_tup (pa_cons pe_str (pa_cons pe_non pa_nil))) pa_nil))))) (pss_one (ps_ret pe_bl)) pss_nil)
      (pss_cons (ps_if (pt_not (pt_val (pcall (ok_l_same c) (hr.mono (by decide)) (by rfl) (c.glo 10) pass0 (pa_cons (pcall (ok_l_broken_told c) (hr.mono (by decide)) (by rfl) (c.glo 33) pass0 (pa_cons (pv 0) (pa_cons (pv 4) pa_nil))) (pa_cons (pe_tup (pa_cons pe_str (pa_cons (pv 8) pa_nil))) pa_nil))))) (pss_one (ps_ret pe_bl)) pss_nil)
      (pss_cons (ps_set (i := 9) sc_l_times_good.nd rfl (by first | exact Or.inl rfl | exact Or.inr rfl) (pcallS (ok_broken c) (hr.mono (by decide)) (by rfl) (c.glo 29) takes0 (pa_cons (pv 0) (pa_cons (pv 4) pa_nil))))
      (pss_cons (ps_expr (pe_bm PySem.F.plainAttrs_list PySem.F.slot_list_append PySem.F.type_list_append mt_append (pv 9) (pa_cons (pe_callB cl_len (by rfl) (c.free 0) (by decide +kernel) (pa_cons (pv 3) pa_nil)) pa_nil)))
      (pss_cons (ps_if (pt_not (pt_val (pcall (ok_l_same c) (hr.mono (by decide)) (by rfl) (c.glo 10) pass0 (pa_cons (pcall (ok_l_broken_told c) (hr.mono (by decide)) (by rfl) (c.glo 33) pass0 (pa_cons (pv 0) (pa_cons (pv 4) pa_nil))) (pa_cons (pe_tup (pa_cons pe_str (pa_cons (pv 8) pa_nil))) pa_nil))))) (pss_one (ps_ret pe_bl)) pss_nil)
      (pss_one (ps_ret (pcall (ok_l_passed_good c) (hr.mono (by decide)) (by rfl) (c.glo 37) pass0 (pa_cons (pv 0) (pa_cons (pv 4) (pa_cons (pv 3) (pa_cons (pv 7) (pa_cons (pv 5) pa_nil)))))))))))))))))
theorem ok_l_times_good (c : FZ K mg) : FnX PP w K mg base CX0 10 ("_law_times_good", none) ["_law_net", "_law_length_here", "_law_many_here", "_law_spans", "_law_handed", "_law_far"] (sp_l_times_good K) := by
  obtain ⟨fd, F⟩ := c.says.def_ 25 (d := d_l_times_good) rfl
  have F' : FunD K "_law_times_good" "_law_times_good" (defArgs s_l_times_good) (defBody s_l_times_good) (defScope s_l_times_good) [] [] (He.fAd K ("_law_times_good", none)) fd := F
  exact ⟨⟨fd, ok_l_times_good_fd c F', F'.bindsN fun _ _ _ _ _ _ us hl => match us, hl with | [_, _, _, _, _, _], _ => rfl⟩, F'.kp⟩
theorem ok_l_asked_fd (c : FZ K mg) {fd : FuncData} (F' : FunD K "_law_asked" "_law_asked" (defArgs s_l_asked) (defBody s_l_asked) (defScope s_l_asked) [] [] (He.fAd K ("_law_asked", none)) fd) : FnOk PP w K mg base CX0 11 (He.fAd K ("_law_asked", none)) fd ["_law_net", "_law_length_here", "_law_many_here", "_law_spans", "_law_times_here", "_law_far", "_law_shape"] (sp_l_asked K) := by
  refine F'.ok sc_l_asked (fun vs H Q E h => len_l_asked h) (fun cdv A outer s H vs Q E hr h => ⟨t_l_asked K, PSs.nox ?_, pure_l_asked h⟩)
  exact (pss_cons (ps_set (i := 7) sc_l_asked.nd rfl (by first | exact Or.inl rfl | exact Or.inr rfl) (pe_callTy cl_list (by rfl) (c.free 7) (by decide +kernel) (pa_cons (pv 4) pa_nil)))
      (pss_cons (ps_if (pt_cmpR op_eq (pv 6) pe_int (nomark _)) (pss_cons (ps_set (i := 8) sc_l_asked.nd rfl (by first | exact Or.inl rfl | exact Or.inr rfl) (pe_callTy cl_tuple (by rfl) (c.free 8) (by decide +kernel) (pa_cons (pv 4) pa_nil)))
      (pss_one (ps_ret (pcall (ok_l_times_good c) (hr.mono (by decide)) (by rfl) (c.glo 38) pass0 (pa_cons (pv 0) (pa_cons (pv 1) (pa_cons (pv 2) (pa_cons (pv 3) (pa_cons (pv 8) (pa_cons (pv 5) pa_nil)))))))))) pss_nil)
      (pss_one (ps_ret (pe_and (pcall (ok_l_times_good c) (hr.mono (by decide)) (by rfl) (c.glo 38) pass0 (pa_cons (pv 0) (pa_cons (pv 1) (pa_cons (pv 2) (pa_cons (pv 3) (pa_cons (pv 7) (pa_cons (pv 5) pa_nil))))))) (pe_one (pcall (ok_l_same c) (hr.mono (by decide)) (by rfl) (c.glo 10) pass0 (pa_cons (pv 7) (pa_cons (pv 4) pa_nil)))))))))
theorem ok_l_asked (c : FZ K mg) : FnX PP w K mg base CX0 11 ("_law_asked", none) ["_law_net", "_law_length_here", "_law_many_here", "_law_spans", "_law_times_here", "_law_far", "_law_shape"] (sp_l_asked K) := by
  obtain ⟨fd, F⟩ := c.says.def_ 26 (d := d_l_asked) rfl
  have F' : FunD K "_law_asked" "_law_asked" (defArgs s_l_asked) (defBody s_l_asked) (defScope s_l_asked) [] [] (He.fAd K ("_law_asked", none)) fd := F
  exact ⟨⟨fd, ok_l_asked_fd c F', F'.bindsN fun _ _ _ _ _ _ us hl => match us, hl with | [_, _, _, _, _, _, _], _ => rfl⟩, F'.kp⟩
theorem ok_law_fd (c : FZ K mg) {fd : FuncData} (F' : FunD K "law" "law" (defArgs s_law) (defBody s_law) (defScope s_law) [] [] (He.fAd K ("law", none)) fd) : FnOk PP w K mg base CX0 12 (He.fAd K ("law", none)) fd ["_law_script"] (sp_law K) := by
  refine F'.ok sc_law (fun vs H Q E h => len_law h) (fun cdv A outer s H vs Q E hr h => ⟨t_law K, PSs.nox ?_, pure_law (netK c) h⟩)
  exact (pss_cons (ps_set (i := 1) sc_law.nd rfl (by first | exact Or.inl rfl | exact Or.inr rfl) (pcall (ok_l_pool c) (hr.mono (by decide)) (by rfl) (c.glo 39) pass0 (pa_cons (pv 0) (pa_cons pe_int pa_nil))))
      (pss_cons (ps_set (i := 2) sc_law.nd rfl (by first | exact Or.inl rfl | exact Or.inr rfl) (pcall (ok_l_length c) (hr.mono (by decide)) (by rfl) (c.glo 40) pass0 (pa_cons (pv 1) pa_nil)))
      (pss_cons (ps_set (i := 3) sc_law.nd rfl (by first | exact Or.inl rfl | exact Or.inr rfl) (pcall (ok_l_many c) (hr.mono (by decide)) (by rfl) (c.glo 41) pass0 (pa_cons (pv 1) pa_nil)))
      (pss_cons (ps_set (i := 4) sc_law.nd rfl (by first | exact Or.inl rfl | exact Or.inr rfl) (pcall (ok_l_times c) (hr.mono (by decide)) (by rfl) (c.glo 42) pass0 (pa_cons (pv 1) (pa_cons (pv 2) (pa_cons (pv 3) pa_nil)))))
      (pss_cons (ps_set (i := 5) sc_law.nd rfl (by first | exact Or.inl rfl | exact Or.inr rfl) (pcall (ok_l_count c) (hr.mono (by decide)) (by rfl) (c.glo 43) pass0 (pa_cons (pv 1) (pa_cons (pv 3) pa_nil))))
      (pss_cons (ps_if (pt_cmpR op_eq (pcall (ok_l_take c) (hr.mono (by decide)) (by rfl) (c.glo 25) pass0 (pa_cons (pv 1) (pa_cons pe_int pa_nil))) pe_int (nomark _)) (pss_one (ps_set (i := 11) sc_law.nd rfl (by first | exact Or.inl rfl | exact Or.inr rfl) (pcall (ok_l_kept_spans c) (hr.mono (by decide)) (by rfl) (c.glo 44) pass0 (pa_cons (pv 1) (pa_cons (pv 2) (pa_cons (pv 4) (pa_cons (pv 5) pa_nil))))))) (pss_one (ps_set (i := 11) sc_law.nd rfl (by first | exact Or.inl rfl | exact Or.inr rfl) (pcall (ok_l_any_spans c) (hr.mono (by decide)) (by rfl) (c.glo 45) pass0 (pa_cons (pv 1) (pa_cons (pv 2) (pa_cons (pv 3) (pa_cons (pv 5) pa_nil))))))))
      (pss_cons (ps_set (i := 6) sc_law.nd rfl (by first | exact Or.inl rfl | exact Or.inr rfl) (pmake (c.mkr 46) (ok_Net___init__ c) (hr.mono (by decide)) (by rfl) (c.glo 47) pass0 (pa_cons (pv 2) (pa_cons (pv 3) (pa_cons (pe_callTy cl_list (by rfl) (c.free 7) (by decide +kernel) (pa_cons (pv 11) pa_nil)) pa_nil)))))
      (pss_cons (ps_set (i := 1) sc_law.nd rfl (by first | exact Or.inl rfl | exact Or.inr rfl) (pcall (ok_l_pool c) (hr.mono (by decide)) (by rfl) (c.glo 39) pass0 (pa_cons (pv 0) (pa_cons pe_int pa_nil))))
      (pss_cons (ps_set (i := 7) sc_law.nd rfl (by first | exact Or.inl rfl | exact Or.inr rfl) (pe_callTy cl_list (by rfl) (c.free 7) (by decide +kernel) (pa_cons (pv 4) pa_nil)))
      (pss_cons (ps_if (pt_cmpR op_eq (pcall (ok_l_take c) (hr.mono (by decide)) (by rfl) (c.glo 25) pass0 (pa_cons (pv 1) (pa_cons pe_int pa_nil))) pe_int (nomark _)) (pss_one (ps_setLc (i := 7) (own := [("_law_k", 12)]) (g := (gName 12)) (tt := tYes) rfl sc_law.nd rfl rfl (sw_true rfl rfl rfl (by decide +kernel)) (pi_range1 (by rfl) (c.free 9) (pa_cons (pv 3) pa_nil)) (blkOk_by (own := [("_law_k", 12)]) (N := N_law) (sc := defScope s_law) (by decide +kernel)) (fun _ _ _ _ _ => (pg_name (i := 12) sc_law.nd rfl (by first | exact Or.inl rfl | exact Or.inr rfl))) (fun _ _ _ _ _ => pts_nil) (fun _ _ _ _ _ => (pe_op op_fdivB (pcall (ok_l_take c) (hr.mono (by decide)) (by rfl) (c.glo 25) pass0 (pa_cons (pv 1) (pa_cons (pe_op op_mul pe_int (pv 2)) pa_nil))) pe_int)))) pss_nil)
      (pss_cons (ps_set (i := 7) sc_law.nd rfl (by first | exact Or.inl rfl | exact Or.inr rfl) (pcall (ok_l_spoilt c) (hr.mono (by decide)) (by rfl) (c.glo 48) pass0 (pa_cons (pv 1) (pa_cons (pv 2) (pa_cons (pv 7) pa_nil)))))
      (pss_cons (ps_set (i := 8) sc_law.nd rfl (by first | exact Or.inl rfl | exact Or.inr rfl) (pcall (ok_l_take c) (hr.mono (by decide)) (by rfl) (c.glo 25) pass0 (pa_cons (pv 1) (pa_cons pe_int pa_nil))))
      (pss_cons (ps_set (i := 9) sc_law.nd rfl (by first | exact Or.inl rfl | exact Or.inr rfl) (pe_ix ix_list (pe_lst (pa_cons pe_int (pa_cons pe_int (pa_cons pe_int (pa_cons pe_int (pa_cons (pe_op op_pow pe_int pe_int) pa_nil)))))) (pcall (ok_l_take c) (hr.mono (by decide)) (by rfl) (c.glo 25) pass0 (pa_cons (pv 1) (pa_cons pe_int pa_nil))) (fun _ _ => rfl)))
      (pss_cons (ps_for PassesOwn.never rfl (pi_list (pe_lst (pa_cons (pv 4) (pa_cons (pv 7) (pa_cons (pv 4) pa_nil))))) (pg_name (i := 10) sc_law.nd rfl (by first | exact Or.inl rfl | exact Or.inr rfl)) (pss_one (ps_if (pt_not (pt_val (pcall (ok_l_asked c) (hr.mono (by decide)) (by rfl) (c.glo 49) pass0 (pa_cons (pv 6) (pa_cons (pv 2) (pa_cons (pv 3) (pa_cons (pv 11) (pa_cons (pv 10) (pa_cons (pv 9) (pa_cons (pv 8) pa_nil)))))))))) (pss_one (ps_ret pe_bl)) pss_nil)))
      (pss_one (ps_ret (pcall (ok_l_same c) (hr.mono (by decide)) (by rfl) (c.glo 10) pass0 (pa_cons (pe_fld (pv 6) rfl) (pa_cons (pe_callTy cl_tuple (by rfl) (c.free 8) (by decide +kernel) (pa_cons (pv 11) pa_nil)) pa_nil)))))))))))))))))))
theorem ok_law (c : FZ K mg) : FnX PP w K mg base CX0 12 ("law", none) ["_law_script"] (sp_law K) := by
  obtain ⟨fd, F⟩ := c.says.def_ 27 (d := d_law) rfl
  have F' : FunD K "law" "law" (defArgs s_law) (defBody s_law) (defScope s_law) [] [] (He.fAd K ("law", none)) fd := F
  exact ⟨⟨fd, ok_law_fd c F', F'.bindsN fun _ _ _ _ _ _ us hl => match us, hl with | [_], _ => rfl⟩, F'.kp⟩
end
end Cl

/-! ## End -/

namespace Cl
open PySem PySem.Spec PyProof.Rows L2
def names_0 : List Str := ["_wall", "__name__", "DepotError", "BadNet", "BadTimes", "UnknownSpan", "check_times", "minutes_on", "passed", "broken", "SHORTEST_ROUND", "LONGEST_ROUND", "MOST_EVENTS", "MOST_SPANS", "MOST_MINUTES", "is_window", "is_span", "Net", "_law_cell", "_law_pool", "_law_take", "_law_same", "_law_length", "_law_many", "_law_count", "_law_any_spans", "_law_times", "_law_kept_spans", "_law_spoilt", "_law_wrong"]
def names_1 : List Str := ["_law_gone", "_law_check_told", "_law_broken_told", "_law_passed_told", "_law_passed_good", "_law_refused_good", "_law_times_good", "_law_asked"]
def names : List Str := names_0 ++ names_1
abbrev R : PySem.W.OpenRow := PySem.W.OpenLaw.row PySem.Challenge.rw_depotday_k14_minutes_that_pass
abbrev hk : PySem.W.Hook := Hz.hookZ (PP.main.file : Str) 5 fa fn fe (exOf xf)
def ob (s : PySem.W.SharedT) : Hz.AlZ := Hz.obsG (PP.main.file : Str) 5 fa fn fe (exOf xf) (HandSHeadRun.getT s)
theorem ob_eq (s : PySem.W.SharedT) : ob s = hk.obs s.abs := Hz.obsG_eq (HandSHeadRun.getT_eq s)
theorem run (w : World) : HandSHeadRun.RunEq R (PySem.W.view R.prog [41]) hk ob 6000 names w := by
  intro os
  kernel_rfl
end Cl
open PySem PySem.W PySem.Calls PyProof.Rows in
set_option maxRecDepth 100000 in
set_option maxHeartbeats 0 in
theorem PySem.Challenge.cw_depotday_k14_minutes_that_pass_holds : PySem.Challenge.rw_depotday_k14_minutes_that_pass.Holds := by
  w_on; o_law
  refine HandSHeadRun.head_any (r := OpenLaw.row PySem.Challenge.rw_depotday_k14_minutes_that_pass) (q := view (OpenLaw.row PySem.Challenge.rw_depotday_k14_minutes_that_pass).prog [41]) (H := Cl.hk) (ob := Cl.ob) (M := 6000) (loose := Cl.names) (d := HandSHeadRun.topDef (OpenLaw.row PySem.Challenge.rw_depotday_k14_minutes_that_pass).prog 41) (kwd := []) Cl.ob_eq
    (by kernel_rfl) (fun s => by kernel_rfl) Cl.run (by kernel_rfl) (by kernel_rfl) (by kernel_rfl) (by rfl) (by first | assumption | decide +kernel) (by decide +kernel) ⟨rfl, rfl, rfl, rfl, rfl, by decide +kernel⟩ ?hw ?hc
  case hw => w_witness2
  case hc =>
    refine L2.walk_ofE (l := PySem.Challenge.rw_depotday_k14_minutes_that_pass) (n := 63) (k := 12) (x := "_law_script") (CX := L2.CX0) rfl (by decide) (by kernel_rfl) ⟨rfl, by decide, by decide⟩ ?F (fun _ _ _ _ z => z)
    intro w mg fa h Y G hmg0
    obtain ⟨K, KX, says⟩ := Y
    have hmg : mg ("law" : PySem.Str) = some (.ref fa) := by
      have e : (HandSHeadRun.topDef (OpenLaw.row PySem.Challenge.rw_depotday_k14_minutes_that_pass).prog 41).name = ("law" : PySem.Str) := by kernel_rfl
      rw [← e]
      exact hmg0
    have c : Cl.FZ K mg := Cl.Fz.mk' KX G says
    have ef := hmg.symm.trans (c.glo 50)
    cases ef
    obtain ⟨fd, F⟩ := c.says.def_ 27 (d := Cl.d_law) rfl
    have hb := L2.FunD.bindsA (ps := ["_law_script"]) F fun _ _ _ _ _ _ us hl => match us, hl with | [_], _ => rfl
    refine ⟨K, fd, Cl.sp_law K, KX, fun s v => hb s [v] rfl, fun H a ns hl _ hS => Cl.start_law hl hS, fun base _ _ => ?_⟩
    exact Cl.ok_law_fd c F
