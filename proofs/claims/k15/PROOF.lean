import PyProof.Rows.All
import Wide.All
import OpenK.AllK
import Wide.FinOn
import HandS.ForMost
import HandS.Exc
import HandS.WordsExc
import HandS.Defaults
import HandS.Walk
import HandS.Steps
import HandS.IsInst
import HandS.Conv
import HandS.SetKeys
import HandS.Head0
import HandS.Head1
import HandS.Head2
import HandS.HeadEnd
import HandS.HeadHook1
import HandS.HeadHook2
import HandS.HeadHook3
import HandS.HeadHook4
import HandS.Wide
import KE.KDictList
import HandS.ExcInit
import HandS.FStr
import HandS.ExcSuper
import KE.KExcSuper
import PyProof.Rows.RegStrFacts
import HandS.TryMany
import HandS.ExcField
import HandS.ExcIs
import KE.KExcIs
import KE.GoesEnum
import HandS.Iter
import HandS.Style
import HandS.TryOnly
import KE.DataFind
import PySem.Challenge.RW_depotday_k15_paths_and_rings
set_option Elab.async false
set_option linter.all false
set_option maxRecDepth 100000
set_option maxHeartbeats 4000000
/-! ## Lib -/
namespace Cl
open PySem PySem.Spec PyProof.Rows L2

/-! ## readings, one step each (continuations) -/
section
variable {σ : L2.St} {H : Hp} {Q : VK} {QA : List V → Hp → Prop} {QB : Bool → Hp → Prop} {D : Ends} {t u : TS} {te ta tb tc : TE} {tt tv : TT} {ts tr : TA} {v x y : V} {i : Nat}
theorem g_seq (h : t { D with nx := u D } σ H) : tSeq t u D σ H := h
theorem g_next (h : D.nx σ H) : tNext D σ H := h
theorem g_brk (h : D.bk σ H) : tBreak D σ H := h
theorem g_cnt (h : D.ct σ H) : tCont D σ H := h
theorem g_asg {g : TG} (h : te σ H fun x H1 => g x σ H1 D.nx) : tAsg te g D σ H := h
theorem g_name {QS : L2.St → Hp → Prop} (h : QS (σ.set i (some v)) H) : gName i v σ H QS := h
theorem g_drop (h : te σ H fun _ H1 => D.nx σ H1) : tDrop te D σ H := h
theorem g_ret (h : te σ H D.rt) : tRet te D σ H := h
theorem g_retN (h : D.rt .non H) : tRetN D σ H := h
theorem g_ifS (h : tt σ H fun b H1 => if b = true then t D σ H1 else u D σ H1) : tIfS tt t u D σ H := h
theorem g_if {b : Bool} {A B : Prop} (h1 : b = true → A) (h2 : b = false → B) : if b = true then A else B := by
  cases b with
  | true => exact iteT (h1 rfl)
  | false => exact iteF (h2 rfl)
theorem g_var (e : σ[i]? = some (some v)) (h : Q v H) : tVar i σ H Q := ⟨v, e, h⟩
theorem g_c (h : Q v H) : tC v σ H Q := h
theorem g_op {r : R2} (h : ta σ H fun x H1 => tb σ H1 fun y H2 => r x y H2 Q) : tOp r ta tb σ H Q := h
theorem g_un {r : V → Hp → VK → Prop} (h : ta σ H fun x H1 => r x H1 Q) : tUn r ta σ H Q := h
theorem g_I0 {g : Int → Int → V} {a b : Int} (h : Q (g a b) H) : rI0 g (.int a) (.int b) H Q := ⟨a, b, rfl, rfl, h⟩
theorem g_I {C : Int → Int → Prop} {g : Int → Int → V} {a b : Int} (hc : C a b) (h : Q (g a b) H) : rI C g (.int a) (.int b) H Q := ⟨a, b, rfl, rfl, hc, h⟩
theorem g_U {g : Int → V} {a : Int} (h : Q (g a) H) : rU g (.int a) H Q := ⟨a, rfl, h⟩
theorem g_eq (hs : scal x y = true) (h : Q (.bl (decide (x = y))) H) : rEq x y H Q := ⟨hs, h⟩
theorem g_ne (hs : scal x y = true) (h : Q (.bl (!decide (x = y))) H) : rNe x y H Q := ⟨hs, h⟩
theorem g_test (h : te σ H fun x H' => ∃ k, x = .bl k ∧ QB k H') : tTest te σ H QB := h
theorem g_B (h : te σ H fun x H' => ∃ k, x = .bl k ∧ QB k H') : tB te σ H QB := h
theorem g_bl {b : Bool} (h : QB b H) : ∃ k, V.bl b = .bl k ∧ QB k H := ⟨b, rfl, h⟩
theorem g_and (h : tt σ H fun c H1 => if c = true then tv σ H1 QB else QB false H1) : tAnd tt tv σ H QB := h
theorem g_or (h : tt σ H fun c H1 => if c = true then QB true H1 else tv σ H1 QB) : tOr tt tv σ H QB := h
theorem g_not (h : tt σ H fun c H1 => QB (!c) H1) : tNot tt σ H QB := h
theorem g_nil (h : QA [] H) : tNil σ H QA := h
theorem g_cons (h : te σ H fun x H1 => tr σ H1 fun xs H2 => QA (x :: xs) H2) : tCons te tr σ H QA := h
theorem g_call {sp : Sp} {E : XK} (h : ts σ H fun vs H1 => sp (vs ++ []) H1 Q E) : tCall sp [] E ts σ H Q := h
theorem g_cb {r : List V → Hp → VK → Prop} (h : ts σ H fun vs H1 => r vs H1 Q) : tCB r ts σ H Q := h
theorem g_tup (h : ts σ H fun xs H1 => xs.length ≤ sizeLine ∧ ∀ p, H1 p = none → Q (.ref p) (upd H1 p (.tup xs))) : tTup ts σ H Q := h
theorem g_lst (h : ts σ H fun xs H1 => xs.length ≤ sizeLine ∧ ∀ p, H1 p = none → Q (.ref p) (upd H1 p (.lst xs))) : tLst ts σ H Q := h
theorem g_ife (h : tt σ H fun c H1 => if c = true then ta σ H1 Q else tb σ H1 Q) : tIf tt ta tb σ H Q := h
end

/-! ## values that leave the heap: Val, tests: Ans -/
section
variable {σ : L2.St} {H : Hp} {i : Nat} {v x y z : V} {ta tb tc te : TE} {b c d : Bool} {K : PySem.W.Frag} {t u : TT} {a p : Addr} {xs : List V} {n m : Int}
theorem v_op {r : R2} (ha : Val ta σ H x) (hb : Val tb σ H y) (hr : ∀ Q : VK, Q z H → r x y H Q) : Val (tOp r ta tb) σ H z := val_op ha hb hr
theorem v_I0 {g : Int → Int → V} (ha : Val ta σ H (.int n)) (hb : Val tb σ H (.int m)) : Val (tOp (rI0 g) ta tb) σ H (g n m) := v_op ha hb fun _ q => ⟨n, m, rfl, rfl, q⟩
theorem v_I {C : Int → Int → Prop} {g : Int → Int → V} (ha : Val ta σ H (.int n)) (hb : Val tb σ H (.int m)) (hc : C n m) : Val (tOp (rI C g) ta tb) σ H (g n m) := v_op ha hb fun _ q => ⟨n, m, rfl, rfl, hc, q⟩
theorem v_U {g : Int → V} (ha : Val ta σ H (.int n)) : Val (tUn (rU g) ta) σ H (g n) := fun _ q => ha _ ⟨n, rfl, q⟩
theorem v_eq (ha : Val ta σ H x) (hb : Val tb σ H y) (hs : scal x y = true) : Val (tOp rEq ta tb) σ H (.bl (decide (x = y))) := v_op ha hb fun _ q => ⟨hs, q⟩
theorem v_ne (ha : Val ta σ H x) (hb : Val tb σ H y) (hs : scal x y = true) : Val (tOp rNe ta tb) σ H (.bl (!decide (x = y))) := v_op ha hb fun _ q => ⟨hs, q⟩
theorem v_ixL (ha : Val ta σ H (.ref p)) (hb : Val tb σ H (.int n)) (h : SqL K H p xs) (e : atI xs n = some v) : Val (tOp (rIxL K) ta tb) σ H v := v_op ha hb fun _ q => ⟨p, xs, n, v, rfl, rfl, h, e, q⟩
theorem v_ixT (ha : Val ta σ H (.ref p)) (hb : Val tb σ H (.int n)) (h : SqT K H p xs) (e : atI xs n = some v) : Val (tOp (rIxT K) ta tb) σ H v := v_op ha hb fun _ q => ⟨p, xs, n, v, rfl, rfl, h, e, q⟩
theorem v_chain {r r' : R2} {b c : Bool} (ha : Val ta σ H x) (hb : Val tb σ H y) (hc : Val tc σ H z) (h1 : ∀ Q : VK, Q (.bl b) H → r x y H Q) (h2 : ∀ Q : VK, Q (.bl c) H → r' y z H Q) : Val (tChain r r' ta tb tc) σ H (.bl (b && c)) := fun Q q => by
  refine ha _ (hb _ (h1 _ ⟨b, rfl, ?_⟩))
  cases b with
  | true => exact iteT (hc _ (h2 _ q))
  | false => exact iteF q
theorem i_I0 {g : Int → Int → V} : ∀ Q : VK, Q (g n m) H → rI0 g (.int n) (.int m) H Q := fun _ q => ⟨n, m, rfl, rfl, q⟩
theorem i_B0 {p : Int → Int → Bool} : ∀ Q : VK, Q (.bl (p n m)) H → rI0 (fun i j => .bl (p i j)) (.int n) (.int m) H Q := fun _ q => ⟨n, m, rfl, rfl, q⟩
theorem v_andV (ha : Val ta σ H (.bl b)) (hb : b = true → Val tb σ H (.bl c)) : Val (tAndV ta tb) σ H (.bl (b && c)) := fun Q q => by
  refine ha _ ⟨b, rfl, ?_⟩
  cases b with
  | true => exact iteT (hb rfl _ q)
  | false => exact iteF q
theorem v_orV (ha : Val ta σ H (.bl b)) (hb : b = false → Val tb σ H (.bl c)) : Val (tOrV ta tb) σ H (.bl (b || c)) := fun Q q => by
  refine ha _ ⟨b, rfl, ?_⟩
  cases b with
  | true => exact iteT q
  | false => exact iteF (hb rfl _ q)
theorem v_notV (ha : Val ta σ H (.bl b)) : Val (tNotV ta) σ H (.bl (!b)) := fun Q q => ha _ ⟨b, rfl, q⟩
theorem v_if (h : Ans t σ H b) (h1 : b = true → Val ta σ H x) (h2 : b = false → Val tb σ H y) : Val (tIf t ta tb) σ H (if b = true then x else y) := fun Q q => by
  refine h _ ?_
  cases b with
  | true => exact iteT (h1 rfl _ q)
  | false => exact iteF (h2 rfl _ q)
theorem a_test (h : Val te σ H (.bl b)) : Ans (tTest te) σ H b := fun Q q => h _ ⟨b, rfl, q⟩
theorem a_B (h : Val te σ H (.bl b)) : Ans (tB te) σ H b := fun Q q => h _ ⟨b, rfl, q⟩
theorem a_and (h1 : Ans t σ H b) (h2 : b = true → Ans u σ H c) : Ans (tAnd t u) σ H (b && c) := fun Q q => by
  refine h1 _ ?_
  cases b with
  | true => exact iteT (h2 rfl _ q)
  | false => exact iteF q
theorem a_or (h1 : Ans t σ H b) (h2 : b = false → Ans u σ H c) : Ans (tOr t u) σ H (b || c) := fun Q q => by
  refine h1 _ ?_
  cases b with
  | true => exact iteT q
  | false => exact iteF (h2 rfl _ q)
theorem a_not (h : Ans t σ H b) : Ans (tNot t) σ H (!b) := fun Q q => h _ q
/-- a list of argument values -/
def Args (ts : TA) (σ : L2.St) (H : Hp) (vs : List V) : Prop := ∀ Q : List V → Hp → Prop, Q vs H → ts σ H Q
theorem ar_nil : Args tNil σ H [] := fun _ q => q
theorem ar_cons {ts : TA} {vs : List V} (h : Val te σ H v) (hr : Args ts σ H vs) : Args (tCons te ts) σ H (v :: vs) := fun _ q => h _ (hr _ q)
theorem v_cb {r : List V → Hp → VK → Prop} {ts : TA} {vs : List V} (h : Args ts σ H vs) (hr : ∀ Q : VK, Q z H → r vs H Q) : Val (tCB r ts) σ H z := fun Q q => h _ (hr _ q)
/-- an expression whose value is known, then what follows -/
theorem g_val {Q : VK} (h : Val te σ H v) (q : Q v H) : te σ H Q := h Q q
theorem g_ans {Q : Bool → Hp → Prop} (h : Ans t σ H b) (q : Q b H) : t σ H Q := h Q q
theorem g_args {Q : List V → Hp → Prop} {ts : TA} {vs : List V} (h : Args ts σ H vs) (q : Q vs H) : ts σ H Q := h Q q
end
/-- a test whose answer is known, two ways -/
theorem g_ifA {c : TT} {t u : TS} {D : Ends} {σ : L2.St} {H : Hp} {b : Bool} (h : Ans c σ H b) (h1 : b = true → t D σ H) (h2 : b = false → u D σ H) : tIfS c t u D σ H := h _ (g_if h1 h2)
end Cl

/-! ## Lib2 -/
namespace Cl
open PySem PySem.Spec PyProof.Rows L2

/-! ## the head's facts -/
structure Fx (fa : List He.Fa) (fn : List He.DefD) (K : PySem.W.Frag) (mg : Str → Option Value) : Prop where
  says : He.SaysD fa fn K
  ns : ∃ h : Heap, K.In h ∧ h.Ns mainGlobals mg
theorem Fx.mk' {fa : List He.Fa} {fn : List He.DefD} {K : PySem.W.Frag} {h : Heap} {mg : Str → Option Value} (X : K.In h) (G : h.Ns mainGlobals mg) (c : He.SaysD fa fn K) : Fx fa fn K mg := ⟨c, h, X, G⟩
section
variable {fa : List He.Fa} {fn : List He.DefD} {K : PySem.W.Frag} {mg : Str → Option Value}
theorem Fx.glo (c : Fx fa fn K mg) (i : Nat) {x : Str} (h : fa[i]? = some (.glo x) := by rfl) : mg x = some (.ref (He.ga K x)) := let ⟨_, X, G⟩ := c.ns; He.glo_ok X G (c.says.fact i h)
theorem Fx.free (c : Fx fa fn K mg) (i : Nat) {x : Str} (h : fa[i]? = some (.free x) := by rfl) : mg x = none := let ⟨_, X, G⟩ := c.ns; He.free_ok X G (c.says.fact i h)
theorem Fx.int (c : Fx fa fn K mg) (i : Nat) {x : Str} {n : Int} (h : fa[i]? = some (.int x n) := by rfl) : ∃ t, mg x = some (.int n t) := let ⟨_, X, G⟩ := c.ns; He.int_ok X G (c.says.fact i h)
theorem Fx.str (c : Fx fa fn K mg) (i : Nat) {x z : Str} (h : fa[i]? = some (.str x z) := by rfl) : ∃ t, mg x = some (.str z t) := let ⟨_, X, G⟩ := c.ns; He.str_ok X G (c.says.fact i h)
theorem Fx.cls (c : Fx fa fn K mg) (i : Nat) {x : Str} (h : fa[i]? = some (.cls x) := by rfl) : Cls K (He.ga K x) := He.cls_ok (c.says.fact i h)
theorem Fx.noat (c : Fx fa fn K mg) (i : Nat) {x f : Str} (h : fa[i]? = some (.noat x f) := by rfl) : NoAttr K (He.ga K x) f := He.noat_ok (c.says.fact i h)
theorem Fx.meth (c : Fx fa fn K mg) (i : Nat) {x m : Str} (h : fa[i]? = some (.meth x m) := by rfl) : Meth K (He.ga K x) m (He.ma K (He.ga K x) m) := He.meth_ok (c.says.fact i h)
theorem Fx.mkr (c : Fx fa fn K mg) (i : Nat) {x : Str} (h : fa[i]? = some (.mkr x) := by rfl) : Mk K (He.ga K x) (He.ma K (He.ga K x) "__init__") := He.mkr_ok (c.says.fact i h)
end

/-! ## a def that keeps its promise -/
structure FnX (P : Program) (w : World) (K : PySem.W.Frag) (mg : Str → Option Value) (base : Heap) (CX : CXT) (k : Nat) (at_ : Str × Option Str) (ps : List Str) (sp : Sp) : Prop where
  ex : ∃ fd, FnOk P w K mg base CX k (He.fAd K at_) fd ps sp ∧ Binds K fd ps []
  kp : PySem.W.keepIn K (.ref (He.fAd K at_)) = true
section
variable {X : Cx} {CX : CXT} {k : Nat} {ps : List Str} {sp : Sp} {E : XK} {x m : Str} {p pos apos : Pos} {e o : Expr} {es : List Expr} {ta : TE} {t : TA}
theorem pcall (F : FnX X.prog X.w X.K X.mg X.base CX k (x, none) ps sp) (hr : Room k X.A) (hg : Gl X x) (hm : X.mg x = some (.ref (He.ga X.K x))) (hx : Passes CX X E)
    (ha : PA X (e :: es) t) (hdb : (x == ("__debug__" : Str)) = false := by decide) (he : starEach (e :: es) X.env = (false, eval e X.env) :: starEach es X.env := by rfl) (hpl : (backTo pos (starEach es X.env)).any (·.1) = false := by rfl) :
    PE X (.Call (.Name x p) (e :: es) [] pos) (tCall sp [] E t) := by
  obtain ⟨⟨fd, F, b⟩, kp⟩ := F
  exact pe_call F hr hg hm kp b .nil hx ha hdb he hpl
theorem pmeth {pl : Sem Bool} {C : Str} (he : PE X o ta) (c : Cls X.K (He.ga X.K C)) (hm : Meth X.K (He.ga X.K C) m (He.ma X.K (He.ga X.K C) m)) (F : FnX X.prog X.w X.K X.mg X.base CX k (C, some m) ps sp) (hr : Room k X.A) (hx : Passes CX X E) (ha : PA X (e :: es) t)
    (hst : starEach (e :: es) X.env = (false, eval e X.env) :: starEach es X.env := by rfl) (hpl : (backTo pos (starEach es X.env)).any (·.1) = false := by rfl)
    (ht : eval (.Call (.Attribute o m apos) (e :: es) [] pos) X.env = (do
      let ov ← eval o X.env
      standAt apos.atName
      let (f, first) ← holding [ov] (getMethod ov m pl)
      callWith pos f first (backTo pos (starEach (e :: es) X.env)) (backToKw pos (keywordEach [] X.env))) := by rfl) :
    PE X (.Call (.Attribute o m apos) (e :: es) [] pos) (tMeth (He.ga X.K C) m sp [] E ta t) := by
  obtain ⟨⟨fd, F, b⟩, kp⟩ := F
  exact pe_meth he c hm F hr b .nil hx ha hst hpl ht
theorem pmeth0 {pl : Sem Bool} {C : Str} (he : PE X o ta) (c : Cls X.K (He.ga X.K C)) (hm : Meth X.K (He.ga X.K C) m (He.ma X.K (He.ga X.K C) m)) (F : FnX X.prog X.w X.K X.mg X.base CX k (C, some m) ps sp) (hr : Room k X.A) (hx : Passes CX X E)
    (ht : eval (.Call (.Attribute o m apos) [] [] pos) X.env = (do
      let ov ← eval o X.env
      standAt apos.atName
      let (f, first) ← holding [ov] (getMethod ov m pl)
      callWith pos f first (backTo pos (starEach [] X.env)) (backToKw pos (keywordEach [] X.env))) := by rfl) :
    PE X (.Call (.Attribute o m apos) [] [] pos) (tMeth (He.ga X.K C) m sp [] E ta tNil) := by
  obtain ⟨⟨fd, F, b⟩, kp⟩ := F
  exact pe_meth0 he c hm F hr b .nil hx ht
theorem pmake (M : Mk X.K (He.ga X.K x) (He.ma X.K (He.ga X.K x) "__init__")) (F : FnX X.prog X.w X.K X.mg X.base CX k (x, some "__init__") ps sp) (hr : Room (k + 1) X.A) (hg : Gl X x) (hm : X.mg x = some (.ref (He.ga X.K x))) (hx : Passes CX X E)
    (ha : PA X (e :: es) t) (hdb : (x == ("__debug__" : Str)) = false := by decide) (he : starEach (e :: es) X.env = (false, eval e X.env) :: starEach es X.env := by rfl) (hpl : (backTo pos (starEach es X.env)).any (·.1) = false := by rfl) :
    PE X (.Call (.Name x p) (e :: es) [] pos) (tMake (He.ga X.K x) sp [] E t) := by
  obtain ⟨⟨fd, F, b⟩, kp⟩ := F
  exact pe_make M F hr hg hm b .nil hx ha hdb he hpl
theorem pgi {n : Int} (hg : Gl X x) (h : ∃ t, X.mg x = some (.int n t)) (hd : (x == ("__debug__" : Str)) = false := by decide) : PE X (.Name x pos) (tC (.int n)) := by
  obtain ⟨t, h⟩ := h
  exact pe_glob hg h ⟨t, rfl⟩ hd
theorem pgs {z : Str} (hg : Gl X x) (h : ∃ t, X.mg x = some (.str z t)) (hd : (x == ("__debug__" : Str)) = false := by decide) : PE X (.Name x pos) (tC (.str z)) := by
  obtain ⟨t, h⟩ := h
  exact pe_glob hg h ⟨t, rfl⟩ hd
end

/-! ## named readings of the kit's rules -/
def rLen (K : PySem.W.Frag) : List V → Hp → VK → Prop := fun xs H Q => ∃ p ys, xs = [.ref p] ∧ (SqL K H p ys ∨ SqT K H p ys) ∧ Q (.int ys.length) H
def rListOf (K : PySem.W.Frag) : List V → Hp → VK → Prop := fun xs H Q => ∃ p ys, xs = [.ref p] ∧ (SqL K H p ys ∨ SqT K H p ys) ∧ ∀ l, H l = none → Q (.ref l) (upd H l (.lst ys))
def rTupOf (K : PySem.W.Frag) : List V → Hp → VK → Prop := fun xs H Q => ∃ p ys, xs = [.ref p] ∧ ((SqL K H p ys ∧ ∀ l, H l = none → Q (.ref l) (upd H l (.tup ys))) ∨ (SqT K H p ys ∧ Q (.ref p) H))
def rAbs : List V → Hp → VK → Prop := fun xs H Q => ∃ i, xs = [.int i] ∧ Q (.int (if i < 0 then -i else i)) H
def rMax2 : List V → Hp → VK → Prop := fun xs H Q => ∃ i j, xs = [.int i, .int j] ∧ Q (.int (if j > i then j else i)) H
def rMin2 : List V → Hp → VK → Prop := fun xs H Q => ∃ i j, xs = [.int i, .int j] ∧ Q (.int (if j < i then j else i)) H
def rInt1 : List V → Hp → VK → Prop := fun xs H Q => (∃ i, xs = [.int i] ∧ Q (.int i) H) ∨ ∃ k, xs = [.bl k] ∧ Q (.int (if k then 1 else 0)) H
def rBool1 : List V → Hp → VK → Prop := fun xs H Q => (∃ i, xs = [.int i] ∧ Q (.bl (i != 0)) H) ∨ ∃ k, xs = [.bl k] ∧ Q (.bl k) H
abbrev oAdd : R2 := rI0 fun i j => .int (i + j)
abbrev oSub : R2 := rI0 fun i j => .int (i - j)
abbrev oMul : R2 := rI CMul fun i j => .int (i * j)
/-- // by a positive divisor below 2 ^ 62 -/
def CDivB (_ j : Int) : Prop := 0 < j ∧ j < 4611686018427387904
theorem op_fdivB {X : Cx} : OpR X (binaryOp .FloorDiv) (rI CDivB fun i j => .int (i / j)) := by
  intro pins s σ H x y v u Q I rx ry h
  obtain ⟨i, j, ex, ey, hc, q⟩ := h
  have h1 : 0 < j := hc.1
  have h2 : j < 4611686018427387904 := hc.2
  have h3 : j.natAbs < 2 ^ 62 := by
    have e : (2 : Nat) ^ 62 = 4611686018427387904 := by decide
    omega
  exact op_fdivW pins s σ H x y v u Q I rx ry ⟨i, j, ex, ey, wide_div (b := 62) h1 h3 (by decide) (by decide), q⟩
abbrev oDiv : R2 := rI CDivB fun i j => .int (i / j)
abbrev oMod : R2 := rI (fun _ j => 0 < j) fun i j => .int (i % j)
abbrev oPow : R2 := rI CPow fun i j => .int (i ^ j.toNat)
abbrev oLt : R2 := rI0 fun i j => .bl (decide (i < j))
abbrev oLe : R2 := rI0 fun i j => .bl (decide (i ≤ j))
abbrev oGt : R2 := rI0 fun i j => .bl (decide (j < i))
abbrev oGe : R2 := rI0 fun i j => .bl (decide (j ≤ i))
abbrev uNeg : V → Hp → VK → Prop := rU fun i => .int (-i)
section
variable {X : Cx}
theorem cl_len : CallR X (.builtin "len") (rLen X.K) := call_len_seq
theorem cl_list : CallR X (.type "list") (rListOf X.K) := call_list_of
theorem cl_tuple : CallR X (.type "tuple") (rTupOf X.K) := call_tuple_of
theorem cl_abs : CallR X (.builtin "abs") rAbs := call_abs
theorem cl_max2 (hc : X.calm = true) : CallR X (.builtin "max") rMax2 := call_max2 hc
theorem cl_min2 (hc : X.calm = true) : CallR X (.builtin "min") rMin2 := call_min2 hc
theorem cl_int1 : CallR X (.type "int") rInt1 := call_int1
theorem cl_bool1 : CallR X (.type "bool") rBool1 := call_bool1
end
section
variable {σ : L2.St} {H : Hp} {K : PySem.W.Frag} {p : Addr} {xs : List V} {n m : Int} {ts : TA} {b : Bool} {te ta tb : TE} {v w : V}
theorem v_len (h : Args ts σ H [.ref p]) (hl : SqL K H p xs) : Val (tCB (rLen K) ts) σ H (.int xs.length) := v_cb h fun _ q => ⟨p, xs, rfl, .inl hl, q⟩
theorem v_lenT (h : Args ts σ H [.ref p]) (hl : SqT K H p xs) : Val (tCB (rLen K) ts) σ H (.int xs.length) := v_cb h fun _ q => ⟨p, xs, rfl, .inr hl, q⟩
theorem v_abs (h : Args ts σ H [.int n]) : Val (tCB rAbs ts) σ H (.int (if n < 0 then -n else n)) := v_cb h fun _ q => ⟨n, rfl, q⟩
theorem v_max2 (h : Args ts σ H [.int n, .int m]) : Val (tCB rMax2 ts) σ H (.int (if m > n then m else n)) := v_cb h fun _ q => ⟨n, m, rfl, q⟩
theorem v_min2 (h : Args ts σ H [.int n, .int m]) : Val (tCB rMin2 ts) σ H (.int (if m < n then m else n)) := v_cb h fun _ q => ⟨n, m, rfl, q⟩
theorem v_intI (h : Args ts σ H [.int n]) : Val (tCB rInt1 ts) σ H (.int n) := v_cb h fun _ q => .inl ⟨n, rfl, q⟩
theorem v_intB (h : Args ts σ H [.bl b]) : Val (tCB rInt1 ts) σ H (.int (if b then 1 else 0)) := v_cb h fun _ q => .inr ⟨b, rfl, q⟩
theorem v_cast (h : Val te σ H v) (e : v = w) : Val te σ H w := e ▸ h
end
theorem atI_of {α : Type} {xs : List α} {i : Int} {v : α} (h0 : 0 ≤ i) (h : xs[i.toNat]? = some v) : atI xs i = some v := by
  have e : ((i.toNat : Nat) : Int) = i := Int.toNat_of_nonneg h0
  rw [← e]
  exact atI_nat h
theorem ixN_of {n : Nat} {i : Int} (h0 : 0 ≤ i) (h : i < n) : ixN n i = some i.toNat := by
  unfold ixN
  rw [if_pos h0, if_pos h]
/-! ## a statement, then the rest -/
section
variable {σ : L2.St} {H : Hp} {D : Ends} {t u r : TS} {te to ti : TE} {tt : TT} {b : Bool} {v x : V} {i : Nat} {K : PySem.W.Frag} {Q : VK}
theorem q_asg {g : TG} (h : te σ H fun x H1 => g x σ H1 (r D)) : tSeq (tAsg te g) r D σ H := h
theorem q_set (h : te σ H fun x H1 => r D (σ.set i (some x)) H1) : tSeq (tAsg te (gName i)) r D σ H := h
theorem q_val (h : Val te σ H v) (q : r D (σ.set i (some v)) H) : tSeq (tAsg te (gName i)) r D σ H := h _ q
theorem q_drop (h : te σ H fun _ H1 => r D σ H1) : tSeq (tDrop te) r D σ H := h
theorem q_next (h : r D σ H) : tSeq tNext r D σ H := h
theorem q_if (h : Ans tt σ H b) (h1 : b = true → t { D with nx := r D } σ H) (h2 : b = false → u { D with nx := r D } σ H) : tSeq (tIfS tt t u) r D σ H := g_ifA h h1 h2
theorem q_ifc (h : tt σ H fun b H1 => if b = true then t { D with nx := r D } σ H1 else u { D with nx := r D } σ H1) : tSeq (tIfS tt t u) r D σ H := h
theorem q_whenc (h : tt σ H fun b H1 => if b = true then t { D with nx := r D } σ H1 else r D σ H1) : tSeq (tIfS tt t tNext) r D σ H := h
theorem q_when (h : Ans tt σ H b) (h1 : b = true → t { D with nx := r D } σ H) (h2 : b = false → r D σ H) : tSeq (tIfS tt t tNext) r D σ H := g_ifA h h1 h2
theorem q_setI {p : Addr} {xs : List V} {n : Int} {j : Nat} (h : Val te σ H v) (ho : Val to σ H (.ref p)) (hi : Val ti σ H (.int n)) (hp : H p = some (.lst xs)) (hj : ixN xs.length n = some j) (q : r D σ (upd H p (.lst (xs.set j v)))) : tSeq (tAsg te (gSub to ti rSetL)) r D σ H :=
  h _ (ho _ (hi _ ⟨p, xs, n, j, rfl, rfl, hp, hj, q⟩))
theorem g_setI {p : Addr} {xs : List V} {n : Int} {j : Nat} (h : Val te σ H v) (ho : Val to σ H (.ref p)) (hi : Val ti σ H (.int n)) (hp : H p = some (.lst xs)) (hj : ixN xs.length n = some j) (q : D.nx σ (upd H p (.lst (xs.set j v)))) : tAsg te (gSub to ti rSetL) D σ H :=
  h _ (ho _ (hi _ ⟨p, xs, n, j, rfl, rfl, hp, hj, q⟩))
theorem g_set (h : te σ H fun x H1 => D.nx (σ.set i (some x)) H1) : tAsg te (gName i) D σ H := h
/-- xs.append(e), e any -/
theorem e_app {p : Addr} {xs : List V} (ho : Val to σ H (.ref p)) (hp : H p = some (.lst xs)) (h : te σ H fun y H2 => ∃ xs, H2 p = some (.lst xs) ∧ xs.length < sizeLine ∧ Q .non (upd H2 p (.lst (xs ++ [y]))))
    (mono : ∀ Q Q' : VK, (∀ v H, Q v H → Q' v H) → te σ H Q → te σ H Q' := by intros; assumption) : tBM K "list" rAppend to (tCons te tNil) σ H Q :=
  ho _ ⟨Or.inl ⟨rfl, xs, SqL.of hp⟩, mono _ _ (fun y H2 ⟨ys, e, l, q⟩ => ⟨p, ys, y, rfl, rfl, e, l, q⟩) h⟩
theorem e_appV {p : Addr} {xs : List V} (ho : Val to σ H (.ref p)) (h : Val te σ H v) (hp : H p = some (.lst xs)) (hl : xs.length < sizeLine) (q : Q .non (upd H p (.lst (xs ++ [v])))) : tBM K "list" rAppend to (tCons te tNil) σ H Q :=
  ho _ ⟨Or.inl ⟨rfl, xs, SqL.of hp⟩, h _ ⟨p, xs, v, rfl, rfl, hp, hl, q⟩⟩
end
end Cl

/-! ## Lib3 -/
namespace Cl
open PySem PySem.Spec PyProof.Rows L2
section
variable {X : Cx} {a b c d : Expr} {ta tb tc td : TE} {pos : Pos}
/-- a < b < c < d -/
def tChain3 (r r' r'' : R2) (ta tb tc td : TE) : TE := fun σ H Q => ta σ H fun x H1 => tb σ H1 fun y H2 => r x y H2 fun z H3 => ∃ k, z = .bl k ∧
  (if k = true then tc σ H3 fun w' H4 => r' y w' H4 fun z' H5 => ∃ k', z' = .bl k' ∧ (if k' = true then td σ H5 fun u' H6 => r'' w' u' H6 Q else Q (.bl false) H5) else Q (.bl false) H3)
theorem pe_chain3 {op op' op'' : CmpOp} {r r' r'' : R2} (ho : OpR X (compareOp op) r) (ho' : OpR X (compareOp op') r') (ho'' : OpR X (compareOp op'') r'') (ha : PE X a ta) (hb : PE X b tb) (hc : PE X c tc) (hd : PE X d td)
    (hm : lastMarks [op, op', op''] [b, c, d] = false := by with_unfolding_all rfl) : PE X (.Compare a [op, op', op''] [b, c, d] pos) (tChain3 r r' r'' ta tb tc td) := by
  refine ⟨fun pins s σ H Q I h => ?_⟩
  refine Compare_chain (thn (ha.run pins s σ H _ I h) fun v s1 ⟨x, H1, I1, r1, q1⟩ => chain_link (thn (hb.run pins s1 σ H1 _ I1 q1) fun u s2 ⟨y, H2, I2, r2, q2⟩ =>
    thn (ho pins s2 σ H2 x y v u _ I2 r1 r2 q2) fun d s3 ⟨z, H3, I3, r3, k, e, q3⟩ => ?_)) hm
  subst e
  cases r3
  refine wpAny_truthy_bool ?_
  cases k with
  | false => exact ite_ff ⟨.bl false, H3, I3, rfl, q3⟩
  | true =>
    refine ite_tt (chain_link (thn (hc.run pins s3 σ H3 _ I3 q3) fun w' s4 ⟨z', H4, I4, r4, q4⟩ => thn (ho' pins s4 σ H4 y z' u w' _ I4 r2 r4 q4) fun d' s5 ⟨z2, H5, I5, r5, k2, e2, q5⟩ => ?_))
    subst e2
    cases r5
    refine wpAny_truthy_bool ?_
    cases k2 with
    | false => exact ite_ff ⟨.bl false, H5, I5, rfl, q5⟩
    | true => exact ite_tt (chain_last (thn (hd.run pins s5 σ H5 _ I5 q5) fun w2 s6 ⟨z3, H6, I6, r6, q6⟩ => ho'' pins s6 σ H6 z' z3 w' w2 Q I6 r4 r6 q6))
theorem v_chain3 {σ : L2.St} {H : Hp} {x y z w : V} {r r' r'' : R2} {p q s : Bool} (ha : Val ta σ H x) (hb : Val tb σ H y) (hc : Val tc σ H z) (hd : Val td σ H w) (h1 : ∀ Q : VK, Q (.bl p) H → r x y H Q) (h2 : ∀ Q : VK, Q (.bl q) H → r' y z H Q) (h3 : ∀ Q : VK, Q (.bl s) H → r'' z w H Q) :
    Val (tChain3 r r' r'' ta tb tc td) σ H (.bl (p && (q && s))) := fun Q k => by
  refine ha _ (hb _ (h1 _ ⟨p, rfl, ?_⟩))
  cases p with
  | false => exact iteF k
  | true =>
    refine iteT (hc _ (h2 _ ⟨q, rfl, ?_⟩))
    cases q with
    | false => exact iteF k
    | true => exact iteT (hd _ (h3 _ k))
/-- list(e.values()) -/
def tListV (te : TE) : TE := fun σ H Q => te σ H fun x H1 => ∃ (d : Addr) (kvs : List (Key × V)), x = .ref d ∧ H1 d = some (.dK kvs) ∧ ∀ l, H1 l = none → Q (.ref l) (upd H1 l (.lst (kvs.map (·.2))))
theorem vals_snd {κ : Type} : ∀ {kvs : List (κ × V)} {vs : List (κ × Value)}, KV kvs vs → Vals (kvs.map (·.2)) (vs.map (·.2))
  | _, _, .nil => .nil
  | _, _, .cons r t => .cons r.2 (vals_snd t)
theorem plistV {e : Expr} {te : TE} {p apos cpos : Pos} (hc : X.calm = true) (hg : Gl X "list") (hm : X.mg "list" = none) (he : PE X e te) (hv : bootBuiltins "list" = some (.type "list") := by decide +kernel) (hbase : attributeBase e "values" X.env (eval e X.env) = eval e X.env := by rfl) (hline : (apos.endLine == cpos.line) = true := by rfl)
    (hs : starEach [.Call (.Attribute e "values" apos) [] [] cpos] X.env = (false, eval (.Call (.Attribute e "values" apos) [] [] cpos) X.env) :: starEach [] X.env := by rfl) :
    PE X (.Call (.Name "list" p) [.Call (.Attribute e "values" apos) [] [] cpos] [] pos) (tListV te) := by
  refine ⟨fun pins s σ H Q I hq => ?_⟩
  refine wpAny_Call_Name_kw (ld_blt I hg hm hv ?_)
  refine PyProof.Rows.callWith_type1 ?_ hs rfl
  rw [hs]
  show wpAny _ _ (spliced ((false, eval (.Call (.Attribute e "values" apos) [] [] cpos) X.env) :: backTo pos (starEach [] X.env))) _ _ s
  refine Calls.spliced_cons ?_
  refine wpAny_Call_method (T := "dict") (id := "dict.values") hbase rfl hline F.plainAttrs_dict F.slot_dict_values F.type_dict_values (thn (he.run pins s σ H _ I hq) fun u s1 ⟨x, H1, I1, rx, d, kvs, ex, hd, q⟩ => ?_)
  subst ex
  obtain rfl : u = Value.ref d := rx
  obtain ⟨hz, hs0, vs, kv, hdo⟩ := I1.hok d _ hd
  obtain ⟨ep, hat⟩ := hdo.dictAt
  have lk : kvs.length = vs.length := Paired.length kv
  have I2 : Inv X pins σ H1 { s1 with heap := s1.heap.push { cls := .type "dict_values", data := .fields #[.ref d] } } := I1.kept (t' := s1.toks) fun b ob q => Heap.get?_push_of_some _ q
  refine ⟨hdo.typeIs, hdo.mapOf.noDict, ?_⟩
  show wpAny _ _ (callWith cpos (.builtin "dict.values") [.ref d] [] []) _ X.xe s1
  refine method_meetsIn F.slot_dict_values F.entry_dict_values rfl (PySem.evalArgs_none ⟨rfl, hdo.typeIs, F.args_dict_values_1 _, _, meets_dict_values (mixKind X.prog X.w) d hs0, ⟨vs, hdo⟩, ?_⟩)
  refine Calls.spliced_nil ?_
  refine PySem.W.kdl_call (PySem.W.kdl_values (knd := mixKind X.prog X.w) (kvs := vs) (ep := ep)) (I1.ok.hd hc) ⟨⟨_, Heap.get?_push_size _ rfl, rfl, rfl⟩, hat.push _⟩ (by omega) fun h' tk acc c hk hS hi => ?_
  have ea : acc.toList = vs.map (·.2) := PySem.W.kdl_vals_eq acc.toList (by rw [Array.length_toList]; exact hi.1) fun j v hj => hi.2 j v (by rw [← hj, Array.getElem?_toList])
  have hn : H1 (s1.heap.push { cls := .type "dict_values", data := .fields #[.ref d] }).objs.size = none := I2.hok.fresh (Nat.le_refl _)
  refine ⟨.ref _, upd H1 (s1.heap.push { cls := .type "dict_values", data := .fields #[.ref d] }).objs.size (.lst (kvs.map (·.2))), I2.laid (t' := tk) hk (Nat.le_refl _) (show ObjOk X.prog X.w _ _ _ (.lst (kvs.map (·.2))) from ⟨by rw [List.length_map]; exact hz, acc.toList, c, by rw [ea]; exact vals_snd kv, ?_⟩), rfl, q _ hn⟩
  rw [Array.toArray_toList]; exact hS
end
section
variable {X : Cx} {o e f : Expr} {apos cpos : Pos} {m : Str}
theorem m2_of (h1 : attributeBase o m X.env (eval o X.env) = eval o X.env := by rfl)
    (h2 : ((backTo cpos (starEach [e, f] X.env)).all (fun x => !x.1) && (backToKw cpos (keywordEach [] X.env)).all (fun x => x.1.isSome)
    && decide (([e, f] : List Expr).length + ([] : List Keyword).length + (if ([] : List Keyword).isEmpty then 0 else 1) < 30)) = true := by rfl)
    (h3 : (apos.endLine == cpos.line) = true := by rfl) (h4 : backTo cpos (starEach [e, f] X.env) = [(false, eval e X.env), (false, eval f X.env)] := by rfl) : M2 X o m apos e f cpos := ⟨h1, h2, h3, h4⟩
end
/-! ## loops -/
section
variable {σ : L2.St} {H : Hp} {D : Ends} {tb r : TS} {K : PySem.W.Frag} {j : Nat}
theorem s_forR {ta : TA} {n : Int} (h : Args ta σ H [.int n]) (hn : -1000000000 ≤ n ∧ n < 1000000000) (Pv : Nat → L2.St → Hp → Prop) (h0 : Pv 0 σ H)
    (hs : ∀ (i : Nat) σ' H', (i : Int) < n → Pv i σ' H' → tb { D with nx := Pv (i + 1), ct := Pv (i + 1), bk := D.nx } (σ'.set j (some (.int (i : Int)))) H') (hd : ∀ σ' H', Pv n.toNat σ' H' → D.nx σ' H') : tFor (iRng1 ta) (gName j) tb D σ H :=
  h _ ⟨n, rfl, by omega, by omega, for_range (lo := 0) (n := n.toNat) Pv h0 (fun i σ' H' hi p => by
    have e0 : (0 : Int) + (i : Int) = (i : Int) := Int.zero_add _
    show tb { D with nx := Pv (i + 1), ct := Pv (i + 1), bk := D.nx } (σ'.set j (some (.int ((0 : Int) + (i : Int))))) H'
    rw [e0]
    exact hs i σ' H' (by omega) p) hd⟩
theorem q_forR {ta : TA} {n : Int} (h : Args ta σ H [.int n]) (hn : -1000000000 ≤ n ∧ n < 1000000000) (Pv : Nat → L2.St → Hp → Prop) (h0 : Pv 0 σ H)
    (hs : ∀ (i : Nat) σ' H', (i : Int) < n → Pv i σ' H' → tb { D with nx := Pv (i + 1), ct := Pv (i + 1), bk := r D } (σ'.set j (some (.int (i : Int)))) H') (hd : ∀ σ' H', Pv n.toNat σ' H' → r D σ' H') : tSeq (tFor (iRng1 ta) (gName j) tb) r D σ H :=
  s_forR (D := { D with nx := r D }) h hn Pv h0 hs hd
theorem s_forR2 {ta : TA} {lo hi : Int} (h : Args ta σ H [.int lo, .int hi]) (h1 : -1000000000 ≤ lo ∧ lo < 1000000000) (h2 : -1000000000 ≤ hi ∧ hi < 1000000000) (Pv : Nat → L2.St → Hp → Prop) (h0 : Pv 0 σ H)
    (hs : ∀ (i : Nat) σ' H', lo + (i : Int) < hi → Pv i σ' H' → tb { D with nx := Pv (i + 1), ct := Pv (i + 1), bk := D.nx } (σ'.set j (some (.int (lo + (i : Int))))) H') (hd : ∀ σ' H', Pv (hi - lo).toNat σ' H' → D.nx σ' H') : tFor (iRng2 ta) (gName j) tb D σ H :=
  h _ ⟨lo, hi, rfl, ⟨by omega, by omega, by omega, by omega⟩, for_range (lo := lo) (n := (hi - lo).toNat) Pv h0 (fun i σ' H' hi p => hs i σ' H' (by omega) p) hd⟩
theorem q_forR2 {ta : TA} {lo hi : Int} (h : Args ta σ H [.int lo, .int hi]) (h1 : -1000000000 ≤ lo ∧ lo < 1000000000) (h2 : -1000000000 ≤ hi ∧ hi < 1000000000) (Pv : Nat → L2.St → Hp → Prop) (h0 : Pv 0 σ H)
    (hs : ∀ (i : Nat) σ' H', lo + (i : Int) < hi → Pv i σ' H' → tb { D with nx := Pv (i + 1), ct := Pv (i + 1), bk := r D } (σ'.set j (some (.int (lo + (i : Int))))) H') (hd : ∀ σ' H', Pv (hi - lo).toNat σ' H' → r D σ' H') : tSeq (tFor (iRng2 ta) (gName j) tb) r D σ H :=
  s_forR2 (D := { D with nx := r D }) h h1 h2 Pv h0 hs hd
theorem s_forL {a : Addr} {xs : List V} {tl : TE} (h : Val tl σ H (.ref a)) (hx : SqL K H a xs) (Pv : Nat → L2.St → Hp → Prop) (h0 : Pv 0 σ H) (hl : ∀ i σ' H', i ≤ xs.length → Pv i σ' H' → SqL K H' a xs)
    (hs : ∀ i x σ' H', xs[i]? = some x → Pv i σ' H' → tb { D with nx := Pv (i + 1), ct := Pv (i + 1), bk := D.nx } (σ'.set j (some x)) H') (hd : ∀ σ' H', Pv xs.length σ' H' → D.nx σ' H') : tFor (iList K tl) (gName j) tb D σ H :=
  h _ ⟨a, rfl, ⟨xs, hx⟩, for_list Pv h0 hl hs hd⟩
theorem q_forL {a : Addr} {xs : List V} {tl : TE} (h : Val tl σ H (.ref a)) (hx : SqL K H a xs) (Pv : Nat → L2.St → Hp → Prop) (h0 : Pv 0 σ H) (hl : ∀ i σ' H', i ≤ xs.length → Pv i σ' H' → SqL K H' a xs)
    (hs : ∀ i x σ' H', xs[i]? = some x → Pv i σ' H' → tb { D with nx := Pv (i + 1), ct := Pv (i + 1), bk := r D } (σ'.set j (some x)) H') (hd : ∀ σ' H', Pv xs.length σ' H' → r D σ' H') : tSeq (tFor (iList K tl) (gName j) tb) r D σ H :=
  s_forL (D := { D with nx := r D }) h hx Pv h0 hl hs hd
theorem s_forT {a : Addr} {xs : List V} {tl : TE} (h : Val tl σ H (.ref a)) (hx : SqT K H a xs) (Pv : Nat → L2.St → Hp → Prop) (h0 : Pv 0 σ H) (hl : ∀ i σ' H', i ≤ xs.length → Pv i σ' H' → SqT K H' a xs)
    (hs : ∀ i x σ' H', xs[i]? = some x → Pv i σ' H' → tb { D with nx := Pv (i + 1), ct := Pv (i + 1), bk := D.nx } (σ'.set j (some x)) H') (hd : ∀ σ' H', Pv xs.length σ' H' → D.nx σ' H') : tFor (iTup K tl) (gName j) tb D σ H :=
  h _ ⟨a, rfl, ⟨xs, hx⟩, for_tup Pv h0 hl hs hd⟩
theorem q_forT {a : Addr} {xs : List V} {tl : TE} (h : Val tl σ H (.ref a)) (hx : SqT K H a xs) (Pv : Nat → L2.St → Hp → Prop) (h0 : Pv 0 σ H) (hl : ∀ i σ' H', i ≤ xs.length → Pv i σ' H' → SqT K H' a xs)
    (hs : ∀ i x σ' H', xs[i]? = some x → Pv i σ' H' → tb { D with nx := Pv (i + 1), ct := Pv (i + 1), bk := r D } (σ'.set j (some x)) H') (hd : ∀ σ' H', Pv xs.length σ' H' → r D σ' H') : tSeq (tFor (iTup K tl) (gName j) tb) r D σ H :=
  s_forT (D := { D with nx := r D }) h hx Pv h0 hl hs hd
/-- for i, x in enumerate(xs): the pair is a new tuple, taken apart -/
theorem s_forE {a : Addr} {xs : List V} {ta : TA} {i1 i2 : Nat} (h : Args ta σ H [.ref a]) (hx : SqL K H a xs) (Pv : Nat → L2.St → Hp → Prop) (h0 : Pv 0 σ H) (hl : ∀ i σ' H', i ≤ xs.length → Pv i σ' H' → SqL K H' a xs)
    (hs : ∀ (i : Nat) x σ' H' t, xs[i]? = some x → Pv i σ' H' → H' t = none → tb { D with nx := Pv (i + 1), ct := Pv (i + 1), bk := D.nx } ((σ'.set i1 (some (.int (i : Int)))).set i2 (some x)) (upd H' t (.tup [.int (i : Int), x]))) (hd : ∀ σ' H', Pv xs.length σ' H' → D.nx σ' H') :
    tFor (iEnum K ta) (gTup K 2 (gCons (gName i1) (gCons (gName i2) gNil))) tb D σ H :=
  h _ ⟨a, xs, rfl, hx, for_it (walk_enum (K := K) (a := a) (xs := xs)) Pv h0 hl (fun i x σ' H' H'' hi p y => by
    obtain ⟨t, u, v, ex, ht, eH, e1, e2⟩ := y
    have eu : V.int (i : Int) = u := Option.some.inj e1
    subst ex eH eu
    exact ⟨t, _, rfl, SqT.of upd_same, rfl, _, _, rfl, _, _, rfl, rfl, hs i v σ' H' t e2 p ht⟩) hd⟩
theorem q_forE {a : Addr} {xs : List V} {ta : TA} {i1 i2 : Nat} (h : Args ta σ H [.ref a]) (hx : SqL K H a xs) (Pv : Nat → L2.St → Hp → Prop) (h0 : Pv 0 σ H) (hl : ∀ i σ' H', i ≤ xs.length → Pv i σ' H' → SqL K H' a xs)
    (hs : ∀ (i : Nat) x σ' H' t, xs[i]? = some x → Pv i σ' H' → H' t = none → tb { D with nx := Pv (i + 1), ct := Pv (i + 1), bk := r D } ((σ'.set i1 (some (.int (i : Int)))).set i2 (some x)) (upd H' t (.tup [.int (i : Int), x]))) (hd : ∀ σ' H', Pv xs.length σ' H' → r D σ' H') :
    tSeq (tFor (iEnum K ta) (gTup K 2 (gCons (gName i1) (gCons (gName i2) gNil))) tb) r D σ H := s_forE (D := { D with nx := r D }) h hx Pv h0 hl hs hd
/-! ## tests that are known -/
variable {tt : TT} {t u : TS} {b : Bool} {te ta : TE} {x : V} {ts : TA}
theorem q_yes (h : Ans tt σ H b) (e : b = true) (q : t { D with nx := r D } σ H) : tSeq (tIfS tt t u) r D σ H := g_ifA h (fun _ => q) (fun z => by rw [e] at z; cases z)
theorem q_no (h : Ans tt σ H b) (e : b = false) (q : r D σ H) : tSeq (tIfS tt t tNext) r D σ H := g_ifA h (fun z => by rw [e] at z; cases z) (fun _ => q)
theorem g_yes (h : Ans tt σ H b) (e : b = true) (q : t D σ H) : tIfS tt t u D σ H := g_ifA h (fun _ => q) (fun z => by rw [e] at z; cases z)
theorem g_no (h : Ans tt σ H b) (e : b = false) (q : u D σ H) : tIfS tt t u D σ H := g_ifA h (fun z => by rw [e] at z; cases z) (fun _ => q)
theorem v_isN (ha : Val ta σ H x) : Val (tOp rIsN ta (tC .non)) σ H (.bl (decide (x = .non))) := v_op ha val_c fun _ q => ⟨rfl, q⟩
theorem v_notN (ha : Val ta σ H x) : Val (tOp rNotN ta (tC .non)) σ H (.bl (!decide (x = .non))) := v_op ha val_c fun _ q => ⟨rfl, q⟩
theorem v_isi {T A : String} (h : Args ts σ H [x, .ty T]) (ht : TyX K H x (.type A)) (hk : kitB A T = some b) : Val (tCB (rIsi K) ts) σ H (.bl b) := v_cb h fun _ q => ⟨x, .ty T, .type A, .type T, b, rfl, .ty T, ht, kit_ty hk, q⟩
theorem v_isiT {T A : String} (h : Args ts σ H [x, .ty T]) (ht : TyX K H x (.type A)) (hk : kitB A T = some true) : Val (tCB (rIsi K) ts) σ H (.bl true) := v_isi h ht hk
theorem v_isiF {T A : String} (h : Args ts σ H [x, .ty T]) (ht : TyX K H x (.type A)) (hk : kitB A T = some false) : Val (tCB (rIsi K) ts) σ H (.bl false) := v_isi h ht hk
theorem v_ixS {p : Addr} {xs : List V} {tb : TE} {n : Int} {v : V} (ha : Val ta σ H (.ref p)) (hb : Val tb σ H (.int n)) (h : SqL K H p xs ∨ SqT K H p xs) (e : atI xs n = some v) : Val (tOp (rIx K) ta tb) σ H v := v_op ha hb fun _ q => by
  rcases h with h | h
  · exact Or.inl ⟨p, xs, n, v, rfl, rfl, h, e, q⟩
  · exact Or.inr (Or.inl ⟨p, xs, n, v, rfl, rfl, h, e, q⟩)
end
end Cl

/-! ## ComSp -/
namespace Cl
open PySem PySem.Spec PyProof.Rows L2
/-! ## heaps: all but S is kept -/
def Kp (S : List Addr) (H H' : Hp) : Prop := ∀ b o, b ∉ S → H b = some o → H' b = some o
theorem Kp.refl (S : List Addr) (H : Hp) : Kp S H H := fun _ _ _ e => e
theorem Kp.trans {S : List Addr} {H H1 H2 : Hp} (a : Kp S H H1) (b : Kp S H1 H2) : Kp S H H2 := fun c o n e => b c o n (a c o n e)
theorem Kp.mono {S T : List Addr} {H H1 : Hp} (a : Kp S H H1) (h : ∀ x ∈ S, x ∈ T) : Kp T H H1 := fun c o n e => a c o (fun z => n (h c z)) e
theorem Kp.upd {S : List Addr} {H H1 : Hp} {p : Addr} {o : HO} (a : Kp S H H1) (h : p ∈ S) : Kp S H (upd H1 p o) := fun c u n e => by
  have hne : c ≠ p := fun z => n (by rw [z]; exact h)
  rw [upd_ne hne]
  exact a c u n e
theorem Kp.new {S : List Addr} {H H1 : Hp} {p : Addr} {o : HO} (a : Kp S H H1) (h : H1 p = none) : Kp S H (L2.upd H1 p o) := fun c u n e => by
  have e1 := a c u n e
  rw [upd_ne (ne_of_none e1 h)]
  exact e1
/-- an object that came behind H may change -/
theorem Kp.mut {S : List Addr} {H H1 : Hp} {p : Addr} {o : HO} (a : Kp S H H1) (h : H p = none) : Kp S H (L2.upd H1 p o) := fun c u n e => by
  rw [upd_ne (ne_of_none e h)]
  exact a c u n e
theorem Kp.free {S : List Addr} {H H1 : Hp} {p : Addr} (a : Kp S H H1) (hs : p ∉ S) (h : H1 p = none) : H p = none := by
  cases e : H p with
  | none => rfl
  | some o => rw [a p o hs e] at h; cases h
theorem Kp.of {H H1 : Hp} (S : List Addr) (a : Kp [] H H1) : Kp S H H1 := a.mono fun _ z => nomatch z
/-- a pool: what draws are made of -/
def Pool (H : Hp) (p : Addr) : Prop := ∃ a f c : Int, H p = some (.lst [.int a, .int f, .int c]) ∧ 0 ≤ a ∧ 0 ≤ c
theorem Pool.some {H : Hp} {p : Addr} (h : Pool H p) : ∃ o, H p = some o := let ⟨_, _, _, e, _⟩ := h; ⟨_, e⟩
theorem Pool.ne {H : Hp} {p q : Addr} (h : Pool H p) (hq : H q = none) : q ≠ p := fun z => by
  obtain ⟨_, _, _, e, _⟩ := h
  rw [z, e] at hq; cases hq
theorem Pool.upd {H : Hp} {p q : Addr} {o : HO} (h : Pool H p) (hn : p ≠ q) : Pool (upd H q o) p := by
  obtain ⟨a, f, c, e, z⟩ := h
  exact ⟨a, f, c, by rw [upd_ne hn]; exact e, z⟩
theorem Pool.new {H : Hp} {p q : Addr} {o : HO} (h : Pool H p) (hq : H q = none) : Pool (L2.upd H q o) p := h.upd (h.ne hq).symm
/-! ## data of depth n at most -/
def Dat (H : Hp) : Nat → PyData → V → Prop
  | _, .none, v => v = .non
  | _, .bool b, v => v = .bl b
  | _, .int i, v => v = .int i
  | _, .str s, v => v = .str s
  | n + 1, .list ds, v => ∃ a vs, v = .ref a ∧ H a = some (.lst vs) ∧ ds.length ≤ 1000000 ∧ vs.length = ds.length ∧ ∀ (i : Nat) d x, ds[i]? = some d → vs[i]? = some x → Dat H n d x
  | n + 1, .tuple ds, v => ∃ a vs, v = .ref a ∧ H a = some (.tup vs) ∧ ds.length ≤ 1000000 ∧ vs.length = ds.length ∧ ∀ (i : Nat) d x, ds[i]? = some d → vs[i]? = some x → Dat H n d x
  | _, _, _ => False
/-! ## promises of the law's common defs -/
def sp_l_cell (K : PySem.W.Frag) : Sp := fun vs H Q _ => ∃ (a : Addr) (ns : List Int) (k : Int), vs = [.ref a, .int k] ∧ SqL K H a (ns.map V.int) ∧ 0 ≤ k ∧ ∀ i, 0 ≤ i → Q (.int i) H
def sp_l_pool (K : PySem.W.Frag) : Sp := fun vs H Q _ => ∃ (a : Addr) (ns : List Int) (k : Int), vs = [.ref a, .int k] ∧ SqL K H a (ns.map V.int) ∧ 0 ≤ k ∧ k < 1000000 ∧
  ∀ p H', H p = none → Kp [] H H' → Pool H' p → Q (.ref p) H'
def sp_l_take : Sp := fun vs H Q _ => ∃ (p : Addr) (m : Int), vs = [.ref p, .int m] ∧ Pool H p ∧ 0 < m ∧ m < 4611686018427387904 ∧ ∀ r H', 0 ≤ r → r < m → Kp [p] H H' → (∀ b, H b = none → H' b = none) → Pool H' p → Q (.int r) H'
/-- both the same data -/
def sp_l_same_n (n : Nat) : Sp := fun vs H Q _ => ∃ (x y : V) (d : PyData), vs = [x, y] ∧ Dat H n d x ∧ Dat H n d y ∧ Q (.bl true) H
def sp_l_same_r : Nat → Sp
  | 0 => fun _ _ _ _ => False
  | n + 1 => sp_l_same_n n
def sp_l_same : Sp := fun vs H Q E => ∃ n, n < 8 ∧ sp_l_same_n n vs H Q E
theorem len_l_cell {K : PySem.W.Frag} {vs H Q E} (h : sp_l_cell K vs H Q E) : vs.length = 2 := by obtain ⟨_, _, _, rfl, _⟩ := h; rfl
theorem len_l_pool {K : PySem.W.Frag} {vs H Q E} (h : sp_l_pool K vs H Q E) : vs.length = 2 := by obtain ⟨_, _, _, rfl, _⟩ := h; rfl
theorem len_l_take {vs H Q E} (h : sp_l_take vs H Q E) : vs.length = 2 := by obtain ⟨_, _, rfl, _⟩ := h; rfl
theorem len_l_same {n vs H Q E} (h : sp_l_same_n n vs H Q E) : vs.length = 2 := by obtain ⟨_, _, _, rfl, _⟩ := h; rfl
theorem call_cell {K : PySem.W.Frag} {H : Hp} {Q : VK} {E : XK} {a : Addr} {ns : List Int} {k : Int} (h : SqL K H a (ns.map V.int)) (h0 : 0 ≤ k) (q : ∀ i, 0 ≤ i → Q (.int i) H) : sp_l_cell K [.ref a, .int k] H Q E := ⟨a, ns, k, rfl, h, h0, q⟩
theorem call_pool {K : PySem.W.Frag} {H : Hp} {Q : VK} {E : XK} {a : Addr} {ns : List Int} {k : Int} (h : SqL K H a (ns.map V.int)) (h0 : 0 ≤ k) (h1 : k < 1000000) (q : ∀ p H', H p = none → Kp [] H H' → Pool H' p → Q (.ref p) H') : sp_l_pool K [.ref a, .int k] H Q E := ⟨a, ns, k, rfl, h, h0, h1, q⟩
theorem call_take {H : Hp} {Q : VK} {E : XK} {p : Addr} {m : Int} (h : Pool H p) (h0 : 0 < m) (h1 : m < 4611686018427387904) (q : ∀ r H', 0 ≤ r → r < m → Kp [p] H H' → (∀ b, H b = none → H' b = none) → Pool H' p → Q (.int r) H') : sp_l_take [.ref p, .int m] H Q E := ⟨p, m, rfl, h, h0, h1, q⟩
theorem call_same {H : Hp} {Q : VK} {E : XK} {x y : V} (n : Nat) (d : PyData) (hn : n < 8) (hx : Dat H n d x) (hy : Dat H n d y) (q : Q (.bl true) H) : sp_l_same [x, y] H Q E := ⟨n, hn, x, y, d, rfl, hx, hy, q⟩
theorem atI_ints {ns : List Int} {i : Int} (h0 : 0 ≤ i) (h1 : i < ns.length) : atI (ns.map V.int) i = some (.int (ns.getD i.toNat 0)) := by
  refine atI_of h0 ?_
  rw [List.getElem?_map]
  have h : i.toNat < ns.length := by omega
  simp [List.getElem?_eq_getElem h, List.getD_eq_getElem?_getD]
/-! ## comprehensions: xs.filter g, mapped by f; the elements leave the heap (they are read behind any more of it) -/
section
variable {σ : L2.St} {H : Hp} {K : PySem.W.Frag} {j : Nat} {vs : List Nat} {tt : TT} {te tl : TE} {Q : VK}
theorem a_yes {σ : L2.St} {H : Hp} : Ans tYes σ H true := fun _ q => q
def lcT (xs : List V) (f : V → V) (g : V → Bool) (i : Nat) : List V := ((xs.take i).filter g).map f
theorem lcT_yes {xs : List V} {f : V → V} {g : V → Bool} {i : Nat} {x : V} (h : xs[i]? = some x) (hg : g x = true) : lcT xs f g (i + 1) = lcT xs f g i ++ [f x] := by
  unfold lcT
  rw [List.take_succ, h, List.filter_append, List.map_append]
  simp [hg]
theorem lcT_no {xs : List V} {f : V → V} {g : V → Bool} {i : Nat} {x : V} (h : xs[i]? = some x) (hg : g x = false) : lcT xs f g (i + 1) = lcT xs f g i := by
  unfold lcT
  rw [List.take_succ, h, List.filter_append, List.map_append]
  simp [hg]
theorem lcT_len (xs : List V) (f : V → V) (g : V → Bool) (i : Nat) : (lcT xs f g i).length ≤ xs.length := by
  unfold lcT
  rw [List.length_map]
  exact Nat.le_trans (List.length_filter_le _ _) (by rw [List.length_take]; omega)
def LcW (H : Hp) (xs : List V) (f : V → V) (g : V → Bool) (Dl : Addr) (i : Nat) (H' : Hp) : Prop := H' = upd H Dl (.lst (lcT xs f g i))
theorem lc_turn {H H' : Hp} {xs : List V} {f : V → V} {g : V → Bool} {Dl : Addr} {i : Nat} {x : V} {σ2 : L2.St} (p : LcW H xs f g Dl i H') (hi : xs[i]? = some x) (hz : xs.length ≤ 1000000) (hD : H Dl = none)
    (ht : Ans tt σ2 H' (g x)) (he : g x = true → Val te σ2 H' (f x)) :
    tt σ2 H' fun b H3 => if b = true then te σ2 H3 fun y H4 => ∃ acc, H4 Dl = some (.lst acc) ∧ acc.length < sizeLine ∧ LcW H xs f g Dl (i + 1) (upd H4 Dl (.lst (acc ++ [y]))) else LcW H xs f g Dl (i + 1) H3 := by
  unfold LcW at p
  subst p
  refine ht _ ?_
  cases hg : g x with
  | true =>
    refine iteT (he hg _ ⟨_, upd_same, ?_, ?_⟩)
    · have := lcT_len xs f g i
      exact Nat.lt_of_le_of_lt (Nat.le_trans this hz) (by decide)
    · show _ = _
      rw [upd_upd, lcT_yes hi hg]
  | false =>
    refine iteF ?_
    show _ = _
    rw [lcT_no hi hg]
theorem lcT_all (xs : List V) (f : V → V) (g : V → Bool) : lcT xs f g xs.length = (xs.filter g).map f := by unfold lcT; rw [List.take_length]
/-- over a list -/
theorem e_lcL {a : Addr} {xs : List V} (f : V → V) (g : V → Bool) (h : Val tl σ H (.ref a)) (hx : SqL K H a xs) (hz : xs.length ≤ 1000000) (hw : ∀ x, wipe ((wipe σ vs).set j (some x)) vs = wipe σ vs)
    (ht : ∀ (i : Nat) x Dl o, xs[i]? = some x → H Dl = none → Ans tt ((wipe σ vs).set j (some x)) (upd H Dl o) (g x)) (he : ∀ (i : Nat) x Dl o, xs[i]? = some x → g x = true → H Dl = none → Val te ((wipe σ vs).set j (some x)) (upd H Dl o) (f x))
    (q : ∀ Dl, H Dl = none → Q (.ref Dl) (upd H Dl (.lst ((xs.filter g).map f)))) : tLc (iList K tl) (gName j) tt te vs σ H Q :=
  h _ ⟨a, rfl, ⟨xs, hx⟩, fun Dl hD => lc_list (K := K) (a := a) (xs := xs) (LcW H xs f g Dl) rfl (fun i H' _ p => by
    unfold LcW at p
    subst p
    rcases hx with (hx | ⟨o, hx⟩) | hx
    · exact .inl (.inl (by rw [upd_ne (ne_of_none hx hD)]; exact hx))
    · exact .inl (.inr ⟨o, by rw [upd_ne (ne_of_none hx hD)]; exact hx⟩)
    · exact .inr hx) (fun i x H' hi p => ⟨hw x, lc_turn p hi hz hD (by rw [show H' = _ from p]; exact ht i x Dl _ hi hD) (fun hg => by rw [show H' = _ from p]; exact he i x Dl _ hi hg hD)⟩)
    (fun H' p => by rw [show H' = _ from p, lcT_all]; exact q Dl hD)⟩
/-- over a tuple -/
theorem e_lcT {a : Addr} {xs : List V} (f : V → V) (g : V → Bool) (h : Val tl σ H (.ref a)) (hx : SqT K H a xs) (hz : xs.length ≤ 1000000) (hw : ∀ x, wipe ((wipe σ vs).set j (some x)) vs = wipe σ vs)
    (ht : ∀ (i : Nat) x Dl o, xs[i]? = some x → H Dl = none → Ans tt ((wipe σ vs).set j (some x)) (upd H Dl o) (g x)) (he : ∀ (i : Nat) x Dl o, xs[i]? = some x → g x = true → H Dl = none → Val te ((wipe σ vs).set j (some x)) (upd H Dl o) (f x))
    (q : ∀ Dl, H Dl = none → Q (.ref Dl) (upd H Dl (.lst ((xs.filter g).map f)))) : tLc (iTup K tl) (gName j) tt te vs σ H Q :=
  h _ ⟨a, rfl, ⟨xs, hx⟩, fun Dl hD => lc_tup (K := K) (a := a) (xs := xs) (LcW H xs f g Dl) rfl (fun i H' _ p => by
    unfold LcW at p
    subst p
    rcases hx with (hx | ⟨o, hx⟩) | hx
    · exact .inl (.inl (by rw [upd_ne (ne_of_none hx hD)]; exact hx))
    · exact .inl (.inr ⟨o, by rw [upd_ne (ne_of_none hx hD)]; exact hx⟩)
    · exact .inr hx) (fun i x H' hi p => ⟨hw x, lc_turn p hi hz hD (by rw [show H' = _ from p]; exact ht i x Dl _ hi hD) (fun hg => by rw [show H' = _ from p]; exact he i x Dl _ hi hg hD)⟩)
    (fun H' p => by rw [show H' = _ from p, lcT_all]; exact q Dl hD)⟩
def rgI (n : Nat) : List V := (List.range n).map fun i => V.int (i : Nat)
theorem rgI_at {n i : Nat} (h : i < n) : (rgI n)[i]? = some (.int (i : Nat)) := by unfold rgI; simp [h]
theorem rgI_len (n : Nat) : (rgI n).length = n := by unfold rgI; simp
/-- over range(n) -/
theorem e_lcR {ta : TA} {n : Int} (f : V → V) (g : V → Bool) (h : Args ta σ H [.int n]) (hn : 0 ≤ n ∧ n ≤ 1000000) (hw : ∀ x, wipe ((wipe σ vs).set j (some x)) vs = wipe σ vs)
    (ht : ∀ (i : Nat) Dl o, (i : Int) < n → H Dl = none → Ans tt ((wipe σ vs).set j (some (.int (i : Nat)))) (upd H Dl o) (g (.int (i : Nat)))) (he : ∀ (i : Nat) Dl o, (i : Int) < n → g (.int (i : Nat)) = true → H Dl = none → Val te ((wipe σ vs).set j (some (.int (i : Nat)))) (upd H Dl o) (f (.int (i : Nat))))
    (q : ∀ Dl, H Dl = none → Q (.ref Dl) (upd H Dl (.lst (((rgI n.toNat).filter g).map f)))) : tLc (iRng1 ta) (gName j) tt te vs σ H Q :=
  h _ ⟨n, rfl, by omega, by omega, fun Dl hD => lc_range (lo := 0) (n := n.toNat) (LcW H (rgI n.toNat) f g Dl) rfl (fun i H' hi p => by
    have e0 : (0 : Int) + (i : Int) = (i : Int) := Int.zero_add _
    show wipe ((wipe σ vs).set j (some (.int ((0 : Int) + (i : Int))))) vs = wipe σ vs ∧ tt ((wipe σ vs).set j (some (.int ((0 : Int) + (i : Int))))) H' fun b H3 => if b = true then te ((wipe σ vs).set j (some (.int ((0 : Int) + (i : Int))))) H3 fun y H4 => ∃ acc, H4 Dl = some (.lst acc) ∧ acc.length < sizeLine ∧ LcW H (rgI n.toNat) f g Dl (i + 1) (upd H4 Dl (.lst (acc ++ [y]))) else LcW H (rgI n.toNat) f g Dl (i + 1) H3
    rw [e0]
    exact ⟨hw _, lc_turn p (rgI_at hi) (by rw [rgI_len]; omega) hD (by rw [show H' = _ from p]; exact ht i Dl _ (by omega) hD) (fun hg => by rw [show H' = _ from p]; exact he i Dl _ (by omega) hg hD)⟩)
    (fun H' p => by
      have e := lcT_all (rgI n.toNat) f g
      rw [rgI_len] at e
      rw [show H' = _ from p, e]
      exact q Dl hD)⟩
end
section
variable {σ : L2.St} {H : Hp} {K : PySem.W.Frag} {D : Ends} {r : TS} {ta tv to : TE} {a C dx p : Addr} {fs : List (Str × V)} {f : Str} {x y v : V} {ts : TA} {ys : List V} {Q : VK}
theorem v_fld (h : Val ta σ H (.ref a)) (ho : H a = some (.ins C dx fs)) (hc : Cls K C) (hn : NoAttr K C f) (hl : fs.lookup f = some v) : Val (tFld K ta f) σ H v := val_fld h ho hc hn hl
theorem s_fld (hv : Val tv σ H y) (ha : Val ta σ H (.ref a)) (ho : H a = some (.ins C dx fs)) (hc : Cls K C) (hn : NoAttr K C f) (hl : fs.length < 1000) (q : D.nx σ (upd H a (.ins C dx (putF f y fs)))) : sFld K ta tv f D σ H :=
  hv _ (ha _ ⟨a, C, dx, fs, rfl, ho, hc, hn, hl, q⟩)
theorem q_fld (hv : Val tv σ H y) (ha : Val ta σ H (.ref a)) (ho : H a = some (.ins C dx fs)) (hc : Cls K C) (hn : NoAttr K C f) (hl : fs.length < 1000) (q : r D σ (upd H a (.ins C dx (putF f y fs)))) : tSeq (sFld K ta tv f) r D σ H :=
  hv _ (ha _ ⟨a, C, dx, fs, rfl, ho, hc, hn, hl, q⟩)
/-- the value any -/
theorem s_fldc (h : tv σ H fun y H1 => ta σ H1 fun x H2 => ∃ a C dx fs, x = .ref a ∧ H2 a = some (.ins C dx fs) ∧ Cls K C ∧ NoAttr K C f ∧ fs.length < 1000 ∧ D.nx σ (upd H2 a (.ins C dx (putF f y fs)))) : sFld K ta tv f D σ H := h
theorem v_tupT (h : Args ts σ H [.ref p]) (ht : SqT K H p ys) : Val (tCB (rTupOf K) ts) σ H (.ref p) := v_cb h fun _ q => ⟨p, ys, rfl, .inr ⟨ht, q⟩⟩
theorem e_tupL (h : Args ts σ H [.ref p]) (hl : SqL K H p ys) (q : ∀ l, H l = none → Q (.ref l) (upd H l (.tup ys))) : tCB (rTupOf K) ts σ H Q := h _ ⟨p, ys, rfl, .inl ⟨hl, q⟩⟩
theorem e_listL (h : Args ts σ H [.ref p]) (hl : SqL K H p ys) (q : ∀ l, H l = none → Q (.ref l) (upd H l (.lst ys))) : tCB (rListOf K) ts σ H Q := h _ ⟨p, ys, rfl, .inl hl, q⟩
theorem e_listT (h : Args ts σ H [.ref p]) (hl : SqT K H p ys) (q : ∀ l, H l = none → Q (.ref l) (upd H l (.lst ys))) : tCB (rListOf K) ts σ H Q := h _ ⟨p, ys, rfl, .inr hl, q⟩
theorem e_lstRg {te : TE} {n : Int} (h : Val te σ H (.int n)) (hn : 0 ≤ n ∧ n ≤ 1000000) (q : ∀ l, H l = none → Q (.ref l) (upd H l (.lst (rgI n.toNat)))) : tLstRg (tRg1 te) σ H Q := h _ ⟨n, rfl, RgOk.of_le (by decide) (by omega) (by decide) hn.1, fun l hl => by
  have e : rgV 0 n = rgI n.toNat := by unfold rgV rgI; simp
  rw [e]; exact q l hl⟩
end
/-! ## slices, sums of lists -/
section
variable {σ : L2.St} {H : Hp} {K : PySem.W.Frag} {te : TE} {a : Addr} {xs : List V} {lo hi : Option Int} {tl th : TO} {Q : VK}
def Part (to : TO) (σ : L2.St) (H : Hp) (o : Option Int) : Prop := ∀ Q : Option Int → Hp → Prop, Q o H → to σ H Q
theorem pt_none : Part tNoPart σ H none := fun _ q => q
theorem pt_some {i : Int} (h : Val te σ H (.int i)) : Part (tPart te) σ H (some i) := fun _ q => h _ ⟨i, rfl, q⟩
theorem e_slL (h : Val te σ H (.ref a)) (h1 : Part tl σ H lo) (h2 : Part th σ H hi) (hs : SqL K H a xs) (q : ∀ p, H p = none → Q (.ref p) (upd H p (.lst (cutV xs lo hi)))) : tSl (rSlL K) te tl th σ H Q :=
  h _ (h1 _ (h2 _ ⟨a, xs, rfl, hs, q⟩))
theorem cut_to {xs : List V} {k : Int} (h0 : 0 ≤ k) : cutV xs none (some k) = xs.take k.toNat := by
  unfold cutV
  show (xs.drop 0).take ((if k < 0 then (k + (xs.length : Int)).toNat else min k.toNat xs.length) - 0) = _
  rw [if_neg (by omega), List.drop_zero, Nat.sub_zero]
  by_cases h : k.toNat ≤ xs.length
  · rw [Nat.min_eq_left h]
  · rw [Nat.min_eq_right (by omega), List.take_length, List.take_of_length_le (by omega)]
theorem cut_from {xs : List V} {k : Int} (h0 : 0 ≤ k) : cutV xs (some k) none = xs.drop k.toNat := by
  unfold cutV
  show (xs.drop (if k < 0 then (k + (xs.length : Int)).toNat else min k.toNat xs.length)).take (xs.length - (if k < 0 then (k + (xs.length : Int)).toNat else min k.toNat xs.length)) = _
  rw [if_neg (by omega)]
  by_cases h : k.toNat ≤ xs.length
  · rw [Nat.min_eq_left h]
    exact List.take_of_length_le (by rw [List.length_drop]; omega)
  · rw [Nat.min_eq_right (by omega), List.drop_length, List.take_nil, List.drop_of_length_le (by omega)]
theorem cut_all {xs : List V} : cutV xs none none = xs := by
  unfold cutV
  show (xs.drop 0).take (xs.length - 0) = xs
  rw [List.drop_zero, Nat.sub_zero, List.take_length]
theorem e_appc {to : TE} {p : Addr} {xs : List V} (ho : Val to σ H (.ref p)) (hp : H p = some (.lst xs)) (h : te σ H fun y H2 => tNil σ H2 fun ys H3 => rAppend (.ref p) (y :: ys) H3 Q) : tBM K "list" rAppend to (tCons te tNil) σ H Q :=
  ho _ ⟨Or.inl ⟨rfl, xs, SqL.of hp⟩, h⟩
theorem e_bmc {to : TE} {ts : TA} {T : String} {r : V → List V → Hp → VK → Prop} (h : to σ H fun x H1 => tyV K T x H1 ∧ ts σ H1 fun xs H2 => r x xs H2 Q) : tBM K T r to ts σ H Q := h
theorem e_setd {td ty tx : TE} (h : td σ H fun x H1 => ∃ a, x = .ref a ∧ IsD H1 a ∧ ty σ H1 fun y H2 => tx σ H2 fun z H3 => ∃ (kvs : List (Key × V)) (k : Key), H3 a = some (.dK kvs) ∧ y = kV k ∧ kvs.length < sizeLine ∧
  (∀ v, valV kvs k = some v → Q v H3) ∧ (valV kvs k = none → Q z (upd H3 a (.dK (putK kvs k z))))) : tDSetd td ty tx σ H Q := h
theorem e_listV (h : te σ H fun x H1 => ∃ (d : Addr) (kvs : List (Key × V)), x = .ref d ∧ H1 d = some (.dK kvs) ∧ ∀ l, H1 l = none → Q (.ref l) (upd H1 l (.lst (kvs.map (·.2))))) : tListV te σ H Q := h
theorem e_meth {C : Addr} {m : Str} {sp : Sp} {E : XK} {ta : TE} {ts : TA} {a dx : Addr} {fs : List (Str × V)} (h : Val ta σ H (.ref a)) (ha : H a = some (.ins C dx fs)) (hf : fs.lookup m = none) (q : ts σ H fun vs H2 => sp (.ref a :: (vs ++ [])) H2 Q E) : tMeth C m sp [] E ta ts σ H Q := h _ ⟨a, dx, fs, rfl, ha, hf, q⟩
theorem e_cat {l b : Addr} {xs zs : List V} (hl : H l = some (.lst xs)) (hb : H b = some (.lst zs)) (hz : xs.length + zs.length ≤ 1000000) (q : ∀ p, H p = none → Q (.ref p) (upd H p (.lst (xs ++ zs)))) : rCat (.ref l) (.ref b) H Q :=
  ⟨l, b, xs, zs, rfl, rfl, hl, hb, Nat.le_trans hz (by decide), q⟩
theorem sz_lt {n : Nat} (h : n ≤ 1000000) : n < sizeLine := Nat.lt_of_le_of_lt h (by decide)
theorem rgI_map (n : Nat) : rgI n = ((List.range n).map fun (i : Nat) => (i : Int)).map V.int := by
  unfold rgI
  rw [List.map_map]
  rfl
theorem map_int_inj {L M : List Int} (h : L.map V.int = M.map V.int) : L = M := by
  induction L generalizing M with
  | nil => cases M with
    | nil => rfl
    | cons b M => simp at h
  | cons a L ih => cases M with
    | nil => simp at h
    | cons b M =>
      simp at h
      rw [h.1, ih (by simpa using h.2)]
end
end Cl

/-! ## ComTx -/

namespace Cl
open PySem PySem.Spec PyProof.Rows L2
abbrev N_l_cell : List Str := ["_law_script", "_law_k"]
def t_l_cell (K : PySem.W.Frag) : TS :=
  (tSeq (tIfS (tTest (tOp oLt (tVar 1) (tCB (rLen K) (tCons (tVar 0) tNil)))) (tRet (tCB rAbs (tCons (tOp (rIxL K) (tVar 0) (tVar 1)) tNil))) tNext)
    (tRet (tC (.int 0))))
abbrev N_l_pool : List Str := ["_law_script", "_law_k", "_law_cell_here"]
def t_l_pool (K : PySem.W.Frag) : TS :=
  (tSeq (tAsg (tCall (sp_l_cell K) [] E0 (tCons (tVar 0) (tCons (tVar 1) tNil))) (gName 2))
    (tRet (tLst (tCons (tVar 2) (tCons (tCB rInt1 (tCons (tOp oGe (tVar 2) (tOp oPow (tC (.int 10)) (tC (.int 18)))) tNil)) (tCons (tOp oMul (tC (.int 1000)) (tVar 1)) tNil))))))
abbrev N_l_take : List Str := ["_law_pool_here", "_law_many_here", "_law_mixed", "_law_drawn"]
def t_l_take (K : PySem.W.Frag) : TS :=
  (tSeq (tIfS (tAnd (tTest (tOp rEq (tOp (rIxL K) (tVar 0) (tC (.int 1))) (tC (.int 1)))) (tTest (tOp oGt (tOp (rIxL K) (tVar 0) (tC (.int 0))) (tC (.int 1))))) (tSeq (tAsg (tOp oMod (tCB rInt1 (tCons (tOp (rIxL K) (tVar 0) (tC (.int 0))) tNil)) (tVar 1)) (gName 3))
    (tSeq (tAsg (tOp oDiv (tOp (rIxL K) (tVar 0) (tC (.int 0))) (tVar 1)) (gSub (tVar 0) (tC (.int 0)) rSetL))
    (tRet (tVar 3)))) tNext)
    (tSeq (tAsg (tOp oAdd (tOp (rIxL K) (tVar 0) (tC (.int 2))) (tC (.int 1))) (gSub (tVar 0) (tC (.int 2)) rSetL))
    (tSeq (tAsg (tOp oMod (tCB rInt1 (tCons (tOp oAdd (tOp oMul (tOp oAdd (tOp (rIxL K) (tVar 0) (tC (.int 0))) (tC (.int 7))) (tC (.int 48271))) (tOp oMul (tOp (rIxL K) (tVar 0) (tC (.int 2))) (tC (.int 69621)))) tNil)) (tC (.int 2147483629))) (gName 2))
    (tSeq (tAsg (tOp oMod (tCB rInt1 (tCons (tOp oAdd (tOp oMul (tVar 2) (tC (.int 16807))) (tOp oMul (tOp (rIxL K) (tVar 0) (tC (.int 2))) (tC (.int 7919)))) tNil)) (tC (.int 2147483587))) (gName 2))
    (tSeq (tIfS (tTest (tOp oGt (tOp (rIxL K) (tVar 0) (tC (.int 0))) (tC (.int 15)))) (tAsg (tOp oMod (tCB rInt1 (tCons (tOp oMul (tOp oDiv (tVar 2) (tC (.int 7))) (tOp oAdd (tOp oAdd (tOp oDiv (tVar 2) (tC (.int 1009))) (tOp (rIxL K) (tVar 0) (tC (.int 2)))) (tC (.int 3)))) tNil)) (tC (.int 2147483563))) (gName 2)) tNext)
    (tRet (tOp oMod (tCB rInt1 (tCons (tOp oDiv (tVar 2) (tC (.int 11))) tNil)) (tVar 1))))))))
abbrev N_l_same : List Str := ["_law_got", "_law_due", "_law_k"]
def t_l_same (K : PySem.W.Frag) (sp : Sp) : TS :=
  (tSeq (tIfS (tOr (tB (tCB (rIsi K) (tCons (tVar 0) (tCons (tC (.ty "bool")) tNil)))) (tB (tCB (rIsi K) (tCons (tVar 1) (tCons (tC (.ty "bool")) tNil))))) (tRet (tAndV (tCB (rIsi K) (tCons (tVar 0) (tCons (tC (.ty "bool")) tNil))) (tAndV (tCB (rIsi K) (tCons (tVar 1) (tCons (tC (.ty "bool")) tNil))) (tOp rEq (tVar 0) (tVar 1))))) tNext)
    (tSeq (tIfS (tOr (tTest (tOp rIsN (tVar 0) (tC .non))) (tTest (tOp rIsN (tVar 1) (tC .non)))) (tRet (tAndV (tOp rIsN (tVar 0) (tC .non)) (tOp rIsN (tVar 1) (tC .non)))) tNext)
    (tSeq (tIfS (tB (tCB (rIsi K) (tCons (tVar 1) (tCons (tC (.ty "int")) tNil)))) (tRet (tAndV (tCB (rIsi K) (tCons (tVar 0) (tCons (tC (.ty "int")) tNil))) (tOp rEq (tVar 0) (tVar 1)))) tNext)
    (tSeq (tIfS (tB (tCB (rIsi K) (tCons (tVar 1) (tCons (tC (.ty "str")) tNil)))) (tRet (tAndV (tCB (rIsi K) (tCons (tVar 0) (tCons (tC (.ty "str")) tNil))) (tOp rEq (tVar 0) (tVar 1)))) tNext)
    (tSeq (tIfS (tAnd (tB (tCB (rIsi K) (tCons (tVar 1) (tCons (tC (.ty "list")) tNil)))) (tNot (tB (tCB (rIsi K) (tCons (tVar 0) (tCons (tC (.ty "list")) tNil)))))) (tRet (tC (.bl false))) tNext)
    (tSeq (tIfS (tAnd (tB (tCB (rIsi K) (tCons (tVar 1) (tCons (tC (.ty "tuple")) tNil)))) (tNot (tB (tCB (rIsi K) (tCons (tVar 0) (tCons (tC (.ty "tuple")) tNil)))))) (tRet (tC (.bl false))) tNext)
    (tSeq (tIfS (tTest (tOp rNe (tCB (rLen K) (tCons (tVar 0) tNil)) (tCB (rLen K) (tCons (tVar 1) tNil)))) (tRet (tC (.bl false))) tNext)
    (tSeq (tFor (iRng1 (tCons (tCB (rLen K) (tCons (tVar 1) tNil)) tNil)) (gName 2) (tIfS (tNot (tB (tCall (sp) [] E0 (tCons (tOp (rIx K) (tVar 0) (tVar 2)) (tCons (tOp (rIx K) (tVar 1) (tVar 2)) tNil))))) (tRet (tC (.bl false))) tNext))
    (tRet (tC (.bl true)))))))))))
end Cl

/-! ## ComPu -/
namespace Cl
open PySem PySem.Spec PyProof.Rows L2
/-! ### the walk's own lines: "c" a side condition, "h" what stands at an address, "s" a list that is read, "at" an item, "v" a value, "a" an answer, "ar" arguments -/
local macro_rules | `(tactic| walk_at "c") => `(tactic| first | assumption | (with_reducible rfl) | decide | omega | exact Or.inr ⟨by first | decide | omega, by first | decide | omega⟩ | exact Or.inl ⟨by first | decide | omega, by first | decide | omega⟩ | exact ⟨by first | decide | omega, by first | decide | omega⟩ | exact ⟨by decide, by decide, by decide⟩)
local macro_rules | `(tactic| walk_at "ne") => `(tactic| first | assumption | (exact Ne.symm (by assumption)) | (exact ne_of_none (by assumption) (by assumption)) | (exact Ne.symm (ne_of_none (by assumption) (by assumption))))
local macro_rules | `(tactic| walk_at "h") => `(tactic| first | assumption | exact upd_same | (refine Eq.trans (upd_ne ?_) ?_; walk_at "ne"; walk_at "h"))
local macro_rules | `(tactic| walk_at "s") => `(tactic| first | assumption | (exact SqL.of (by walk_at "h")) | (exact SqT.of (by walk_at "h")))
local macro_rules | `(tactic| walk_at "at") => `(tactic| first | rfl | exact atI_ints (by omega) (by omega))
local macro_rules | `(tactic| walk_at "ty") => `(tactic| first | exact .base (.int _) | exact .base (.bl _) | exact .base .non | exact .base (.str _) | exact .base (.lst (by walk_at "h")) | exact .base (.tup (by walk_at "h")))
local macro_rules | `(tactic| walk_at "v") => `(tactic| first
  | (with_reducible exact val_c)
  | ((with_reducible apply val_var); rfl)
  | ((with_reducible apply v_I0); walk_at "v"; walk_at "v")
  | ((with_reducible apply v_I); walk_at "v"; walk_at "v"; walk_at "c")
  | ((with_reducible apply v_U); walk_at "v")
  | ((with_reducible apply v_eq); walk_at "v"; walk_at "v"; rfl)
  | ((with_reducible apply v_ne); walk_at "v"; walk_at "v"; rfl)
  | ((with_reducible apply v_ixL); walk_at "v"; walk_at "v"; walk_at "s"; walk_at "at")
  | ((with_reducible apply v_ixT); walk_at "v"; walk_at "v"; walk_at "s"; walk_at "at")
  | ((with_reducible apply v_ixS); walk_at "v"; walk_at "v"; assumption; walk_at "at")
  | ((with_reducible apply v_fld); walk_at "v"; walk_at "h"; assumption; assumption; walk_at "fl")
  | ((with_reducible apply v_len); walk_at "ar"; walk_at "s")
  | ((with_reducible apply v_lenS); walk_at "ar"; assumption)
  | ((with_reducible apply v_lenT); walk_at "ar"; walk_at "s")
  | ((with_reducible apply v_abs); walk_at "ar")
  | ((with_reducible apply v_max2); walk_at "ar")
  | ((with_reducible apply v_min2); walk_at "ar")
  | ((with_reducible apply v_intI); walk_at "ar")
  | ((with_reducible apply v_intB); walk_at "ar")
  | ((with_reducible apply v_chain); walk_at "v"; walk_at "v"; walk_at "v"; exact i_B0; exact i_B0)
  | ((with_reducible apply v_chain3); walk_at "v"; walk_at "v"; walk_at "v"; walk_at "v"; exact i_B0; exact i_B0; exact i_B0)
  | ((with_reducible apply v_andV); walk_at "v"; (intro _; walk_at "v"))
  | ((with_reducible apply v_orV); walk_at "v"; (intro _; walk_at "v"))
  | ((with_reducible apply v_notV); walk_at "v")
  | ((with_reducible apply v_isN); walk_at "v")
  | ((with_reducible apply v_notN); walk_at "v")
  | ((with_reducible apply v_isiT); walk_at "ar"; walk_at "ty"; decide +kernel)
  | ((with_reducible apply v_isiF); walk_at "ar"; walk_at "ty"; decide +kernel)
  | ((with_reducible apply v_if); walk_at "a"; (intro _; walk_at "v"); (intro _; walk_at "v")))
local macro_rules | `(tactic| walk_at "ar") => `(tactic| first
  | (with_reducible exact ar_nil)
  | ((with_reducible apply ar_cons); walk_at "v"; walk_at "ar"))
local macro_rules | `(tactic| walk_at "a") => `(tactic| first
  | ((with_reducible apply a_test); walk_at "v")
  | ((with_reducible apply a_B); walk_at "v")
  | ((with_reducible apply a_not); walk_at "a")
  | ((with_reducible apply a_and); walk_at "a"; (intro _; walk_at "a"))
  | ((with_reducible apply a_or); walk_at "a"; (intro _; walk_at "a")))
local macro_rules | `(tactic| walk_at "fl") => `(tactic| first | exact fl_events _ _ _ | exact fl_spans _ _ _ | exact fl_round _ _ _)
local macro_rules | `(tactic| walk_at "call") => `(tactic| refine g_call (g_args (by walk_at "ar") ?_))
theorem pure_l_cell {K : PySem.W.Frag} {vs H Q E} (h : sp_l_cell K vs H Q E) : t_l_cell K { nx := fun _ H' => Q .non H', rt := Q } (start N_l_cell vs) H := by
  obtain ⟨a, ns, k, rfl, hS, h0, q⟩ := h
  refine q_when (by walk_at "a") (fun hb => ?_) (fun hb => ?_)
  · have hk : k < (ns.length : Int) := by simpa using hb
    refine g_ret (g_val (by walk_at "v") (q _ ?_))
    split <;> omega
  · exact q 0 (by decide)
theorem pure_l_pool {K : PySem.W.Frag} {vs H Q E} (h : sp_l_pool K vs H Q E) : t_l_pool K { nx := fun _ H' => Q .non H', rt := Q } (start N_l_pool vs) H := by
  obtain ⟨a, ns, k, rfl, hS, h0, h1, q⟩ := h
  refine q_set (g_call (g_args (by walk_at "ar") (call_cell hS h0 fun i hi => ?_)))
  refine g_ret (g_lst (g_args (by walk_at "ar") ⟨by show 3 ≤ sizeLine; decide, fun p hp => ?_⟩))
  refine q p _ hp (Kp.new (Kp.refl _ _) hp) ⟨i, _, 1000 * k, upd_same, hi, by omega⟩
theorem pure_l_take {K : PySem.W.Frag} {vs H Q E} (h : sp_l_take vs H Q E) : t_l_take K { nx := fun _ H' => Q .non H', rt := Q } (start N_l_take vs) H := by
  obtain ⟨p, m, rfl, ⟨a, f, c, hp, ha, hc⟩, h0, h1, q⟩ := h
  have nw : ∀ {o : HO} (b : Addr), H b = none → upd H p o b = none := fun {o} b hb => by
    have ne : b ≠ p := fun z => by rw [z, hp] at hb; cases hb
    rw [upd_ne ne]; exact hb
  refine q_when (by walk_at "a") (fun hb => ?_) (fun hb => ?_)
  · refine q_val (by walk_at "v") (q_setI (by walk_at "v") (by walk_at "v") (by walk_at "v") hp rfl ?_)
    refine g_ret (g_val (by walk_at "v") ?_)
    exact q _ _ (Int.emod_nonneg _ (by omega)) (Int.emod_lt_of_pos _ h0) ((Kp.refl _ _).upd (by simp)) nw ⟨_, _, _, upd_same, Int.ediv_nonneg ha (by omega), hc⟩
  · refine q_setI (by walk_at "v") (by walk_at "v") (by walk_at "v") hp rfl ?_
    have hp' : upd H p (.lst [.int a, .int f, .int (c + 1)]) p = some (.lst [.int a, .int f, .int (c + 1)]) := upd_same
    refine q_val (by walk_at "v") ?_
    generalize hx : ((a + 7) * 48271 + (c + 1) * 69621) % 2147483629 = x1
    refine q_val (by walk_at "v") ?_
    have b2 := Int.emod_nonneg (x1 * 16807 + (c + 1) * 7919) (show (2147483587 : Int) ≠ 0 by decide)
    have b3 := Int.emod_lt_of_pos (x1 * 16807 + (c + 1) * 7919) (show (0 : Int) < 2147483587 by decide)
    generalize (x1 * 16807 + (c + 1) * 7919) % 2147483587 = x2 at b2 b3 ⊢
    have fin : ∀ x3 : Int, tRet (tOp oMod (tCB rInt1 (tCons (tOp oDiv (tVar 2) (tC (.int 11))) tNil)) (tVar 1)) { nx := fun _ H' => Q .non H', rt := Q } [some (.ref p), some (.int m), some (.int x3), none] (upd H p (.lst [.int a, .int f, .int (c + 1)])) := fun x3 => by
      refine g_ret (g_val (by walk_at "v") ?_)
      exact q _ _ (Int.emod_nonneg _ (by omega)) (Int.emod_lt_of_pos _ h0) ((Kp.refl _ _).upd (by simp)) nw ⟨_, _, _, upd_same, ha, by omega⟩
    refine q_when (by walk_at "a") (fun hb => ?_) (fun hb => ?_)
    · refine g_asg (g_val (by walk_at "v") (fin _))
    · exact fin _
theorem same_scal {K : PySem.W.Frag} {H : Hp} {Q : VK} {sp : Sp} {x : V} {A : String} (ht : TyX K H x (.type A)) (hq : Q (.bl true) H) (hA : (x = .non ∧ A = "NoneType") ∨ ((∃ b, x = .bl b) ∧ A = "bool") ∨ ((∃ i, x = .int i) ∧ A = "int") ∨ ((∃ s, x = .str s) ∧ A = "str")) :
    t_l_same K sp { nx := fun _ H' => Q .non H', rt := Q } [some x, some x, none] H := by
  rcases hA with ⟨rfl, rfl⟩ | ⟨⟨b, rfl⟩, rfl⟩ | ⟨⟨i, rfl⟩, rfl⟩ | ⟨⟨s, rfl⟩, rfl⟩
  · refine q_no (by walk_at "a") (by rfl) (q_yes (by walk_at "a") (by rfl) (g_ret (g_val (by walk_at "v") ?_)))
    simpa using hq
  · refine q_yes (by walk_at "a") (by rfl) (g_ret (g_val (by walk_at "v") ?_))
    simpa using hq
  · refine q_no (by walk_at "a") (by rfl) (q_no (by walk_at "a") (by rfl) (q_yes (by walk_at "a") (by rfl) (g_ret (g_val (by walk_at "v") ?_))))
    simpa using hq
  · refine q_no (by walk_at "a") (by rfl) (q_no (by walk_at "a") (by rfl) (q_no (by walk_at "a") (by rfl) (q_yes (by walk_at "a") (by rfl) (g_ret (g_val (by walk_at "v") ?_)))))
    simpa using hq
theorem pure_l_same {K : PySem.W.Frag} {n : Nat} {vs H Q E} (h : sp_l_same_n n vs H Q E) : t_l_same K (sp_l_same_r n) { nx := fun _ H' => Q .non H', rt := Q } (start N_l_same vs) H := by
  obtain ⟨x, y, d, rfl, hx, hy, q⟩ := h
  show t_l_same K (sp_l_same_r n) _ [some x, some y, none] H
  cases d with
  | none =>
    have e1 : x = .non := by cases n <;> exact hx
    have e2 : y = .non := by cases n <;> exact hy
    subst e1 e2
    exact same_scal (.base .non) q (.inl ⟨rfl, rfl⟩)
  | bool b =>
    have e1 : x = .bl b := by cases n <;> exact hx
    have e2 : y = .bl b := by cases n <;> exact hy
    subst e1 e2
    exact same_scal (.base (.bl _)) q (.inr (.inl ⟨⟨_, rfl⟩, rfl⟩))
  | int b =>
    have e1 : x = .int b := by cases n <;> exact hx
    have e2 : y = .int b := by cases n <;> exact hy
    subst e1 e2
    exact same_scal (.base (.int _)) q (.inr (.inr (.inl ⟨⟨_, rfl⟩, rfl⟩)))
  | str b =>
    have e1 : x = .str b := by cases n <;> exact hx
    have e2 : y = .str b := by cases n <;> exact hy
    subst e1 e2
    exact same_scal (.base (.str _)) q (.inr (.inr (.inr ⟨⟨_, rfl⟩, rfl⟩)))
  | dict kvs => cases n <;> exact hx.elim
  | list ds =>
    cases n with
    | zero => exact hx.elim
    | succ n =>
      obtain ⟨a, us, rfl, ha, za, la, fa⟩ := hx
      obtain ⟨b, ws, rfl, hb, zb, lb, fb⟩ := hy
      have tx : TyX K H (.ref a) (.type "list") := .base (.lst ha)
      have ty : TyX K H (.ref b) (.type "list") := .base (.lst hb)
      have el : us.length = ws.length := la.trans lb.symm
      refine q_no (by walk_at "a") (by rfl) (q_no (by walk_at "a") (by rfl) (q_no (by walk_at "a") (by rfl) (q_no (by walk_at "a") (by rfl) (q_no (by walk_at "a") (by rfl) (q_no (by walk_at "a") (by rfl) (q_no (by walk_at "a") ?_ ?_))))))
      · simp [el]
      refine q_forR (by walk_at "ar") ?_ (fun i σ' H' => H' = H ∧ ∃ k, σ' = [some (.ref a), some (.ref b), k]) ⟨rfl, _, rfl⟩ ?_ ?_
      · omega
      · rintro i σ' H' hi ⟨rfl, k, rfl⟩
        have h1 : i < us.length := by omega
        have h2 : i < ws.length := by omega
        have h3 : i < ds.length := by omega
        refine g_no (b := !true) (a_not ?_) rfl ⟨rfl, _, rfl⟩
        intro Q' q'
        refine g_B (g_call (g_args (ar_cons (v_ixS (v := us[i]) (by walk_at "v") (by walk_at "v") (.inl (SqL.of ha)) (atI_nat (List.getElem?_eq_getElem h1))) (ar_cons (v_ixS (v := ws[i]) (by walk_at "v") (by walk_at "v") (.inl (SqL.of hb)) (atI_nat (List.getElem?_eq_getElem h2))) ar_nil)) ?_))
        exact ⟨_, _, ds[i], rfl, fa i _ _ (List.getElem?_eq_getElem h3) (List.getElem?_eq_getElem h1), fb i _ _ (List.getElem?_eq_getElem h3) (List.getElem?_eq_getElem h2), true, rfl, q'⟩
      · rintro σ' H' ⟨rfl, k, rfl⟩
        exact q
  | tuple ds =>
    cases n with
    | zero => exact hx.elim
    | succ n =>
      obtain ⟨a, us, rfl, ha, za, la, fa⟩ := hx
      obtain ⟨b, ws, rfl, hb, zb, lb, fb⟩ := hy
      have tx : TyX K H (.ref a) (.type "tuple") := .base (.tup ha)
      have ty : TyX K H (.ref b) (.type "tuple") := .base (.tup hb)
      have el : us.length = ws.length := la.trans lb.symm
      refine q_no (by walk_at "a") (by rfl) (q_no (by walk_at "a") (by rfl) (q_no (by walk_at "a") (by rfl) (q_no (by walk_at "a") (by rfl) (q_no (by walk_at "a") (by rfl) (q_no (by walk_at "a") (by rfl) (q_no (by walk_at "a") ?_ ?_))))))
      · simp [el]
      refine q_forR (by walk_at "ar") ?_ (fun i σ' H' => H' = H ∧ ∃ k, σ' = [some (.ref a), some (.ref b), k]) ⟨rfl, _, rfl⟩ ?_ ?_
      · omega
      · rintro i σ' H' hi ⟨rfl, k, rfl⟩
        have h1 : i < us.length := by omega
        have h2 : i < ws.length := by omega
        have h3 : i < ds.length := by omega
        refine g_no (b := !true) (a_not ?_) rfl ⟨rfl, _, rfl⟩
        intro Q' q'
        refine g_B (g_call (g_args (ar_cons (v_ixS (v := us[i]) (by walk_at "v") (by walk_at "v") (.inr (SqT.of ha)) (atI_nat (List.getElem?_eq_getElem h1))) (ar_cons (v_ixS (v := ws[i]) (by walk_at "v") (by walk_at "v") (.inr (SqT.of hb)) (atI_nat (List.getElem?_eq_getElem h2))) ar_nil)) ?_))
        exact ⟨_, _, ds[i], rfl, fa i _ _ (List.getElem?_eq_getElem h3) (List.getElem?_eq_getElem h1), fb i _ _ (List.getElem?_eq_getElem h3) (List.getElem?_eq_getElem h2), true, rfl, q'⟩
      · rintro σ' H' ⟨rfl, k, rfl⟩
        exact q
end Cl

/-! ## Exs -/
namespace Cl
open PySem PySem.Spec PyProof.Rows L2
/-! ## an own exception over ValueError whose __init__ says super().__init__(f'..') and stores its arguments -/
namespace Exs
open PySem.W PySem.Calls PySem.HandSPX
section
variable {prog : Program} {w : World} {A : Around} {E : Value → Shared → Prop} {h : Heap} {g : Array GenState} {d : Drawn} {t : Nat} {os : OsState}
variable {nm q : Str} {C N : Addr} {bs bm : List Value} {hdct : Bool} {sn : List Str} {sub : List Value} {ab : Bool} {col : Option Bool} {dd : Option Addr} {k0 k1 k2 k3 k5 : Option Value}
/-- the bound ValueError.__init__ called -/
theorem call_mw {u e t0 : Addr} {rest : List Value} {Q : Value → Shared → Prop}
    (hC : h.get? C = some (excClassObj nm q C N bs bm hdct sn sub ab col dd k0 k1 k2 k3 k5 "ValueError.__new__")) (he : h.get? e = some (excO C t0)) (hu : h.get? u = some (kxs_mw "ValueError.__init__" e)) (hrest : rest.length ≤ sizeLine)
    (hq : ∀ h' t1, (∀ b o, b ≠ e → h.get? b = some o → h'.get? b = some o) → h'.get? e = some (excO C t1) → Q .none ⟨h', g, d, t, os⟩) :
    wpAny (model prog w) A (call (.ref u) rest) Q E ⟨h, g, d, t, os⟩ := by
  refine wpAny_call (codeAny_of_tree ?_)
  show wpAny _ A.in1 (callAny (.ref u) ⟨rest, []⟩) _ _ _
  simp only [callAny]
  refine wpAny_bind (wpAny_load hu ?_)
  simp only [kxs_mw, show (Value.type "method-wrapper" == Value.type "method" || Value.type "method-wrapper" == Value.type "builtin_function_or_method" || Value.type "method-wrapper" == Value.type "method-wrapper") = true by decide, if_true]
  refine W.KFB.if_so (by decide) ?_
  refine wpAny_bind (PySem.ESX.check_bound F.excBase_ValueError hC he rfl ?_)
  refine wpAny_bind (wpAny_pure (wpAny_pure ?_))
  refine ⟨Code.quiet_builtin _ (by decide +kernel), codeAny_builtin F.excBase_ValueError.initEntry ?_⟩
  rw [Around.under_plainId F.excBase_ValueError.init.plain _]
  wp_walk
  refine hq _ h.objs.size (fun b o hb ho => ?_) ?_
  · rw [Heap.get?_update_other _ _ (Ne.symm hb)]
    exact Heap.get?_push_of_some _ ho
  · rw [Heap.get?_update_self _ (Heap.get?_push_of_some _ he) rfl]
    rfl
end
/-- a value that an f-string writes: a short text, an int of some size -/
def FmtV : V → Prop
  | .str y => y.length ≤ 1000
  | .int i => i.natAbs.log2 < 1920
  | _ => False
def Fmt (v : Value) : Prop := (∃ y tk, v = .str y tk ∧ y.length ≤ 1000) ∨ ∃ i tk, v = .int i tk ∧ i.natAbs.log2 < 1920
theorem FmtV.val {v : V} {u : Value} (h : FmtV v) (r : RelV v u) : Fmt u := by
  cases v with
  | str y => obtain ⟨tk, rfl⟩ := r; exact .inl ⟨y, tk, rfl, h⟩
  | int i => obtain ⟨tk, rfl⟩ := r; exact .inr ⟨i, tk, rfl, h⟩
  | _ => exact h.elim
section
variable {prog : Program} {w : World} {A : Around} {E : Value → Shared → Prop} {s : Shared} {env : Env} {m : Str → Option Value}
theorem ldE {x : Str} {pos : Pos} {v : Value} {Q : Value → Shared → Prop} {M : Model} (hn : s.heap.Ns env.locals m) (hv : m x = some v) (hk : env.scope.kind = .function) (hl : env.kindOf x = some .local) (hd : (x == ("__debug__" : Str)) = false) (h : Q v s) : wpAny M A (eval (.Name x pos) env) Q E s := wpAny_Name (wpAny_loadName_local hk hl hn hv h) hd
/-- {x} -/
theorem fmt_name {x : Str} {p1 p2 : Pos} {v : Value} {Q : Value → Shared → Prop} (hn : s.heap.Ns env.locals m) (hv : m x = some v) (hk : env.scope.kind = .function) (hl : env.kindOf x = some .local) (hd : (x == ("__debug__" : Str)) = false) (hf : Fmt v)
    (h : ∀ z tk tk', z.length ≤ 2000 → Q (.str z tk) { s with toks := tk' }) : wpAny (model prog w) A (eval (.FormattedValue (.Name x p1) (-1) none p2) env) Q E s := by
  refine wpAny_FormattedValue_plain (ldE hn hv hk hl hd ?_)
  rcases hf with ⟨y, tk, rfl, hz⟩ | ⟨i, tk, rfl, hz⟩
  · refine wpAny_formatField_str ?_ ?_ (Nat.le_trans hz (by decide))
    · have e := h y tk s.toks (by omega)
      exact e
    · exact h y _ _ (by omega)
  · exact wpAny_formatField_int hz (h _ _ _ (Nat.le_trans (int_text_len_1921 hz) (by decide)))
/-- f'text{x}' -/
theorem fs1 {x z0 : Str} {p0 p1 p2 p3 : Pos} {k0 : Nat} {v : Value} {Q : Value → Shared → Prop} (hn : s.heap.Ns env.locals m) (hv : m x = some v) (hk : env.scope.kind = .function) (hl : env.kindOf x = some .local) (hd : (x == ("__debug__" : Str)) = false) (hf : Fmt v) (hz : z0.length ≤ 1000)
    (h : ∀ z tk tk', Q (.str z tk) { s with toks := tk' }) : wpAny (model prog w) A (eval (.JoinedStr [.Constant (.str z0) k0 p0, .FormattedValue (.Name x p1) (-1) none p2] p3) env) Q E s := by
  refine wpAny_JoinedStr ?_
  have e0 : evalEach [.Constant (.str z0) k0 p0, .FormattedValue (.Name x p1) (-1) none p2] env = [eval (.Constant (.str z0) k0 p0) env, eval (.FormattedValue (.Name x p1) (-1) none p2) env] := by first | rfl | simp [evalEach]
  rw [e0]
  have l0 : (Str.empty ++ z0).length ≤ 1000 := by
    have e1 : (Str.empty ++ z0).length = Str.empty.length + z0.length := Str.length_append _ _
    have e2 : Str.empty.length = 0 := rfl
    omega
  refine Calls.Constant_str ⟨z0, _, rfl, Nat.le_trans l0 (by decide), ?_⟩
  refine fmt_name (s := { s with toks := s.toks + 1 }) hn hv hk hl hd hf fun z tk tk' hz' => ⟨z, tk, rfl, ?_, ?_⟩
  · have e1 : (Str.empty ++ z0 ++ z).length = (Str.empty ++ z0).length + z.length := Str.length_append _ _
    exact Nat.le_trans (show (Str.empty ++ z0 ++ z).length ≤ 3000 by omega) (by decide)
  · have e1 : (Str.empty ++ z0 ++ z).length = (Str.empty ++ z0).length + z.length := Str.length_append _ _
    exact ⟨Nat.le_trans (show (Str.empty ++ z0 ++ z).length ≤ 3000 by omega) (by decide), h _ _ _⟩
/-- f'text{x} {y}' -/
theorem fs2 {x y z0 z1 : Str} {p0 p1 p2 p3 p4 p5 p6 : Pos} {k0 k1 : Nat} {v u : Value} {Q : Value → Shared → Prop} (hn : s.heap.Ns env.locals m) (hv : m x = some v) (hu : m y = some u) (hk : env.scope.kind = .function) (hl : env.kindOf x = some .local) (hl2 : env.kindOf y = some .local) (hd : (x == ("__debug__" : Str)) = false) (hd2 : (y == ("__debug__" : Str)) = false)
    (hf : Fmt v) (hf2 : Fmt u) (hz : z0.length ≤ 1000) (hz1 : z1.length ≤ 1000)
    (h : ∀ z tk tk', Q (.str z tk) { s with toks := tk' }) : wpAny (model prog w) A (eval (.JoinedStr [.Constant (.str z0) k0 p0, .FormattedValue (.Name x p1) (-1) none p2, .Constant (.str z1) k1 p3, .FormattedValue (.Name y p4) (-1) none p5] p6) env) Q E s := by
  refine wpAny_JoinedStr ?_
  have e0 : evalEach [.Constant (.str z0) k0 p0, .FormattedValue (.Name x p1) (-1) none p2, .Constant (.str z1) k1 p3, .FormattedValue (.Name y p4) (-1) none p5] env = [eval (.Constant (.str z0) k0 p0) env, eval (.FormattedValue (.Name x p1) (-1) none p2) env, eval (.Constant (.str z1) k1 p3) env, eval (.FormattedValue (.Name y p4) (-1) none p5) env] := by first | rfl | simp [evalEach]
  rw [e0]
  have l0 : (Str.empty ++ z0).length ≤ 1000 := by
    have e1 : (Str.empty ++ z0).length = Str.empty.length + z0.length := Str.length_append _ _
    have e2 : Str.empty.length = 0 := rfl
    omega
  refine Calls.Constant_str ⟨z0, _, rfl, Nat.le_trans l0 (by decide), ?_⟩
  refine fmt_name (s := { s with toks := s.toks + 1 }) hn hv hk hl hd hf fun z tk tk' hz' => ⟨z, tk, rfl, ?_, ?_⟩
  · have e1 : (Str.empty ++ z0 ++ z).length = (Str.empty ++ z0).length + z.length := Str.length_append _ _
    exact Nat.le_trans (show (Str.empty ++ z0 ++ z).length ≤ 3000 by omega) (by decide)
  · have l1 : (Str.empty ++ z0 ++ z).length ≤ 3000 := by
      have e1 : (Str.empty ++ z0 ++ z).length = (Str.empty ++ z0).length + z.length := Str.length_append _ _
      omega
    have l2 : (Str.empty ++ z0 ++ z ++ z1).length ≤ 4000 := by
      have e1 : (Str.empty ++ z0 ++ z ++ z1).length = (Str.empty ++ z0 ++ z).length + z1.length := Str.length_append _ _
      omega
    refine Calls.Constant_str ⟨z1, _, rfl, Nat.le_trans l2 (by decide), ?_⟩
    refine fmt_name (s := { s with toks := tk' + 1 }) hn hu hk hl2 hd2 hf2 fun z' tk2 tk3 hz'' => ⟨z', tk2, rfl, ?_, ?_⟩
    · have e1 : (Str.empty ++ z0 ++ z ++ z1 ++ z').length = (Str.empty ++ z0 ++ z ++ z1).length + z'.length := Str.length_append _ _
      exact Nat.le_trans (show (Str.empty ++ z0 ++ z ++ z1 ++ z').length ≤ 6000 by omega) (by decide)
    · have e1 : (Str.empty ++ z0 ++ z ++ z1 ++ z').length = (Str.empty ++ z0 ++ z ++ z1).length + z'.length := Str.length_append _ _
      exact ⟨Nat.le_trans (show (Str.empty ++ z0 ++ z ++ z1 ++ z').length ≤ 6000 by omega) (by decide), h _ _ _⟩
end
/-- what the written part says of the class at C, its __init__ at fI (its cell cc holds C), of super -/
structure Tx (prog : Program) (K : Frag) (C fI cc cda : Addr) (qual : Str) (params : Arguments) (body : List Stmt) (scope : Scope) : Prop where
  cls : ∃ nm q N bs bm sn sub ab col dd k0 k1 k2 k3 k5, K.lookup C = some (excClassObj nm q C N bs bm true sn sub ab col dd k0 k1 k2 k3 k5 "ValueError.__new__") ∧ refsVE bm = true
  sa : findIn K (.ref C) "__setattr__" = some (some (.builtin "object.__setattr__"))
  iC : findIn K (.ref C) "__init__" = some (some (.ref fI))
  tC : typeIn K (.ref fI) = some (.type "function")
  kC : keepIn K (.ref C) = true
  exC : subIn K (.ref C) (.type "BaseException") = some true
  vE : subIn K (.ref C) (.type "ValueError") = some true
  tyC : typeIn K (.ref C) = some (.type "type")
  sup : ks_superIn K C C "__init__" = some (some (.builtin "ValueError.__init__"))
  self : mroIn K C (.ref C) = some true
  opq : nsIn K cStatics "thirdparty.any" = some none
  fn : ∃ (oc : Value) (od : Option Addr) (kV doc pm : Value) (an : Option Addr) (ct : Value) (osl : Array (Option Value)),
    K.lookup fI = some ⟨oc, od, .func (ksFn "__init__" qual params body scope .none kV doc pm an (.ref cda) ct cc), osl⟩ ∧ codeIn K (.ref cda) qual = true
  code : ∃ (cl : Value) (dd : Option Addr) (vs : Array Value) (sl : Array (Option Value)) (file : Str) (tf : Tok), K.lookup cda = some ⟨cl, dd, .fields vs, sl⟩ ∧ vs[2]? = some (.str file tf) ∧ ((prog.main.file : Str) == file) = true
  cell : ∃ (cl : Value) (dd : Option Addr) (sl : Array (Option Value)), K.lookup cc = some ⟨cl, dd, .cell (some (.ref C)), sl⟩
/-- what the text says of the scope -/
structure Sc (prog : Program) (params : Arguments) (scope : Scope) : Prop where
  par : ∃ ar : Arg, (params.posonlyargs ++ params.args).head? = some ar ∧ ar.arg = ("self" : Str)
  sup : scope.names.lookup ("super" : Str) = some .globalImplicit
  cls : scope.names.lookup ("__class__" : Str) = some .free
  slf : scope.names.lookup ("self" : Str) = some .local
  kind : scope.kind = .function
  top : (prog.main.scope.names.lookup ("super" : Str)).isSome = false
section
variable {prog : Program} {w : World} {A : Around} {E : Value → Shared → Prop} {K : Frag} {C fI cc cda L x t0 : Addr} {qual : Str} {params : Arguments} {body : List Stmt} {scope : Scope} {m mg mb : Str → Option Value}
theorem lookups_clsIn {nm q : Str} {N : Addr} {bs bm : List Value} {sn : List Str} {sub : List Value} {ab : Bool} {col : Option Bool} {dd : Option Addr} {k0 k1 k2 k3 k5 : Option Value} (hC : K.lookup C = some (excClassObj nm q C N bs bm true sn sub ab col dd k0 k1 k2 k3 k5 "ValueError.__new__")) :
    clsIn K C = some { name := nm, bases := bs, mro := .ref C :: bm, ns := N, qualname := q, hasDict := true, slotNames := sn, subclasses := sub, abstract := ab, collection := col, hasDel := false } := by unfold clsIn; rw [hC] <;> rfl
/-- super().__init__(e) -/
theorem sup_stmt {hp : Heap} {g : Array GenState} {d : Drawn} {t : Nat} {os : OsState} (T : Tx prog K C fI cc cda qual params body scope) (S : Sc prog params scope) (X : K.In hp) (Gg : hp.Ns mainGlobals mg) (Gs : mg "super" = none) (Gb : hp.Ns builtinsNs mb) (Gbs : mb "super" = bootBuiltins "super") (hboot : bootBuiltins "super" = some (.type "super"))
    (hn : hp.Ns L m) (hv : m "self" = some (.ref x)) (hx : hp.get? x = some (excO C t0)) (hxC : x ≠ C) {e : PySem.Expr} {p0 p1 p2 p3 p4 : Pos} {pl : Sem Bool} {Q : Flow → Shared → Prop}
    (he : ∀ (hp' : Heap) (t' : Nat) (Q' : Value → Shared → Prop), (∀ b o, hp.get? b = some o → hp'.get? b = some o) → (∀ z tk tk', Q' (.str z tk) ⟨hp', g, d, tk', os⟩) → wpAny (model prog w) A (eval e (ksEnv qual scope L fI (.ref cda) cc)) Q' E ⟨hp', g, d, t', os⟩)
    (hq : ∀ h' t1 tk', (∀ b o, b ≠ x → hp.get? b = some o → h'.get? b = some o) → h'.get? x = some (excO C t1) → Q .next ⟨h', g, d, tk', os⟩)
    (hst : starEach [e] (ksEnv qual scope L fI (.ref cda) cc) = (false, eval e (ksEnv qual scope L fI (.ref cda) cc)) :: starEach [] (ksEnv qual scope L fI (.ref cda) cc))
    (hsw : swapsWith (.Call (.Attribute (.Call (.Name "super" p0) [] [] p1) "__init__" p2) [e] [] p3) none p4.line (ksEnv qual scope L fI (.ref cda) cc) = pure false)
    (hev : eval (.Call (.Attribute (.Call (.Name "super" p0) [] [] p1) "__init__" p2) [e] [] p3) (ksEnv qual scope L fI (.ref cda) cc) = (do
      let ov ← attributeBase (.Call (.Name "super" p0) [] [] p1) "__init__" (ksEnv qual scope L fI (.ref cda) cc) (eval (.Call (.Name "super" p0) [] [] p1) (ksEnv qual scope L fI (.ref cda) cc))
      standAt p2.atName
      let (f, first) ← holding [ov] (getMethod ov "__init__" pl)
      callWith p3 f first (backTo p3 (starEach [e] (ksEnv qual scope L fI (.ref cda) cc))) [])) :
    PySem.wpAt (model prog w) A (.func body (ksEnv qual scope L fI (.ref cda) cc)) (exec (.Expr (.Call (.Attribute (.Call (.Name "super" p0) [] [] p1) "__init__" p2) [e] [] p3) p4) (ksEnv qual scope L fI (.ref cda) cc)) Q E ⟨hp, g, d, t, os⟩ := by
  obtain ⟨nm, q, N, bs, bm, sn, sub, ab, col, dd, k0, k1, k2, k3, k5, hC, hbm⟩ := T.cls
  obtain ⟨oc, od, kV, doc, pm, an, ct, osl, hf, _⟩ := T.fn
  obtain ⟨ccl, cdd, vs, csl, file, tf, hcode, hvs, hfile⟩ := T.code
  obtain ⟨cl, cld, csl2, hcell⟩ := T.cell
  obtain ⟨ar, har, hself⟩ := S.par
  have hcd := lookups_clsIn hC
  refine ks_wpAt_Expr_any (ks_wpAt_MethodCall (pl := pl) ?_ hev) (by simp [interactive, S.kind]) hsw
  refine ks_wpAt_super_base (env := ksEnv qual scope L fI (.ref cda) cc) S.sup S.cls (by decide +kernel) rfl (X _ _ hf) rfl har rfl (X _ _ hcode) rfl hvs hfile S.top ?_
  refine ks_loadName_global S.kind S.sup (loadGlobal_builtin (env := ksEnv qual scope L fI (.ref cda) cc) Gg Gs Gb (Gbs.trans hboot) ⟨rfl, ?_⟩)
  refine wpAny_loadName_free S.kind S.cls rfl ⟨_, X _ _ hcell, rfl⟩ ?_
  rw [hself]
  refine wpAny_loadName_local S.kind S.slf hn hv ?_
  refine ks_wpAny_isType_cls (X _ _ hC) rfl ⟨rfl, ?_⟩
  refine ks_wpAny_call_super (X _ _ hC) rfl hx rfl (fun c e => nomatch e) (looks_mroIn X T.self) (fun h1 e1 kk1 => ?_)
  have X1 : K.In h1 := X.keeps kk1
  have hx1 := kk1 _ _ hx
  have I1 : InstAt h1 x (excO C t0) C none := ⟨hx1, rfl, rfl, trivial⟩
  have hsm := T.sup
  unfold ks_superIn at hsm
  rw [hcd] at hsm
  refine kxs_getMethod kxs_ValueError e1 (looks_opaque X1 T.opq) (l₀ := .ref C :: bm) ?_ rfl X1 hsm (I1.type.andThen (looks_subIn X1 T.vE)) hxC (by decide +kernel) ?_
  · exact fun A Q E s k q => wpAny_bind ((looks_clsIn X1 hcd) A _ E s k (wpAny_pure q))
  have kk2 : ∀ b o, hp.get? b = some o → (h1.push (kxs_mw "ValueError.__init__" x)).get? b = some o := fun b o z => Heap.get?_push_of_some _ (kk1 b o z)
  have hu : (h1.push (kxs_mw "ValueError.__init__" x)).get? h1.objs.size = some (kxs_mw "ValueError.__init__" x) := Heap.get?_push_size _ rfl
  rw [hst]
  refine kxs_callWith (i := "ValueError.__init__") (x := x) (by show (false || (backTo p3 (starEach [] _)).any (·.1)) = false; rfl) (evalArgs_plain (spliced_cons ?_))
  refine he _ _ _ kk2 fun z tk tk' => ?_
  refine spliced_nil ⟨hu, ?_⟩
  refine call_mw (X1.keeps (fun b o z => Heap.get?_push_of_some _ z) _ _ hC) (kk2 _ _ hx) hu (by show 1 ≤ sizeLine; decide) fun h' t1 kk3 e3 => ?_
  exact hq h' t1 _ (fun b o hb z => kk3 b o hb (kk2 b o z)) e3
end
/-! ### the stores; what __init__ leaves -/
def mapV (fs : List (Str × Value)) : Str → Option Value
  | y => match fs with
    | [] => none
    | p :: r => if y = p.1 then some p.2 else mapV r y
theorem kept_but {K : Frag} {h h' : Heap} {x : Addr} (X : K.In h) (hx : K.lookup x = none) (k : ∀ b o, b ≠ x → h.get? b = some o → h'.get? b = some o) : K.In h' := fun a o e =>
  k a o (fun z => by rw [z, hx] at e; cases e) (X a o e)
structure End (h h' : Heap) (x C : Addr) (fs : List (Str × Value)) : Prop where
  keep : ∀ b o, b ≠ x → h.get? b = some o → h'.get? b = some o
  ex : ∃ t1 dx, h'.get? x = some { cls := .ref C, dict := some dx, data := .fields #[.ref t1, .none, .none, .none, .bool false, .none] } ∧ h.objs.size ≤ dx ∧ dx ≠ x ∧ h'.Ns1 dx (mapV fs)
section
variable {prog : Program} {w : World} {A : Around} {E : Value → Shared → Prop} {R : Result → Shared → Prop} {K : Frag} {C fI cc cda x t0 : Addr} {qual : Str} {params : Arguments} {body : List Stmt} {scope : Scope} {m mg mb : Str → Option Value} {hp : Heap} {g : Array GenState} {d : Drawn} {t : Nat} {os : OsState} {env : Env}
/-- self.f = f, the first -/
theorem store1 (T : Tx prog K C fI cc cda qual params body scope) (X : K.In hp) {L : Addr} (eL : env.locals = L) (hn : hp.Ns L m) {f : Str} {v : Value} (hv : m f = some v) (hs : m "self" = some (.ref x)) (hx : hp.get? x = some (excO C t0)) (hk : env.scope.kind = .function) (kf : env.kindOf f = some .local) (ks : env.kindOf "self" = some .local) (hd : (f == ("__debug__" : Str)) = false) (no : findIn K (.ref C) f = some none)
    {q1 q2 q3 q4 : Pos} {Q : Flow → Shared → Prop} (hsw : swapsWith (.Name f q3) (some (.Attribute (.Name "self" q1) f q2)) q4.line env = pure false)
    (hq : ∀ h' tk' dx, (∀ b o, b ≠ x → hp.get? b = some o → h'.get? b = some o) → hp.objs.size ≤ dx → dx ≠ x → h'.get? x = some { cls := .ref C, dict := some dx, data := .fields #[.ref t0, .none, .none, .none, .bool false, .none] } → h'.Ns1 dx (mapV [(f, v)]) → Q .next ⟨h', g, d, tk', os⟩) :
    wpAny (model prog w) A (exec (.Assign [.Attribute (.Name "self" q1) f q2] (.Name f q3) q4) env) Q E ⟨hp, g, d, t, os⟩ := by
  obtain ⟨nm, q, N, bs, bm, sn, sub, ab, col, dd, k0, k1, k2, k3, k5, hC, hbm⟩ := T.cls
  have hcl := lookups_clsIn hC
  subst eL
  refine plainObj_wpAny_Assign_Attribute ?_ hsw
  refine ldE (s := ⟨hp, g, d, t, os⟩) hn hv hk kf hd (ldE (s := ⟨hp, g, d, t, os⟩) hn hs hk ks (by decide +kernel) ?_)
  refine set_plain X (ox := excO C t0) (od := none) ⟨hx, rfl, rfl, trivial⟩ T.sa ?_
  refine exc_osa X hx hcl (show refsVE (.ref C :: bm) = true from hbm) rfl no (fun h' tk' dx k dn dne hx' hn' => ?_)
  exact hq h' tk' dx k dn dne hx' (by
    have e : (fun y => if y = f then some v else none) = mapV [(f, v)] := by funext y; rfl
    rw [← e]; exact hn')
/-- .. a further one -/
theorem store2 (T : Tx prog K C fI cc cda qual params body scope) (X : K.In hp) {L : Addr} (eL : env.locals = L) (hn : hp.Ns L m) {f f1 : Str} {v v1 : Value} {dx : Addr} (hv : m f = some v) (hs : m "self" = some (.ref x)) (hx : hp.get? x = some { cls := .ref C, dict := some dx, data := .fields #[.ref t0, .none, .none, .none, .bool false, .none] }) (hns : hp.Ns1 dx (mapV [(f1, v1)])) (hk : env.scope.kind = .function) (kf : env.kindOf f = some .local) (ks : env.kindOf "self" = some .local) (hd : (f == ("__debug__" : Str)) = false) (no : findIn K (.ref C) f = some none)
    {q1 q2 q3 q4 : Pos} {Q : Flow → Shared → Prop} (hsw : swapsWith (.Name f q3) (some (.Attribute (.Name "self" q1) f q2)) q4.line env = pure false)
    (hq : ∀ h' tk', (∀ b o, b ≠ dx → hp.get? b = some o → h'.get? b = some o) → h'.Ns1 dx (mapV [(f, v), (f1, v1)]) → Q .next ⟨h', g, d, tk', os⟩) :
    wpAny (model prog w) A (exec (.Assign [.Attribute (.Name "self" q1) f q2] (.Name f q3) q4) env) Q E ⟨hp, g, d, t, os⟩ := by
  obtain ⟨nm, q, N, bs, bm, sn, sub, ab, col, dd, k0, k1, k2, k3, k5, hC, hbm⟩ := T.cls
  have hcl := lookups_clsIn hC
  subst eL
  have hw : Within (mapV [(f1, v1)]) [f1] := fun y hy => by
    by_cases e : y = f1
    · simp [e]
    · exact absurd (show mapV [(f1, v1)] y = none by show (if y = f1 then _ else none) = none; rw [if_neg e]) hy
  obtain ⟨oD, _, _, hoD, _, _⟩ := hns.count hw
  refine plainObj_wpAny_Assign_Attribute ?_ hsw
  refine ldE (s := ⟨hp, g, d, t, os⟩) hn hv hk kf hd (ldE (s := ⟨hp, g, d, t, os⟩) hn hs hk ks (by decide +kernel) ?_)
  refine set_plain X (ox := { cls := .ref C, dict := some dx, data := .fields #[.ref t0, .none, .none, .none, .bool false, .none] }) (od := some oD) ⟨hx, rfl, rfl, hoD⟩ T.sa ?_
  refine PySem.OEX.osa_old X hx hns hw (by simp) hcl (show refsVE (.ref C :: bm) = true from hbm) rfl no (fun h' tk' k hn' => ?_)
  exact hq h' tk' k (by
    have e : (fun y => if y = f then some v else mapV [(f1, v1)] y) = mapV [(f, v), (f1, v1)] := by funext y; rfl
    rw [← e]; exact hn')
end
/-! ### the bodies -/
def body1 (f z0 : Str) (k0 : Nat) (p0 p1 p2 p3 p4 p5 p6 p7 p8 q1 q2 q3 q4 : Pos) : List Stmt :=
  [.Expr (.Call (.Attribute (.Call (.Name "super" p0) [] [] p1) "__init__" p2) [.JoinedStr [.Constant (.str z0) k0 p5, .FormattedValue (.Name f p6) (-1) none p7] p8] [] p3) p4,
   .Assign [.Attribute (.Name "self" q1) f q2] (.Name f q3) q4]
def body2 (f1 f2 z0 z1 : Str) (k0 k1 : Nat) (p0 p1 p2 p3 p4 p5 p6 p7 p8 p9 p10 p11 q1 q2 q3 q4 r1 r2 r3 r4 : Pos) : List Stmt :=
  [.Expr (.Call (.Attribute (.Call (.Name "super" p0) [] [] p1) "__init__" p2) [.JoinedStr [.Constant (.str z0) k0 p5, .FormattedValue (.Name f1 p6) (-1) none p7, .Constant (.str z1) k1 p9, .FormattedValue (.Name f2 p10) (-1) none p11] p8] [] p3) p4,
   .Assign [.Attribute (.Name "self" q1) f1 q2] (.Name f1 q3) q4, .Assign [.Attribute (.Name "self" r1) f2 r2] (.Name f2 r3) r4]
section
variable {prog : Program} {w : World} {A : Around} {R : Result → Shared → Prop} {K : Frag} {C fI cc cda x t0 : Addr} {qual : Str} {params : Arguments} {scope : Scope} {mg mb : Str → Option Value} {hp : Heap} {g : Array GenState} {d : Drawn} {t : Nat} {os : OsState}
/-- the state around: the module's names, the built-ins -/
structure Ar (hp : Heap) (mg mb : Str → Option Value) : Prop where
  glob : hp.Ns mainGlobals mg
  sup : mg "super" = none
  blt : hp.Ns builtinsNs mb
  bsup : mb "super" = bootBuiltins "super"
  lim : hp.NoLimit
theorem boot_super : bootBuiltins "super" = some (.type "super") := by decide +kernel
theorem init1 {f z0 : Str} {k0 : Nat} {p0 p1 p2 p3 p4 p5 p6 p7 p8 q1 q2 q3 q4 : Pos} {v : Value} (T : Tx prog K C fI cc cda qual params (body1 f z0 k0 p0 p1 p2 p3 p4 p5 p6 p7 p8 q1 q2 q3 q4) scope) (S : Sc prog params scope) (no : findIn K (.ref C) f = some none) (kf : scope.names.lookup f = some .local) (nf : ¬ (("self" : Str) = f)) (hd : (f == ("__debug__" : Str)) = false) (hz : z0.length ≤ 1000)
    (hcell : ∀ y ∈ scope.names, y.2 ≠ .cell) (hco : scope.isCoroutine = false) (hgen : scope.isGenerator = false)
    (hbind : ∀ (kV doc pm : Value) (an : Option Addr) (ct : Value), bindArgs (ksFn "__init__" qual params (body1 f z0 k0 p0 p1 p2 p3 p4 p5 p6 p7 p8 q1 q2 q3 q4) scope .none kV doc pm an (.ref cda) ct cc) ⟨[.ref x, v], []⟩ = pure [(("self" : Str), .ref x), (f, v)])
    (hst : ∀ env : Env, starEach [.JoinedStr [.Constant (.str z0) k0 p5, .FormattedValue (.Name f p6) (-1) none p7] p8] env = (false, eval (.JoinedStr [.Constant (.str z0) k0 p5, .FormattedValue (.Name f p6) (-1) none p7] p8) env) :: starEach [] env)
    (hsw : ∀ L, swapsWith (.Call (.Attribute (.Call (.Name "super" p0) [] [] p1) "__init__" p2) [.JoinedStr [.Constant (.str z0) k0 p5, .FormattedValue (.Name f p6) (-1) none p7] p8] [] p3) none p4.line (ksEnv qual scope L fI (.ref cda) cc) = pure false)
    (hsw2 : ∀ L, swapsWith (.Name f q3) (some (.Attribute (.Name "self" q1) f q2)) q4.line (ksEnv qual scope L fI (.ref cda) cc) = pure false)
    {pl : Sem Bool} (hev : ∀ L, eval (.Call (.Attribute (.Call (.Name "super" p0) [] [] p1) "__init__" p2) [.JoinedStr [.Constant (.str z0) k0 p5, .FormattedValue (.Name f p6) (-1) none p7] p8] [] p3) (ksEnv qual scope L fI (.ref cda) cc) = (do
      let ov ← attributeBase (.Call (.Name "super" p0) [] [] p1) "__init__" (ksEnv qual scope L fI (.ref cda) cc) (eval (.Call (.Name "super" p0) [] [] p1) (ksEnv qual scope L fI (.ref cda) cc))
      standAt p2.atName
      let (fm, first) ← holding [ov] (getMethod ov "__init__" pl)
      callWith p3 fm first (backTo p3 (starEach [.JoinedStr [.Constant (.str z0) k0 p5, .FormattedValue (.Name f p6) (-1) none p7] p8] (ksEnv qual scope L fI (.ref cda) cc))) []))
    (hf : Fmt v) (X : K.In hp) (G : Ar hp mg mb) (hx : hp.get? x = some (excO C t0)) (hnx : K.lookup x = none) (hxC : x ≠ C) (hroom : A.depth < recursionLimit)
    (hq : ∀ h' tk', End hp h' x C [(f, v)] → R (.ok (.ret .none)) ⟨h', g, d, tk', os⟩) :
    codeAny (model prog w) A (.call (.ref fI) ⟨[.ref x, v], []⟩) R ⟨hp, g, d, t, os⟩ := by
  obtain ⟨oc, od, kV, doc, pm, an, ct, osl, hfn, hcd⟩ := T.fn
  refine ks_codeAny_call_defAt (s := ⟨hp, g, d, t, os⟩) (fd := ksFn "__init__" qual params (body1 f z0 k0 p0 p1 p2 p3 p4 p5 p6 p7 p8 q1 q2 q3 q4) scope .none kV doc pm an (.ref cda) ct cc) (body := body1 f z0 k0 p0 p1 p2 p3 p4 p5 p6 p7 p8 q1 q2 q3 q4) (binds := [(("self" : Str), .ref x), (f, v)]) hroom (X _ _ hfn) rfl G.lim (codeRec_of X hcd) rfl (BindsTo.of_eq (hbind kV doc pm an ct)) hcell (fun y hy => ?_) (fun h0 hns hk0 => ?_) hco hgen S.kind
  · rcases List.mem_cons.mp hy with rfl | hy
    · exact S.slf
    · rcases List.mem_cons.mp hy with rfl | hy
      · exact kf
      · cases hy
  have ms : (List.lookup ("self" : Str) ([(("self" : Str), Value.ref x), (f, v)].reverse)) = some (.ref x) := by
    show List.lookup ("self" : Str) [(f, v), (("self" : Str), Value.ref x)] = _
    have e : (("self" : Str) == f) = false := by simpa using nf
    simp [List.lookup, e]
  have mf : (List.lookup f ([(("self" : Str), Value.ref x), (f, v)].reverse)) = some v := by
    show List.lookup f [(f, v), (("self" : Str), Value.ref x)] = _
    simp [List.lookup]
  have lt : hp.objs.size ≠ x := Nat.ne_of_gt (Heap.lt_size hx)
  refine ks_wpAt_execs_cons ?_
  refine sup_stmt (m := fun y => List.lookup y ([(("self" : Str), Value.ref x), (f, v)].reverse)) T S (X.keeps hk0) (G.glob.keeps hk0) G.sup (G.blt.keeps hk0) G.bsup boot_super hns ms (hk0 _ _ hx) hxC (pl := pl) (fun hp' t' Q' kk hz' => ?_) (fun h1 t1 tk1 kk1 hx1 => ?_) (hst _) (hsw _) (hev _)
  · obtain ⟨oL, es, ep, hoL, r⟩ := hns
    exact fs1 (m := fun y => List.lookup y ([(("self" : Str), Value.ref x), (f, v)].reverse)) ⟨oL, es, ep, kk _ _ hoL, r⟩ mf S.kind kf hd hf hz hz'
  · have X1 : K.In h1 := kept_but (X.keeps hk0) hnx kk1
    have hn1 : h1.Ns hp.objs.size (fun y => List.lookup y ([(("self" : Str), Value.ref x), (f, v)].reverse)) := by
      obtain ⟨oL, es, ep, hoL, r⟩ := hns
      exact ⟨oL, es, ep, kk1 _ _ lt hoL, r⟩
    show PySem.wpAt _ _ _ (execs _ _) _ _ _
    refine wpAt_of_wpAny (wpAny_execs_cons ?_)
    refine store1 (env := ksEnv qual scope hp.objs.size fI (.ref cda) cc) (m := fun y => List.lookup y ([(("self" : Str), Value.ref x), (f, v)].reverse)) T X1 rfl hn1 mf ms hx1 S.kind kf S.slf hd no (hsw2 _) fun h2 tk2 dx kk2 dn dne hx2 hn2 => ?_
    refine wpAny_execs_nil ?_
    have z : hp.objs.size < h0.objs.size := hns.lt
    have z1 : hp.objs.size < h1.objs.size := hn1.lt
    exact hq h2 tk2 ⟨fun b o hb e => kk2 b o hb (kk1 b o hb (hk0 b o e)), t1, dx, hx2, Nat.le_trans (Nat.le_of_lt z1) dn, dne, hn2⟩
theorem init2 {f f2 z0 z1 : Str} {k0 k1 : Nat} {p0 p1 p2 p3 p4 p5 p6 p7 p8 p9 p10 p11 q1 q2 q3 q4 r1 r2 r3 r4 : Pos} {v v2 : Value} (T : Tx prog K C fI cc cda qual params (body2 f f2 z0 z1 k0 k1 p0 p1 p2 p3 p4 p5 p6 p7 p8 p9 p10 p11 q1 q2 q3 q4 r1 r2 r3 r4) scope) (S : Sc prog params scope) (no : findIn K (.ref C) f = some none) (no2 : findIn K (.ref C) f2 = some none) (kf : scope.names.lookup f = some .local) (kf2 : scope.names.lookup f2 = some .local) (nf : ¬ (("self" : Str) = f)) (nf2 : ¬ (("self" : Str) = f2)) (nff : ¬ (f = f2)) (hd : (f == ("__debug__" : Str)) = false) (hd2 : (f2 == ("__debug__" : Str)) = false) (hz : z0.length ≤ 1000) (hz1 : z1.length ≤ 1000)
    (hcell : ∀ y ∈ scope.names, y.2 ≠ .cell) (hco : scope.isCoroutine = false) (hgen : scope.isGenerator = false)
    (hbind : ∀ (kV doc pm : Value) (an : Option Addr) (ct : Value), bindArgs (ksFn "__init__" qual params (body2 f f2 z0 z1 k0 k1 p0 p1 p2 p3 p4 p5 p6 p7 p8 p9 p10 p11 q1 q2 q3 q4 r1 r2 r3 r4) scope .none kV doc pm an (.ref cda) ct cc) ⟨[.ref x, v, v2], []⟩ = pure [(("self" : Str), .ref x), (f, v), (f2, v2)])
    (hst : ∀ env : Env, starEach [.JoinedStr [.Constant (.str z0) k0 p5, .FormattedValue (.Name f p6) (-1) none p7, .Constant (.str z1) k1 p9, .FormattedValue (.Name f2 p10) (-1) none p11] p8] env = (false, eval (.JoinedStr [.Constant (.str z0) k0 p5, .FormattedValue (.Name f p6) (-1) none p7, .Constant (.str z1) k1 p9, .FormattedValue (.Name f2 p10) (-1) none p11] p8) env) :: starEach [] env)
    (hsw : ∀ L, swapsWith (.Call (.Attribute (.Call (.Name "super" p0) [] [] p1) "__init__" p2) [.JoinedStr [.Constant (.str z0) k0 p5, .FormattedValue (.Name f p6) (-1) none p7, .Constant (.str z1) k1 p9, .FormattedValue (.Name f2 p10) (-1) none p11] p8] [] p3) none p4.line (ksEnv qual scope L fI (.ref cda) cc) = pure false)
    (hsw2 : ∀ L, swapsWith (.Name f q3) (some (.Attribute (.Name "self" q1) f q2)) q4.line (ksEnv qual scope L fI (.ref cda) cc) = pure false)
    (hsw3 : ∀ L, swapsWith (.Name f2 r3) (some (.Attribute (.Name "self" r1) f2 r2)) r4.line (ksEnv qual scope L fI (.ref cda) cc) = pure false)
    {pl : Sem Bool} (hev : ∀ L, eval (.Call (.Attribute (.Call (.Name "super" p0) [] [] p1) "__init__" p2) [.JoinedStr [.Constant (.str z0) k0 p5, .FormattedValue (.Name f p6) (-1) none p7, .Constant (.str z1) k1 p9, .FormattedValue (.Name f2 p10) (-1) none p11] p8] [] p3) (ksEnv qual scope L fI (.ref cda) cc) = (do
      let ov ← attributeBase (.Call (.Name "super" p0) [] [] p1) "__init__" (ksEnv qual scope L fI (.ref cda) cc) (eval (.Call (.Name "super" p0) [] [] p1) (ksEnv qual scope L fI (.ref cda) cc))
      standAt p2.atName
      let (fm, first) ← holding [ov] (getMethod ov "__init__" pl)
      callWith p3 fm first (backTo p3 (starEach [.JoinedStr [.Constant (.str z0) k0 p5, .FormattedValue (.Name f p6) (-1) none p7, .Constant (.str z1) k1 p9, .FormattedValue (.Name f2 p10) (-1) none p11] p8] (ksEnv qual scope L fI (.ref cda) cc))) []))
    (hf : Fmt v) (hf2 : Fmt v2) (X : K.In hp) (G : Ar hp mg mb) (hx : hp.get? x = some (excO C t0)) (hnx : K.lookup x = none) (hxC : x ≠ C) (hroom : A.depth < recursionLimit)
    (hq : ∀ h' tk', End hp h' x C [(f2, v2), (f, v)] → R (.ok (.ret .none)) ⟨h', g, d, tk', os⟩) :
    codeAny (model prog w) A (.call (.ref fI) ⟨[.ref x, v, v2], []⟩) R ⟨hp, g, d, t, os⟩ := by
  obtain ⟨oc, od, kV, doc, pm, an, ct, osl, hfn, hcd⟩ := T.fn
  refine ks_codeAny_call_defAt (s := ⟨hp, g, d, t, os⟩) (fd := ksFn "__init__" qual params (body2 f f2 z0 z1 k0 k1 p0 p1 p2 p3 p4 p5 p6 p7 p8 p9 p10 p11 q1 q2 q3 q4 r1 r2 r3 r4) scope .none kV doc pm an (.ref cda) ct cc) (body := body2 f f2 z0 z1 k0 k1 p0 p1 p2 p3 p4 p5 p6 p7 p8 p9 p10 p11 q1 q2 q3 q4 r1 r2 r3 r4) (binds := [(("self" : Str), .ref x), (f, v), (f2, v2)]) hroom (X _ _ hfn) rfl G.lim (codeRec_of X hcd) rfl (BindsTo.of_eq (hbind kV doc pm an ct)) hcell (fun y hy => ?_) (fun h0 hns hk0 => ?_) hco hgen S.kind
  · rcases List.mem_cons.mp hy with rfl | hy
    · exact S.slf
    · rcases List.mem_cons.mp hy with rfl | hy
      · exact kf
      · rcases List.mem_cons.mp hy with rfl | hy
        · exact kf2
        · cases hy
  have ms : (List.lookup ("self" : Str) ([(("self" : Str), Value.ref x), (f, v), (f2, v2)].reverse)) = some (.ref x) := by
    show List.lookup ("self" : Str) [(f2, v2), (f, v), (("self" : Str), Value.ref x)] = _
    have e : (("self" : Str) == f) = false := by simpa using nf
    have e2 : (("self" : Str) == f2) = false := by simpa using nf2
    simp [List.lookup, e, e2]
  have mf : (List.lookup f ([(("self" : Str), Value.ref x), (f, v), (f2, v2)].reverse)) = some v := by
    show List.lookup f [(f2, v2), (f, v), (("self" : Str), Value.ref x)] = _
    have e : (f == f2) = false := by simpa using nff
    simp [List.lookup, e]
  have mf2 : (List.lookup f2 ([(("self" : Str), Value.ref x), (f, v), (f2, v2)].reverse)) = some v2 := by
    show List.lookup f2 [(f2, v2), (f, v), (("self" : Str), Value.ref x)] = _
    simp [List.lookup]
  have lt : hp.objs.size ≠ x := Nat.ne_of_gt (Heap.lt_size hx)
  refine ks_wpAt_execs_cons ?_
  refine sup_stmt (m := fun y => List.lookup y ([(("self" : Str), Value.ref x), (f, v), (f2, v2)].reverse)) T S (X.keeps hk0) (G.glob.keeps hk0) G.sup (G.blt.keeps hk0) G.bsup boot_super hns ms (hk0 _ _ hx) hxC (pl := pl) (fun hp' t' Q' kk hz' => ?_) (fun h1 t1 tk1 kk1 hx1 => ?_) (hst _) (hsw _) (hev _)
  · obtain ⟨oL, es, ep, hoL, r⟩ := hns
    exact fs2 (m := fun y => List.lookup y ([(("self" : Str), Value.ref x), (f, v), (f2, v2)].reverse)) ⟨oL, es, ep, kk _ _ hoL, r⟩ mf mf2 S.kind kf kf2 hd hd2 hf hf2 hz hz1 hz'
  · have X1 : K.In h1 := kept_but (X.keeps hk0) hnx kk1
    have hn1 : h1.Ns hp.objs.size (fun y => List.lookup y ([(("self" : Str), Value.ref x), (f, v), (f2, v2)].reverse)) := by
      obtain ⟨oL, es, ep, hoL, r⟩ := hns
      exact ⟨oL, es, ep, kk1 _ _ lt hoL, r⟩
    show PySem.wpAt _ _ _ (execs _ _) _ _ _
    refine wpAt_of_wpAny (wpAny_execs_cons ?_)
    refine store1 (env := ksEnv qual scope hp.objs.size fI (.ref cda) cc) (m := fun y => List.lookup y ([(("self" : Str), Value.ref x), (f, v), (f2, v2)].reverse)) T X1 rfl hn1 mf ms hx1 S.kind kf S.slf hd no (hsw2 _) fun h2 tk2 dx kk2 dn dne hx2 hn2 => ?_
    have z1 : hp.objs.size < h1.objs.size := hn1.lt
    have X2 : K.In h2 := kept_but X1 hnx kk2
    have nLd : hp.objs.size ≠ dx := Nat.ne_of_lt (Nat.lt_of_lt_of_le z1 dn)
    have hn2' : h2.Ns hp.objs.size (fun y => List.lookup y ([(("self" : Str), Value.ref x), (f, v), (f2, v2)].reverse)) := by
      obtain ⟨oL, es, ep, hoL, r⟩ := hn1
      exact ⟨oL, es, ep, kk2 _ _ lt hoL, r⟩
    show wpAny _ _ (execs _ _) _ _ _
    refine wpAny_execs_cons ?_
    refine store2 (env := ksEnv qual scope hp.objs.size fI (.ref cda) cc) (m := fun y => List.lookup y ([(("self" : Str), Value.ref x), (f, v), (f2, v2)].reverse)) T X2 rfl hn2' mf2 ms hx2 hn2 S.kind kf2 S.slf hd2 no2 (hsw3 _) fun h3 tk3 kk3 hn3 => ?_
    refine wpAny_execs_nil ?_
    have dbig : hp.objs.size ≤ dx := Nat.le_trans (Nat.le_of_lt z1) dn
    have nb : ∀ b o, hp.get? b = some o → b ≠ dx := fun b o e => Nat.ne_of_lt (Nat.lt_of_lt_of_le (Heap.lt_size e) dbig)
    exact hq h3 tk3 ⟨fun b o hb e => kk3 b o (nb b o e) (kk2 b o hb (kk1 b o hb (hk0 b o e))), t1, dx, kk3 _ _ (Ne.symm dne) hx2, dbig, dne, hn3⟩
end
/-! ### C(v, ..) -/
def InitOk (prog : Program) (w : World) (K : Frag) (C fI : Addr) (vs : List Value) (fs : List (Str × Value)) : Prop :=
  ∀ (A : Around) (R : Result → Shared → Prop) (hp : Heap) (g : Array GenState) (d : Drawn) (t : Nat) (os : OsState) (mg mb : Str → Option Value) (x t0 : Addr), K.In hp → Ar hp mg mb → hp.get? x = some (excO C t0) → K.lookup x = none → x ≠ C → A.depth < recursionLimit →
    (∀ h' tk', End hp h' x C fs → R (.ok (.ret .none)) ⟨h', g, d, tk', os⟩) → codeAny (model prog w) A (.call (.ref fI) ⟨.ref x :: vs, []⟩) R ⟨hp, g, d, t, os⟩
/-- a made exception -/
structure Made (h h' : Heap) (e C d : Addr) (fs : List (Str × Value)) : Prop where
  keep : ∀ b o, h.get? b = some o → h'.get? b = some o
  new : h.objs.size ≤ e
  obj : ∃ oe vs, h'.get? e = some oe ∧ oe.cls = .ref C ∧ oe.dict = some d ∧ oe.data = .fields vs ∧ vs[1]? = some .none
  dbig : h.objs.size ≤ d
  dne : d ≠ e
  ns : h'.Ns1 d (mapV fs)
/-- the class's facts that making and raising ask -/
structure Cl0 (K : Frag) (C fI : Addr) : Prop where
  cls : ∃ nm q N bs bm sn sub ab col dd k0 k1 k2 k3 k5, K.lookup C = some (excClassObj nm q C N bs bm true sn sub ab col dd k0 k1 k2 k3 k5 "ValueError.__new__") ∧ refsVE bm = true
  iC : findIn K (.ref C) "__init__" = some (some (.ref fI))
  tC : typeIn K (.ref fI) = some (.type "function")
  kC : keepIn K (.ref C) = true
  exC : subIn K (.ref C) (.type "BaseException") = some true
  tyC : typeIn K (.ref C) = some (.type "type")
theorem made {prog : Program} {w : World} {A : Around} {R : Result → Shared → Prop} {s : Shared} {K : Frag} {C fI : Addr} {vs : List Value} {fs : List (Str × Value)} {mg mb : Str → Option Value} (T : Cl0 K C fI) (I : InitOk prog w K C fI vs fs) (X : K.In s.heap) (G : Ar s.heap mg mb) (hv : vs.length ≤ sizeLine) (hroom : A.depth + 1 < recursionLimit)
    (hq : ∀ h' tk e d, Made s.heap h' e C d fs → R (.ok (.ret (.ref e))) { s with heap := h', toks := tk }) :
    codeAny (model prog w) A (.call (.ref C) ⟨vs, []⟩) R s := by
  obtain ⟨nm, q, N, bs, bm, sn, sub, ab, col, dd, k0, k1, k2, k3, k5, hC, hbm⟩ := T.cls
  obtain ⟨hp, g, dr, tk, os⟩ := s
  have k : ∀ b o, hp.get? b = some o → ((hp.push (kdv_tup vs)).push (excO C hp.objs.size)).get? b = some o := fun b o e => Heap.get?_push_of_some _ (Heap.get?_push_of_some _ e)
  have hget : ((hp.push (kdv_tup vs)).push (excO C hp.objs.size)).get? (hp.objs.size + 1) = some (excO C hp.objs.size) := by heap_get
  have hnx : K.lookup (hp.objs.size + 1) = none := by
    cases e : K.lookup (hp.objs.size + 1) with
    | none => rfl
    | some o =>
      have z : hp.get? (hp.objs.size + 1) = some o := X _ _ e
      exact absurd (Nat.lt_of_succ_lt (Heap.lt_size z)) (Nat.lt_irrefl _)
  have hxC : hp.objs.size + 1 ≠ C := fun z => by rw [z, hC] at hnx; cases hnx
  refine call_own F.excBase_ValueError (fun X => refsVE_contains X bm hbm) (X _ _ hC) (looks_findIn X T.iC) (fun self => bind_fn X self T.tC) hv ?_
  refine I _ _ _ g dr tk os mg mb _ _ (X.keeps k) ⟨G.glob.keeps k, G.sup, G.blt.keeps k, G.bsup, G.lim.keeps k⟩ hget hnx hxC ?_ fun h' tk' ⟨k', t1, dx, hx, dn, dne, hns⟩ => ?_
  · show A.depth + 1 < recursionLimit
    exact hroom
  · have old : ∀ b o, hp.get? b = some o → h'.get? b = some o := fun b o e => k' b o (Nat.ne_of_lt (Nat.lt_succ_of_lt (Heap.lt_size e))) (k b o e)
    have z : hp.objs.size + 1 + 1 ≤ dx := by
      first
        | (simpa only [Heap.size_push] using dn)
        | exact dn
        | (have q := dn; rw [Heap.size_push, Heap.size_push] at q; exact q)
    exact ⟨rfl, hq h' tk' (hp.objs.size + 1) dx ⟨old, Nat.le_succ _, ⟨_, _, hx, rfl, rfl, rfl, rfl⟩, Nat.le_trans (Nat.le_trans (Nat.le_succ _) (Nat.le_succ _)) z, dne, hns⟩⟩
end Exs
/-! ## the rule -/
/-- an own exception class named x, whose __init__ stores ns -/
structure ExcK (prog : Program) (w : World) (K : PySem.W.Frag) (mg : Str → Option Value) (x : Str) (ns : List Str) : Prop where
  gC : mg x = some (.ref (He.ga K x))
  sup : mg "super" = none
  cl : Exs.Cl0 K (He.ga K x) (He.ma K (He.ga K x) "__init__")
  ini : ∀ us : List Value, us.length = ns.length → (∀ u ∈ us, Exs.Fmt u) → Exs.InitOk prog w K (He.ga K x) (He.ma K (He.ga K x) "__init__") us (ns.zip us).reverse
def tMkE (C : Addr) (ns : List Str) (ta : TA) : L2.St → Hp → XK → Prop := fun σ H Q => ta σ H fun vs H1 => vs.length = ns.length ∧ vs.length ≤ 1000 ∧ (∀ v ∈ vs, Exs.FmtV v) ∧ ∀ d, H1 d = none → Q (.ref C) (some d) (upd H1 d (.xd (ns.zip vs).reverse))
theorem relO_map : ∀ {fs : List (Str × V)} {us : List (Str × Value)}, Paired (fun (p : Str × V) (q : Str × Value) => p.1 = q.1 ∧ RelV p.2 q.2) fs us → ∀ f, RelO (fs.lookup f) (Exs.mapV us f)
  | _, _, .nil, f => True.intro
  | (a, v) :: fs, (b, u) :: us, .cons r t, f => by
    obtain ⟨e, r⟩ := r
    have e : a = b := e
    subst e
    rw [lookup_put]
    show RelO _ (if f = a then some u else Exs.mapV us f)
    by_cases h : f = a
    · rw [if_pos h, if_pos h]; exact r
    · rw [if_neg h, if_neg h]; exact relO_map t f
theorem paired_snoc {α β : Type} {F : α → β → Prop} : ∀ {as : List α} {bs : List β} {a : α} {b : β}, Paired F as bs → F a b → Paired F (as ++ [a]) (bs ++ [b])
  | _, _, _, _, .nil, h => .cons h .nil
  | _, _, _, _, .cons r t, h => .cons r (paired_snoc t h)
theorem paired_rev {α β : Type} {F : α → β → Prop} : ∀ {as : List α} {bs : List β}, Paired F as bs → Paired F as.reverse bs.reverse
  | _, _, .nil => .nil
  | _, _, .cons r t => by
    rw [List.reverse_cons, List.reverse_cons]
    exact paired_snoc (paired_rev t) r
theorem paired_zip : ∀ {ns : List Str} {vs : List V} {us : List Value}, Vals vs us → Paired (fun (p : Str × V) (q : Str × Value) => p.1 = q.1 ∧ RelV p.2 q.2) (ns.zip vs) (ns.zip us)
  | [], _, _, _ => .nil
  | n :: ns, _, _, .nil => .nil
  | n :: ns, _, _, .cons r t => .cons ⟨rfl, r⟩ (paired_zip t)
theorem vals_fmt : ∀ {vs : List V} {us : List Value}, Vals vs us → (∀ v ∈ vs, Exs.FmtV v) → ∀ u ∈ us, Exs.Fmt u
  | _, _, .nil, _, u, hu => nomatch hu
  | v :: vs, u :: us, .cons r t, h, u', hu => by
    rcases List.mem_cons.mp hu with rfl | hu
    · exact (h v List.mem_cons_self).val r
    · exact vals_fmt t (fun v hv => h v (List.mem_cons_of_mem _ hv)) u' hu
theorem pmk_exs {X : Cx} {x : Str} {ns : List Str} {e : Expr} {es : List Expr} {ta : TA} {p pos : Pos} {k : Nat} (T : ExcK X.prog X.w X.K X.mg x ns) (hr : Room k X.A) (hg : Gl X x) (ha : PA X (e :: es) ta) (hdb : (x == ("__debug__" : Str)) = false := by decide)
    (he : starEach (e :: es) X.env = (false, eval e X.env) :: starEach es X.env := by rfl) (hpl : (backTo pos (starEach es X.env)).any (·.1) = false := by rfl) : PMk X (.Call (.Name x p) (e :: es) [] pos) (tMkE (He.ga X.K x) ns ta) := by
  intro pins s σ H Q I h
  refine wpAny_Call_Name_kw (ld_glob I hg T.gC ?_ hdb)
  refine PySem.W.callWith_K (h₀ := X.base) I.ok.mod.kin T.cl.kC (thn (ha.run pos pins s σ H _ I h) fun us s1 hh => ?_) he hpl
  obtain ⟨vs, H1, I1, r1, hl, hz, hf, q1⟩ := hh
  refine ⟨I1.kIn, ?_⟩
  show wpAny _ _ (call (.ref (He.ga X.K x)) us) _ _ _
  have hlim := I1.nolimit
  obtain ⟨mb, hb1, hb2⟩ := I1.mod.blt
  have G : Exs.Ar s1.heap X.mg mb := ⟨I1.mod.glob.keeps I1.bk, T.sup, hb1.keeps I1.bk, hb2 "super" (by decide), hlim⟩
  have hlu : us.length = vs.length := r1.length.symm
  have J0 := I1.kIn
  obtain ⟨hp, g, dr, tk, os⟩ := s1
  refine wpAny_call (Exs.made T.cl (T.ini us (by omega) (vals_fmt r1 hf)) J0 G (by rw [sizeLine_eq]; omega) (by have := hr.dp; omega) fun h' tk' e d M => ?_)
  show MkP X pins σ Q (.ref e) ⟨h', g, dr, tk', os⟩
  obtain ⟨oe, fv, hoe, hc, hd, hdat, h1⟩ := M.obj
  have hns := M.ns
  obtain ⟨G', g1, g2⟩ := restrict h' fun b => decide (b ≠ e)
  have gk : ∀ b, b ≠ e → G'.get? b = h'.get? b := fun b hb => g1 b (decide_eq_true hb)
  have ge : G'.get? e = none := g2 e (by simp)
  have old : ∀ b o, hp.get? b = some o → G'.get? b = some o := fun b o q => (gk b (Nat.ne_of_lt (Nat.lt_of_lt_of_le (Heap.lt_size q) M.new))).trans (M.keep b o q)
  have rel := relO_map (paired_rev (paired_zip (ns := ns) r1))
  have ob : ObjOk X.prog X.w (upd H1 d (.xd (ns.zip vs).reverse)) G' d (.xd (ns.zip vs).reverse) := ⟨_, hns.at (fun o q => (gk d M.dne).trans q), rel⟩
  have J : Inv X pins σ (upd H1 d (.xd (ns.zip vs).reverse)) ⟨G', g, dr, tk', os⟩ := I1.laid (t' := tk') old M.dbig ob
  refine ⟨e, oe, fv, ⟨G', g, dr, tk', os⟩, _, .ref _, some d, rfl, J, fun b o q => ?_, ge, hoe, ⟨hc, hd⟩, hdat, h1, ?_, rfl, I1.bare, raises_own T.cl.exC T.cl.tyC, q1 d (I1.hok.fresh M.dbig)⟩
  · by_cases hb : b = e
    · have q' : G'.get? b = some o := q
      rw [hb, ge] at q'; cases q'
    · exact (gk b hb).symm.trans q
  · rw [upd_ne (Ne.symm M.dne)]
    exact I1.hok.fresh M.new
end Cl

/-! ## Hk -/
namespace Cl
open PySem PySem.Spec PyProof.Rows L2
/-! ## the head's Hook, with own exceptions -/
namespace Hz
open PySem.W He
def refsZ (o : Obj) : List Addr := refsD o ++ (match o.data with
  | .func fd => fd.closure.map (·.2)
  | _ => [])
def growZ (g : Addr → Option Obj) (as : List Addr) : List Addr := (as ++ as.flatMap fun a => match g a with
  | some o => refsZ o
  | none => []).eraseDups
def asZ (g : Addr → Option Obj) : Nat → List Addr
  | 0 => [mainGlobals, cStatics]
  | n + 1 => growZ g (asZ g n)
/-- a function's text -/
abbrev FnB : Type := Option (Str × Str × Arguments × FuncBody × Scope × Addr × Addr × Value)
def fnB (K : Frag) (x : Str) : FnB := match K.lookup (ma K (ga K x) "__init__") with
  | some ⟨_, _, .func fd, _⟩ => some (fd.name, fd.qualname, fd.params, fd.body, fd.scope, fd.globals, fd.builtins, fd.defaults)
  | _ => none
/-- an exception class of one's own: its name, its fields, its __init__'s statement -/
structure ExD where
  x : Str
  ns : List Str
  qual : Str
  st : Stmt
def ExD.val (e : ExD) : FnB := some ("__init__", e.qual, defArgs e.st, .stmts (defBody e.st), defScope e.st, mainGlobals, builtinsNs, .none)
def shapeB (K : Frag) (C : Addr) : Bool := match K.lookup C with
  | some ⟨.type "type", _, .cls cd, sl⟩ => (match cd.mro, sl.toList with
    | .ref C' :: bm, [_, _, _, _, some (.builtin n), _] => C' == C && n == "ValueError.__new__" && !cd.hasDel && cd.hasDict && PySem.HandSPX.refsVE bm
    | _, _ => false)
  | _ => false
def cellB (K : Frag) (C cc : Addr) : Bool := match K.lookup cc with
  | some ⟨_, _, .cell (some (.ref D)), _⟩ => D == C
  | _ => false
def fileB (K : Frag) (file : Str) (cda : Addr) : Bool := match K.lookup cda with
  | some ⟨_, _, .fields vs, _⟩ => (match (vs[2]? : Option Value) with
    | some (Value.str f _) => file == f
    | _ => false)
  | _ => false
def closB (K : Frag) (file : Str) (C : Addr) (q : Str) : Bool := match K.lookup (ma K C "__init__") with
  | some ⟨_, _, .func fd, _⟩ => (match fd.closure, fd.code with
    | [(n, cc)], .ref cda => n == ("__class__" : Str) && (cellB K C cc && (fileB K file cda && codeIn K (.ref cda) q))
    | _, _ => false)
  | _ => false
def exB (file : Str) (K : Frag) (e : ExD) : Bool :=
  shapeB K (ga K e.x) && (eqO (findIn K (.ref (ga K e.x)) "__setattr__") (some (some (.builtin "object.__setattr__"))) && (eqO (findIn K (.ref (ga K e.x)) "__init__") (some (some (.ref (ma K (ga K e.x) "__init__")))) &&
  (decide (typeIn K (.ref (ma K (ga K e.x) "__init__")) = some (.type "function")) && (keepIn K (.ref (ga K e.x)) && (decide (subIn K (.ref (ga K e.x)) (.type "BaseException") = some true) && (decide (subIn K (.ref (ga K e.x)) (.type "ValueError") = some true) &&
  (decide (typeIn K (.ref (ga K e.x)) = some (.type "type")) && (eqO (ks_superIn K (ga K e.x) (ga K e.x) "__init__") (some (some (.builtin "ValueError.__init__"))) && (decide (mroIn K (ga K e.x) (.ref (ga K e.x)) = some true) && (eqO (nsIn K cStatics "thirdparty.any") (some none) &&
  (closB K file (ga K e.x) e.qual && (e.ns.all (fun f => eqO (findIn K (.ref (ga K e.x)) f) (some none)) && (eqO (nsIn K mainGlobals e.x) (some (some (.ref (ga K e.x)))) && (eqO (nsIn K mainGlobals "super") (some none) &&
  (eqO (findIn K (.ref (ga K e.x)) "__getattribute__") (some (some (.builtin "BaseException.__getattribute__"))) && (eqO (findIn K (.ref (ga K e.x)) "__getattr__") (some none) && hasDictIn K (ga K e.x)))))))))))))))))
abbrev AlZ : Type := AlD × List FnB × Bool
def obsZ (file : Str) (fa : List Fa) (fn : List DefD) (fe : List ExD) (ex : Frag → Bool) (K : Frag) : AlZ := (obsD fa fn K, fe.map (fun e => fnB K e.x), (fe.all fun e => exB file K e) && ex K)
def valZ (fn : List DefD) (fe : List ExD) : AlZ := (valD fn, fe.map ExD.val, true)
def Says (file : Str) (fa : List Fa) (fn : List DefD) (fe : List ExD) (ex : Frag → Bool) (K : Frag) : Prop := obsZ file fa fn fe ex K = valZ fn fe
def obsG (file : Str) (n : Nat) (fa : List Fa) (fn : List DefD) (fe : List ExD) (ex : Frag → Bool) (g : Addr → Option Obj) : AlZ := obsZ file fa fn fe ex (frG g (asZ g n))
def hookZ (file : Str) (n : Nat) (fa : List Fa) (fn : List DefD) (fe : List ExD) (ex : Frag → Bool) : Hook where
  α := AlZ
  obs := fun s => obsG file n fa fn fe ex s.heap.get?
  val := fun _ => valZ fn fe
  says := fun _ h => ∃ K : Frag, K.In h ∧ Says file fa fn fe ex K
  of := fun _ _ e => ⟨_, frG_in, e⟩
  keeps := fun _ _ _ ⟨K, hK, c⟩ k => ⟨K, Frag.In.keeps hK k, c⟩
theorem obsG_eq {file : Str} {n : Nat} {fa : List Fa} {fn : List DefD} {fe : List ExD} {ex : Frag → Bool} {g : Addr → Option Obj} {s : Shared} (h : ∀ a, g a = s.heap.get? a) : obsG file n fa fn fe ex g = (hookZ file n fa fn fe ex).obs s := by
  have e : g = s.heap.get? := funext h
  rw [e] <;> rfl
section
variable {file : Str} {fa : List Fa} {fn : List DefD} {fe : List ExD} {ex : Frag → Bool} {K : Frag}
theorem Says.d (c : Says file fa fn fe ex K) : SaysD fa fn K := congrArg (fun z : AlZ => z.1) c
theorem Says.more (c : Says file fa fn fe ex K) : ex K = true := (ba (show ((fe.all fun e => exB file K e) && ex K) = true from congrArg (fun z : AlZ => z.2.2) c)).2
theorem Says.e (c : Says file fa fn fe ex K) (i : Nat) {e : ExD} (h : fe[i]? = some e := by rfl) : fnB K e.x = e.val ∧ exB file K e = true := by
  have c1 : fe.map (fun e => fnB K e.x) = fe.map ExD.val := congrArg (fun z : AlZ => z.2.1) c
  have c2 := (ba (show ((fe.all fun e => exB file K e) && ex K) = true from congrArg (fun z : AlZ => z.2.2) c)).1
  have e2 : (fe.map fun e => fnB K e.x)[i]? = (fe.map ExD.val)[i]? := by rw [c1]
  rw [List.getElem?_map, List.getElem?_map, h] at e2
  exact ⟨Option.some.inj e2, List.all_eq_true.mp c2 e (List.mem_of_getElem? h)⟩
theorem shape_of {C : Addr} (q : shapeB K C = true) : ∃ nm qn N bs bm sn sub ab col dd k0 k1 k2 k3 k5, K.lookup C = some (excClassObj nm qn C N bs bm true sn sub ab col dd k0 k1 k2 k3 k5 "ValueError.__new__") ∧ PySem.HandSPX.refsVE bm = true := by
  unfold shapeB at q
  split at q
  · rename_i dd cd sl ho
    split at q
    · rename_i C' bm k0 k1 k2 k3 n k5 hm hs
      simp only [Bool.and_eq_true, beq_iff_eq, Bool.not_eq_true'] at q
      obtain ⟨⟨⟨⟨rfl, rfl⟩, hdel⟩, hdi⟩, ht⟩ := q
      obtain ⟨nm, bs, mro, ns, qn, hd, sn, sub, ab, col, del⟩ := cd
      dsimp only at hm hdel hdi
      subst hm hdel hdi
      have hsl : sl = #[k0, k1, k2, k3, some (.builtin "ValueError.__new__"), k5] := by
        obtain ⟨l⟩ := sl
        simp only at hs
        rw [hs]
      subst hsl
      exact ⟨nm, qn, ns, bs, bm, sn, sub, ab, col, dd, k0, k1, k2, k3, k5, ho, ht⟩
    · cases q
  · cases q
theorem cell_of {C cc : Addr} (q : cellB K C cc = true) : ∃ (cl : Value) (dd : Option Addr) (sl : Array (Option Value)), K.lookup cc = some ⟨cl, dd, .cell (some (.ref C)), sl⟩ := by
  unfold cellB at q
  split at q
  · rename_i cl dd D sl ho
    have e : D = C := beq_iff_eq.mp q
    subst e
    exact ⟨_, _, _, ho⟩
  · cases q
theorem file_of {cda : Addr} {prog : Program} (q : fileB K (prog.main.file : Str) cda = true) : ∃ (cl : Value) (dd : Option Addr) (vs : Array Value) (sl : Array (Option Value)) (file : Str) (tf : Tok), K.lookup cda = some ⟨cl, dd, .fields vs, sl⟩ ∧ vs[2]? = some (.str file tf) ∧ ((prog.main.file : Str) == file) = true := by
  unfold fileB at q
  split at q
  · rename_i cl dd vs sl ho
    split at q
    · rename_i f tf hv
      exact ⟨_, _, _, _, f, tf, ho, hv, q⟩
    · cases q
  · cases q
/-- the facts of an exception's class -/
theorem tx_of {prog : Program} {e : ExD} (h1 : fnB K e.x = e.val) (h2 : exB (prog.main.file : Str) K e = true) : ∃ cc cda, Exs.Tx prog K (ga K e.x) (ma K (ga K e.x) "__init__") cc cda e.qual (defArgs e.st) (defBody e.st) (defScope e.st) ∧ Exs.Cl0 K (ga K e.x) (ma K (ga K e.x) "__init__") ∧ (∀ f ∈ e.ns, findIn K (.ref (ga K e.x)) f = some none) ∧
    nsIn K mainGlobals e.x = some (some (.ref (ga K e.x))) ∧ nsIn K mainGlobals "super" = some none := by
  unfold exB at h2
  obtain ⟨a1, h2⟩ := ba h2; obtain ⟨a2, h2⟩ := ba h2; obtain ⟨a3, h2⟩ := ba h2; obtain ⟨a4, h2⟩ := ba h2; obtain ⟨a5, h2⟩ := ba h2; obtain ⟨a6, h2⟩ := ba h2; obtain ⟨a7, h2⟩ := ba h2; obtain ⟨a8, h2⟩ := ba h2
  obtain ⟨a9, h2⟩ := ba h2; obtain ⟨a10, h2⟩ := ba h2; obtain ⟨a11, h2⟩ := ba h2; obtain ⟨a12, h2⟩ := ba h2; obtain ⟨a13, h2⟩ := ba h2; obtain ⟨a14, h2⟩ := ba h2; obtain ⟨a15, h2⟩ := ba h2
  have hns : ∀ f ∈ e.ns, findIn K (.ref (ga K e.x)) f = some none := fun f hf => eqO_ok (List.all_eq_true.mp a13 f hf)
  unfold closB at a12
  split at a12
  · rename_i oc od fd osl ho
    split at a12
    · rename_i n cc cda hcl hcode
      obtain ⟨b1, b2⟩ := ba a12; obtain ⟨b2, b3⟩ := ba b2; obtain ⟨b3, b4⟩ := ba b3
      have en : n = ("__class__" : Str) := beq_iff_eq.mp b1
      subst en
      have hfn : some (fd.name, fd.qualname, fd.params, fd.body, fd.scope, fd.globals, fd.builtins, fd.defaults) = e.val := by
        rw [← h1]
        unfold fnB
        rw [ho]
      obtain ⟨name, qn, params, body, scope, globals, closure, dV, kV, doc, pm, an, code, ct, blt⟩ := fd
      dsimp only at hcl hcode hfn
      subst hcl hcode
      have hfn := Option.some.inj hfn
      injection hfn with i1 hfn
      injection hfn with i2 hfn
      injection hfn with i3 hfn
      injection hfn with i4 hfn
      injection hfn with i5 hfn
      injection hfn with i6 hfn
      injection hfn with i7 i8
      subst i1 i2 i3 i4 i5 i6 i7 i8
      have cls := shape_of a1
      refine ⟨cc, cda, ⟨cls, eqO_ok a2, eqO_ok a3, of_decide_eq_true a4, a5, of_decide_eq_true a6, of_decide_eq_true a7, of_decide_eq_true a8, eqO_ok a9, of_decide_eq_true a10, eqO_ok a11, ⟨_, _, _, _, _, _, _, _, ho, b4⟩, file_of b3, cell_of b2⟩,
        ⟨cls, eqO_ok a3, of_decide_eq_true a4, a5, of_decide_eq_true a6, of_decide_eq_true a8⟩, hns, eqO_ok a14, eqO_ok a15⟩
    · cases a12
  · cases a12
end
end Hz
end Cl

/-! ## Exc2 -/
namespace Cl
open PySem PySem.Spec PyProof.Rows L2
/-! ## several clauses, each 'except x as n' -/
abbrev Hc : Type := Value × Nat × (Addr → Value → Option Addr → TS)
def endN (D : Ends) (i : Nat) : Ends := { nx := fun σ' H' => D.nx (σ'.set i none) H', rt := D.rt, bk := fun σ' H' => D.bk (σ'.set i none) H', ct := fun σ' H' => D.ct (σ'.set i none) H' }
def wMA (K : PySem.W.Frag) (Wout : WX) (D : Ends) : List Hc → WX
  | [] => Wout
  | (c, i, ts) :: r => fun cls d σ H => ∃ b, PySem.W.exmOne K cls c = some b ∧ (b = true → ∀ a, H a = none → ts a cls d (endN D i) (σ.set i (some (.ref a))) H) ∧ (b = false → wMA K Wout D r cls d σ H)
inductive HdsA (X : Cx) : List ExceptHandler → List Hc → Prop
  | nil : HdsA X [] []
  | cons {x n : Str} {c : Value} {i : Nat} {ts : Addr → Value → Option Addr → TS} {b₀ : Stmt} {suite : List Stmt} {np pos' : Pos} {hds : List ExceptHandler} {l : List Hc} (hi : X.N[i]? = some n) (hln : X.env.kindOf n = some .local) (hc : Names X x c)
      (hsu : ∀ (a : Addr) (oe : Obj) (cls : Value) (d : Option Addr) (pn : List (Addr × Obj)), Zc cls d oe → (∃ vs, oe.data = .fields vs) → PSs (X.suite a ((a, oe) :: pn)) (b₀ :: suite) (ts a cls d)) (r : HdsA X hds l) :
      HdsA X (.ExceptHandler (some (.Name x np)) (some n) (b₀ :: suite) pos' :: hds) ((c, i, ts) :: l)
def tTryA (K : PySem.W.Frag) (tb : WX → TS) (Wout : WX) (l : List Hc) : TS := fun D σ H => tb (wMA K Wout D l) D σ H
section
variable {X : Cx} {body : List Stmt} {h₀ : ExceptHandler} {hds : List ExceptHandler} {l : List Hc} {pos : Pos} {tb : WX → TS} {Wout : WX}
/-- an exception a of the body, caught: it lies on the ground, and the state is one of ours -/
structure Air (X : Cx) (pins : List (Addr × Obj)) (σ : L2.St) (H : Hp) (a : Addr) (cls : Value) (d : Option Addr) (B : Heap) (sI s : Shared) : Prop where
  J : Inv X pins σ H sI
  nb : ∀ b o, sI.heap.get? b = some o → b ∉ frs X.stack → B.get? b = some o
  fl : HandSPX.FlyingZ B (X.env :: X.outer) a (Zc cls d) s.heap
  up : sI.heap.UpToSlots s.heap
  na : H a = none
  os : s.os = sI.os
  ag : AllBare s.gens
section
variable {pins : List (Addr × Obj)} {σ : L2.St} {H : Hp} {a : Addr} {cls : Value} {d : Option Addr} {B : Heap} {sI s : Shared} {D : Ends}
theorem Air.inv (h : Air X pins σ H a cls d B sI s) : Inv X pins σ H s := by
  have J := h.J.landed (s' := s) h.nb h.fl.1 h.up h.os h.ag
  exact J
theorem Air.obj (h : Air X pins σ H a cls d B sI s) (hf : X.env.frame = some X.env.locals) : ∃ oe vs, s.heap.get? a = some oe ∧ Zc cls d oe ∧ oe.data = .fields vs ∧ Inv (X.suite a ((a, oe) :: (X.pn ++ pins))) [] σ H s := by
  obtain ⟨oe, vs, ha, hz, hd⟩ := h.fl.there
  have out : a ∉ frs (X.env :: X.outer) := fun hm => by
    obtain ⟨_, o', e', q⟩ := h.fl.2.2.1.mem hm
    have e2 := ha.symm.trans e'
    cases e2
    exact q _ hd
  refine ⟨oe, vs, ha, hz, hd, h.inv.suite ha hd h.na (fun z => ?_) (fun hm => ?_)⟩
  · exact out (List.mem_filterMap.mpr ⟨X.env, List.mem_cons_self, by rw [hf, z]⟩)
  · obtain ⟨e, he, q⟩ := List.mem_filterMap.mp hm
    exact out (List.mem_filterMap.mpr ⟨e, List.mem_cons_of_mem _ he, q⟩)
/-- no clause is left -/
theorem Air.past (h : Air X pins σ H a cls d B sI s) (hs : X.stack = X.env :: X.outer) (hf : X.env.frame = some X.env.locals) (tk : Takes X Wout) (w : Wout cls d σ H) : wpAny (model X.prog X.w) X.A (handleBy (.ref a) X.env []) (SP X pins D) X.xe s := by
  refine wpAny_handleBy_nil ?_
  have fin : wpAny (model X.prog X.w) X.A (setFlight (.ref a) X.env.frame) (fun _ s4 => wpAny (model X.prog X.w) X.A (throw (.ref a) : Sem Flow) (SP X pins D) X.xe s4) X.xe s := by
    rw [hf]
    exact HandSPX.setFlight_upZ h.fl fun h4 held up4 => wpAny_throw (tk _ _ ⟨a, B, sI, pins, σ, H, cls, d, rfl, h.J, h.nb, h.up.trans up4, .inr (.inr (by rw [hs]; exact held)), h.na, h.os, h.ag, w⟩)
  obtain ⟨_, _, _, oe, vs, T, oT, ts', he, _, hd, h1, _⟩ := id h.fl
  unfold PySem.passOn
  refine wpAny_bind (wpAny_field he hd h1 ?_)
  rw [if_neg (show ¬ ((Value.ref T == Value.none) = true) from by simp)]
  first
    | exact wpAny_bind (wpAny_pure (wpAny_bind fin))
    | exact wpAny_bind fin
/-- one clause -/
theorem Air.clause {x n : Str} {c : Value} {i : Nat} {ts : Addr → Value → Option Addr → TS} {b₀ : Stmt} {suite : List Stmt} {np pos' : Pos} {b : Bool} (h : Air X pins σ H a cls d B sI s) (hf : X.env.frame = some X.env.locals) (hN : X.N.Nodup) (hi : X.N[i]? = some n) (hln : X.env.kindOf n = some .local) (hc : Names X x c)
    (hsu : ∀ (a : Addr) (oe : Obj) (cls : Value) (d : Option Addr) (pn : List (Addr × Obj)), Zc cls d oe → (∃ vs, oe.data = .fields vs) → PSs (X.suite a ((a, oe) :: pn)) (b₀ :: suite) (ts a cls d))
    (hb : PySem.W.exmOne X.K cls c = some b) (yes : b = true → ts a cls d (endN D i) (σ.set i (some (.ref a))) H) (no : b = false → wpAny (model X.prog X.w) X.A (handleBy (.ref a) X.env hds) (SP X pins D) X.xe s) :
    wpAny (model X.prog X.w) X.A (handleBy (.ref a) X.env (.ExceptHandler (some (.Name x np)) (some n) (b₀ :: suite) pos' :: hds)) (SP X pins D) X.xe s := by
  obtain ⟨oe, vs, ha, hz, hd, S⟩ := h.obj hf
  refine wpAny_handleBy_cons (codeAny_handlers_test ?_) (by intro q; cases q)
  have LT : PySem.W.Looks (model X.prog X.w) s.heap (typeOf (.ref a)) cls := fun A Q E s k q => wpAny_typeOf_ref (k _ _ ha) (by rw [hz.1]; exact q)
  have LM := PySem.W.exm_one (M := model X.prog X.w) h.inv.kIn LT hb
  have look : ∀ {Q : Value → Shared → Prop} {E : Value → Shared → Prop}, Q c s → wpAny (model X.prog X.w) (X.A.mark (some (.ref a))) (eval (.Name x np) X.env) Q E s := fun {Q E} q => by
    obtain ⟨hg, hdbg, hm | ⟨hm, hv, hnn⟩⟩ := hc
    · exact ld_glob (X := X.suite a ((a, oe) :: (X.pn ++ pins))) S hg hm q hdbg
    · exact ld_blt (X := X.suite a ((a, oe) :: (X.pn ++ pins))) S hg hm hv q hnn hdbg
  obtain ⟨hp, gs, dr, tk, os⟩ := s
  refine look (LM.here ?_)
  cases b with
  | false => exact no rfl
  | true =>
    refine codeAny_handlers_suite_as (HandSPX.lands_againZ h.fl fun h4 fl4 up4 => ?_)
    have h' : Air X pins σ H a cls d B sI ⟨h4, gs, dr, tk, os⟩ := ⟨h.J, h.nb, fl4, h.up.trans up4, h.na, h.os, h.ag⟩
    obtain ⟨oe4, vs4, he4, hz4, hd4, S4⟩ := h'.obj hf
    refine store_ok (X := X.suite a ((a, oe4) :: (X.pn ++ pins))) (v := .ref a) S4 hN hi (.inl hln) rfl (fun s5 S5 => ?_) (.inr hln)
    refine wpAny_mono ((hsu a oe4 cls d (X.pn ++ pins) hz4 ⟨_, hd4⟩).run [] s5 _ H _ S5 (yes rfl)) (fun f s6 hsp => ?_) (fun _ _ z => False.elim z)
    have out : ∀ {σ6 : L2.St} {H6 : Hp} {Q : Shared → Prop}, Inv (X.suite a ((a, oe4) :: (X.pn ++ pins))) [] σ6 H6 s6 → (∀ s7, Inv X pins (σ6.set i none) H6 s7 → Q s7) →
        wpAny (model X.prog X.w) X.A (do bindName X.env n .none; unbindBehindTheSuite X.env n pos') (fun _ s7 => Q s7) X.xe s6 := fun {σ6 H6 Q} S6 hq => gone_ok (S6.unsuite h.J.ok) hN hi hln hq
    cases f with
    | ret u => obtain ⟨v6, σ6, H6, S6, r6, q6⟩ := hsp; exact out S6 fun s7 J7 => ⟨_, _, _, J7, r6, q6⟩
    | next => obtain ⟨σ6, H6, S6, q6⟩ := hsp; exact out S6 fun s7 J7 => ⟨_, _, J7, q6⟩
    | brk => obtain ⟨σ6, H6, S6, q6⟩ := hsp; exact out S6 fun s7 J7 => ⟨_, _, J7, q6⟩
    | cont => obtain ⟨σ6, H6, S6, q6⟩ := hsp; exact out S6 fun s7 J7 => ⟨_, _, J7, q6⟩
theorem Air.all (h : Air X pins σ H a cls d B sI s) (hs : X.stack = X.env :: X.outer) (hf : X.env.frame = some X.env.locals) (hN : X.N.Nodup) (tk : Takes X Wout) {hds' : List ExceptHandler} {l' : List Hc} (hk : HdsA X hds' l') : wMA X.K Wout D l' cls d σ H →
    wpAny (model X.prog X.w) X.A (handleBy (.ref a) X.env hds') (SP X pins D) X.xe s := by
  induction hk with
  | nil => exact fun w => h.past hs hf tk w
  | cons hi hln hc hsu r ih =>
    intro ⟨b, hb, yes, no⟩
    exact h.clause hf hN hi hln hc hsu hb (fun e => yes e a h.na) (fun e => ih (no e))
end
theorem ps_try_ma (hs : X.stack = X.env :: X.outer) (hf : X.env.frame = some X.env.locals) (hN : X.N.Nodup) (tk : Takes X Wout)
    (hb : ∀ (W : WX) (pn : List (Addr × Obj)) (xe : Value → Shared → Prop), Takes (X.tr pn xe) W → PassesOwn (model X.prog X.w) X.A X.env xe → PSs (X.tr pn xe) body (tb W))
    (hh : HdsA X (h₀ :: hds) l) : PS X (.Try body (h₀ :: hds) [] [] pos) (tTryA X.K tb Wout l) := by
  refine ⟨fun pins s σ H D I h => wpAny_Try_except ?_⟩
  have ok := I.ok
  refine wpAny_mono ((hb (wMA X.K Wout D l) (X.pn ++ pins) (fun e s₁ => wpAny (model X.prog X.w) X.A (noteFrame e X.env) (fun _ s₂ => wpAny (model X.prog X.w) X.A (setFlight e none) (fun _ s₃ =>
    wpAny (model X.prog X.w) X.A (handleBy e X.env (h₀ :: hds)) (SP X pins D) X.xe s₃) X.xe s₂) X.xe s₁) (fun u s' xx => ?_) PassesOwn.looking).run [] s σ H D (I.toTry _) h) (fun f s1 hsp => ?_) (fun e s1 he => he)
  · obtain ⟨a, B, sI, pins', σ', H', cls, d, rfl, J', nb, up, sky, na, os, ag, w⟩ := xx
    have sky' : Sky B (X.env :: X.outer) a (Zc cls d) X.env.locals s'.heap := by rw [← hs]; exact sky
    show wpAny (model X.prog X.w) X.A (noteFrame (.ref a) X.env) _ _ _
    refine Sky.land Zc.steady (by rw [ok.frames, hs]) hf sky' fun h3 fl3 up3 => ?_
    exact Air.all (sI := sI) (B := B) (s := { s' with heap := h3 }) ⟨J'.ofTry ok, nb, fl3, up.trans up3, na, os, ag⟩ hs hf hN tk hh w
  · cases f with
    | ret u => obtain ⟨v, σ', H', J', r, q⟩ := hsp; exact ⟨v, σ', H', J'.ofTry ok, r, q⟩
    | next => obtain ⟨σ', H', J', q⟩ := hsp; exact wpAny_execs_nil ⟨σ', H', J'.ofTry ok, q⟩
    | brk => obtain ⟨σ', H', J', q⟩ := hsp; exact ⟨σ', H', J'.ofTry ok, q⟩
    | cont => obtain ⟨σ', H', J', q⟩ := hsp; exact ⟨σ', H', J'.ofTry ok, q⟩
end
/-- isinstance(e, c) in an except suite: e's class is D, with its fields -/
def rIsX (K : PySem.W.Frag) (D a : Addr) (cls : Value) (d : Option Addr) : List V → Hp → VK → Prop := fun xs H Q => ∃ (c : V) (cv : Value) (b : Bool) (dd : Addr) (fs : List (Str × V)), xs = [.ref a, c] ∧ cls = .ref D ∧ d = some dd ∧ H dd = some (.xd fs) ∧ (∀ u, RelV c u → u = cv) ∧ PySem.W.kitOne K (.ref D) cv = some b ∧ Q (.bl b) H
theorem call_isX {X : Cx} {a D : Addr} {oe : Obj} {cls : Value} {d : Option Addr} {pn : List (Addr × Obj)} (C : ExcC X.K D) (hz : Zc cls d oe) (hf : ∃ vs, oe.data = .fields vs) : CallR (X.suite a ((a, oe) :: pn)) (.builtin "isinstance") (rIsX X.K D a cls d) := by
  intro pins s σ H xs us Q I r h
  obtain ⟨c, cv, b, dd, fs, rfl, ecl, edd, hH, hcv, e, q⟩ := h
  subst ecl edd
  cases r with
  | cons rx rr =>
    cases rr with
    | cons rt rr =>
      cases rr
      cases rx
      have ec := hcv _ rt
      subst ec
      obtain ⟨hget, _⟩ := I.pin (a, oe) (List.mem_append.mpr (.inl List.mem_cons_self))
      obtain ⟨vs, hv⟩ := hf
      have hx : ObjOk X.prog X.w H s.heap dd (.xd fs) := I.hok dd _ hH
      obtain ⟨mA, hns, hr⟩ := hx
      obtain ⟨od, ho, hl⟩ := lookIn_ns hns
      have J : PySem.W.InstAt s.heap a oe D (some od) := ⟨hget, hz.1, by unfold PySem.W.notCls; rw [hv] <;> rfl, by rw [hz.2]; exact ho⟩
      exact PySem.W.kia_one (PySem.W.kitx_exc (by obtain ⟨cd, hc, _⟩ := PySem.W.any_some C.hd; rw [hc]; rfl) C.hg C.hk C.hs C.ha C.hn C.ht C.hm) I.kIn J e (fun z => nomatch z) fun tk => ⟨.bl b, H, I.kept (t' := tk) fun _ _ z => z, rfl, q⟩
/-- a global class as a value -/
theorem pgc {X : Cx} {x : Str} {pos : Pos} (hg : Gl X x) (h : X.mg x = some (.ref (He.ga X.K x))) (hd : (x == ("__debug__" : Str)) = false := by decide) : PE X (.Name x pos) (tC (.ref (He.ga X.K x))) := pe_glob hg h rfl hd
/-! ## facts of the head about exceptions -/
inductive Xf where
  | xc (x : Str)
  | kit (x y : Str) (b : Bool)
  | kitT (x : Str) (T : String) (b : Bool)
  | exm (x y : Str) (b : Bool)
  | noat (x f : Str)
def eqB (a b : Option Bool) : Bool := decide (a = b)
def Xf.ok (K : PySem.W.Frag) : Xf → Bool
  | .xc x => He.eqO (PySem.W.findIn K (.ref (He.ga K x)) "__getattribute__") (some (some (.builtin "BaseException.__getattribute__"))) && (He.eqO (PySem.W.findIn K (.ref (He.ga K x)) "__getattr__") (some none) && (eqB (PySem.W.subIn K (.ref (He.ga K x)) (.type "BaseException")) (some true) && (PySem.W.hasDictIn K (He.ga K x) &&
      (He.eqO (PySem.W.findIn K (.ref (He.ga K x)) "__class__") (some (some (.builtin "object.__class__"))) && (He.eqO (PySem.W.specialIn K (.builtin "object.__class__") "__get__") (some (some (.builtin "getset_descriptor.__get__"))) && (eqB (PySem.W.takesIn K (.builtin "object.__class__")) (some true) && eqB (PySem.W.mroIn K (He.ga K x) (.type "object")) (some true)))))))
  | .kit x y b => eqB (PySem.W.kitOne K (.ref (He.ga K x)) (.ref (He.ga K y))) (some b)
  | .kitT x T b => eqB (PySem.W.kitOne K (.ref (He.ga K x)) (.type T)) (some b)
  | .exm x y b => eqB (PySem.W.exmOne K (.ref (He.ga K x)) (.ref (He.ga K y))) (some b)
  | .noat x f => He.eqO (PySem.W.findIn K (.ref (He.ga K x)) f) (some none)
def exOf (xf : List Xf) (K : PySem.W.Frag) : Bool := xf.all fun x => x.ok K
structure Fz (file : Str) (fe : List Hz.ExD) (xf : List Xf) (fa : List He.Fa) (fn : List He.DefD) (K : PySem.W.Frag) (mg : Str → Option Value) : Prop extends Fx fa fn K mg where
  more : Hz.Says file fa fn fe (exOf xf) K
theorem Fz.mk' {file : Str} {fe : List Hz.ExD} {xf : List Xf} {fa : List He.Fa} {fn : List He.DefD} {K : PySem.W.Frag} {h : Heap} {mg : Str → Option Value} (X : K.In h) (G : h.Ns mainGlobals mg) (c : Hz.Says file fa fn fe (exOf xf) K) : Fz file fe xf fa fn K mg := ⟨⟨c.d, h, X, G⟩, c⟩
section
variable {file : Str} {fe : List Hz.ExD} {xf : List Xf} {fa : List He.Fa} {fn : List He.DefD} {K : PySem.W.Frag} {mg : Str → Option Value}
theorem Fz.xf_ (c : Fz file fe xf fa fn K mg) {x : Xf} (i : Nat) (h : xf[i]? = some x) : x.ok K = true := List.all_eq_true.mp c.more.more x (List.mem_of_getElem? h)
theorem Fz.xc (c : Fz file fe xf fa fn K mg) (i : Nat) {x : Str} (h : xf[i]? = some (.xc x) := by rfl) : ExcC K (He.ga K x) := by
  have q := c.xf_ i h
  unfold Xf.ok at q
  obtain ⟨a1, q⟩ := Bool.and_eq_true_iff.mp q; obtain ⟨a2, q⟩ := Bool.and_eq_true_iff.mp q; obtain ⟨a3, q⟩ := Bool.and_eq_true_iff.mp q; obtain ⟨a4, q⟩ := Bool.and_eq_true_iff.mp q
  obtain ⟨a5, q⟩ := Bool.and_eq_true_iff.mp q; obtain ⟨a6, q⟩ := Bool.and_eq_true_iff.mp q; obtain ⟨a7, a8⟩ := Bool.and_eq_true_iff.mp q
  exact ⟨He.eqO_ok a1, He.eqO_ok a2, of_decide_eq_true a3, a4, He.eqO_ok a5, He.eqO_ok a6, of_decide_eq_true a7, of_decide_eq_true a8⟩
theorem Fz.xfc (c : Fz file fe xf fa fn K mg) (i : Nat) {x : Str} (h : xf[i]? = some (.xc x) := by rfl) : XfC K (He.ga K x) := let q := c.xc i h; ⟨q.hg, q.hk, q.hs, q.hd⟩
theorem Fz.kit (c : Fz file fe xf fa fn K mg) (i : Nat) {x y : Str} {b : Bool} (h : xf[i]? = some (.kit x y b) := by rfl) : PySem.W.kitOne K (.ref (He.ga K x)) (.ref (He.ga K y)) = some b := of_decide_eq_true (c.xf_ i h)
theorem Fz.kitT (c : Fz file fe xf fa fn K mg) (i : Nat) {x : Str} {T : String} {b : Bool} (h : xf[i]? = some (.kitT x T b) := by rfl) : PySem.W.kitOne K (.ref (He.ga K x)) (.type T) = some b := of_decide_eq_true (c.xf_ i h)
theorem Fz.exm (c : Fz file fe xf fa fn K mg) (i : Nat) {x y : Str} {b : Bool} (h : xf[i]? = some (.exm x y b) := by rfl) : PySem.W.exmOne K (.ref (He.ga K x)) (.ref (He.ga K y)) = some b := of_decide_eq_true (c.xf_ i h)
theorem Fz.xnoat (c : Fz file fe xf fa fn K mg) (i : Nat) {x f : Str} (h : xf[i]? = some (.noat x f) := by rfl) : PySem.W.findIn K (.ref (He.ga K x)) f = some none := He.eqO_ok (c.xf_ i h)
end
/-- a call that may raise, at the wish W -/
theorem pcallS {X : Cx} {k : Nat} {ps : List Str} {sp : Sp} {W : WX} {x : Str} {p pos : Pos} {e : Expr} {es : List Expr} {t : TA} (F : FnX X.prog X.w X.K X.mg X.base (L2.CX X.prog X.w) k (x, none) ps sp) (hr : Room k X.A) (hg : Gl X x) (hm : X.mg x = some (.ref (He.ga X.K x))) (tk : Takes X W)
    (ha : PA X (e :: es) t) (hdb : (x == ("__debug__" : Str)) = false := by decide) (he : starEach (e :: es) X.env = (false, eval e X.env) :: starEach es X.env := by rfl) (hpl : (backTo pos (starEach es X.env)).any (·.1) = false := by rfl) :
    PE X (.Call (.Name x p) (e :: es) [] pos) (tCallS sp (WE W) t) := by
  obtain ⟨⟨fd, F, b⟩, kp⟩ := F
  exact pe_callS F hr hg hm kp b (fun σ => passAt tk σ) ha hdb he hpl
abbrev WF : WX := fun _ _ _ _ => False
abbrev W0 (E : XK) : WX := fun cls d _ H => E cls d H
def tRaise (t : L2.St → Hp → XK → Prop) (W : WX) : TS := fun _ σ H => t σ H fun cls d H' => W cls d σ H'
theorem praise {X : Cx} {W : WX} {e : Expr} {t : L2.St → Hp → XK → Prop} {pos : Pos} (hc : X.calm = true) (tk : Takes X W) (he : PMk X e t) : PS X (.Raise (some e) none pos) (tRaise t W) := ps_raise hc tk he
end Cl

/-! ## EnumT -/
/-! enumerate(tuple), and enumerate of anything that begins -/
namespace Cl
open PySem PySem.Spec PyProof.Rows L2
namespace En
open PySem.Calls
theorem new1 {v : Value} {o : Obj} {H : Heap → Prop} (B : Begins v o H) :
    Meets (Builtin.«enumerate.__new__» ⟨[.type "enumerate", v], []⟩) (fun _ R s => H s.heap ∧
      R (.ok (.ret (.ref (s.heap.push o).objs.size))) { s with heap := (s.heap.push o).push { cls := .type "enumerate", data := .fields #[.none, .bool false, .ref s.heap.objs.size, rawInt 0, .none, .none] } }) :=
  .of_wp fun prog w A R s h => by
    obtain ⟨hp, g, d, tk, os⟩ := s
    obtain ⟨h1, h⟩ := h
    have hsub := sub_enumerate
    have it : ∀ {A' : Around} {E : Value → Shared → Prop} {Q : Value → Shared → Prop}, Q (.ref hp.objs.size) ⟨hp.push o, g, d, tk, os⟩ → wpAny (model prog w) A' (pyIter v) Q E ⟨hp, g, d, tk, os⟩ :=
      fun q => B.iter prog w _ _ ⟨hp, g, d, tk, os⟩ _ h1 q
    wp_walk using it
    refine wpAny_stack_any fun st => wpAny_pure ?_
    split
    · rename_i c _ _ _ _ _
      cases (c == Value.type "enumerate") <;> (wp_walk using it; exact ⟨_, rfl, h⟩)
    · wp_walk using it
      exact ⟨_, rfl, h⟩
theorem call1 {prog : Program} {w : World} {A : Around} {E : Value → Shared → Prop} {s : Shared} {v : Value} {o : Obj} {H : Heap → Prop} {Q : Value → Shared → Prop} (B : Begins v o H) (h1 : H s.heap)
    (h : ∀ h', IsEnum h' (s.heap.objs.size + 1) s.heap.objs.size 0 .none → h'.get? s.heap.objs.size = some o → h'.objs.size = s.heap.objs.size + 2 →
      (∀ b o, s.heap.get? b = some o → h'.get? b = some o) → Q (.ref (s.heap.objs.size + 1)) { s with heap := h' }) :
    wpAny (model prog w) A (call (.type "enumerate") [v]) Q E s := by
  refine callType_new F.called_enumerate (by decide) (F.typeCall_enumerate_1 _) (F.newCall_enumerate_1 _) (fun obj => F.args_object_init_2 obj _) F.entry_enumerate_new (new1 B) ⟨h1, ?_⟩
  have hz : (s.heap.push o).objs.size = s.heap.objs.size + 1 := Heap.size_push ..
  show _ ∧ _
  rw [hz]
  have he : IsEnum ((s.heap.push o).push { cls := .type "enumerate", data := .fields #[.none, .bool false, .ref s.heap.objs.size, rawInt 0, .none, .none] }) (s.heap.objs.size + 1) s.heap.objs.size 0 .none := by
    have q := Heap.get?_push_size (s.heap.push o) (o := { cls := .type "enumerate", data := .fields #[.none, .bool false, .ref s.heap.objs.size, rawInt 0, .none, .none] }) rfl
    rw [hz] at q; exact q
  exact ⟨⟨_, he, rfl⟩, h _ he (Heap.get?_push_of_some _ (Heap.get?_push_size _ B.free)) (by rw [Heap.size_push, hz]) fun b o x => Heap.get?_push_of_some _ (Heap.get?_push_of_some _ x)⟩
end En
def ItT (K : PySem.W.Frag) (a : Addr) : It :=
  ⟨fun i H => ∃ (xs : List V) (x : V), SqT K H a xs ∧ xs[i]? = some x, fun i H v H' => ∃ T x, v = .ref T ∧ H T = none ∧ H' = upd H T (.tup [.int (i : Nat), x]) ∧ ∀ xs, SqT K H a xs → xs[i]? = some x, fun i H => ∃ xs : List V, SqT K H a xs ∧ xs.length ≤ i⟩
theorem turn_enumT {P : Program} {w : World} {K : PySem.W.Frag} {elts : List Expr} {kk : Nat} {tpos : Pos} (a e it : Addr) (hea : e ≠ a) (hia : a ≠ it) :
    Turn P w K (.Tuple elts kk tpos) (ItT K a) [e, it] e (fun i h => (∃ old, IsEnum h e it ((i : Nat) : Int) old) ∧ h.IsTupleIter it a i ∧ e ≠ it) where
  mem := by simp
  obj := fun i h st b hb => by
    obtain ⟨⟨old, he⟩, ⟨o, ho, hc, hd⟩, _⟩ := st
    rcases (by simpa using hb : b = e ∨ b = it) with z | z
    · rw [z]; exact ⟨_, he, fun v q => nomatch q⟩
    · rw [z]; exact ⟨o, ho, fun v q => by rw [hd] at q; cases q⟩
  keep := fun i h h' st k => let ⟨⟨old, he⟩, hi, hne⟩ := st; ⟨⟨old, k e (by simp) _ he⟩, hi.at fun o q => k it (by simp) o q, hne⟩
  item := by
    intro X hP hw hK hc i pins s σ H E I hf st hg
    subst hP hw hK
    obtain ⟨⟨old, he⟩, hit, hne⟩ := st
    obtain ⟨xs, x, hq, hx⟩ := hg
    obtain ⟨its, rv, p, hz⟩ := I.tuple hq
    obtain ⟨u, hu, ru⟩ := rv.get hx
    have hel : e < s.heap.objs.size := Heap.lt_size he
    have hlt : i < its.toArray.size := by
      have q := (List.getElem?_eq_some_iff.mp hu).1
      simpa using q
    have DD := Draws.tuple (prog := X.prog) (w := X.w) (A := X.A.in1) (by exact I.ok.hd hc) it a hia its.toArray
    refine wpAny_pyNext_enum_itemD DD he ⟨hit, p⟩ hlt hne (by simp [hne, hea]) fun u' h' tk hu' ho hit' hT hsz hk => ?_
    have eu : u' = u := by
      have z : its[i]? = some u' := by simpa using hu'
      rw [hu] at z; exact (Option.some.inj z).symm
    subst eu
    refine ⟨_, rfl, wpAny_letOwnedTupleGo_enum (s := { s with heap := h', toks := tk + 1 }) ho fun h'' he' sb => ?_⟩
    have hT2 : h''.get? s.heap.objs.size = some { cls := .type "tuple", data := .seq #[.int i tk, u'] } := (sb.2 _ (Nat.ne_of_gt hel)).trans hT
    have new : ObjOk X.prog X.w (upd H s.heap.objs.size (.tup [.int (i : Nat), x])) h'' s.heap.objs.size (.tup [.int (i : Nat), x]) :=
      ⟨by show 2 ≤ sizeLine; decide, [.int i tk, u'], .cons ⟨_, rfl⟩ (.cons ru .nil), ⟨_, hT2, rfl, _, rfl⟩⟩
    have I1 : Inv X pins σ (upd H s.heap.objs.size (.tup [.int (i : Nat), x])) { s with heap := h'', toks := tk + 1 } :=
      I.turnedNew (ch := [e, it]) (fun b ob hb q => (sb.2 b (fun z => hb (by simp [z]))).trans (hk b ob (fun z => hb (by simp [z])) (fun z => hb (by simp [z])) q)) hf (Nat.le_refl _) new
    refine ⟨.ref s.heap.objs.size, _, I1, rfl, ⟨_, x, rfl, I.hok.fresh (Nat.le_refl _), rfl, fun ys hy => by rw [I.tuple_inj hy hq]; exact hx⟩, ⟨⟨u', ?_⟩, hit'.1.at fun o q => (sb.2 it (Ne.symm hne)).trans q, hne⟩, fun b hb => ?_⟩
    · have e1 : ((i + 1 : Nat) : Int) = (i : Int) + 1 := by omega
      rw [e1]; exact he'
    · obtain ⟨o1, q1, _⟩ := hit
      have hb' : b < s.heap.objs.size := by
        rcases (by simpa using hb : b = e ∨ b = it) with z | z
        · rw [z]; exact hel
        · rw [z]; exact Heap.lt_size q1
      rw [upd_ne (Nat.ne_of_lt hb')]
      exact (hf b hb).1
  done := by
    intro X hP hw hK hc i pins s σ H E I hf st hg
    subst hP hw hK
    obtain ⟨⟨old, he⟩, hit, hne⟩ := st
    obtain ⟨xs, hq, hx⟩ := hg
    obtain ⟨its, rv, p, hz⟩ := I.tuple hq
    obtain ⟨f0, f1, f2, f3, f4, f5⟩ := hf it (by simp)
    have hl := rv.length
    have hh : X.A.in1.handled = none := I.ok.hd hc
    have DD : Draws X.prog X.w X.A.in1 it [it, a] i (fun i v => its.toArray[i]? = some v) (fun j h => (h.IsTupleIter it a j ∧ h.IsTuple a its.toArray) ∧ j = i) :=
      ⟨fun _ _ st => let ⟨o, ho, _⟩ := st.1.1; ⟨o, ho⟩, fun _ _ _ st hk => ⟨⟨st.1.1.at fun o e => hk it (by simp) o e, st.1.2.at fun o e => hk a (by simp) o e⟩, st.2⟩,
        fun j s Q E hj st hQ => absurd st.2 (Nat.ne_of_lt hj),
        fun s Q E st hE => wpAny_nextOf_tuple_end hh st.1.1 st.1.2 (by simp; omega) hE⟩
    exact wpAny_pyNext_enum_endD DD he ⟨⟨hit, p⟩, rfl⟩ fun h' eb => ⟨rfl, I.turned (t' := s.toks) (fun b o hb q => eb b o hb q) f0 f1 f3 f4 f5⟩
  self := fun A i s Q E st h => let ⟨⟨_, he⟩, _⟩ := st; wpAny_pyIter_enum he h
def iEnumT (K : PySem.W.Frag) (ta : TA) : TI := fun σ H R => ta σ H fun vs H1 => ∃ a xs, vs = [.ref a] ∧ SqT K H1 a xs ∧ R (ItT K a) H1
theorem pi_enumT {X : Cx} {e : Expr} {ta : TA} {p pos tpos : Pos} {elts : List Expr} {kk : Nat} (hg : Gl X "enumerate") (hm : X.mg "enumerate" = none) (ha : PA X [e] ta) (hs : starEach [e] X.env = [(false, eval e X.env)] := by rfl) :
    PI X (.Tuple elts kk tpos) (.Call (.Name "enumerate" p) [e] [] pos) (iEnumT X.K ta) := by
  refine ⟨fun pins s σ H R I h => ?_⟩
  refine Call_ (ld_blt I hg hm boot_enumerate (PyProof.Rows.callWith_type1 (thn (ha.run pos pins s σ H _ I h) fun us s1 ⟨vs, H1, I1, r1, a, xs, ex, hq, q⟩ => ?_) hs rfl))
  subst ex
  cases r1 with
  | cons r rr =>
    cases rr
    cases r
    obtain ⟨its, rv, p', hz⟩ := I1.tuple hq
    have hal : a < s1.heap.objs.size := by obtain ⟨o, ho, _⟩ := id p'; exact Heap.lt_size ho
    refine En.call1 (begins_tuple a its.toArray) p' fun h' he hit hsz hk => wpAny_pyIter_enum he ?_
    have I2 : Inv X pins σ H1 { s1 with heap := h' } := I1.kept (t' := s1.toks) hk
    refine ⟨s1.heap.objs.size + 1, [s1.heap.objs.size + 1, s1.heap.objs.size], _, _, H1, rfl, I2, turn_enumT a (s1.heap.objs.size + 1) s1.heap.objs.size (Nat.ne_of_gt (Nat.lt_succ_of_lt hal)) (Nat.ne_of_lt hal), ⟨⟨.none, he⟩, ⟨_, hit, rfl, rfl⟩, Nat.succ_ne_self _⟩, fun b hb => ?_, q⟩
    have hle : s1.heap.objs.size ≤ b := by
      rcases (by simpa using hb : b = s1.heap.objs.size + 1 ∨ b = s1.heap.objs.size) with z | z
      · rw [z]; exact Nat.le_succ _
      · rw [z]; exact Nat.le_refl _
    exact I1.fpOk hle (I1.hok.fresh hle)
end Cl

/-! ## Lib4 -/
namespace Cl
open PySem PySem.Spec PyProof.Rows L2
theorem t_yesIf {σ : L2.St} {H : Hp} {A B : Hp → Prop} (h : A H) : tYes σ H (fun b H3 => if b = true then A H3 else B H3) := by
  show if true = true then A H else B H
  rw [if_pos rfl]; exact h
/-! ## comprehensions whose blocks change the heap -/
section
variable {K : PySem.W.Frag} {σ : L2.St} {H : Hp} {Q : VK} {j : Nat} {tt : TT} {te : TE} {vs : List Nat} {tl : TE} {ta : TA}
theorem e_lcRW {n : Int} (h : Args ta σ H [.int n]) (hn : 0 ≤ n ∧ n ≤ 1000000) (W : Addr → Nat → Hp → Prop) (h0 : ∀ Dl, H Dl = none → W Dl 0 (upd H Dl (.lst []))) (hw : ∀ x, wipe ((wipe σ vs).set j (some x)) vs = wipe σ vs)
    (hs : ∀ Dl (i : Nat) H', H Dl = none → (i : Int) < n → W Dl i H' → tt ((wipe σ vs).set j (some (.int (i : Nat)))) H' fun b H3 => if b = true then te ((wipe σ vs).set j (some (.int (i : Nat)))) H3 fun y H4 => ∃ acc, H4 Dl = some (.lst acc) ∧ acc.length < sizeLine ∧ W Dl (i + 1) (upd H4 Dl (.lst (acc ++ [y]))) else W Dl (i + 1) H3)
    (q : ∀ Dl H', H Dl = none → W Dl n.toNat H' → Q (.ref Dl) H') : tLc (iRng1 ta) (gName j) tt te vs σ H Q :=
  h _ ⟨n, rfl, by omega, by omega, fun Dl hD => lc_range (lo := 0) (n := n.toNat) (W Dl) (h0 Dl hD) (fun i H' hi p => by
    have e0 : (0 : Int) + (i : Int) = (i : Int) := Int.zero_add _
    rw [e0]
    exact ⟨hw _, hs Dl i H' hD (by omega) p⟩) (fun H' p => q Dl H' hD p)⟩
theorem e_lcLW {a : Addr} {xs : List V} (h : Val tl σ H (.ref a)) (hx : SqL K H a xs) (W : Addr → Nat → Hp → Prop) (h0 : ∀ Dl, H Dl = none → W Dl 0 (upd H Dl (.lst []))) (hl : ∀ Dl i H', H Dl = none → i ≤ xs.length → W Dl i H' → SqL K H' a xs) (hw : ∀ x, wipe ((wipe σ vs).set j (some x)) vs = wipe σ vs)
    (hs : ∀ Dl (i : Nat) x H', H Dl = none → xs[i]? = some x → W Dl i H' → tt ((wipe σ vs).set j (some x)) H' fun b H3 => if b = true then te ((wipe σ vs).set j (some x)) H3 fun y H4 => ∃ acc, H4 Dl = some (.lst acc) ∧ acc.length < sizeLine ∧ W Dl (i + 1) (upd H4 Dl (.lst (acc ++ [y]))) else W Dl (i + 1) H3)
    (q : ∀ Dl H', H Dl = none → W Dl xs.length H' → Q (.ref Dl) H') : tLc (iList K tl) (gName j) tt te vs σ H Q :=
  h _ ⟨a, rfl, ⟨xs, hx⟩, fun Dl hD => lc_list (K := K) (a := a) (xs := xs) (W Dl) (h0 Dl hD) (fun i H' hi p => hl Dl i H' hD hi p) (fun i x H' hi p => ⟨hw x, hs Dl i x H' hD hi p⟩) (fun H' p => q Dl H' hD p)⟩
theorem walk_enumT {a : Addr} {xs : List V} : Walk (ItT K a) xs.length (fun H => SqT K H a xs) (YPair (fun i => some (.int (i : Nat))) (fun i => xs[i]?)) := by
  refine ⟨fun i _ hi q => ⟨xs, xs[i], q, by simp [hi]⟩, fun _ q => ⟨xs, q, Nat.le_refl _⟩, fun i H v H' _ q y => ?_⟩
  obtain ⟨T, x, h1, h2, h3, h4⟩ := y
  exact ⟨T, .int (i : Nat), x, h1, h2, h3, rfl, h4 xs q⟩
theorem e_lcEW {a : Addr} {xs : List V} {i1 i2 : Nat} (h : Args ta σ H [.ref a]) (hx : SqT K H a xs) (W : Addr → Nat → Hp → Prop) (h0 : ∀ Dl, H Dl = none → W Dl 0 (upd H Dl (.lst []))) (hl : ∀ Dl i H', H Dl = none → i ≤ xs.length → W Dl i H' → SqT K H' a xs) (hw : ∀ x y, wipe (((wipe σ vs).set i1 (some x)).set i2 (some y)) vs = wipe σ vs)
    (hs : ∀ Dl (i : Nat) x H' t, H Dl = none → xs[i]? = some x → W Dl i H' → H' t = none → tt (((wipe σ vs).set i1 (some (.int (i : Nat)))).set i2 (some x)) (upd H' t (.tup [.int (i : Nat), x])) fun b H3 => if b = true then te (((wipe σ vs).set i1 (some (.int (i : Nat)))).set i2 (some x)) H3 fun y H4 => ∃ acc, H4 Dl = some (.lst acc) ∧ acc.length < sizeLine ∧ W Dl (i + 1) (upd H4 Dl (.lst (acc ++ [y]))) else W Dl (i + 1) H3)
    (q : ∀ Dl H', H Dl = none → W Dl xs.length H' → Q (.ref Dl) H') : tLc (iEnumT K ta) (gTup K 2 (gCons (gName i1) (gCons (gName i2) gNil))) tt te vs σ H Q :=
  h _ ⟨a, xs, rfl, hx, fun Dl hD => lc_it (walk_enumT (K := K) (a := a) (xs := xs)) (W Dl) (h0 Dl hD) (fun i H' hi p => hl Dl i H' hD hi p) (fun i x H' H'' hi p y => by
    obtain ⟨t, u, v, ex, ht, eH, e1, e2⟩ := y
    have eu : V.int ((i : Nat) : Int) = u := Option.some.inj e1
    subst ex eH eu
    exact ⟨t, _, rfl, SqT.of upd_same, rfl, _, _, rfl, _, _, rfl, rfl, hw _ _, hs Dl i v H' t hD e2 p ht⟩) (fun H' p => q Dl H' hD p)⟩
end
theorem v_lenS {K : PySem.W.Frag} {σ : L2.St} {H : Hp} {ts : TA} {p : Addr} {xs : List V} (h : Args ts σ H [.ref p]) (hl : SqL K H p xs ∨ SqT K H p xs) : Val (tCB (rLen K) ts) σ H (.int xs.length) := v_cb h fun _ q => ⟨p, xs, rfl, hl, q⟩
/-! ## a for over a new list -/
section
variable {K : PySem.W.Frag} {σ : L2.St} {H : Hp} {D : Ends} {tb r : TS} {j : Nat}
theorem s_seq {t : TS} (h : t { D with nx := r D } σ H) : tSeq t r D σ H := h
/-- the loop, once the list is there -/
def ForL (K : PySem.W.Frag) (a : Addr) (j : Nat) (tb : TS) : TS := tFor (fun _ H R => R (Itl K a) H) (gName j) tb
theorem s_for_any {tl : TE} (h : tl σ H fun v H1 => ∃ a, v = .ref a ∧ (∃ xs, SqL K H1 a xs) ∧ ForL K a j tb D σ H1) : tFor (iList K tl) (gName j) tb D σ H := h
theorem s_for_lst {ts : TA} {xs : List V} (h : Args ts σ H xs) (hz : xs.length ≤ sizeLine) (q : ∀ l, H l = none → ForL K l j tb D σ (upd H l (.lst xs))) : tFor (iList K (tLst ts)) (gName j) tb D σ H :=
  h _ ⟨hz, fun l hl => ⟨l, rfl, ⟨xs, SqL.of upd_same⟩, q l hl⟩⟩
theorem s_forLi {a : Addr} {xs : List V} (hx : SqL K H a xs) (Pv : Nat → L2.St → Hp → Prop) (h0 : Pv 0 σ H) (hl : ∀ i σ' H', i ≤ xs.length → Pv i σ' H' → SqL K H' a xs)
    (hs : ∀ i x σ' H', xs[i]? = some x → Pv i σ' H' → tb { D with nx := Pv (i + 1), ct := Pv (i + 1), bk := D.nx } (σ'.set j (some x)) H') (hd : ∀ σ' H', Pv xs.length σ' H' → D.nx σ' H') : ForL K a j tb D σ H := for_list Pv h0 hl hs hd
end
/-! ## exceptions -/
section
variable {K : PySem.W.Frag} {σ : L2.St} {H : Hp} {Q : VK} {D : Ends} {r : TS} {sp : Sp} {ts : TA} {vs : List V} {i : Nat} {te : TE} {E : XK}
theorem q_tryC {Wout : WX} {l : List Hc} (h : Args ts σ H vs) (q : sp vs H (fun v H2 => r D (σ.set i (some v)) H2) (fun cls d H' => wMA K Wout { D with nx := r D } l cls d σ H')) :
    tSeq (tTryA K (fun W => tAsg (tCallS sp (WE W) ts) (gName i)) Wout l) r D σ H := h _ q
theorem q_callS {W : WX} (h : Args ts σ H vs) (q : sp vs H (fun v H2 => r D σ H2) (WE W σ)) : tSeq (tDrop (tCallS sp (WE W) ts)) r D σ H := h _ q
theorem g_callS {W : WX} (h : ts σ H fun vs H1 => sp vs H1 Q (WE W σ)) : tCallS sp (WE W) ts σ H Q := h
theorem w_hit {c : Value} {j : Nat} {t : Addr → Value → Option Addr → TS} {l : List Hc} {Wout : WX} {cls : Value} {d : Option Addr} (hb : PySem.W.exmOne K cls c = some true) (h : ∀ a, H a = none → t a cls d (endN D j) (σ.set j (some (.ref a))) H) : wMA K Wout D ((c, j, t) :: l) cls d σ H := ⟨true, hb, fun _ => h, (fun z => by cases z)⟩
theorem w_miss {c : Value} {j : Nat} {t : Addr → Value → Option Addr → TS} {l : List Hc} {Wout : WX} {cls : Value} {d : Option Addr} (hb : PySem.W.exmOne K cls c = some false) (h : wMA K Wout D l cls d σ H) : wMA K Wout D ((c, j, t) :: l) cls d σ H := ⟨false, hb, (fun z => by cases z), fun _ => h⟩
theorem v_xf {a C dd : Addr} {fs : List (Str × V)} {f : Str} {v : V} (h : Val te σ H (.ref a)) (hd : H dd = some (.xd fs)) (hl : fs.lookup f = some v) : Val (tXf a (.ref C) (some dd) C f te) σ H v := fun Q q => h _ ⟨rfl, rfl, dd, fs, v, rfl, hd, hl, q⟩
theorem v_isX {a C c dd : Addr} {fs : List (Str × V)} {b : Bool} (h : Args ts σ H [.ref a, .ref c]) (hd : H dd = some (.xd fs)) (hk : PySem.W.kitOne K (.ref C) (.ref c) = some b) : Val (tCB (rIsX K C a (.ref C) (some dd)) ts) σ H (.bl b) := v_cb h fun _ q => ⟨_, _, b, dd, fs, rfl, rfl, rfl, hd, fun u hu => hu, hk, q⟩
theorem v_isXT {a C dd : Addr} {fs : List (Str × V)} {T : String} {b : Bool} (h : Args ts σ H [.ref a, .ty T]) (hd : H dd = some (.xd fs)) (hk : PySem.W.kitOne K (.ref C) (.type T) = some b) : Val (tCB (rIsX K C a (.ref C) (some dd)) ts) σ H (.bl b) := v_cb h fun _ q => ⟨_, _, b, dd, fs, rfl, rfl, rfl, hd, fun u hu => hu, hk, q⟩
/-- raise x(v) -/
theorem g_raise1 {W : WX} {C : Addr} {f : Str} {v : V} (h : Args ts σ H [v]) (hf : Exs.FmtV v) (q : ∀ d, H d = none → W (.ref C) (some d) σ (upd H d (.xd [(f, v)]))) : tRaise (tMkE C [f] ts) W D σ H := h _ ⟨rfl, by show 1 ≤ 1000; decide, fun u hu => by
    have e : u = v := by simpa using hu
    rw [e]; exact hf, fun d hd => q d hd⟩
theorem g_raise2 {W : WX} {C : Addr} {f g : Str} {v w : V} (h : Args ts σ H [v, w]) (hf : Exs.FmtV v) (hg : Exs.FmtV w) (q : ∀ d, H d = none → W (.ref C) (some d) σ (upd H d (.xd [(g, w), (f, v)]))) : tRaise (tMkE C [f, g] ts) W D σ H := h _ ⟨rfl, by show 2 ≤ 1000; decide, fun u hu => by
    have e : u = v ∨ u = w := by simpa using hu
    rcases e with e | e
    · rw [e]; exact hf
    · rw [e]; exact hg, fun d hd => q d hd⟩
theorem fmt_int {i : Int} (h : -4611686018427387904 < i ∧ i < 4611686018427387904) : Exs.FmtV (.int i) := by
  show i.natAbs.log2 < 1920
  have e : (2 : Nat) ^ 62 = 4611686018427387904 := by decide
  have h2 : i.natAbs < 2 ^ 62 := by omega
  have h3 := PySem.Flt.log2_lt_of (k := 62) (by decide) h2
  omega
end
end Cl

/-! ## Lib5 -/
namespace Cl
open PySem PySem.Spec PyProof.Rows L2
/-! ## isinstance(e, (C, D, ..)) in an except suite -/
def rIsXs (K : PySem.W.Frag) (D a : Addr) (cls : Value) (d : Option Addr) : List V → Hp → VK → Prop := fun xs H Q => ∃ (tp : Addr) (cs : List V) (cvs : List Value) (b : Bool) (dd : Addr) (fs : List (Str × V)), xs = [.ref a, .ref tp] ∧ cls = .ref D ∧ d = some dd ∧ H dd = some (.xd fs) ∧ H tp = some (.tup cs) ∧ (∀ us, Vals cs us → us = cvs) ∧ PySem.W.kitAny K (.ref D) cvs = some b ∧ Q (.bl b) H
theorem call_isXs {X : Cx} {a D : Addr} {oe : Obj} {cls : Value} {d : Option Addr} {pn : List (Addr × Obj)} (C : ExcC X.K D) (hz : Zc cls d oe) (hf : ∃ vs, oe.data = .fields vs) : CallR (X.suite a ((a, oe) :: pn)) (.builtin "isinstance") (rIsXs X.K D a cls d) := by
  intro pins s σ H xs us Q I r h
  obtain ⟨tp, cs, cvs, b, dd, fs, rfl, ecl, edd, hH, hT, hcv, e, q⟩ := h
  subst ecl edd
  cases r with
  | cons rx rr =>
    cases rr with
    | cons rt rr =>
      cases rr
      cases rx
      cases rt
      obtain ⟨hget, _⟩ := I.pin (a, oe) (List.mem_append.mpr (.inl List.mem_cons_self))
      obtain ⟨vs, hv⟩ := hf
      have hx : ObjOk X.prog X.w H s.heap dd (.xd fs) := I.hok dd _ hH
      obtain ⟨mA, hns, hr⟩ := hx
      obtain ⟨od, ho, hl⟩ := lookIn_ns hns
      have J : PySem.W.InstAt s.heap a oe D (some od) := ⟨hget, hz.1, by unfold PySem.W.notCls; rw [hv] <;> rfl, by rw [hz.2]; exact ho⟩
      have hsq : SqT X.K H tp cs := SqT.of hT
      obtain ⟨its, rv, ⟨⟨c0, d0, da0, sl0⟩, ho2, hc2, n2, hd2⟩, _⟩ := I.tuple hsq
      simp only at hc2 hd2
      subst hc2 hd2
      have ev := hcv _ rv
      subst ev
      exact PySem.W.kia_tup (PySem.W.kitx_exc (by obtain ⟨cd, hc, _⟩ := PySem.W.any_some C.hd; rw [hc]; rfl) C.hg C.hk C.hs C.ha C.hn C.ht C.hm) I.kIn J ho2 e (fun z => nomatch z) fun tk => ⟨.bl b, H, I.kept (t' := tk) fun _ _ z => z, rfl, q⟩
/-! ## xs.count(x), any data -/
def rCntD (K : PySem.W.Frag) : V → List V → Hp → VK → Prop := fun x xs H Q => ∃ (p : Addr) (vs : List V) (ds : List PyData) (y : V) (d : PyData), x = .ref p ∧ xs = [y] ∧ SqL K H p vs ∧ DpAll K H vs ds ∧ Dp K H y d ∧ PyData.plainAll ds = true ∧ d.plain = true ∧ d.depth ≤ 60 ∧ Q (.int ((ds.countP fun z => PyData.eqv z d : Nat) : Int)) H
theorem mt_lcountD {X : Cx} (hu : X.A.units + 64 < cLine) : MtR X "list.count" (rCntD X.K) := by
  intro pins s σ H x xs v us Q I rx rxs h
  obtain ⟨p, vs, ds, y, d, rfl, rfl, hs, hds, hd, p1, p2, p3, q⟩ := h
  cases rx
  obtain ⟨u, rfl, ru⟩ := rxs.one
  obtain ⟨its, rv, ⟨o, n, ho, hc, hdn, hd2⟩, hlen⟩ := I.list hs
  obtain ⟨as, r1⟩ := Dp.readsAll I ds vs its hds rv
  obtain ⟨bs, r2⟩ := Dp.reads I d y u hd ru
  exact PySem.SeqAt.count_list_data (vs := its.toArray) ⟨o, ho, hc, n, hd2⟩ (by simpa using r1) r2 p1 p2 (by omega) ⟨.int _, H, I.tok _, ⟨s.toks, rfl⟩, q⟩
/-! ## try: .. except X: .. -/
def tTryO (K : PySem.W.Frag) (c : Value) (tb : WX → TS) (Wout : WX) (ts : Addr → Value → Option Addr → TS) : TS := fun D σ H => tb (wOnly K c ts Wout D) D σ H
end Cl

/-! ## NetSp -/
namespace Cl
open PySem PySem.Spec PyProof.Rows L2
/-! ## spans -/
structure Row where
  s : Int
  e : Int
  l : Int
  m : Int
def Row.vs (r : Row) : List V := [.int r.s, .int r.e, .int r.l, .int r.m]
def Row.d (r : Row) : PyData := .tuple [.int r.s, .int r.e, .int r.l, .int r.m]
structure Row.Ok (T n : Int) (r : Row) : Prop where
  s0 : 0 ≤ r.s
  s1 : r.s < n
  e0 : 0 ≤ r.e
  e1 : r.e < n
  ne : r.s ≠ r.e
  l0 : 0 ≤ r.l
  lm : r.l ≤ r.m
  mT : r.m ≤ r.l + T - 1
  m9 : r.m ≤ 999
/-- the addresses ts hold the rows, as tuples -/
def RowsAt (H : Hp) (ts : List Addr) (rows : List Row) : Prop := ts.length = rows.length ∧ ∀ (i : Nat) t r, ts[i]? = some t → rows[i]? = some r → H t = some (.tup r.vs)
def SpansAt (H : Hp) (a : Addr) (rows : List Row) : Prop := ∃ ts : List Addr, H a = some (.lst (ts.map V.ref)) ∧ RowsAt H ts rows
theorem RowsAt.kp {S : List Addr} {H H' : Hp} {ts : List Addr} {rows : List Row} (h : RowsAt H ts rows) (k : Kp S H H') (hs : ∀ t xs, t ∈ S → H t ≠ some (.tup xs)) : RowsAt H' ts rows :=
  ⟨h.1, fun i t r e1 e2 => k t _ (fun z => hs t _ z (h.2 i t r e1 e2)) (h.2 i t r e1 e2)⟩
theorem RowsAt.nil {H : Hp} : RowsAt H [] [] := ⟨rfl, fun i t r e => by simp at e⟩
theorem RowsAt.snoc {H : Hp} {ts : List Addr} {rows : List Row} {t : Addr} {r : Row} (h : RowsAt H ts rows) (ht : H t = some (.tup r.vs)) : RowsAt H (ts ++ [t]) (rows ++ [r]) := by
  refine ⟨by simp [h.1], fun i u q e1 e2 => ?_⟩
  by_cases hi : i < ts.length
  · rw [List.getElem?_append_left hi] at e1
    rw [List.getElem?_append_left (by rw [← h.1]; exact hi)] at e2
    exact h.2 i u q e1 e2
  · have hi' : ts.length ≤ i := by omega
    rw [List.getElem?_append_right hi'] at e1
    rw [List.getElem?_append_right (by rw [← h.1]; exact hi')] at e2
    rw [← h.1] at e2
    cases e0 : i - ts.length with
    | zero =>
      rw [e0] at e1 e2
      cases e1; cases e2; exact ht
    | succ k => rw [e0] at e1; simp at e1
theorem RowsAt.take {H : Hp} {ts : List Addr} {rows : List Row} (h : RowsAt H ts rows) (k : Nat) : RowsAt H (ts.take k) (rows.take k) := by
  refine ⟨by simp [h.1], fun i u q e1 e2 => ?_⟩
  rw [List.getElem?_take] at e1 e2
  split at e1
  · rename_i hi
    rw [if_pos hi] at e2
    exact h.2 i u q e1 e2
  · cases e1
theorem pool_not_tup {H : Hp} {p t : Addr} {xs : List V} (h : Pool H p) (ht : t ∈ [p]) : H t ≠ some (.tup xs) := by
  obtain ⟨a, f, c, e, _⟩ := h
  have e2 : t = p := by simpa using ht
  intro z; rw [e2, e] at z; cases z
theorem pool_ne_refs {H : Hp} {p a : Addr} {ts : List Addr} (h : Pool H p) (ha : H a = some (.lst (ts.map V.ref))) : a ≠ p := fun z => by
  obtain ⟨x, f, c, e, _⟩ := h
  rw [z, e] at ha
  have q := HO.lst.inj (Option.some.inj ha)
  cases ts <;> simp at q
theorem pool_ne_tup {H : Hp} {p a : Addr} {xs : List V} (h : Pool H p) (ha : H a = some (.tup xs)) : a ≠ p := fun z => by
  obtain ⟨x, f, c, e, _⟩ := h
  rw [z, e] at ha; cases ha
/-! ## promises -/
def sp_is_window : Sp := fun vs H Q _ => ∃ T l m k : Int, vs = [.int T, .int l, .int m, .int k] ∧ Q (.bl (decide (0 ≤ l ∧ l ≤ m ∧ m ≤ l + T - 1 ∧ m ≤ k))) H
def sp_is_span (K : PySem.W.Frag) : Sp := fun vs H Q _ => ∃ (T n : Int) (a : Addr) (r : Row), vs = [.int T, .int n, .ref a] ∧ H a = some (.tup r.vs) ∧ r.Ok T n ∧ Q (.bl true) H
def netF (T n : Int) (a : Addr) : List (Str × V) := putF "spans" (.ref a) (putF "events" (.int n) (putF "round_length" (.int T) []))
/-- a net at x -/
def NetAt (C : Addr) (H : Hp) (x : Addr) (T n : Int) (rows : List Row) : Prop := ∃ (dx a : Addr) (ts : List Addr), H x = some (.ins C dx (netF T n a)) ∧ H a = some (.tup (ts.map V.ref)) ∧ RowsAt H ts rows
def sp_Net___init__ (K : PySem.W.Frag) : Sp := fun vs H Q _ => ∃ (x dx a : Addr) (T n : Int) (rows : List Row), vs = [.ref x, .int T, .int n, .ref a] ∧ H x = some (.ins (He.ga K "Net") dx []) ∧ SpansAt H a rows ∧
  2 ≤ T ∧ T ≤ 60 ∧ 0 ≤ n ∧ n ≤ 12 ∧ rows.length ≤ 24 ∧ (∀ r ∈ rows, r.Ok T n) ∧ ∀ H', Kp [x] H H' → NetAt (He.ga K "Net") H' x T n rows → Q .non H'
def sp_l_length : Sp := fun vs H Q _ => ∃ p, vs = [.ref p] ∧ Pool H p ∧ ∀ T H', 2 ≤ T → T ≤ 60 → Kp [p] H H' → Pool H' p → Q (.int T) H'
/-- some good spans -/
def GotSpans (p : Addr) (T n k : Int) (H : Hp) (Q : VK) : Prop := ∀ l rows H', H l = none → Kp [p] H H' → Pool H' p → SpansAt H' l rows → (rows.length : Int) ≤ k → (∀ r ∈ rows, r.Ok T n) → Q (.ref l) H'
def sp_law (K : PySem.W.Frag) : Sp := fun vs H Q _ => ∃ (a : Addr) (ns : List Int), vs = [.ref a] ∧ SqL K H a (ns.map V.int) ∧ ∀ H', Q (.bl true) H'
theorem start_law {K : PySem.W.Frag} {H : Hp} {a : Addr} {ns : List Int} {n : Nat} (hl : ns.length ≤ n) (hS : SqL K H a (ns.map V.int)) : sp_law K [.ref a] H (fun v _ => v = .bl true) fun _ _ _ => False := ⟨a, ns, rfl, hS, fun _ => rfl⟩
theorem len_is_window {vs H Q E} (h : sp_is_window vs H Q E) : vs.length = 4 := by obtain ⟨_, _, _, _, rfl, _⟩ := h; rfl
theorem len_is_span {K vs H Q E} (h : sp_is_span K vs H Q E) : vs.length = 3 := by obtain ⟨_, _, _, _, rfl, _⟩ := h; rfl
theorem len_Net___init__ {K vs H Q E} (h : sp_Net___init__ K vs H Q E) : vs.length = 4 := by obtain ⟨_, _, _, _, _, _, rfl, _⟩ := h; rfl
theorem len_l_length {vs H Q E} (h : sp_l_length vs H Q E) : vs.length = 1 := by obtain ⟨_, rfl, _⟩ := h; rfl
theorem len_law {K vs H Q E} (h : sp_law K vs H Q E) : vs.length = 1 := by obtain ⟨_, _, rfl, _⟩ := h; rfl
end Cl

/-! ## SpanSp -/
namespace Cl
open PySem PySem.Spec PyProof.Rows L2
def sp_l_many : Sp := fun vs H Q _ => ∃ p, vs = [.ref p] ∧ Pool H p ∧ ∀ n H', 0 ≤ n → n ≤ 12 → Kp [p] H H' → Pool H' p → Q (.int n) H'
def sp_l_count : Sp := fun vs H Q _ => ∃ p n, vs = [.ref p, .int n] ∧ Pool H p ∧ 0 ≤ n ∧ ∀ c H', 0 ≤ c → c ≤ 24 → (n < 2 → c = 0) → Kp [p] H H' → Pool H' p → Q (.int c) H'
def sp_l_any_spans : Sp := fun vs H Q _ => ∃ (p : Addr) (T n k : Int), vs = [.ref p, .int T, .int n, .int k] ∧ Pool H p ∧ 2 ≤ T ∧ T ≤ 60 ∧ 0 ≤ n ∧ n ≤ 12 ∧ 0 ≤ k ∧ k ≤ 24 ∧ (n < 2 → k = 0) ∧ GotSpans p T n k H Q
/-- a new tuple of these -/
def GotTup (H : Hp) (Q : VK) (xs : List V) : Prop := ∀ t H', H t = none → Kp [] H H' → H' t = some (.tup xs) → Q (.ref t) H'
theorem len_l_many {vs H Q E} (h : sp_l_many vs H Q E) : vs.length = 1 := by obtain ⟨_, rfl, _⟩ := h; rfl
theorem len_l_count {vs H Q E} (h : sp_l_count vs H Q E) : vs.length = 2 := by obtain ⟨_, _, rfl, _⟩ := h; rfl
theorem len_l_any_spans {vs H Q E} (h : sp_l_any_spans vs H Q E) : vs.length = 4 := by obtain ⟨_, _, _, _, rfl, _⟩ := h; rfl
end Cl

/-! ## Sp -/
namespace Cl
open PySem PySem.Spec PyProof.Rows L2
/-! ## steps of a path -/
abbrev Step := Int × Int
def stV (p : Step) : List V := [.int p.1, .int p.2]
def stD (p : Step) : PyData := .tuple [.int p.1, .int p.2]
def StepsAt (H : Hp) (ts : List Addr) (ps : List Step) : Prop := ts.length = ps.length ∧ ∀ (i : Nat) t p, ts[i]? = some t → ps[i]? = some p → H t = some (.tup (stV p))
def PathAt (H : Hp) (a : Addr) (ps : List Step) : Prop := ∃ ts : List Addr, H a = some (.lst (ts.map V.ref)) ∧ StepsAt H ts ps
def endsP (rows : List Row) (p : Step) : Option Step := if 0 ≤ p.1 ∧ p.1 < rows.length ∧ (p.2 = 1 ∨ p.2 = -1) then some (if p.2 = 1 then ((rows.getD p.1.toNat ⟨0, 0, 0, 0⟩).s, (rows.getD p.1.toNat ⟨0, 0, 0, 0⟩).e) else ((rows.getD p.1.toNat ⟨0, 0, 0, 0⟩).e, (rows.getD p.1.toNat ⟨0, 0, 0, 0⟩).s)) else none
def stepP (rows : List Row) (c : Option Step) (p : Step) : Option Step := match endsP rows p with
  | none => none
  | some q => match c with
    | none => some q
    | some d => if q.1 = d.2 then some (d.1, q.2) else none
def runP (rows : List Row) : List Step → Nat → Option Step → Nat ⊕ Option Step
  | [], _, c => .inr c
  | p :: ps, i, c => match stepP rows c p with
    | none => .inl i
    | some d => runP rows ps (i + 1) (some d)
def ringP (rows : List Row) (ps : List Step) : Option Nat := match runP rows ps 0 none with
  | .inl k => some k
  | .inr none => some ps.length
  | .inr (some c) => if c.1 = c.2 then none else some ps.length
/-- ends, or None -/
def EndV (H : Hp) : Option Step → V → Prop
  | none, v => v = .non
  | some q, v => ∃ t, v = .ref t ∧ H t = some (.tup (stV q))
def badVal : Nat ⊕ Option Step → V
  | .inl k => .int (k : Nat)
  | .inr _ => .non
structure NR (K : PySem.W.Frag) (H : Hp) (x : Addr) (rows : List Row) : Prop where
  net : ∃ T n, NetAt (He.ga K "Net") H x T n rows ∧ 0 ≤ n ∧ n ≤ 12 ∧ ∀ r ∈ rows, r.Ok T n
  rl : rows.length ≤ 24
def noteP (k : Nat) : HO := .xd [("place", .int (k : Nat))]
def badV (k : Nat) : List V := [.str "bad path", .int (k : Nat), .bl true, .bl true, .bl false]
structure PathK (K : PySem.W.Frag) : Prop where
  pp : PySem.W.exmOne K (.ref (He.ga K "BadPath")) (.ref (He.ga K "BadPath")) = some true
  pd : PySem.W.kitOne K (.ref (He.ga K "BadPath")) (.ref (He.ga K "DepotError")) = some true
  pv : PySem.W.kitOne K (.ref (He.ga K "BadPath")) (.type "ValueError") = some true
  k1 : PySem.W.kitOne K (.ref (He.ga K "BadPath")) (.ref (He.ga K "BadNet")) = some false
  k2 : PySem.W.kitOne K (.ref (He.ga K "BadPath")) (.ref (He.ga K "UnknownSpan")) = some false
  k3 : PySem.W.kitOne K (.ref (He.ga K "BadPath")) (.ref (He.ga K "UnknownEvent")) = some false
  k4 : PySem.W.kitOne K (.ref (He.ga K "BadPath")) (.ref (He.ga K "BadTimes")) = some false
  k5 : PySem.W.kitOne K (.ref (He.ga K "BadPath")) (.ref (He.ga K "BrokenSpan")) = some false
  k6 : PySem.W.kitOne K (.ref (He.ga K "BadPath")) (.ref (He.ga K "BadRounds")) = some false
  k7 : PySem.W.kitOne K (.ref (He.ga K "BadPath")) (.ref (He.ga K "ShutRing")) = some false
  k8 : PySem.W.kitOne K (.ref (He.ga K "BadPath")) (.ref (He.ga K "TooMany")) = some false
structure BaseK (K : PySem.W.Frag) : Prop where
  cl : Cls K (He.ga K "Base")
  nT : NoAttr K (He.ga K "Base") "tree"
  nC : NoAttr K (He.ga K "Base") "closing"
  nE : NoAttr K (He.ga K "Base") "event_count"
  nS : NoAttr K (He.ga K "Base") "span_ends"
def joinL (L : List Int) (s e : Nat) : List Int := L.map fun x => if x = L.getD e 0 then L.getD s 0 else x
def GotPath (p : Addr) (k : Nat) (H : Hp) (Q : VK) : Prop := ∀ l ps H', H l = none → Kp [p] H H' → Pool H' p → PathAt H' l ps → ps.length ≤ k → Q (.ref l) H'
def sp_step_ends (K : PySem.W.Frag) : Sp := fun vs H Q _ => ∃ (x t : Addr) (p : Step) (rows : List Row), vs = [.ref x, .ref t] ∧ NR K H x rows ∧ H t = some (.tup (stV p)) ∧ ∀ v H', Kp [] H H' → EndV H' (endsP rows p) v → Q v H'
def sp_path_ends (K : PySem.W.Frag) : Sp := fun vs H Q E => ∃ (x a : Addr) (ps : List Step) (rows : List Row), vs = [.ref x, .ref a] ∧ NR K H x rows ∧ PathAt H a ps ∧ ps.length ≤ 1000 ∧ (∀ c v H', runP rows ps 0 none = .inr c → Kp [] H H' → EndV H' c v → Q v H') ∧ ∀ k d H', runP rows ps 0 none = .inl k → Kp [] H H' → H' d = some (noteP k) → E (.ref (He.ga K "BadPath")) (some d) H'
def sp_check_ring (K : PySem.W.Frag) : Sp := fun vs H Q E => ∃ (x a : Addr) (ps : List Step) (rows : List Row), vs = [.ref x, .ref a] ∧ NR K H x rows ∧ PathAt H a ps ∧ ps.length ≤ 1000 ∧ (∀ H', ringP rows ps = none → Kp [] H H' → Q .non H') ∧ ∀ k d H', ringP rows ps = some k → Kp [] H H' → H' d = some (noteP k) → E (.ref (He.ga K "BadPath")) (some d) H'
def sp_is_ring (K : PySem.W.Frag) : Sp := fun vs H Q _ => ∃ (x a : Addr) (ps : List Step) (rows : List Row), vs = [.ref x, .ref a] ∧ NR K H x rows ∧ PathAt H a ps ∧ ps.length ≤ 1000 ∧ ∀ H', Kp [] H H' → Q (.bl (ringP rows ps).isNone) H'
def sp_join_labels : Sp := fun vs H Q _ => ∃ (a : Addr) (L : List Int) (s e : Int), vs = [.ref a, .int s, .int e] ∧ H a = some (.lst (L.map V.int)) ∧ L.length ≤ 1000 ∧ 0 ≤ s ∧ s < L.length ∧ 0 ≤ e ∧ e < L.length ∧
  ∀ l H', H l = none → Kp [] H H' → H' l = some (.lst ((joinL L s.toNat e.toNat).map V.int)) → Q (.ref l) H'
def sp_Base___init__ (K : PySem.W.Frag) : Sp := fun vs H Q _ => ∃ (x dx y : Addr) (rows : List Row), vs = [.ref x, .ref y] ∧ H x = some (.ins (He.ga K "Base") dx []) ∧ NR K H y rows ∧ ∀ (H' : Hp) (cl dx' : Addr) (C : List Int) (fs : List (Str × V)), Kp [x] H H' → H' x = some (.ins (He.ga K "Base") dx' fs) → fs.lookup ("closing" : Str) = some (.ref cl) → H' cl = some (.tup (C.map V.int)) → C.length ≤ 1000 → Q .non H'
def sp_parts (K : PySem.W.Frag) : Sp := fun vs H Q E => ∃ (x a : Addr) (ps : List Step) (rows : List Row), vs = [.ref x, .ref a] ∧ NR K H x rows ∧ PathAt H a ps ∧ ps.length ≤ 1000 ∧ (∀ l H' xs, ringP rows ps = none → Kp [] H H' → H' l = some (.lst xs) → Q (.ref l) H') ∧ ∀ k d H', ringP rows ps = some k → Kp [] H H' → H' d = some (noteP k) → E (.ref (He.ga K "BadPath")) (some d) H'
def sp_l_step_ends : Sp := fun vs H Q _ => ∃ (a t : Addr) (p : Step) (rows : List Row), vs = [.ref a, .ref t] ∧ SpansAt H a rows ∧ H t = some (.tup (stV p)) ∧ ∀ v H', Kp [] H H' → EndV H' (endsP rows p) v → Q v H'
def sp_l_bad : Sp := fun vs H Q _ => ∃ (a b : Addr) (ps : List Step) (rows : List Row), vs = [.ref a, .ref b] ∧ SpansAt H a rows ∧ PathAt H b ps ∧ ps.length ≤ 1000 ∧ ∀ H', Kp [] H H' → Q (badVal (runP rows ps 0 none)) H'
def sp_l_walked : Sp := fun vs H Q _ => ∃ (p a : Addr) (n sz : Int) (rows : List Row), vs = [.ref p, .int n, .ref a, .int sz] ∧ Pool H p ∧ SpansAt H a rows ∧ 0 < n ∧ n ≤ 12 ∧ rows.length ≤ 24 ∧ 0 ≤ sz ∧ sz ≤ 60 ∧ GotPath p 60 H Q
def sp_l_back : Sp := fun vs H Q _ => ∃ (a : Addr) (ps : List Step), vs = [.ref a] ∧ PathAt H a ps ∧ ps.length ≤ 1000 ∧ ∀ l qs H', H l = none → Kp [] H H' → PathAt H' l qs → qs.length = ps.length → Q (.ref l) H'
def sp_l_any_step : Sp := fun vs H Q _ => ∃ (p : Addr) (c : Int), vs = [.ref p, .int c] ∧ Pool H p ∧ 0 ≤ c ∧ c ≤ 24 ∧ ∀ t s H', H t = none → Kp [p] H H' → Pool H' p → H' t = some (.tup (stV s)) → Q (.ref t) H'
def sp_l_steps : Sp := fun vs H Q _ => ∃ (p a : Addr) (n : Int) (rows : List Row), vs = [.ref p, .int n, .ref a] ∧ Pool H p ∧ SpansAt H a rows ∧ 0 ≤ n ∧ n ≤ 12 ∧ rows.length ≤ 24 ∧ GotPath p 200 H Q
def sp_l_ends_told (K : PySem.W.Frag) : Sp := fun vs H Q _ => ∃ (x a : Addr) (ps : List Step) (rows : List Row), vs = [.ref x, .ref a] ∧ NR K H x rows ∧ PathAt H a ps ∧ ps.length ≤ 1000 ∧ (∀ c t v H', runP rows ps 0 none = .inr c → Kp [] H H' → EndV H' c v → H' t = some (.tup [.str "returned", v]) → Q (.ref t) H') ∧ ∀ k t H', runP rows ps 0 none = .inl k → Kp [] H H' → H' t = some (.tup (badV k)) → Q (.ref t) H'
def sp_l_parts_told (K : PySem.W.Frag) : Sp := fun vs H Q _ => ∃ (x a : Addr) (ps : List Step) (rows : List Row), vs = [.ref x, .ref a] ∧ NR K H x rows ∧ PathAt H a ps ∧ ps.length ≤ 1000 ∧ (∀ t H', ringP rows ps = none → Kp [] H H' → H' t = some (.tup [.str "returned", .bl true]) → Q (.ref t) H') ∧ ∀ k t H', ringP rows ps = some k → Kp [] H H' → H' t = some (.tup (badV k)) → Q (.ref t) H'
def sp_l_path_good (K : PySem.W.Frag) : Sp := fun vs H Q _ => ∃ (x s a : Addr) (ps : List Step) (rows : List Row), vs = [.ref x, .ref s, .ref a] ∧ NR K H x rows ∧ SpansAt H s rows ∧ PathAt H a ps ∧ ps.length ≤ 1000 ∧ ∀ H', Kp [] H H' → Q (.bl true) H'
theorem len_step_ends {K vs H Q E} (h : sp_step_ends K vs H Q E) : vs.length = 2 := by obtain ⟨_, _, _, _, rfl, _⟩ := h; rfl
theorem len_path_ends {K vs H Q E} (h : sp_path_ends K vs H Q E) : vs.length = 2 := by obtain ⟨_, _, _, _, rfl, _⟩ := h; rfl
theorem len_check_ring {K vs H Q E} (h : sp_check_ring K vs H Q E) : vs.length = 2 := by obtain ⟨_, _, _, _, rfl, _⟩ := h; rfl
theorem len_is_ring {K vs H Q E} (h : sp_is_ring K vs H Q E) : vs.length = 2 := by obtain ⟨_, _, _, _, rfl, _⟩ := h; rfl
theorem len_join_labels {vs H Q E} (h : sp_join_labels vs H Q E) : vs.length = 3 := by obtain ⟨_, _, _, _, rfl, _⟩ := h; rfl
theorem len_Base___init__ {K vs H Q E} (h : sp_Base___init__ K vs H Q E) : vs.length = 2 := by obtain ⟨_, _, _, _, rfl, _⟩ := h; rfl
theorem len_parts {K vs H Q E} (h : sp_parts K vs H Q E) : vs.length = 2 := by obtain ⟨_, _, _, _, rfl, _⟩ := h; rfl
theorem len_l_step_ends {vs H Q E} (h : sp_l_step_ends vs H Q E) : vs.length = 2 := by obtain ⟨_, _, _, _, rfl, _⟩ := h; rfl
theorem len_l_bad {vs H Q E} (h : sp_l_bad vs H Q E) : vs.length = 2 := by obtain ⟨_, _, _, _, rfl, _⟩ := h; rfl
theorem len_l_walked {vs H Q E} (h : sp_l_walked vs H Q E) : vs.length = 4 := by obtain ⟨_, _, _, _, _, rfl, _⟩ := h; rfl
theorem len_l_back {vs H Q E} (h : sp_l_back vs H Q E) : vs.length = 1 := by obtain ⟨_, _, rfl, _⟩ := h; rfl
theorem len_l_any_step {vs H Q E} (h : sp_l_any_step vs H Q E) : vs.length = 2 := by obtain ⟨_, _, rfl, _⟩ := h; rfl
theorem len_l_steps {vs H Q E} (h : sp_l_steps vs H Q E) : vs.length = 3 := by obtain ⟨_, _, _, _, rfl, _⟩ := h; rfl
theorem len_l_ends_told {K vs H Q E} (h : sp_l_ends_told K vs H Q E) : vs.length = 2 := by obtain ⟨_, _, _, _, rfl, _⟩ := h; rfl
theorem len_l_parts_told {K vs H Q E} (h : sp_l_parts_told K vs H Q E) : vs.length = 2 := by obtain ⟨_, _, _, _, rfl, _⟩ := h; rfl
theorem len_l_path_good {K vs H Q E} (h : sp_l_path_good K vs H Q E) : vs.length = 3 := by obtain ⟨_, _, _, _, _, rfl, _⟩ := h; rfl
end Cl

/-! ## Tx -/

namespace Cl
open PySem PySem.Spec PyProof.Rows L2
abbrev N_is_window : List Str := ["round_length", "least", "most", "limit"]
def t_is_window (K : PySem.W.Frag) : TS :=
  (tRet (tAndV (tChain3 oLe oLe oLe (tC (.int 0)) (tVar 1) (tVar 2) (tOp oSub (tOp oAdd (tVar 1) (tVar 0)) (tC (.int 1)))) (tOp oLe (tVar 2) (tVar 3))))
abbrev N_is_span : List Str := ["round_length", "events", "span", "start", "end", "least", "most"]
def t_is_span (K : PySem.W.Frag) : TS :=
  (tSeq (tIfS (tTest (tOp rNe (tCB (rLen K) (tCons (tVar 2) tNil)) (tC (.int 4)))) (tRet (tC (.bl false))) tNext)
    (tSeq (tAsg (tVar 2) (gTup K 4 (gCons (gName 3) (gCons (gName 4) (gCons (gName 5) (gCons (gName 6) gNil))))))
    (tSeq (tIfS (tOr (tNot (tTest (tChain oLe oLt (tC (.int 0)) (tVar 3) (tVar 1)))) (tOr (tNot (tTest (tChain oLe oLt (tC (.int 0)) (tVar 4) (tVar 1)))) (tTest (tOp rEq (tVar 3) (tVar 4))))) (tRet (tC (.bl false))) tNext)
    (tRet (tCall (sp_is_window) [] E0 (tCons (tVar 0) (tCons (tVar 5) (tCons (tVar 6) (tCons (tC (.int 999)) tNil)))))))))
abbrev N_Net___init__ : List Str := ["self", "round_length", "events", "spans", "place", "span"]
def t_Net___init__ (K : PySem.W.Frag) : TS :=
  (tSeq (tIfS (tNot (tTest (tChain oLe oLe (tC (.int 2)) (tVar 1) (tC (.int 60))))) tNever tNext)
    (tSeq (tIfS (tNot (tTest (tChain oLe oLe (tC (.int 0)) (tVar 2) (tC (.int 12))))) tNever tNext)
    (tSeq (tIfS (tTest (tOp oGt (tCB (rLen K) (tCons (tVar 3) tNil)) (tC (.int 24)))) tNever tNext)
    (tSeq (tFor (iEnum K (tCons (tVar 3) tNil)) (gTup K 2 (gCons (gName 4) (gCons (gName 5) gNil))) (tIfS (tNot (tB (tCall (sp_is_span K) [] E0 (tCons (tVar 1) (tCons (tVar 2) (tCons (tVar 5) tNil)))))) tNever tNext))
    (tSeq (sFld K (tVar 0) (tVar 1) "round_length")
    (tSeq (sFld K (tVar 0) (tVar 2) "events")
    (sFld K (tVar 0) (tCB (rTupOf K) (tCons (tLc (iList K (tVar 3)) (gName 5) tYes (tCB (rTupOf K) (tCons (tVar 5) tNil)) [5]) tNil)) "spans")))))))
abbrev N_step_ends : List Str := ["net", "step", "number", "direction", "start", "end"]
def t_step_ends (K : PySem.W.Frag) : TS :=
  (tSeq (tAsg (tVar 1) (gTup K 2 (gCons (gName 2) (gCons (gName 3) gNil))))
    (tSeq (tIfS (tOr (tNot (tTest (tChain oLe oLt (tC (.int 0)) (tVar 2) (tCB (rLen K) (tCons (tFld K (tVar 0) "spans") tNil))))) (tTest (tOp (rIn K true) (tVar 3) (tTup (tCons (tC (.int 1)) (tCons (tC (.int (-1))) tNil)))))) (tRet (tC .non)) tNext)
    (tSeq (tAsg (tSl (rSlT K) (tOp (rIxT K) (tFld K (tVar 0) "spans") (tVar 2)) tNoPart (tPart (tC (.int 2)))) (gTup K 2 (gCons (gName 4) (gCons (gName 5) gNil))))
    (tSeq (tIfS (tTest (tOp rEq (tVar 3) (tC (.int 1)))) (tRet (tTup (tCons (tVar 4) (tCons (tVar 5) tNil)))) tNext)
    (tRet (tTup (tCons (tVar 5) (tCons (tVar 4) tNil))))))))
abbrev N_path_ends : List Str := ["net", "path", "ends", "place", "step", "here"]
def t_path_ends (K : PySem.W.Frag) (E : XK) : TS :=
  (tSeq (tAsg (tC .non) (gName 2))
    (tSeq (tFor (iEnum K (tCons (tVar 1) tNil)) (gTup K 2 (gCons (gName 3) (gCons (gName 4) gNil))) (tSeq (tAsg (tCall (sp_step_ends K) [] E0 (tCons (tVar 0) (tCons (tVar 4) tNil))) (gName 5))
    (tSeq (tIfS (tOr (tTest (tOp rIsN (tVar 5) (tC .non))) (tAnd (tTest (tOp rNotN (tVar 2) (tC .non))) (tTest (tOp rNe (tOp (rIxT K) (tVar 5) (tC (.int 0))) (tOp (rIxT K) (tVar 2) (tC (.int 1))))))) (tRaise (tMkE (He.ga K "BadPath") ["place"] (tCons (tVar 3) tNil)) (W0 E)) tNext)
    (tAsg (tIf (tTest (tOp rIsN (tVar 2) (tC .non))) (tVar 5) (tTup (tCons (tOp (rIxT K) (tVar 2) (tC (.int 0))) (tCons (tOp (rIxT K) (tVar 5) (tC (.int 1))) tNil)))) (gName 2)))))
    (tRet (tVar 2))))
abbrev N_check_ring : List Str := ["net", "path", "ends"]
def t_check_ring (K : PySem.W.Frag) (E : XK) : TS :=
  (tSeq (tAsg (tCallS (sp_path_ends K) (WE (W0 E)) (tCons (tVar 0) (tCons (tVar 1) tNil))) (gName 2))
    (tIfS (tOr (tTest (tOp rIsN (tVar 2) (tC .non))) (tTest (tOp rNe (tOp (rIxT K) (tVar 2) (tC (.int 0))) (tOp (rIxT K) (tVar 2) (tC (.int 1)))))) (tRaise (tMkE (He.ga K "BadPath") ["place"] (tCons (tCB (rLen K) (tCons (tVar 1) tNil)) tNil)) (W0 E)) tNext))
abbrev N_is_ring : List Str := ["net", "path"]
def t_is_ring (K : PySem.W.Frag) : TS :=
  (tSeq (tTryO K (.ref (He.ga K "BadPath")) (fun W => (tDrop (tCallS (sp_check_ring K) (WE W) (tCons (tVar 0) (tCons (tVar 1) tNil))))) WF (fun a cls d => (tRet (tC (.bl false)))))
    (tRet (tC (.bl true))))
abbrev N_join_labels : List Str := ["labels", "first", "second", "label"]
def t_join_labels (K : PySem.W.Frag) : TS :=
  (tRet (tLc (iList K (tVar 0)) (gName 3) tYes (tIf (tTest (tOp rEq (tVar 3) (tOp (rIxL K) (tVar 0) (tVar 2)))) (tOp (rIxL K) (tVar 0) (tVar 1)) (tVar 3)) [3]))
abbrev N_Base___init__ : List Str := ["self", "net", "labels", "tree", "closing", "number", "span"]
def t_Base___init__ (K : PySem.W.Frag) : TS :=
  (tSeq (tAsg (tLstRg (tRg1 (tFld K (tVar 1) "events"))) (gName 2))
    (tSeq (tPar 3 4 (tCons (tLst tNil) (tCons (tLst tNil) tNil)))
    (tSeq (tFor (iEnumT K (tCons (tFld K (tVar 1) "spans") tNil)) (gTup K 2 (gCons (gName 5) (gCons (gName 6) gNil))) (tIfS (tTest (tOp rEq (tOp (rIxL K) (tVar 2) (tOp (rIxT K) (tVar 6) (tC (.int 0)))) (tOp (rIxL K) (tVar 2) (tOp (rIxT K) (tVar 6) (tC (.int 1)))))) (tDrop (tBM K "list" rAppend (tVar 4) (tCons (tVar 5) tNil))) (tSeq (tDrop (tBM K "list" rAppend (tVar 3) (tCons (tVar 5) tNil)))
    (tAsg (tCall (sp_join_labels) [] E0 (tCons (tVar 2) (tCons (tOp (rIxT K) (tVar 6) (tC (.int 0))) (tCons (tOp (rIxT K) (tVar 6) (tC (.int 1))) tNil)))) (gName 2)))))
    (tSeq (sFld K (tVar 0) (tCB (rTupOf K) (tCons (tVar 3) tNil)) "tree")
    (tSeq (sFld K (tVar 0) (tCB (rTupOf K) (tCons (tVar 4) tNil)) "closing")
    (tSeq (sFld K (tVar 0) (tFld K (tVar 1) "events") "event_count")
    (sFld K (tVar 0) (tCB (rTupOf K) (tCons (tLc (iTup K (tFld K (tVar 1) "spans")) (gName 6) tYes (tSl (rSlT K) (tVar 6) tNoPart (tPart (tC (.int 2)))) [6]) tNil)) "span_ends")))))))
abbrev N_parts : List Str := ["net", "ring", "number"]
def t_parts (K : PySem.W.Frag) (E : XK) : TS :=
  (tSeq (tDrop (tCallS (sp_check_ring K) (WE (W0 E)) (tCons (tVar 0) (tCons (tVar 1) tNil))))
    (tRet (tLc (iTup K (tFld K (tMake (He.ga K "Base") (sp_Base___init__ K) [] E0 (tCons (tVar 0) tNil)) "closing")) (gName 2) tYes (tOp oSub (tBM K "list" (rCntD K) (tVar 1) (tCons (tTup (tCons (tVar 2) (tCons (tC (.int 1)) tNil))) tNil)) (tBM K "list" (rCntD K) (tVar 1) (tCons (tTup (tCons (tVar 2) (tCons (tC (.int (-1))) tNil))) tNil))) [2])))
abbrev N_l_length : List Str := ["_law_pool_here"]
def t_l_length (K : PySem.W.Frag) : TS :=
  (tSeq (tIfS (tTest (tOp rEq (tCall (sp_l_take) [] E0 (tCons (tVar 0) (tCons (tC (.int 3)) tNil))) (tC (.int 0)))) (tRet (tOp oAdd (tC (.int 2)) (tCall (sp_l_take) [] E0 (tCons (tVar 0) (tCons (tC (.int 59)) tNil))))) tNext)
    (tRet (tOp (rIxL K) (tLst (tCons (tC (.int 2)) (tCons (tC (.int 3)) (tCons (tC (.int 5)) (tCons (tC (.int 10)) (tCons (tC (.int 24)) (tCons (tC (.int 60)) tNil))))))) (tCall (sp_l_take) [] E0 (tCons (tVar 0) (tCons (tC (.int 6)) tNil))))))
abbrev N_l_many : List Str := ["_law_pool_here", "_law_way"]
def t_l_many (K : PySem.W.Frag) : TS :=
  (tSeq (tAsg (tCall (sp_l_take) [] E0 (tCons (tVar 0) (tCons (tC (.int 10)) tNil))) (gName 1))
    (tSeq (tIfS (tTest (tOp rEq (tVar 1) (tC (.int 0)))) (tRet (tCall (sp_l_take) [] E0 (tCons (tVar 0) (tCons (tC (.int 2)) tNil)))) tNext)
    (tSeq (tIfS (tTest (tOp rEq (tVar 1) (tC (.int 1)))) (tRet (tOp oAdd (tC (.int 7)) (tCall (sp_l_take) [] E0 (tCons (tVar 0) (tCons (tC (.int 6)) tNil))))) tNext)
    (tRet (tOp oAdd (tC (.int 2)) (tCall (sp_l_take) [] E0 (tCons (tVar 0) (tCons (tC (.int 5)) tNil))))))))
abbrev N_l_count : List Str := ["_law_pool_here", "_law_many_here"]
def t_l_count (K : PySem.W.Frag) : TS :=
  (tSeq (tIfS (tTest (tOp oLt (tVar 1) (tC (.int 2)))) (tRet (tC (.int 0))) tNext)
    (tSeq (tIfS (tTest (tOp rEq (tCall (sp_l_take) [] E0 (tCons (tVar 0) (tCons (tC (.int 10)) tNil))) (tC (.int 0)))) (tRet (tOp oAdd (tC (.int 8)) (tCall (sp_l_take) [] E0 (tCons (tVar 0) (tCons (tC (.int 17)) tNil))))) tNext)
    (tRet (tCall (sp_l_take) [] E0 (tCons (tVar 0) (tCons (tC (.int 8)) tNil))))))
abbrev N_l_any_spans : List Str := ["_law_pool_here", "_law_length_here", "_law_many_here", "_law_count_here", "_law_spans", "_law_k", "_law_start", "_law_end", "_law_room", "_law_low"]
def t_l_any_spans (K : PySem.W.Frag) : TS :=
  (tSeq (tAsg (tLst tNil) (gName 4))
    (tSeq (tFor (iRng1 (tCons (tVar 3) tNil)) (gName 5) (tSeq (tAsg (tCall (sp_l_take) [] E0 (tCons (tVar 0) (tCons (tVar 2) tNil))) (gName 6))
    (tSeq (tAsg (tOp oMod (tCB rInt1 (tCons (tOp oAdd (tOp oAdd (tVar 6) (tC (.int 1))) (tCall (sp_l_take) [] E0 (tCons (tVar 0) (tCons (tOp oSub (tVar 2) (tC (.int 1))) tNil)))) tNil)) (tVar 2)) (gName 7))
    (tSeq (tAsg (tOp oMul (tC (.int 3)) (tVar 1)) (gName 8))
    (tSeq (tIfS (tTest (tOp rEq (tCall (sp_l_take) [] E0 (tCons (tVar 0) (tCons (tC (.int 6)) tNil))) (tC (.int 0)))) (tAsg (tC (.int 1000)) (gName 8)) tNext)
    (tSeq (tAsg (tCall (sp_l_take) [] E0 (tCons (tVar 0) (tCons (tVar 8) tNil))) (gName 9))
    (tSeq (tDrop (tBM K "list" rAppend (tVar 4) (tCons (tTup (tCons (tVar 6) (tCons (tVar 7) (tCons (tVar 9) (tCons (tOp oAdd (tVar 9) (tCall (sp_l_take) [] E0 (tCons (tVar 0) (tCons (tCB rMin2 (tCons (tVar 1) (tCons (tOp oSub (tC (.int 1000)) (tVar 9)) tNil))) tNil)))) tNil))))) tNil)))
    (tIfS (tTest (tOp rEq (tCall (sp_l_take) [] E0 (tCons (tVar 0) (tCons (tC (.int 8)) tNil))) (tC (.int 0)))) (tAsg (tOp (rIxL K) (tVar 4) (tCall (sp_l_take) [] E0 (tCons (tVar 0) (tCons (tOp oAdd (tVar 5) (tC (.int 1))) tNil)))) (gSub (tVar 4) (tVar 5) rSetL)) tNext))))))))
    (tRet (tVar 4))))
abbrev N_l_step_ends : List Str := ["_law_spans", "_law_step", "_law_span"]
def t_l_step_ends (K : PySem.W.Frag) : TS :=
  (tSeq (tIfS (tOr (tTest (tOp oLt (tOp (rIxT K) (tVar 1) (tC (.int 0))) (tC (.int 0)))) (tOr (tTest (tOp oGe (tOp (rIxT K) (tVar 1) (tC (.int 0))) (tCB (rLen K) (tCons (tVar 0) tNil)))) (tTest (tOp (rIn K true) (tOp (rIxT K) (tVar 1) (tC (.int 1))) (tTup (tCons (tC (.int 1)) (tCons (tUn uNeg (tC (.int 1))) tNil))))))) (tRet (tC .non)) tNext)
    (tSeq (tAsg (tOp (rIxL K) (tVar 0) (tOp (rIxT K) (tVar 1) (tC (.int 0)))) (gName 2))
    (tSeq (tIfS (tTest (tOp rEq (tOp (rIxT K) (tVar 1) (tC (.int 1))) (tC (.int 1)))) (tRet (tTup (tCons (tOp (rIxT K) (tVar 2) (tC (.int 0))) (tCons (tOp (rIxT K) (tVar 2) (tC (.int 1))) tNil)))) tNext)
    (tRet (tTup (tCons (tOp (rIxT K) (tVar 2) (tC (.int 1))) (tCons (tOp (rIxT K) (tVar 2) (tC (.int 0))) tNil)))))))
abbrev N_l_bad : List Str := ["_law_spans", "_law_steps_here", "_law_here", "_law_k", "_law_ends"]
def t_l_bad (K : PySem.W.Frag) : TS :=
  (tSeq (tAsg (tC .non) (gName 2))
    (tSeq (tFor (iRng1 (tCons (tCB (rLen K) (tCons (tVar 1) tNil)) tNil)) (gName 3) (tSeq (tAsg (tCall (sp_l_step_ends) [] E0 (tCons (tVar 0) (tCons (tOp (rIxL K) (tVar 1) (tVar 3)) tNil))) (gName 4))
    (tSeq (tIfS (tOr (tTest (tOp rIsN (tVar 4) (tC .non))) (tAnd (tTest (tOp rNotN (tVar 2) (tC .non))) (tTest (tOp rNe (tOp (rIxT K) (tVar 4) (tC (.int 0))) (tVar 2))))) (tRet (tVar 3)) tNext)
    (tAsg (tOp (rIxT K) (tVar 4) (tC (.int 1))) (gName 2)))))
    (tRet (tC .non))))
abbrev N_l_walked : List Str := ["_law_pool_here", "_law_many_here", "_law_spans", "_law_size", "_law_steps_here", "_law_here", "_law_k", "_law_ways", "_law_step", "_law_one"]
def t_l_walked (K : PySem.W.Frag) : TS :=
  (tSeq (tAsg (tLst tNil) (gName 4))
    (tSeq (tAsg (tCall (sp_l_take) [] E0 (tCons (tVar 0) (tCons (tVar 1) tNil))) (gName 5))
    (tSeq (tFor (iRng1 (tCons (tVar 3) tNil)) (gName 6) (tSeq (tAsg (tLc (iRng1 (tCons (tCB (rLen K) (tCons (tVar 2) tNil)) tNil)) (gName 9) (tTest (tOp rEq (tOp (rIxT K) (tOp (rIxL K) (tVar 2) (tVar 9)) (tC (.int 0))) (tVar 5))) (tTup (tCons (tVar 9) (tCons (tC (.int 1)) tNil))) [9]) (gName 7))
    (tSeq (tAsg (tOp rCat (tVar 7) (tLc (iRng1 (tCons (tCB (rLen K) (tCons (tVar 2) tNil)) tNil)) (gName 9) (tTest (tOp rEq (tOp (rIxT K) (tOp (rIxL K) (tVar 2) (tVar 9)) (tC (.int 1))) (tVar 5))) (tTup (tCons (tVar 9) (tCons (tUn uNeg (tC (.int 1))) tNil))) [9])) (gName 7))
    (tSeq (tIfS (tTest (tOp (rEqD K) (tVar 7) (tLst tNil))) (tRet (tVar 4)) tNext)
    (tSeq (tAsg (tOp (rIxL K) (tVar 7) (tCall (sp_l_take) [] E0 (tCons (tVar 0) (tCons (tCB (rLen K) (tCons (tVar 7) tNil)) tNil)))) (gName 8))
    (tSeq (tDrop (tBM K "list" rAppend (tVar 4) (tCons (tVar 8) tNil)))
    (tAsg (tOp (rIxT K) (tOp (rIxL K) (tVar 2) (tOp (rIxT K) (tVar 8) (tC (.int 0)))) (tCB rInt1 (tCons (tOp rEq (tOp (rIxT K) (tVar 8) (tC (.int 1))) (tC (.int 1))) tNil))) (gName 5))))))))
    (tRet (tVar 4)))))
abbrev N_l_back : List Str := ["_law_steps_here", "_law_step"]
def t_l_back (K : PySem.W.Frag) : TS :=
  (tRet (tLc (iList K (tRevL K (tVar 0))) (gName 1) tYes (tTup (tCons (tOp (rIxT K) (tVar 1) (tC (.int 0))) (tCons (tOp oSub (tC (.int 0)) (tOp (rIxT K) (tVar 1) (tC (.int 1)))) tNil))) [1]))
abbrev N_l_any_step : List Str := ["_law_pool_here", "_law_count_here", "_law_number", "_law_way"]
def t_l_any_step (K : PySem.W.Frag) : TS :=
  (tSeq (tAsg (tOp oSub (tCall (sp_l_take) [] E0 (tCons (tVar 0) (tCons (tOp oAdd (tVar 1) (tC (.int 2))) tNil))) (tC (.int 1))) (gName 2))
    (tSeq (tIfS (tTest (tOp rEq (tCall (sp_l_take) [] E0 (tCons (tVar 0) (tCons (tC (.int 12)) tNil))) (tC (.int 0)))) (tAsg (tOp oSub (tCall (sp_l_take) [] E0 (tCons (tVar 0) (tCons (tOp oAdd (tOp oMul (tC (.int 2)) (tOp oPow (tC (.int 10)) (tC (.int 9)))) (tC (.int 1))) tNil))) (tOp oPow (tC (.int 10)) (tC (.int 9)))) (gName 2)) tNext)
    (tSeq (tAsg (tOp (rIxL K) (tLst (tCons (tC (.int 1)) (tCons (tUn uNeg (tC (.int 1))) (tCons (tC (.int 1)) (tCons (tUn uNeg (tC (.int 1))) (tCons (tC (.int 1)) (tCons (tUn uNeg (tC (.int 1))) (tCons (tC (.int 0)) (tCons (tC (.int 2)) (tCons (tUn uNeg (tC (.int 2))) tNil)))))))))) (tCall (sp_l_take) [] E0 (tCons (tVar 0) (tCons (tC (.int 9)) tNil)))) (gName 3))
    (tSeq (tIfS (tTest (tOp rEq (tCall (sp_l_take) [] E0 (tCons (tVar 0) (tCons (tC (.int 12)) tNil))) (tC (.int 0)))) (tAsg (tOp oSub (tCall (sp_l_take) [] E0 (tCons (tVar 0) (tCons (tOp oAdd (tOp oMul (tC (.int 2)) (tOp oPow (tC (.int 10)) (tC (.int 9)))) (tC (.int 1))) tNil))) (tOp oPow (tC (.int 10)) (tC (.int 9)))) (gName 3)) tNext)
    (tRet (tTup (tCons (tVar 2) (tCons (tVar 3) tNil))))))))
abbrev N_l_steps : List Str := ["_law_pool_here", "_law_many_here", "_law_spans", "_law_size", "_law_steps_here", "_law_at", "_law_k"]
def t_l_steps (K : PySem.W.Frag) : TS :=
  (tSeq (tAsg (tCall (sp_l_take) [] E0 (tCons (tVar 0) (tCons (tC (.int 9)) tNil))) (gName 3))
    (tSeq (tIfS (tTest (tOp rEq (tCall (sp_l_take) [] E0 (tCons (tVar 0) (tCons (tC (.int 8)) tNil))) (tC (.int 0)))) (tAsg (tCall (sp_l_take) [] E0 (tCons (tVar 0) (tCons (tC (.int 61)) tNil))) (gName 3)) tNext)
    (tSeq (tIfS (tOr (tTest (tOp rEq (tVar 1) (tC (.int 0)))) (tTest (tOp rEq (tCall (sp_l_take) [] E0 (tCons (tVar 0) (tCons (tC (.int 2)) tNil))) (tC (.int 0))))) (tRet (tLc (iRng1 (tCons (tVar 3) tNil)) (gName 6) tYes (tCall (sp_l_any_step) [] E0 (tCons (tVar 0) (tCons (tCB (rLen K) (tCons (tVar 2) tNil)) tNil))) [6])) tNext)
    (tSeq (tAsg (tCall (sp_l_walked) [] E0 (tCons (tVar 0) (tCons (tVar 1) (tCons (tVar 2) (tCons (tVar 3) tNil))))) (gName 4))
    (tSeq (tIfS (tTest (tOp rEq (tCall (sp_l_take) [] E0 (tCons (tVar 0) (tCons (tC (.int 2)) tNil))) (tC (.int 0)))) (tAsg (tOp rCat (tVar 4) (tCall (sp_l_back) [] E0 (tCons (tVar 4) tNil))) (gName 4)) tNext)
    (tSeq (tIfS (tAnd (tTest (tOp (rNeD K) (tVar 4) (tLst tNil))) (tTest (tOp rEq (tCall (sp_l_take) [] E0 (tCons (tVar 0) (tCons (tC (.int 2)) tNil))) (tC (.int 0))))) (tSeq (tAsg (tCall (sp_l_take) [] E0 (tCons (tVar 0) (tCons (tCB (rLen K) (tCons (tVar 4) tNil)) tNil))) (gName 5))
    (tAsg (tCall (sp_l_any_step) [] E0 (tCons (tVar 0) (tCons (tCB (rLen K) (tCons (tVar 2) tNil)) tNil))) (gSub (tVar 4) (tVar 5) rSetL))) tNext)
    (tRet (tVar 4))))))))
abbrev N_l_ends_told : List Str := ["_law_net", "_law_steps_here", "_law_told", "_law_got", "e", "_law_strange"]
def t_l_ends_told (K : PySem.W.Frag) : TS :=
  (tSeq (tAsg (tC .non) (gName 2))
    (tSeq (tAsg (tC .non) (gName 3))
    (tSeq (tTryA K (fun W => (tAsg (tCallS (sp_path_ends K) (WE W) (tCons (tVar 0) (tCons (tVar 1) tNil))) (gName 3))) WF [(.ref (He.ga K "BadPath"), 4, fun a cls d => (tSeq (tAsg (tCB (rIsXs K (He.ga K "BadPath") a cls d) (tCons (tVar 4) (tCons (tTup (tCons (tC (.ref (He.ga K "BadNet"))) (tCons (tC (.ref (He.ga K "UnknownSpan"))) (tCons (tC (.ref (He.ga K "UnknownEvent"))) (tCons (tC (.ref (He.ga K "BadTimes"))) (tCons (tC (.ref (He.ga K "BrokenSpan"))) (tCons (tC (.ref (He.ga K "BadRounds"))) (tCons (tC (.ref (He.ga K "ShutRing"))) (tCons (tC (.ref (He.ga K "TooMany"))) tNil))))))))) tNil))) (gName 5))
    (tAsg (tTup (tCons (tC (.str "bad path")) (tCons (tXf a cls d (He.ga K "BadPath") "place" (tVar 4)) (tCons (tCB (rIsX K (He.ga K "BadPath") a cls d) (tCons (tVar 4) (tCons (tC (.ref (He.ga K "DepotError"))) tNil))) (tCons (tCB (rIsX K (He.ga K "BadPath") a cls d) (tCons (tVar 4) (tCons (tC (.ty "ValueError")) tNil))) (tCons (tVar 5) tNil)))))) (gName 2))))])
    (tSeq (tIfS (tTest (tOp rIsN (tVar 2) (tC .non))) (tAsg (tTup (tCons (tC (.str "returned")) (tCons (tVar 3) tNil))) (gName 2)) tNext)
    (tRet (tVar 2))))))
abbrev N_l_parts_told : List Str := ["_law_net", "_law_steps_here", "_law_told", "_law_got", "e", "_law_strange"]
def t_l_parts_told (K : PySem.W.Frag) : TS :=
  (tSeq (tAsg (tC .non) (gName 2))
    (tSeq (tAsg (tC .non) (gName 3))
    (tSeq (tTryA K (fun W => (tAsg (tCallS (sp_parts K) (WE W) (tCons (tVar 0) (tCons (tVar 1) tNil))) (gName 3))) WF [(.ref (He.ga K "BadPath"), 4, fun a cls d => (tSeq (tAsg (tCB (rIsXs K (He.ga K "BadPath") a cls d) (tCons (tVar 4) (tCons (tTup (tCons (tC (.ref (He.ga K "BadNet"))) (tCons (tC (.ref (He.ga K "UnknownSpan"))) (tCons (tC (.ref (He.ga K "UnknownEvent"))) (tCons (tC (.ref (He.ga K "BadTimes"))) (tCons (tC (.ref (He.ga K "BrokenSpan"))) (tCons (tC (.ref (He.ga K "BadRounds"))) (tCons (tC (.ref (He.ga K "ShutRing"))) (tCons (tC (.ref (He.ga K "TooMany"))) tNil))))))))) tNil))) (gName 5))
    (tAsg (tTup (tCons (tC (.str "bad path")) (tCons (tXf a cls d (He.ga K "BadPath") "place" (tVar 4)) (tCons (tCB (rIsX K (He.ga K "BadPath") a cls d) (tCons (tVar 4) (tCons (tC (.ref (He.ga K "DepotError"))) tNil))) (tCons (tCB (rIsX K (He.ga K "BadPath") a cls d) (tCons (tVar 4) (tCons (tC (.ty "ValueError")) tNil))) (tCons (tVar 5) tNil)))))) (gName 2))))])
    (tSeq (tIfS (tTest (tOp rIsN (tVar 2) (tC .non))) (tAsg (tTup (tCons (tC (.str "returned")) (tCons (tCB (rIsi K) (tCons (tVar 3) (tCons (tC (.ty "list")) tNil))) tNil))) (gName 2)) tNext)
    (tRet (tVar 2))))))
abbrev N_l_path_good : List Str := ["_law_net", "_law_spans", "_law_steps_here", "_law_handed", "_law_bad_here", "_law_ends", "_law_closed", "_law_due"]
def t_l_path_good (K : PySem.W.Frag) : TS :=
  (tSeq (tAsg (tCB (rListOf K) (tCons (tVar 2) tNil)) (gName 3))
    (tSeq (tAsg (tCall (sp_l_bad) [] E0 (tCons (tVar 1) (tCons (tVar 2) tNil))) (gName 4))
    (tSeq (tIfS (tTest (tOp rNotN (tVar 4) (tC .non))) (tSeq (tAsg (tTup (tCons (tC (.str "bad path")) (tCons (tVar 4) (tCons (tC (.bl true)) (tCons (tC (.bl true)) (tCons (tC (.bl false)) tNil)))))) (gName 7))
    (tSeq (tIfS (tOr (tNot (tB (tCall (sp_l_same) [] E0 (tCons (tCall (sp_l_ends_told K) [] E0 (tCons (tVar 0) (tCons (tVar 3) tNil))) (tCons (tVar 7) tNil))))) (tNot (tB (tCall (sp_l_same) [] E0 (tCons (tCall (sp_l_parts_told K) [] E0 (tCons (tVar 0) (tCons (tVar 3) tNil))) (tCons (tVar 7) tNil)))))) (tRet (tC (.bl false))) tNext)
    (tRet (tAndV (tCall (sp_l_same) [] E0 (tCons (tCall (sp_is_ring K) [] E0 (tCons (tVar 0) (tCons (tVar 3) tNil))) (tCons (tC (.bl false)) tNil))) (tCall (sp_l_same) [] E0 (tCons (tVar 3) (tCons (tVar 2) tNil))))))) tNext)
    (tSeq (tAsg (tC .non) (gName 5))
    (tSeq (tAsg (tC (.bl false)) (gName 6))
    (tSeq (tIfS (tTest (tOp oGt (tCB (rLen K) (tCons (tVar 2) tNil)) (tC (.int 0)))) (tSeq (tAsg (tTup (tCons (tOp (rIxT K) (tCall (sp_l_step_ends) [] E0 (tCons (tVar 1) (tCons (tOp (rIxL K) (tVar 2) (tC (.int 0))) tNil))) (tC (.int 0))) (tCons (tOp (rIxT K) (tCall (sp_l_step_ends) [] E0 (tCons (tVar 1) (tCons (tOp (rIxL K) (tVar 2) (tUn uNeg (tC (.int 1)))) tNil))) (tC (.int 1))) tNil))) (gName 5))
    (tAsg (tOp rEq (tOp (rIxT K) (tVar 5) (tC (.int 0))) (tOp (rIxT K) (tVar 5) (tC (.int 1)))) (gName 6))) tNext)
    (tSeq (tIfS (tOr (tNot (tB (tCall (sp_l_same) [] E0 (tCons (tCall (sp_l_ends_told K) [] E0 (tCons (tVar 0) (tCons (tVar 3) tNil))) (tCons (tTup (tCons (tC (.str "returned")) (tCons (tVar 5) tNil))) tNil))))) (tNot (tB (tCall (sp_l_same) [] E0 (tCons (tCall (sp_is_ring K) [] E0 (tCons (tVar 0) (tCons (tVar 3) tNil))) (tCons (tVar 6) tNil)))))) (tRet (tC (.bl false))) tNext)
    (tSeq (tAsg (tTup (tCons (tC (.str "bad path")) (tCons (tCB (rLen K) (tCons (tVar 2) tNil)) (tCons (tC (.bl true)) (tCons (tC (.bl true)) (tCons (tC (.bl false)) tNil)))))) (gName 7))
    (tSeq (tIfS (tB (tVar 6)) (tAsg (tTup (tCons (tC (.str "returned")) (tCons (tC (.bl true)) tNil))) (gName 7)) tNext)
    (tRet (tAndV (tCall (sp_l_same) [] E0 (tCons (tCall (sp_l_parts_told K) [] E0 (tCons (tVar 0) (tCons (tVar 3) tNil))) (tCons (tVar 7) tNil))) (tCall (sp_l_same) [] E0 (tCons (tVar 3) (tCons (tVar 2) tNil))))))))))))))
abbrev N_law : List Str := ["_law_script", "_law_pool_here", "_law_length_here", "_law_many_here", "_law_spans", "_law_net", "_law_first", "_law_second", "_law_steps_here"]
def t_law (K : PySem.W.Frag) : TS :=
  (tSeq (tAsg (tCall (sp_l_pool K) [] E0 (tCons (tVar 0) (tCons (tC (.int 0)) tNil))) (gName 1))
    (tSeq (tAsg (tCall (sp_l_length) [] E0 (tCons (tVar 1) tNil)) (gName 2))
    (tSeq (tAsg (tCall (sp_l_many) [] E0 (tCons (tVar 1) tNil)) (gName 3))
    (tSeq (tAsg (tCall (sp_l_any_spans) [] E0 (tCons (tVar 1) (tCons (tVar 2) (tCons (tVar 3) (tCons (tCall (sp_l_count) [] E0 (tCons (tVar 1) (tCons (tVar 3) tNil))) tNil))))) (gName 4))
    (tSeq (tAsg (tMake (He.ga K "Net") (sp_Net___init__ K) [] E0 (tCons (tVar 2) (tCons (tVar 3) (tCons (tCB (rListOf K) (tCons (tVar 4) tNil)) tNil)))) (gName 5))
    (tSeq (tAsg (tCall (sp_l_steps) [] E0 (tCons (tCall (sp_l_pool K) [] E0 (tCons (tVar 0) (tCons (tC (.int 1)) tNil))) (tCons (tVar 3) (tCons (tVar 4) tNil)))) (gName 6))
    (tSeq (tAsg (tCall (sp_l_steps) [] E0 (tCons (tCall (sp_l_pool K) [] E0 (tCons (tVar 0) (tCons (tC (.int 2)) tNil))) (tCons (tVar 3) (tCons (tVar 4) tNil)))) (gName 7))
    (tSeq (tFor (iList K (tLst (tCons (tVar 6) (tCons (tVar 7) (tCons (tVar 6) tNil))))) (gName 8) (tIfS (tNot (tB (tCall (sp_l_path_good K) [] E0 (tCons (tVar 5) (tCons (tVar 4) (tCons (tVar 8) tNil)))))) (tRet (tC (.bl false))) tNext))
    (tRet (tCall (sp_l_same) [] E0 (tCons (tFld K (tVar 5) "spans") (tCons (tCB (rTupOf K) (tCons (tVar 4) tNil)) tNil))))))))))))
end Cl

/-! ## NetPu -/
namespace Cl
open PySem PySem.Spec PyProof.Rows L2
/-! ### the walk's own lines: "c" a side condition, "h" what stands at an address, "s" a list that is read, "at" an item, "v" a value, "a" an answer, "ar" arguments -/
local macro_rules | `(tactic| walk_at "c") => `(tactic| first | assumption | (with_reducible rfl) | decide | omega | exact Or.inr ⟨by first | decide | omega, by first | decide | omega⟩ | exact Or.inl ⟨by first | decide | omega, by first | decide | omega⟩ | exact ⟨by first | decide | omega, by first | decide | omega⟩ | exact ⟨by decide, by decide, by decide⟩)
local macro_rules | `(tactic| walk_at "ne") => `(tactic| first | assumption | (exact Ne.symm (by assumption)) | (exact ne_of_none (by assumption) (by assumption)) | (exact Ne.symm (ne_of_none (by assumption) (by assumption))))
local macro_rules | `(tactic| walk_at "h") => `(tactic| first | assumption | exact upd_same | (refine Eq.trans (upd_ne ?_) ?_; walk_at "ne"; walk_at "h"))
local macro_rules | `(tactic| walk_at "s") => `(tactic| first | assumption | (exact SqL.of (by walk_at "h")) | (exact SqT.of (by walk_at "h")))
local macro_rules | `(tactic| walk_at "at") => `(tactic| first | rfl | exact atI_ints (by omega) (by omega))
local macro_rules | `(tactic| walk_at "ty") => `(tactic| first | exact .base (.int _) | exact .base (.bl _) | exact .base .non | exact .base (.str _) | exact .base (.lst (by walk_at "h")) | exact .base (.tup (by walk_at "h")))
local macro_rules | `(tactic| walk_at "v") => `(tactic| first
  | (with_reducible exact val_c)
  | ((with_reducible apply val_var); rfl)
  | ((with_reducible apply v_I0); walk_at "v"; walk_at "v")
  | ((with_reducible apply v_I); walk_at "v"; walk_at "v"; walk_at "c")
  | ((with_reducible apply v_U); walk_at "v")
  | ((with_reducible apply v_eq); walk_at "v"; walk_at "v"; rfl)
  | ((with_reducible apply v_ne); walk_at "v"; walk_at "v"; rfl)
  | ((with_reducible apply v_ixL); walk_at "v"; walk_at "v"; walk_at "s"; walk_at "at")
  | ((with_reducible apply v_ixT); walk_at "v"; walk_at "v"; walk_at "s"; walk_at "at")
  | ((with_reducible apply v_ixS); walk_at "v"; walk_at "v"; assumption; walk_at "at")
  | ((with_reducible apply v_fld); walk_at "v"; walk_at "h"; assumption; assumption; walk_at "fl")
  | ((with_reducible apply v_len); walk_at "ar"; walk_at "s")
  | ((with_reducible apply v_lenS); walk_at "ar"; assumption)
  | ((with_reducible apply v_lenT); walk_at "ar"; walk_at "s")
  | ((with_reducible apply v_abs); walk_at "ar")
  | ((with_reducible apply v_max2); walk_at "ar")
  | ((with_reducible apply v_min2); walk_at "ar")
  | ((with_reducible apply v_intI); walk_at "ar")
  | ((with_reducible apply v_intB); walk_at "ar")
  | ((with_reducible apply v_chain); walk_at "v"; walk_at "v"; walk_at "v"; exact i_B0; exact i_B0)
  | ((with_reducible apply v_chain3); walk_at "v"; walk_at "v"; walk_at "v"; walk_at "v"; exact i_B0; exact i_B0; exact i_B0)
  | ((with_reducible apply v_andV); walk_at "v"; (intro _; walk_at "v"))
  | ((with_reducible apply v_orV); walk_at "v"; (intro _; walk_at "v"))
  | ((with_reducible apply v_notV); walk_at "v")
  | ((with_reducible apply v_isN); walk_at "v")
  | ((with_reducible apply v_notN); walk_at "v")
  | ((with_reducible apply v_isiT); walk_at "ar"; walk_at "ty"; decide +kernel)
  | ((with_reducible apply v_isiF); walk_at "ar"; walk_at "ty"; decide +kernel)
  | ((with_reducible apply v_if); walk_at "a"; (intro _; walk_at "v"); (intro _; walk_at "v")))
local macro_rules | `(tactic| walk_at "ar") => `(tactic| first
  | (with_reducible exact ar_nil)
  | ((with_reducible apply ar_cons); walk_at "v"; walk_at "ar"))
local macro_rules | `(tactic| walk_at "a") => `(tactic| first
  | ((with_reducible apply a_test); walk_at "v")
  | ((with_reducible apply a_B); walk_at "v")
  | ((with_reducible apply a_not); walk_at "a")
  | ((with_reducible apply a_and); walk_at "a"; (intro _; walk_at "a"))
  | ((with_reducible apply a_or); walk_at "a"; (intro _; walk_at "a")))
local macro_rules | `(tactic| walk_at "fl") => `(tactic| first | exact fl_events _ _ _ | exact fl_spans _ _ _ | exact fl_round _ _ _)
local macro_rules | `(tactic| walk_at "call") => `(tactic| refine g_call (g_args (by walk_at "ar") ?_))
structure NetK (K : PySem.W.Frag) : Prop where
  cl : Cls K (He.ga K "Net")
  nT : NoAttr K (He.ga K "Net") "round_length"
  nE : NoAttr K (He.ga K "Net") "events"
  nS : NoAttr K (He.ga K "Net") "spans"
theorem pure_is_window {K : PySem.W.Frag} {vs H Q E} (h : sp_is_window vs H Q E) : t_is_window K { nx := fun _ H' => Q .non H', rt := Q } (start N_is_window vs) H := by
  obtain ⟨T, l, m, k, rfl, q⟩ := h
  refine g_ret (g_val (by walk_at "v") ?_)
  simpa [Bool.and_assoc] using q
theorem pure_is_span {K : PySem.W.Frag} {vs H Q E} (h : sp_is_span K vs H Q E) : t_is_span K { nx := fun _ H' => Q .non H', rt := Q } (start N_is_span vs) H := by
  obtain ⟨T, n, a, r, rfl, ha, ok, q⟩ := h
  have := ok.s0; have := ok.s1; have := ok.e0; have := ok.e1; have hne := ok.ne; have := ok.l0; have := ok.lm; have := ok.mT; have := ok.m9
  refine q_no (by walk_at "a") (by rfl) ?_
  refine q_asg (g_val (by walk_at "v") ⟨a, _, rfl, SqT.of ha, rfl, _, _, rfl, _, _, rfl, _, _, rfl, _, _, rfl, rfl, ?_⟩)
  refine q_no (by walk_at "a") ?_ ?_
  · simp [hne]; omega
  refine g_ret (g_call (g_args (by walk_at "ar") ⟨T, r.l, r.m, 999, rfl, ?_⟩))
  rw [decide_eq_true (by omega)]
  exact q
theorem pure_l_length {K : PySem.W.Frag} {vs H Q E} (h : sp_l_length vs H Q E) : t_l_length K { nx := fun _ H' => Q .non H', rt := Q } (start N_l_length vs) H := by
  obtain ⟨p, rfl, hp, q⟩ := h
  refine q_whenc (g_test (g_op ?_))
  walk_at "call"
  refine call_take hp (by decide) (by decide) fun r H1 r0 r1 k1 _ p1 => ?_
  refine g_c (g_eq rfl ⟨_, rfl, g_if (fun hb => ?_) (fun hb => ?_)⟩)
  · refine g_ret (g_op (g_c ?_))
    walk_at "call"
    refine call_take p1 (by decide) (by decide) fun r2 H2 r20 r21 k2 _ p2 => g_I0 ?_
    exact q _ _ (by omega) (by omega) (k1.trans k2) p2
  · refine g_ret (g_op (g_lst (g_args (by walk_at "ar") ⟨by show 6 ≤ sizeLine; decide, fun l hl => ?_⟩)))
    have hlp := p1.ne hl
    walk_at "call"
    refine call_take (p1.new hl) (by decide) (by decide) fun r2 H2 r20 r21 k2 _ p2 => ?_
    have hL : H2 l = some (.lst [.int 2, .int 3, .int 5, .int 10, .int 24, .int 60]) := k2 l _ (by simpa using hlp) upd_same
    have kk : Kp [p] H H2 := k1.trans ((Kp.new (Kp.refl _ _) hl).trans k2)
    have fin : ∀ T : Int, 2 ≤ T → T ≤ 60 → atI [V.int 2, V.int 3, V.int 5, V.int 10, V.int 24, V.int 60] r2 = some (.int T) → rIxL K (V.ref l) (V.int r2) H2 Q := fun T t0 t1 e => ⟨l, _, r2, _, rfl, rfl, SqL.of hL, e, q T H2 t0 t1 kk p2⟩
    have hc : r2 = 0 ∨ r2 = 1 ∨ r2 = 2 ∨ r2 = 3 ∨ r2 = 4 ∨ r2 = 5 := by omega
    rcases hc with rfl | rfl | rfl | rfl | rfl | rfl
    · exact fin 2 (by decide) (by decide) rfl
    · exact fin 3 (by decide) (by decide) rfl
    · exact fin 5 (by decide) (by decide) rfl
    · exact fin 10 (by decide) (by decide) rfl
    · exact fin 24 (by decide) (by decide) rfl
    · exact fin 60 (by decide) (by decide) rfl
theorem call_length {H : Hp} {Q : VK} {E : XK} {p : Addr} (hp : Pool H p) (q : ∀ T H', 2 ≤ T → T ≤ 60 → Kp [p] H H' → Pool H' p → Q (.int T) H') : sp_l_length [.ref p] H Q E := ⟨p, rfl, hp, q⟩
/-- one span more behind spans at sp -/
theorem spans_more {H0 H H1 : Hp} {p sp t : Addr} {ts : List Addr} {rows : List Row} {r : Row} (k : Kp [p] H0 H) (k1 : Kp [p] H H1) (hp : Pool H p) (hs0 : H0 sp = none) (hs : H sp = some (.lst (ts.map V.ref))) (hr : RowsAt H ts rows) (p1 : Pool H1 p) (ht0 : H t = none) (ht : H1 t = some (.tup r.vs)) :
    H1 sp = some (.lst (ts.map V.ref)) ∧ Kp [p] H0 (upd H1 sp (.lst ((ts ++ [t]).map V.ref))) ∧ Pool (upd H1 sp (.lst ((ts ++ [t]).map V.ref))) p ∧ RowsAt (upd H1 sp (.lst ((ts ++ [t]).map V.ref))) (ts ++ [t]) (rows ++ [r]) := by
  have nsp : sp ≠ p := pool_ne_refs hp hs
  have e1 : H1 sp = some (.lst (ts.map V.ref)) := k1 _ _ (by simpa using nsp) hs
  refine ⟨e1, (k.trans k1).mut hs0, p1.upd nsp.symm, ?_⟩
  have r1 : RowsAt H1 (ts ++ [t]) (rows ++ [r]) := (hr.kp k1 fun u xs hu => pool_not_tup hp hu).snoc ht
  refine r1.kp (S := [sp]) ((Kp.refl _ _).upd (by simp)) fun u xs hu z => ?_
  have e : u = sp := by simpa using hu
  rw [e, e1] at z; cases z
theorem filter_all {α : Type} (xs : List α) : xs.filter (fun _ => true) = xs := List.filter_eq_self.mpr fun _ _ => rfl
theorem refs_at {ts : List Addr} {i : Nat} {x : V} (h : (ts.map V.ref)[i]? = some x) : ∃ t, ts[i]? = some t ∧ x = .ref t := by
  rw [List.getElem?_map] at h
  cases e : ts[i]? with
  | none => rw [e] at h; cases h
  | some t => rw [e] at h; exact ⟨t, rfl, (Option.some.inj h).symm⟩
theorem pure_Net___init__ {K : PySem.W.Frag} (c : NetK K) {vs H Q E} (h : sp_Net___init__ K vs H Q E) : t_Net___init__ K { nx := fun _ H' => Q .non H', rt := Q } (start N_Net___init__ vs) H := by
  obtain ⟨x, dx, a, T, n, rows, rfl, hx, ⟨ts, ha, hr⟩, t0, t1, n0, n1, hl, ok, q⟩ := h
  have el : ts.length = rows.length := hr.1
  refine q_no (by walk_at "a") (by simp; omega) ?_
  refine q_no (by walk_at "a") (by simp; omega) ?_
  refine q_no (by walk_at "a") (by simp; omega) ?_
  refine q_forE (by walk_at "ar") (SqL.of ha) (fun i σ' H' => Kp [] H H' ∧ ∃ y z, σ' = [some (.ref x), some (.int T), some (.int n), some (.ref a), y, z]) ⟨Kp.refl _ _, _, _, rfl⟩ (fun i σ' H' _ ⟨k, _⟩ => SqL.of (k _ _ (by simp) ha)) ?_ ?_
  · rintro i v σ' H' t hi ⟨k, y, z, rfl⟩ ht
    obtain ⟨u, hu, rfl⟩ := refs_at hi
    have hlt : i < rows.length := by
      have := (List.getElem?_eq_some_iff.mp hu).1
      omega
    have hru : H u = some (.tup rows[i].vs) := hr.2 i u _ hu (List.getElem?_eq_getElem hlt)
    have k1 : Kp [] H (upd H' t (.tup [.int (i : Int), .ref u])) := k.new ht
    refine g_no (b := !true) (a_not ?_) rfl ⟨k1, _, _, rfl⟩
    intro Q' q'
    refine g_B ?_
    walk_at "call"
    exact ⟨T, n, u, rows[i], rfl, k1 _ _ (by simp) hru, ok _ (List.getElem_mem hlt), true, rfl, q'⟩
  · rintro σ' H' ⟨k, y, z, rfl⟩
    have hx1 : H' x = some (.ins (He.ga K "Net") dx []) := k _ _ (by simp) hx
    have ha1 : H' a = some (.lst (ts.map V.ref)) := k _ _ (by simp) ha
    have nax : a ≠ x := ne_of ha1 hx1 (by intro z; cases z)
    have hr1 : RowsAt H' ts rows := hr.kp k fun _ _ z => nomatch z
    refine q_fld (by walk_at "v") (by walk_at "v") hx1 c.cl c.nT (by decide) ?_
    refine q_fld (by walk_at "v") (by walk_at "v") upd_same c.cl c.nE (Nat.lt_of_le_of_lt (length_putF _ _ _) (by decide)) ?_
    rw [upd_upd]
    refine s_fldc (g_cb (g_cons (e_lcL (fun v => v) (fun _ => true) (by walk_at "v") (SqL.of (by rw [upd_ne nax]; exact ha1)) (by rw [List.length_map]; omega) (fun _ => rfl) (fun _ _ _ _ _ _ => a_yes) (fun i v Dl o hi _ hD => ?_) fun Dl hD => ?_)))
    · obtain ⟨u, hu, rfl⟩ := refs_at hi
      have hlt : i < rows.length := by
        have := (List.getElem?_eq_some_iff.mp hu).1
        omega
      have hru : H' u = some (.tup rows[i].vs) := hr1.2 i u _ hu (List.getElem?_eq_getElem hlt)
      have nux : u ≠ x := ne_of hru hx1 (by intro z; cases z)
      have e1 : upd H' x (.ins (He.ga K "Net") dx (putF "events" (.int n) (putF "round_length" (.int T) []))) u = some (.tup rows[i].vs) := by rw [upd_ne nux]; exact hru
      exact v_tupT (by walk_at "ar") (SqT.of (by rw [upd_ne (ne_of_none e1 hD)]; exact e1))
    · rw [filter_all, List.map_id'] at *
      refine g_nil ⟨Dl, _, rfl, Or.inl ⟨SqL.of upd_same, fun tt htt => ?_⟩⟩
      have nDx : Dl ≠ x := fun z => by rw [z, upd_same] at hD; cases hD
      have ntD : tt ≠ Dl := fun z => by rw [z, upd_same] at htt; cases htt
      have ntx : tt ≠ x := fun z => by rw [z, upd_ne nDx.symm, upd_same] at htt; cases htt
      refine g_var rfl ⟨x, He.ga K "Net", dx, _, rfl, (by rw [upd_ne ntx.symm, upd_ne nDx.symm, upd_same]), c.cl, c.nS, Nat.lt_of_le_of_lt (length_putF _ _ _) (Nat.lt_of_le_of_lt (Nat.add_le_add_right (length_putF _ _ _) 1) (by decide)), ?_⟩
      have kk : Kp [x] H (upd (upd (upd (upd H' x (.ins (He.ga K "Net") dx (putF "events" (.int n) (putF "round_length" (.int T) [])))) Dl (.lst (ts.map V.ref))) tt (.tup (ts.map V.ref))) x (.ins (He.ga K "Net") dx (putF "spans" (.ref tt) (putF "events" (.int n) (putF "round_length" (.int T) []))))) :=
        ((((k.of [x]).upd (by simp)).new hD).new htt).upd (by simp)
      refine q _ kk ⟨dx, tt, ts, upd_same, ?_, ?_⟩
      · rw [upd_ne ntx, upd_same]
      · refine hr.kp kk fun u xs hu z => ?_
        have e : u = x := by simpa using hu
        rw [e, hx] at z; cases z
/-! ### groups -/
def kvOf (ls : List Int) (ts : List Addr) : List (Key × V) := (ls.zip ts).map fun q => (Sum.inl q.1, V.ref q.2)
theorem fl_events (T n : Int) (a : Addr) : (netF T n a).lookup ("events" : Str) = some (.int n) := by
  unfold netF
  rw [lookup_putF, if_neg (by decide +kernel), lookup_putF, if_pos rfl]
theorem fl_round (T n : Int) (a : Addr) : (netF T n a).lookup ("round_length" : Str) = some (.int T) := by
  unfold netF
  first
    | rfl
    | decide
    | (simp [lookup_putF]; done)
theorem fl_spans (T n : Int) (a : Addr) : (netF T n a).lookup ("spans" : Str) = some (.ref a) := by
  unfold netF
  rw [lookup_putF, if_pos rfl]
theorem fl_no (T n : Int) (a : Addr) {f : Str} (h1 : ¬ f = "spans") (h2 : ¬ f = "events") (h3 : ¬ f = "round_length") : (netF T n a).lookup f = none := by
  unfold netF
  rw [lookup_putF, if_neg h1, lookup_putF, if_neg h2, lookup_putF, if_neg h3]
  rfl
theorem NetAt.kp {C : Addr} {H H' : Hp} {x : Addr} {T n : Int} {rows : List Row} (h : NetAt C H x T n rows) (k : Kp [] H H') : NetAt C H' x T n rows := by
  obtain ⟨dx, a, ts, hx, ha, hr⟩ := h
  exact ⟨dx, a, ts, k _ _ (by simp) hx, k _ _ (by simp) ha, hr.kp k fun _ _ z => nomatch z⟩
theorem g_make {C : Addr} {sp : Sp} {E : XK} {ts : TA} {σ : L2.St} {H : Hp} {Q : VK} (h : ts σ H fun vs H1 => ∀ x dx, H1 x = none → H1 dx = none → dx ≠ x → sp (.ref x :: (vs ++ [])) (upd (upd H1 dx (.own x)) x (.ins C dx [])) (fun v H2 => v = .non ∧ Q (.ref x) H2) E) : tMake C sp [] E ts σ H Q := h
/-- a new instance keeps what was -/
theorem kp_made {S : List Addr} {H H1 : Hp} {x dx C : Addr} (k : Kp S H H1) (hx : H1 x = none) (hd : H1 dx = none) (ne : dx ≠ x) : Kp S H (upd (upd H1 dx (.own x)) x (.ins C dx [])) := (k.new hd).new (by rw [upd_ne ne.symm]; exact hx)
theorem kp_drop {S : List Addr} {H0 H H1 : Hp} {x : Addr} (k0 : Kp S H0 H) (hx : H0 x = none) (k : Kp [x] H H1) : Kp S H0 H1 := fun b o nb e => k b o (fun z => by
  have : b = x := by simpa using z
  rw [this, hx] at e; cases e) (k0 b o nb e)
theorem SpansAt.kp {S : List Addr} {H H' : Hp} {a : Addr} {rows : List Row} (h : SpansAt H a rows) (k : Kp S H H') (hS : ∀ t, t ∈ S → (∀ xs, H t ≠ some (.tup xs)) ∧ ∀ ts : List Addr, H t ≠ some (.lst (ts.map V.ref))) : SpansAt H' a rows := by
  obtain ⟨ts, ha, hr⟩ := h
  exact ⟨ts, k _ _ (fun z => (hS a z).2 ts ha) ha, hr.kp k fun t xs ht => (hS t ht).1 xs⟩
theorem call_net {K : PySem.W.Frag} {H : Hp} {Q : VK} {E : XK} {x dx a : Addr} {T n : Int} {rows : List Row} (hx : H x = some (.ins (He.ga K "Net") dx [])) (ha : SpansAt H a rows) (t0 : 2 ≤ T) (t1 : T ≤ 60) (n0 : 0 ≤ n) (n1 : n ≤ 12) (hl : rows.length ≤ 24) (ok : ∀ r ∈ rows, r.Ok T n) (q : ∀ H', Kp [x] H H' → NetAt (He.ga K "Net") H' x T n rows → Q .non H') : sp_Net___init__ K [.ref x, .int T, .int n, .ref a] H Q E :=
  ⟨x, dx, a, T, n, rows, rfl, hx, ha, t0, t1, n0, n1, hl, ok, q⟩
theorem rows_dat {H : Hp} {ts : List Addr} {rows : List Row} (h : RowsAt H ts rows) (i : Nat) (d : PyData) (x : V) (h1 : (rows.map Row.d)[i]? = some d) (h2 : (ts.map V.ref)[i]? = some x) : Dat H 1 d x := by
  obtain ⟨t, h3, rfl⟩ := refs_at h2
  rw [List.getElem?_map] at h1
  cases e : rows[i]? with
  | none => rw [e] at h1; cases h1
  | some r =>
    rw [e] at h1
    cases h1
    refine ⟨t, _, rfl, h.2 i t r h3 e, (by decide : 4 ≤ 1000000), rfl, fun j d x g1 g2 => ?_⟩
    match j with
    | 0 => cases g1; cases g2; rfl
    | 1 => cases g1; cases g2; rfl
    | 2 => cases g1; cases g2; rfl
    | 3 => cases g1; cases g2; rfl
    | j + 4 => simp at g1
end Cl

/-! ## SpanPu -/
namespace Cl
open PySem PySem.Spec PyProof.Rows L2
/-! ### the walk's own lines: "c" a side condition, "h" what stands at an address, "s" a list that is read, "at" an item, "v" a value, "a" an answer, "ar" arguments -/
local macro_rules | `(tactic| walk_at "c") => `(tactic| first | assumption | (with_reducible rfl) | decide | omega | exact Or.inr ⟨by first | decide | omega, by first | decide | omega⟩ | exact Or.inl ⟨by first | decide | omega, by first | decide | omega⟩ | exact ⟨by first | decide | omega, by first | decide | omega⟩ | exact ⟨by decide, by decide, by decide⟩)
local macro_rules | `(tactic| walk_at "ne") => `(tactic| first | assumption | (exact Ne.symm (by assumption)) | (exact ne_of_none (by assumption) (by assumption)) | (exact Ne.symm (ne_of_none (by assumption) (by assumption))))
local macro_rules | `(tactic| walk_at "h") => `(tactic| first | assumption | exact upd_same | (refine Eq.trans (upd_ne ?_) ?_; walk_at "ne"; walk_at "h"))
local macro_rules | `(tactic| walk_at "s") => `(tactic| first | assumption | (exact SqL.of (by walk_at "h")) | (exact SqT.of (by walk_at "h")))
local macro_rules | `(tactic| walk_at "at") => `(tactic| first | rfl | exact atI_ints (by omega) (by omega))
local macro_rules | `(tactic| walk_at "ty") => `(tactic| first | exact .base (.int _) | exact .base (.bl _) | exact .base .non | exact .base (.str _) | exact .base (.lst (by walk_at "h")) | exact .base (.tup (by walk_at "h")))
local macro_rules | `(tactic| walk_at "v") => `(tactic| first
  | (with_reducible exact val_c)
  | ((with_reducible apply val_var); rfl)
  | ((with_reducible apply v_I0); walk_at "v"; walk_at "v")
  | ((with_reducible apply v_I); walk_at "v"; walk_at "v"; walk_at "c")
  | ((with_reducible apply v_U); walk_at "v")
  | ((with_reducible apply v_eq); walk_at "v"; walk_at "v"; rfl)
  | ((with_reducible apply v_ne); walk_at "v"; walk_at "v"; rfl)
  | ((with_reducible apply v_ixL); walk_at "v"; walk_at "v"; walk_at "s"; walk_at "at")
  | ((with_reducible apply v_ixT); walk_at "v"; walk_at "v"; walk_at "s"; walk_at "at")
  | ((with_reducible apply v_ixS); walk_at "v"; walk_at "v"; assumption; walk_at "at")
  | ((with_reducible apply v_fld); walk_at "v"; walk_at "h"; assumption; assumption; walk_at "fl")
  | ((with_reducible apply v_len); walk_at "ar"; walk_at "s")
  | ((with_reducible apply v_lenS); walk_at "ar"; assumption)
  | ((with_reducible apply v_lenT); walk_at "ar"; walk_at "s")
  | ((with_reducible apply v_abs); walk_at "ar")
  | ((with_reducible apply v_max2); walk_at "ar")
  | ((with_reducible apply v_min2); walk_at "ar")
  | ((with_reducible apply v_intI); walk_at "ar")
  | ((with_reducible apply v_intB); walk_at "ar")
  | ((with_reducible apply v_chain); walk_at "v"; walk_at "v"; walk_at "v"; exact i_B0; exact i_B0)
  | ((with_reducible apply v_chain3); walk_at "v"; walk_at "v"; walk_at "v"; walk_at "v"; exact i_B0; exact i_B0; exact i_B0)
  | ((with_reducible apply v_andV); walk_at "v"; (intro _; walk_at "v"))
  | ((with_reducible apply v_orV); walk_at "v"; (intro _; walk_at "v"))
  | ((with_reducible apply v_notV); walk_at "v")
  | ((with_reducible apply v_isN); walk_at "v")
  | ((with_reducible apply v_notN); walk_at "v")
  | ((with_reducible apply v_isiT); walk_at "ar"; walk_at "ty"; decide +kernel)
  | ((with_reducible apply v_isiF); walk_at "ar"; walk_at "ty"; decide +kernel)
  | ((with_reducible apply v_if); walk_at "a"; (intro _; walk_at "v"); (intro _; walk_at "v")))
local macro_rules | `(tactic| walk_at "ar") => `(tactic| first
  | (with_reducible exact ar_nil)
  | ((with_reducible apply ar_cons); walk_at "v"; walk_at "ar"))
local macro_rules | `(tactic| walk_at "a") => `(tactic| first
  | ((with_reducible apply a_test); walk_at "v")
  | ((with_reducible apply a_B); walk_at "v")
  | ((with_reducible apply a_not); walk_at "a")
  | ((with_reducible apply a_and); walk_at "a"; (intro _; walk_at "a"))
  | ((with_reducible apply a_or); walk_at "a"; (intro _; walk_at "a")))
local macro_rules | `(tactic| walk_at "fl") => `(tactic| first | exact fl_events _ _ _ | exact fl_spans _ _ _ | exact fl_round _ _ _)
local macro_rules | `(tactic| walk_at "call") => `(tactic| refine g_call (g_args (by walk_at "ar") ?_))
def dV : PyData → V
  | .none => .non
  | .bool b => .bl b
  | .int i => .int i
  | .str s => .str s
  | _ => .non
def isS : PyData → Bool
  | .none => true
  | .bool _ => true
  | .int _ => true
  | .str _ => true
  | _ => false
theorem dat_s {H : Hp} {n : Nat} {d : PyData} (h : isS d = true) : Dat H n d (dV d) := by
  cases d <;> first | (cases n <;> rfl) | cases h
theorem dat_tup {H : Hp} {t : Addr} {ds : List PyData} {n : Nat} {xs : List V} (h : H t = some (.tup xs)) (hx : xs = ds.map dV) (hl : ds.length ≤ 1000000) (hs : ∀ d ∈ ds, isS d = true) : Dat H (n + 1) (.tuple ds) (.ref t) := by
  subst hx
  refine ⟨t, _, rfl, h, hl, by simp, fun i d x h1 h2 => ?_⟩
  rw [List.getElem?_map, h1] at h2
  cases h2
  exact dat_s (hs d (List.mem_of_getElem? h1))
theorem dat_ints {H : Hp} {t : Addr} {L : List Int} {n : Nat} (h : H t = some (.lst (L.map V.int))) (hl : L.length ≤ 1000000) : Dat H (n + 1) (.list (L.map .int)) (.ref t) := by
  refine ⟨t, _, rfl, h, by simpa using hl, by simp, fun i d x h1 h2 => ?_⟩
  rw [List.getElem?_map] at h1 h2
  cases e : L[i]? with
  | none => rw [e] at h1; cases h1
  | some z =>
    rw [e] at h1 h2
    cases h1; cases h2
    cases n <;> rfl
theorem sq_new {K : PySem.W.Frag} {H H' : Hp} {a p : Addr} {xs : List V} (h : SqL K H a xs) (k : Kp [p] H H') (hp : H p = none) : SqL K H' a xs := by
  have ne : ∀ {o : HO}, H a = some o → H' a = some o := fun {o} e => k a o (fun z => by
    have z2 : a = p := by simpa using z
    rw [z2, hp] at e; cases e) e
  rcases h with (h | ⟨o, h⟩) | h
  · exact .inl (.inl (ne h))
  · exact .inl (.inr ⟨o, ne h⟩)
  · exact .inr h
theorem sq_kp {K : PySem.W.Frag} {H H' : Hp} {a : Addr} {xs : List V} (h : SqL K H a xs) (k : Kp [] H H') : SqL K H' a xs := by
  rcases h with (h | ⟨o, h⟩) | h
  · exact .inl (.inl (k _ _ (by simp) h))
  · exact .inl (.inr ⟨o, k _ _ (by simp) h⟩)
  · exact .inr h
theorem rows_get {rows : List Row} {i : Nat} (h : i < rows.length) : rows.getD i ⟨0, 0, 0, 0⟩ = rows[i] := by simp [List.getD_eq_getElem?_getD, List.getElem?_eq_getElem h]
/-- a comprehension of draws -/
theorem e_takes {σ : L2.St} {H : Hp} {Q : VK} {j : Nat} {te : TE} {vs : List Nat} {ta : TA} {p : Addr} {n : Int} (Ok : Int → Prop) (hp : Pool H p) (h : Args ta σ H [.int n]) (hn : 0 ≤ n ∧ n ≤ 1000) (hw : ∀ x, wipe ((wipe σ vs).set j (some x)) vs = wipe σ vs)
    (he : ∀ (i : Nat) H' (Q' : VK), Pool H' p → (∀ r H2, Ok r → Kp [p] H' H2 → Pool H2 p → Q' (.int r) H2) → te ((wipe σ vs).set j (some (.int (i : Nat)))) H' Q')
    (q : ∀ l (L : List Int) H', H l = none → Kp [p] H H' → Pool H' p → H' l = some (.lst (L.map V.int)) → (L.length : Int) = n → (∀ x ∈ L, Ok x) → Q (.ref l) H') : tLc (iRng1 ta) (gName j) tYes te vs σ H Q := by
  refine e_lcRW h (by omega) (fun Dl i H' => ∃ L : List Int, H' Dl = some (.lst (L.map V.int)) ∧ L.length = i ∧ Kp [p] H H' ∧ Pool H' p ∧ ∀ x ∈ L, Ok x) (fun Dl hD => ⟨[], upd_same, rfl, (Kp.refl _ _).new hD, hp.new hD, fun x hx => nomatch hx⟩) hw (fun Dl i H' hD hi hW => ?_) (fun Dl H' hD hW => ?_)
  · obtain ⟨L, h1, h2, h3, h4, h5⟩ := hW
    refine t_yesIf ?_
    refine he i H' _ h4 fun r H2 hr k2 p2 => ?_
    have nD : Dl ≠ p := hp.ne hD
    have g1 : H2 Dl = some (.lst (L.map V.int)) := k2 _ _ (by simpa using nD) h1
    refine ⟨_, g1, sz_lt (by rw [List.length_map]; omega), L ++ [r], ?_, by simp [h2], (h3.trans k2).mut hD, p2.upd nD.symm, fun x hx => ?_⟩
    · rw [upd_same]; simp
    · rcases List.mem_append.mp hx with z | z
      · exact h5 x z
      · have e : x = r := by simpa using z
        rw [e]; exact hr
  · obtain ⟨L, h1, h2, h3, h4, h5⟩ := hW
    exact q Dl L H' hD h3 h4 h1 (by omega) h5
theorem pure_l_many {K : PySem.W.Frag} {vs H Q E} (h : sp_l_many vs H Q E) : t_l_many K { nx := fun _ H' => Q .non H', rt := Q } (start N_l_many vs) H := by
  obtain ⟨p, rfl, hp, q⟩ := h
  refine q_set ?_
  walk_at "call"
  refine call_take hp (by decide) (by decide) fun w H1 w0 w1 k1 _ p1 => ?_
  refine q_when (by walk_at "a") (fun hb => ?_) (fun hb => ?_)
  · refine g_ret ?_
    walk_at "call"
    exact call_take p1 (by decide) (by decide) fun r H2 r0 r1 k2 _ p2 => q r H2 r0 (by omega) (k1.trans k2) p2
  refine q_when (by walk_at "a") (fun hb => ?_) (fun hb => ?_)
  · refine g_ret (g_op (g_c ?_))
    walk_at "call"
    exact call_take p1 (by decide) (by decide) fun r H2 r0 r1 k2 _ p2 => g_I0 (q _ H2 (by omega) (by omega) (k1.trans k2) p2)
  · refine g_ret (g_op (g_c ?_))
    walk_at "call"
    exact call_take p1 (by decide) (by decide) fun r H2 r0 r1 k2 _ p2 => g_I0 (q _ H2 (by omega) (by omega) (k1.trans k2) p2)
theorem call_many {H : Hp} {Q : VK} {E : XK} {p : Addr} (hp : Pool H p) (q : ∀ n H', 0 ≤ n → n ≤ 12 → Kp [p] H H' → Pool H' p → Q (.int n) H') : sp_l_many [.ref p] H Q E := ⟨p, rfl, hp, q⟩
theorem pure_l_count {K : PySem.W.Frag} {vs H Q E} (h : sp_l_count vs H Q E) : t_l_count K { nx := fun _ H' => Q .non H', rt := Q } (start N_l_count vs) H := by
  obtain ⟨p, n, rfl, hp, n0, q⟩ := h
  refine q_when (by walk_at "a") (fun hb => ?_) (fun hb => ?_)
  · exact g_ret (g_c (q 0 H (by decide) (by decide) (fun _ => rfl) (Kp.refl _ _) hp))
  have n2 : ¬ n < 2 := by simpa using hb
  refine q_whenc (g_test (g_op ?_))
  walk_at "call"
  refine call_take hp (by decide) (by decide) fun r H1 r0 r1 k1 _ p1 => ?_
  refine g_c (g_eq rfl ⟨_, rfl, g_if (fun hb => ?_) (fun hb => ?_)⟩)
  · refine g_ret (g_op (g_c ?_))
    walk_at "call"
    exact call_take p1 (by decide) (by decide) fun r H2 r0 r1 k2 _ p2 => g_I0 (q _ H2 (by omega) (by omega) (fun z => absurd z n2) (k1.trans k2) p2)
  · refine g_ret ?_
    walk_at "call"
    exact call_take p1 (by decide) (by decide) fun r H2 r0 r1 k2 _ p2 => q r H2 r0 (by omega) (fun z => absurd z n2) (k1.trans k2) p2
theorem call_count {H : Hp} {Q : VK} {E : XK} {p : Addr} {n : Int} (hp : Pool H p) (n0 : 0 ≤ n) (q : ∀ c H', 0 ≤ c → c ≤ 24 → (n < 2 → c = 0) → Kp [p] H H' → Pool H' p → Q (.int c) H') : sp_l_count [.ref p, .int n] H Q E := ⟨p, n, rfl, hp, n0, q⟩
theorem next_ne {s w n : Int} (n0 : 2 ≤ n) (s0 : 0 ≤ s) (s1 : s < n) (w0 : 0 ≤ w) (w1 : w < n - 1) : s ≠ (s + 1 + w) % n := by
  intro z
  have hc : s + 1 + w < n ∨ n ≤ s + 1 + w := by omega
  rcases hc with hc | hc
  · rw [Int.emod_eq_of_lt (by omega) hc] at z; omega
  · have e2 : (s + 1 + w) % n = s + 1 + w - n := by
      have e3 : s + 1 + w = (s + 1 + w - n) + n * 1 := by omega
      rw [e3, Int.add_mul_emod_self_left]
      rw [← e3]
      exact Int.emod_eq_of_lt (by omega) (by omega)
    omega
theorem Kp.dropS {H0 H H' : Hp} {p sp : Addr} (k0 : Kp [p] H0 H) (h : H0 sp = none) (k : Kp [p, sp] H H') : Kp [p] H0 H' := fun b o nb e => k b o (fun z => by
  have z2 : b = p ∨ b = sp := by simpa using z
  rcases z2 with z2 | z2
  · exact nb (by simp [z2])
  · rw [z2, h] at e; cases e) (k0 b o nb e)
theorem RowsAt.set {H : Hp} {ts : List Addr} {rows : List Row} {i j : Nat} {t : Addr} {r : Row} (h : RowsAt H ts rows) (ht : ts[j]? = some t) (hr : rows[j]? = some r) : RowsAt H (ts.set i t) (rows.set i r) := by
  refine ⟨by simp [h.1], fun m u q e1 e2 => ?_⟩
  rw [List.getElem?_set] at e1 e2
  by_cases e : i = m
  · rw [if_pos e] at e1 e2
    split at e1
    · split at e2
      · cases e1; cases e2
        exact h.2 j t r ht hr
      · cases e2
    · cases e1
  · rw [if_neg e] at e1 e2
    exact h.2 m u q e1 e2
theorem dup_end {K : PySem.W.Frag} {σ : L2.St} {H : Hp} {D : Ends} {p sp : Addr} {i : Nat} {ts : List Addr} {rows : List Row} {T n : Int} (h0 : σ[0]? = some (some (.ref p))) (h4 : σ[4]? = some (some (.ref sp))) (h5 : σ[5]? = some (some (.int (i : Nat)))) (hp : Pool H p) (hs : H sp = some (.lst (ts.map V.ref))) (hr : RowsAt H ts rows) (hl : rows.length = i + 1) (hi : i < 1000) (ok : ∀ r ∈ rows, r.Ok T n)
    (q : ∀ ts' rows' H', Kp [p, sp] H H' → Pool H' p → H' sp = some (.lst (ts'.map V.ref)) → RowsAt H' ts' rows' → rows'.length = i + 1 → (∀ r ∈ rows', r.Ok T n) → D.nx σ H') :
    tIfS (tTest (tOp rEq (tCall (sp_l_take) [] E0 (tCons (tVar 0) (tCons (tC (.int 8)) tNil))) (tC (.int 0)))) (tAsg (tOp (rIxL K) (tVar 4) (tCall (sp_l_take) [] E0 (tCons (tVar 0) (tCons (tOp oAdd (tVar 5) (tC (.int 1))) tNil)))) (gSub (tVar 4) (tVar 5) rSetL)) tNext D σ H := by
  have el : ts.length = rows.length := hr.1
  have nsp : sp ≠ p := pool_ne_refs hp hs
  refine g_ifS (g_test (g_op (g_call (g_args (ar_cons (val_var h0) (ar_cons val_c ar_nil)) ?_))))
  refine call_take hp (by decide) (by decide) fun r H1 r0 r1 k1 _ p1 => ?_
  have hs1 : H1 sp = some (.lst (ts.map V.ref)) := k1 _ _ (by simpa using nsp) hs
  have hr1 : RowsAt H1 ts rows := hr.kp k1 fun u xs hu => pool_not_tup hp hu
  refine g_c (g_eq rfl ⟨_, rfl, g_if (fun hb => ?_) (fun hb => ?_)⟩)
  · refine g_asg (g_op (g_var h4 (g_call (g_args (ar_cons (val_var h0) (ar_cons (v_I0 (g := fun i j => .int (i + j)) (val_var h5) val_c) ar_nil)) ?_))))
    refine call_take p1 (by omega) (by omega) fun m H2 m0 m1 k2 _ p2 => ?_
    have hs2 : H2 sp = some (.lst (ts.map V.ref)) := k2 _ _ (by simpa using nsp) hs1
    have hr2 : RowsAt H2 ts rows := hr1.kp k2 fun u xs hu => pool_not_tup p1 hu
    have hm : m.toNat < rows.length := by omega
    have hmt : ts[m.toNat]? = some ts[m.toNat] := List.getElem?_eq_getElem (by omega)
    have em : atI (ts.map V.ref) m = some (.ref ts[m.toNat]) := by
      have z : atI (ts.map V.ref) ((m.toNat : Nat) : Int) = some (V.ref ts[m.toNat]) := atI_nat (by rw [List.getElem?_map, hmt]; rfl)
      rw [Int.toNat_of_nonneg m0] at z
      exact z
    refine ⟨sp, _, m, _, rfl, rfl, SqL.of hs2, em, ?_⟩
    have hj : ixN (ts.map V.ref).length ((i : Nat) : Int) = some i := by
      rw [List.length_map, el, hl]
      unfold ixN
      simp <;> omega
    have r3 : RowsAt (upd H2 sp (.lst ((ts.map V.ref).set i (.ref ts[m.toNat])))) (ts.set i ts[m.toNat]) (rows.set i rows[m.toNat]) := by
      refine (hr2.set hmt (List.getElem?_eq_getElem hm)).kp (S := [sp]) ((Kp.refl _ _).upd (by simp)) fun u xs hu z => ?_
      have e : u = sp := by simpa using hu
      rw [e, hs2] at z; cases z
    have fin := q (ts.set i ts[m.toNat]) (rows.set i rows[m.toNat]) (upd H2 sp (.lst ((ts.map V.ref).set i (.ref ts[m.toNat])))) (((k1.trans k2).mono (by simp)).upd (by simp)) (p2.upd nsp.symm) (by rw [upd_same, List.map_set]) r3 (by simp [hl]) (fun r hr => by
      rcases List.mem_or_eq_of_mem_set hr with z | z
      · exact ok r z
      · rw [z]; exact ok _ (List.getElem_mem hm))
    exact g_var h4 (g_var h5 ⟨sp, _, _, i, rfl, rfl, hs2, hj, fin⟩)
  · exact q ts rows H1 (k1.mono (by simp)) p1 hs1 hr1 hl ok
theorem pure_l_any_spans {K : PySem.W.Frag} {vs H Q E} (h : sp_l_any_spans vs H Q E) : t_l_any_spans K { nx := fun _ H' => Q .non H', rt := Q } (start N_l_any_spans vs) H := by
  obtain ⟨p, T, n, c, rfl, hp, t0, t1, n0, n1, c0, c1, nc, q⟩ := h
  refine q_set (g_lst (g_nil ⟨by decide, fun sp hsp => ?_⟩))
  refine q_forR (by walk_at "ar") (by omega) (fun i σ' H' => ∃ (ts : List Addr) (rows : List Row) (x1 x2 x3 x4 x5 : Option V), σ' = [some (.ref p), some (.int T), some (.int n), some (.int c), some (.ref sp), x1, x2, x3, x4, x5] ∧ Kp [p] H H' ∧ Pool H' p ∧ H' sp = some (.lst (ts.map V.ref)) ∧ RowsAt H' ts rows ∧ rows.length = i ∧ ∀ r ∈ rows, r.Ok T n)
    ⟨[], [], none, none, none, none, none, rfl, (Kp.refl _ _).new hsp, hp.new hsp, upd_same, RowsAt.nil, rfl, fun r hr => nomatch hr⟩ ?_ ?_
  · rintro i σ' H' hi ⟨ts, rows, x1, x2, x3, x4, x5, rfl, k, hp, hs, hr, hl, ok⟩
    have n2 : 2 ≤ n := by
      rcases Int.lt_or_le n 2 with z | z
      · have := nc z; omega
      · exact z
    have el : ts.length = rows.length := hr.1
    refine q_set ?_
    walk_at "call"
    refine call_take hp (by omega) (by omega) fun s H1 s0 s1 k1 _ p1 => ?_
    refine q_set (g_op (g_cb (g_cons (g_op (g_val (by walk_at "v") ?_)))))
    walk_at "call"
    refine call_take p1 (by omega) (by omega) fun w H2 w0 w1 k2 _ p2 => ?_
    refine g_I0 (g_nil (Or.inl ⟨_, rfl, g_val (by walk_at "v") ⟨_, _, rfl, rfl, by omega, ?_⟩⟩))
    refine q_val (by walk_at "v") ?_
    have b1 := Int.emod_nonneg (s + 1 + w) (show n ≠ 0 by omega)
    have b2 := Int.emod_lt_of_pos (s + 1 + w) (show 0 < n by omega)
    have b3 := next_ne n2 s0 s1 w0 w1
    have nsp : sp ≠ p := pool_ne_refs hp hs
    have k12 := k1.trans k2
    have hs2 : H2 sp = some (.lst (ts.map V.ref)) := k12 _ _ (by simpa using nsp) hs
    have hr2 : RowsAt H2 ts rows := hr.kp k12 fun u xs hu => pool_not_tup hp hu
    refine q_whenc (g_test (g_op ?_))
    walk_at "call"
    refine call_take p2 (by decide) (by decide) fun v H3 v0 v1 k3 _ p3 => ?_
    have hs3 : H3 sp = some (.lst (ts.map V.ref)) := k3 _ _ (by simpa using nsp) hs2
    have hr3 : RowsAt H3 ts rows := hr2.kp k3 fun u xs hu => pool_not_tup p2 hu
    have k03 : Kp [p] H H3 := k.trans (k12.trans k3)
    have rest : ∀ room : Int, 0 < room → room ≤ 1000 → tSeq (tAsg (tCall (sp_l_take) [] E0 (tCons (tVar 0) (tCons (tVar 8) tNil))) (gName 9))
        (tSeq (tDrop (tBM K "list" rAppend (tVar 4) (tCons (tTup (tCons (tVar 6) (tCons (tVar 7) (tCons (tVar 9) (tCons (tOp oAdd (tVar 9) (tCall (sp_l_take) [] E0 (tCons (tVar 0) (tCons (tCB rMin2 (tCons (tVar 1) (tCons (tOp oSub (tC (.int 1000)) (tVar 9)) tNil))) tNil)))) tNil))))) tNil)))
        (tIfS (tTest (tOp rEq (tCall (sp_l_take) [] E0 (tCons (tVar 0) (tCons (tC (.int 8)) tNil))) (tC (.int 0)))) (tAsg (tOp (rIxL K) (tVar 4) (tCall (sp_l_take) [] E0 (tCons (tVar 0) (tCons (tOp oAdd (tVar 5) (tC (.int 1))) tNil)))) (gSub (tVar 4) (tVar 5) rSetL)) tNext))
        { nx := fun σ' H' => ∃ (ts : List Addr) (rows : List Row) (x1 x2 x3 x4 x5 : Option V), σ' = [some (.ref p), some (.int T), some (.int n), some (.int c), some (.ref sp), x1, x2, x3, x4, x5] ∧ Kp [p] H H' ∧ Pool H' p ∧ H' sp = some (.lst (ts.map V.ref)) ∧ RowsAt H' ts rows ∧ rows.length = i + 1 ∧ ∀ r ∈ rows, r.Ok T n, rt := Q, bk := tRet (tVar 4) { nx := fun _ H' => Q .non H', rt := Q }, ct := fun σ' H' => ∃ (ts : List Addr) (rows : List Row) (x1 x2 x3 x4 x5 : Option V), σ' = [some (.ref p), some (.int T), some (.int n), some (.int c), some (.ref sp), x1, x2, x3, x4, x5] ∧ Kp [p] H H' ∧ Pool H' p ∧ H' sp = some (.lst (ts.map V.ref)) ∧ RowsAt H' ts rows ∧ rows.length = i + 1 ∧ ∀ r ∈ rows, r.Ok T n }
      [some (.ref p), some (.int T), some (.int n), some (.int c), some (.ref sp), some (.int (i : Nat)), some (.int s), some (.int ((s + 1 + w) % n)), some (.int room), x5] H3 := fun room m0 m1 => by
      refine q_set ?_
      walk_at "call"
      refine call_take p3 m0 (by omega) fun low H4 l0 l1 k4 _ p4 => ?_
      have hs4 : H4 sp = some (.lst (ts.map V.ref)) := k4 _ _ (by simpa using nsp) hs3
      have hr4 : RowsAt H4 ts rows := hr3.kp k4 fun u xs hu => pool_not_tup p3 hu
      refine q_drop (e_appc (by walk_at "v") hs4 ?_)
      refine g_tup (g_cons (g_val (by walk_at "v") (g_cons (g_val (by walk_at "v") (g_cons (g_val (by walk_at "v") (g_cons (g_op (g_val (by walk_at "v") ?_)))))))))
      walk_at "call"
      refine call_take p4 ?_ ?_ fun d H5 d0 d1 k5 _ p5 => ?_
      · split <;> omega
      · split <;> omega
      have d2 : d < T ∧ d < 1000 - low := by split at d1 <;> constructor <;> omega
      refine g_I0 (g_nil ⟨by show 4 ≤ sizeLine; decide, fun t ht => g_nil ?_⟩)
      have ht4 : H4 t = none := k5.free (by simpa using p5.ne ht) ht
      obtain ⟨g1, g2, g3, g4⟩ := spans_more (r := Row.mk s ((s + 1 + w) % n) low (low + d)) (k03.trans k4) (k5.new ht) p4 hsp hs4 hr4 (p5.new ht) ht4 upd_same
      refine ⟨sp, _, _, rfl, rfl, g1, sz_lt (by rw [List.length_map]; omega), ?_⟩
      rw [show ts.map V.ref ++ [V.ref t] = (ts ++ [t]).map V.ref by simp]
      refine dup_end (rows := rows ++ [Row.mk s ((s + 1 + w) % n) low (low + d)]) (T := T) (n := n) rfl rfl rfl g3 upd_same g4 (by simp [hl]) (by omega) (fun r hr => ?_) fun ts' rows' H' kk pp a1 a2 a3 a4 => ⟨ts', rows', _, _, _, _, _, rfl, g2.dropS hsp kk, pp, a1, a2, a3, a4⟩
      rcases List.mem_append.mp hr with z | z
      · exact ok r z
      · have e : r = Row.mk s ((s + 1 + w) % n) low (low + d) := by simpa using z
        subst e
        exact ⟨s0, s1, b1, b2, b3, l0, by show low ≤ low + d; omega, by show low + d ≤ low + T - 1; omega, by show low + d ≤ 999; omega⟩
    refine g_c (g_eq rfl ⟨_, rfl, g_if (fun hb => ?_) (fun hb => ?_)⟩)
    · exact g_set (g_c (rest 1000 (by decide) (by decide)))
    · exact rest (3 * T) (by omega) (by omega)
  · rintro σ' H' ⟨ts, rows, x1, x2, x3, x4, x5, rfl, k, hp, hs, hr, hl, ok⟩
    exact g_ret (g_val (by walk_at "v") (q sp rows H' hsp k hp ⟨ts, hs, hr⟩ (by omega) ok))
theorem call_any {H : Hp} {Q : VK} {E : XK} {p : Addr} {T n k : Int} (hp : Pool H p) (t0 : 2 ≤ T) (t1 : T ≤ 60) (n0 : 0 ≤ n) (n1 : n ≤ 12) (k0 : 0 ≤ k) (k1 : k ≤ 24) (nk : n < 2 → k = 0) (q : GotSpans p T n k H Q) : sp_l_any_spans [.ref p, .int T, .int n, .int k] H Q E := ⟨p, T, n, k, rfl, hp, t0, t1, n0, n1, k0, k1, nk, q⟩
theorem e_pick {K : PySem.W.Frag} {σ : L2.St} {H : Hp} {Q : VK} {ts ta : TA} {p : Addr} {xs : List V} (L : List Int) {m : Int} (hp : Pool H p) (h : Args ts σ H xs) (hx : xs = L.map V.int) (hz : (L.length : Int) = m) (m0 : 0 < m) (m1 : m < 1000) (ha : ∀ H', Args ta σ H' [.ref p, .int m])
    (q : ∀ r H', 0 ≤ r → r < m → Kp [p] H H' → Pool H' p → Q (.int (L.getD r.toNat 0)) H') : tOp (rIxL K) (tLst ts) (tCall sp_l_take [] E0 ta) σ H Q := by
  subst hx
  refine g_op (g_lst (g_args h ⟨?_, fun l hl => ?_⟩))
  · rw [List.length_map]; exact Nat.le_of_lt (sz_lt (by omega))
  refine g_call (g_args (ha _) ?_)
  have hlp := hp.ne hl
  refine call_take (hp.new hl) m0 (by omega) fun r H2 r0 r1 k2 _ p2 => ?_
  exact ⟨l, _, r, _, rfl, rfl, SqL.of (k2 l _ (by simpa using hlp) upd_same), atI_ints r0 (by omega), q r H2 r0 r1 (((Kp.refl _ _).new hl).trans k2) p2⟩
end Cl

/-! ## PuA -/
namespace Cl
open PySem PySem.Spec PyProof.Rows L2
/-! ### the walk's own lines: "c" a side condition, "h" what stands at an address, "s" a list that is read, "at" an item, "v" a value, "a" an answer, "ar" arguments -/
local macro_rules | `(tactic| walk_at "c") => `(tactic| first | assumption | (with_reducible rfl) | decide | omega | exact Or.inr ⟨by first | decide | omega, by first | decide | omega⟩ | exact Or.inl ⟨by first | decide | omega, by first | decide | omega⟩ | exact ⟨by first | decide | omega, by first | decide | omega⟩ | exact ⟨by decide, by decide, by decide⟩)
local macro_rules | `(tactic| walk_at "ne") => `(tactic| first | assumption | (exact Ne.symm (by assumption)) | (exact ne_of_none (by assumption) (by assumption)) | (exact Ne.symm (ne_of_none (by assumption) (by assumption))))
local macro_rules | `(tactic| walk_at "h") => `(tactic| first | assumption | exact upd_same | (refine Eq.trans (upd_ne ?_) ?_; walk_at "ne"; walk_at "h"))
local macro_rules | `(tactic| walk_at "s") => `(tactic| first | assumption | (exact SqL.of (by walk_at "h")) | (exact SqT.of (by walk_at "h")))
local macro_rules | `(tactic| walk_at "at") => `(tactic| first | rfl | exact atI_ints (by omega) (by omega))
local macro_rules | `(tactic| walk_at "ty") => `(tactic| first | exact .base (.int _) | exact .base (.bl _) | exact .base .non | exact .base (.str _) | exact .base (.lst (by walk_at "h")) | exact .base (.tup (by walk_at "h")))
local macro_rules | `(tactic| walk_at "v") => `(tactic| first
  | (with_reducible exact val_c)
  | ((with_reducible apply val_var); rfl)
  | ((with_reducible apply v_I0); walk_at "v"; walk_at "v")
  | ((with_reducible apply v_I); walk_at "v"; walk_at "v"; walk_at "c")
  | ((with_reducible apply v_U); walk_at "v")
  | ((with_reducible apply v_eq); walk_at "v"; walk_at "v"; rfl)
  | ((with_reducible apply v_ne); walk_at "v"; walk_at "v"; rfl)
  | ((with_reducible apply v_ixL); walk_at "v"; walk_at "v"; walk_at "s"; walk_at "at")
  | ((with_reducible apply v_ixT); walk_at "v"; walk_at "v"; walk_at "s"; walk_at "at")
  | ((with_reducible apply v_ixS); walk_at "v"; walk_at "v"; assumption; walk_at "at")
  | ((with_reducible apply v_fld); walk_at "v"; walk_at "h"; assumption; assumption; walk_at "fl")
  | ((with_reducible apply v_len); walk_at "ar"; walk_at "s")
  | ((with_reducible apply v_lenS); walk_at "ar"; assumption)
  | ((with_reducible apply v_lenT); walk_at "ar"; walk_at "s")
  | ((with_reducible apply v_abs); walk_at "ar")
  | ((with_reducible apply v_max2); walk_at "ar")
  | ((with_reducible apply v_min2); walk_at "ar")
  | ((with_reducible apply v_intI); walk_at "ar")
  | ((with_reducible apply v_intB); walk_at "ar")
  | ((with_reducible apply v_chain); walk_at "v"; walk_at "v"; walk_at "v"; exact i_B0; exact i_B0)
  | ((with_reducible apply v_chain3); walk_at "v"; walk_at "v"; walk_at "v"; walk_at "v"; exact i_B0; exact i_B0; exact i_B0)
  | ((with_reducible apply v_andV); walk_at "v"; (intro _; walk_at "v"))
  | ((with_reducible apply v_orV); walk_at "v"; (intro _; walk_at "v"))
  | ((with_reducible apply v_notV); walk_at "v")
  | ((with_reducible apply v_isN); walk_at "v")
  | ((with_reducible apply v_notN); walk_at "v")
  | ((with_reducible apply v_isiT); walk_at "ar"; walk_at "ty"; decide +kernel)
  | ((with_reducible apply v_isiF); walk_at "ar"; walk_at "ty"; decide +kernel)
  | ((with_reducible apply v_if); walk_at "a"; (intro _; walk_at "v"); (intro _; walk_at "v")))
local macro_rules | `(tactic| walk_at "ar") => `(tactic| first
  | (with_reducible exact ar_nil)
  | ((with_reducible apply ar_cons); walk_at "v"; walk_at "ar"))
local macro_rules | `(tactic| walk_at "a") => `(tactic| first
  | ((with_reducible apply a_test); walk_at "v")
  | ((with_reducible apply a_B); walk_at "v")
  | ((with_reducible apply a_not); walk_at "a")
  | ((with_reducible apply a_and); walk_at "a"; (intro _; walk_at "a"))
  | ((with_reducible apply a_or); walk_at "a"; (intro _; walk_at "a")))
local macro_rules | `(tactic| walk_at "fl") => `(tactic| first | exact fl_events _ _ _ | exact fl_spans _ _ _ | exact fl_round _ _ _)
local macro_rules | `(tactic| walk_at "call") => `(tactic| refine g_call (g_args (by walk_at "ar") ?_))
theorem EndV.kp {H H' : Hp} {c : Option Step} {v : V} (h : EndV H c v) (k : Kp [] H H') : EndV H' c v := by
  cases c with
  | none => exact h
  | some q => obtain ⟨t, e, ht⟩ := h; exact ⟨t, e, k _ _ (by simp) ht⟩
theorem StepsAt.kp {S : List Addr} {H H' : Hp} {ts : List Addr} {ps : List Step} (h : StepsAt H ts ps) (k : Kp S H H') (hs : ∀ t xs, t ∈ S → H t ≠ some (.tup xs)) : StepsAt H' ts ps :=
  ⟨h.1, fun i t r e1 e2 => k t _ (fun z => hs t _ z (h.2 i t r e1 e2)) (h.2 i t r e1 e2)⟩
theorem PathAt.kp {H H' : Hp} {a : Addr} {ps : List Step} (h : PathAt H a ps) (k : Kp [] H H') : PathAt H' a ps := by
  obtain ⟨ts, ha, hs⟩ := h
  exact ⟨ts, k _ _ (by simp) ha, hs.kp k fun _ _ z => nomatch z⟩
theorem SpansAt.kp0 {H H' : Hp} {a : Addr} {rows : List Row} (h : SpansAt H a rows) (k : Kp [] H H') : SpansAt H' a rows := by
  obtain ⟨ts, ha, hs⟩ := h
  exact ⟨ts, k _ _ (by simp) ha, hs.kp k fun _ _ z => nomatch z⟩
theorem NR.kp {K : PySem.W.Frag} {H H' : Hp} {x : Addr} {rows : List Row} (h : NR K H x rows) (k : Kp [] H H') : NR K H' x rows := by
  obtain ⟨⟨T, n, hn, r⟩, rl⟩ := h
  exact ⟨⟨T, n, hn.kp k, r⟩, rl⟩
theorem in_pm (d : Int) : inV (.int d) [.int 1, .int (-1)] = decide (d = 1 ∨ d = -1) := by
  unfold inV
  simp only [List.any_cons, List.any_nil, Bool.or_false]
  show (decide ((1 : Int) = d) || decide ((-1 : Int) = d)) = _
  by_cases h1 : d = 1
  · subst h1; rfl
  · by_cases h2 : d = -1
    · subst h2; rfl
    · rw [decide_eq_false (by omega), decide_eq_false (by omega), decide_eq_false (by omega)]; rfl
theorem ends_none {rows : List Row} {p : Step} (h : ¬ (0 ≤ p.1 ∧ p.1 < rows.length ∧ (p.2 = 1 ∨ p.2 = -1))) : endsP rows p = none := if_neg h
theorem ends_one {rows : List Row} {p : Step} (h : 0 ≤ p.1 ∧ p.1 < rows.length) (h1 : p.2 = 1) : endsP rows p = some ((rows.getD p.1.toNat ⟨0, 0, 0, 0⟩).s, (rows.getD p.1.toNat ⟨0, 0, 0, 0⟩).e) := by
  unfold endsP; rw [if_pos ⟨h.1, h.2, .inl h1⟩, if_pos h1]
theorem ends_back {rows : List Row} {p : Step} (h : 0 ≤ p.1 ∧ p.1 < rows.length) (h0 : p.2 = 1 ∨ p.2 = -1) (h1 : p.2 ≠ 1) : endsP rows p = some ((rows.getD p.1.toNat ⟨0, 0, 0, 0⟩).e, (rows.getD p.1.toNat ⟨0, 0, 0, 0⟩).s) := by
  unfold endsP; rw [if_pos ⟨h.1, h.2, h0⟩, if_neg h1]
theorem refs_atI {ts : List Addr} {i : Int} {t : Addr} (h0 : 0 ≤ i) (h : ts[i.toNat]? = some t) : atI (ts.map V.ref) i = some (.ref t) := by
  refine atI_of h0 ?_
  rw [List.getElem?_map, h]; rfl
theorem rows_atI {H : Hp} {ts : List Addr} {rows : List Row} (h : RowsAt H ts rows) {i : Int} (h0 : 0 ≤ i) (h1 : i < rows.length) : ∃ t, atI (ts.map V.ref) i = some (.ref t) ∧ H t = some (.tup (rows.getD i.toNat ⟨0, 0, 0, 0⟩).vs) := by
  have hl : i.toNat < rows.length := by omega
  have hl2 : i.toNat < ts.length := by rw [h.1]; exact hl
  refine ⟨ts[i.toNat], refs_atI h0 (List.getElem?_eq_getElem hl2), ?_⟩
  rw [rows_get hl]
  exact h.2 i.toNat _ _ (List.getElem?_eq_getElem hl2) (List.getElem?_eq_getElem hl)
theorem e_slT {K : PySem.W.Frag} {σ : L2.St} {H : Hp} {te : TE} {a : Addr} {xs : List V} {lo hi : Option Int} {tl th : TO} {Q : VK} (h : Val te σ H (.ref a)) (h1 : Part tl σ H lo) (h2 : Part th σ H hi) (hs : SqT K H a xs) (hn : ¬ (HT.sIx xs.length 0 lo = 0 ∧ HT.sIx xs.length xs.length hi = xs.length)) (q : ∀ p, H p = none → Q (.ref p) (upd H p (.tup (cutV xs lo hi)))) : tSl (rSlT K) te tl th σ H Q :=
  h _ (h1 _ (h2 _ ⟨a, xs, rfl, hs, hn, q⟩))
theorem pure_step_ends {K : PySem.W.Frag} (c : NetK K) {vs H Q E} (h : sp_step_ends K vs H Q E) : t_step_ends K { nx := fun _ H' => Q .non H', rt := Q } (start N_step_ends vs) H := by
  obtain ⟨x, t, p, rows, rfl, N, ht, q⟩ := h
  obtain ⟨T, n, ⟨dx, sa, ts, hx, hsa, hrs⟩, n0, n1, ok⟩ := N.net
  have el : ts.length = rows.length := hrs.1
  have := c.cl; have := c.nS
  refine q_asg (g_var rfl ⟨t, _, rfl, SqT.of ht, rfl, _, _, rfl, _, _, rfl, rfl, ?_⟩)
  refine q_whenc (g_or (g_not (g_ans (a_test (by walk_at "v")) ?_)))
  refine g_if (fun hb => ?_) (fun hb => ?_)
  · refine iteT (g_ret (g_c (q _ _ (Kp.refl _ _) ?_)))
    rw [ends_none (by simp at hb; omega)]; rfl
  have hin : 0 ≤ p.1 ∧ p.1 < rows.length := by simp at hb; omega
  refine g_test (g_op (g_var rfl (g_tup (g_args (by walk_at "ar") ⟨by show 2 ≤ sizeLine; decide, fun u hu => ?_⟩))))
  have k1 : Kp [] H (upd H u (.tup [.int 1, .int (-1)])) := (Kp.refl _ _).new hu
  refine ⟨u, _, rfl, .inr (SqT.of upd_same), rfl, rfl, _, rfl, ?_⟩
  generalize hH1 : upd H u (.tup [.int 1, .int (-1)]) = H1 at k1
  rw [if_pos rfl, in_pm]
  refine g_if (fun hb => ?_) (fun hb => ?_)
  · refine g_ret (g_c (q _ _ k1 ?_))
    rw [ends_none (by simp at hb; omega)]; rfl
  have hd : p.2 = 1 ∨ p.2 = -1 := by simp at hb; omega
  obtain ⟨r, e1, hr⟩ := rows_atI hrs hin.1 hin.2
  have hx1 := k1 _ _ (by simp) hx
  have hsa1 := k1 _ _ (by simp) hsa
  have hr1 := k1 _ _ (by simp) hr
  generalize hrow : rows.getD p.1.toNat ⟨0, 0, 0, 0⟩ = row at hr1
  refine q_asg (e_slT (a := r) (xs := row.vs) (v_ixT (v_fld (val_var rfl) hx1 c.cl c.nS (fl_spans _ _ _)) (val_var rfl) (SqT.of hsa1) e1) pt_none (pt_some val_c) (SqT.of hr1) (by intro z; exact absurd z.2 (show ¬ ((2 : Nat) = 4) by decide)) fun u2 hu2 => ?_)
  have k2 := k1.new (o := .tup (cutV row.vs none (some 2))) hu2
  refine ⟨u2, [.int row.s, .int row.e], rfl, SqT.of upd_same, rfl, _, _, rfl, _, _, rfl, rfl, ?_⟩
  generalize upd H1 u2 (.tup (cutV row.vs none (some 2))) = H2 at k2
  refine q_when (by walk_at "a") (fun hb => ?_) (fun hb => ?_)
  · have h1 : p.2 = 1 := by simpa using hb
    refine g_ret (g_tup (g_args (by walk_at "ar") ⟨by show 2 ≤ sizeLine; decide, fun u3 hu3 => q _ _ (k2.new hu3) ?_⟩))
    rw [ends_one hin h1, hrow]
    exact ⟨u3, rfl, upd_same⟩
  · have h1 : p.2 ≠ 1 := by simpa using hb
    refine g_ret (g_tup (g_args (by walk_at "ar") ⟨by show 2 ≤ sizeLine; decide, fun u3 hu3 => q _ _ (k2.new hu3) ?_⟩))
    rw [ends_back hin hd h1, hrow]
    exact ⟨u3, rfl, upd_same⟩
theorem call_ends {K : PySem.W.Frag} {H : Hp} {Q : VK} {E : XK} {x t : Addr} {p : Step} {rows : List Row} (N : NR K H x rows) (ht : H t = some (.tup (stV p))) (q : ∀ v H', Kp [] H H' → EndV H' (endsP rows p) v → Q v H') : sp_step_ends K [.ref x, .ref t] H Q E := ⟨x, t, p, rows, rfl, N, ht, q⟩
theorem pure_l_step_ends {K : PySem.W.Frag} {vs H Q E} (h : sp_l_step_ends vs H Q E) : t_l_step_ends K { nx := fun _ H' => Q .non H', rt := Q } (start N_l_step_ends vs) H := by
  obtain ⟨a, t, p, rows, rfl, ⟨ts, ha, hrs⟩, ht, q⟩ := h
  have el : ts.length = rows.length := hrs.1
  have ht0 : Val (tOp (rIxT K) (tVar 1) (tC (.int 0))) (start N_l_step_ends [.ref a, .ref t]) H (.int p.1) := v_ixT (val_var rfl) val_c (SqT.of ht) rfl
  refine q_whenc (g_or (g_ans (a_test (v_I0 ht0 val_c)) ?_))
  refine g_if (fun hb => ?_) (fun hb => ?_)
  · refine iteT (g_ret (g_c (q _ _ (Kp.refl _ _) ?_)))
    rw [ends_none (by simp at hb; omega)]; rfl
  refine g_or (g_ans (a_test (v_I0 ht0 (by walk_at "v"))) ?_)
  refine g_if (fun hb => ?_) (fun hb => ?_)
  · refine iteT (g_ret (g_c (q _ _ (Kp.refl _ _) ?_)))
    rw [ends_none (by simp at hb; omega)]; rfl
  have hin : 0 ≤ p.1 ∧ p.1 < rows.length := by
    rename_i hb0
    simp at hb hb0; omega
  refine g_test (g_op (g_val (v_ixT (v := .int p.2) (val_var rfl) val_c (SqT.of ht) rfl) (g_tup (g_args (by walk_at "ar") ⟨by show 2 ≤ sizeLine; decide, fun u hu => ?_⟩))))
  have k1 : Kp [] H (upd H u (.tup [.int 1, .int (-1)])) := (Kp.refl _ _).new hu
  refine ⟨u, _, rfl, .inr (SqT.of upd_same), rfl, rfl, _, rfl, ?_⟩
  generalize hH1 : upd H u (.tup [.int 1, .int (-1)]) = H1 at k1
  show if (!inV (.int p.2) [.int 1, .int (-1)]) = true then _ else _
  rw [in_pm]
  have ht1 := k1 _ _ (by simp) ht
  refine g_if (fun hb => ?_) (fun hb => ?_)
  · refine g_ret (g_c (q _ _ k1 ?_))
    rw [ends_none (by simp at hb; omega)]; rfl
  have hd : p.2 = 1 ∨ p.2 = -1 := by simp at hb; omega
  obtain ⟨r, e1, hr⟩ := rows_atI hrs hin.1 hin.2
  have ha1 := k1 _ _ (by simp) ha
  have hr1 := k1 _ _ (by simp) hr
  generalize hrow : rows.getD p.1.toNat ⟨0, 0, 0, 0⟩ = row at hr1
  have g0 : ∀ {σ : L2.St}, σ[1]? = some (some (.ref t)) → Val (tOp (rIxT K) (tVar 1) (tC (.int 0))) σ H1 (.int p.1) := fun e => v_ixT (val_var e) val_c (SqT.of ht1) rfl
  have g1 : ∀ {σ : L2.St}, σ[1]? = some (some (.ref t)) → Val (tOp (rIxT K) (tVar 1) (tC (.int 1))) σ H1 (.int p.2) := fun e => v_ixT (val_var e) val_c (SqT.of ht1) rfl
  refine q_val (v := .ref r) ?_ ?_
  · exact v_ixL (val_var rfl) (g0 rfl) (SqL.of ha1) e1
  refine q_when (a_test (v_eq (g1 rfl) val_c rfl)) (fun hb => ?_) (fun hb => ?_)
  · have h1 : p.2 = 1 := by simpa using hb
    refine g_ret (g_tup (g_args (ar_cons (v_ixT (v := .int row.s) (val_var rfl) val_c (SqT.of hr1) rfl) (ar_cons (v_ixT (v := .int row.e) (val_var rfl) val_c (SqT.of hr1) rfl) ar_nil)) ⟨by show 2 ≤ sizeLine; decide, fun u3 hu3 => q _ _ (k1.new hu3) ?_⟩))
    rw [ends_one hin h1, hrow]
    exact ⟨u3, rfl, upd_same⟩
  · have h1 : p.2 ≠ 1 := by simpa using hb
    refine g_ret (g_tup (g_args (ar_cons (v_ixT (v := .int row.e) (val_var rfl) val_c (SqT.of hr1) rfl) (ar_cons (v_ixT (v := .int row.s) (val_var rfl) val_c (SqT.of hr1) rfl) ar_nil)) ⟨by show 2 ≤ sizeLine; decide, fun u3 hu3 => q _ _ (k1.new hu3) ?_⟩))
    rw [ends_back hin hd h1, hrow]
    exact ⟨u3, rfl, upd_same⟩
theorem call_lends {H : Hp} {Q : VK} {E : XK} {a t : Addr} {p : Step} {rows : List Row} (hs : SpansAt H a rows) (ht : H t = some (.tup (stV p))) (q : ∀ v H', Kp [] H H' → EndV H' (endsP rows p) v → Q v H') : sp_l_step_ends [.ref a, .ref t] H Q E := ⟨a, t, p, rows, rfl, hs, ht, q⟩
end Cl

/-! ## PuB -/
namespace Cl
open PySem PySem.Spec PyProof.Rows L2
/-! ### the walk's own lines: "c" a side condition, "h" what stands at an address, "s" a list that is read, "at" an item, "v" a value, "a" an answer, "ar" arguments -/
local macro_rules | `(tactic| walk_at "c") => `(tactic| first | assumption | (with_reducible rfl) | decide | omega | exact Or.inr ⟨by first | decide | omega, by first | decide | omega⟩ | exact Or.inl ⟨by first | decide | omega, by first | decide | omega⟩ | exact ⟨by first | decide | omega, by first | decide | omega⟩ | exact ⟨by decide, by decide, by decide⟩)
local macro_rules | `(tactic| walk_at "ne") => `(tactic| first | assumption | (exact Ne.symm (by assumption)) | (exact ne_of_none (by assumption) (by assumption)) | (exact Ne.symm (ne_of_none (by assumption) (by assumption))))
local macro_rules | `(tactic| walk_at "h") => `(tactic| first | assumption | exact upd_same | (refine Eq.trans (upd_ne ?_) ?_; walk_at "ne"; walk_at "h"))
local macro_rules | `(tactic| walk_at "s") => `(tactic| first | assumption | (exact SqL.of (by walk_at "h")) | (exact SqT.of (by walk_at "h")))
local macro_rules | `(tactic| walk_at "at") => `(tactic| first | rfl | exact atI_ints (by omega) (by omega))
local macro_rules | `(tactic| walk_at "ty") => `(tactic| first | exact .base (.int _) | exact .base (.bl _) | exact .base .non | exact .base (.str _) | exact .base (.lst (by walk_at "h")) | exact .base (.tup (by walk_at "h")))
local macro_rules | `(tactic| walk_at "v") => `(tactic| first
  | (with_reducible exact val_c)
  | ((with_reducible apply val_var); rfl)
  | ((with_reducible apply v_I0); walk_at "v"; walk_at "v")
  | ((with_reducible apply v_I); walk_at "v"; walk_at "v"; walk_at "c")
  | ((with_reducible apply v_U); walk_at "v")
  | ((with_reducible apply v_eq); walk_at "v"; walk_at "v"; rfl)
  | ((with_reducible apply v_ne); walk_at "v"; walk_at "v"; rfl)
  | ((with_reducible apply v_ixL); walk_at "v"; walk_at "v"; walk_at "s"; walk_at "at")
  | ((with_reducible apply v_ixT); walk_at "v"; walk_at "v"; walk_at "s"; walk_at "at")
  | ((with_reducible apply v_ixS); walk_at "v"; walk_at "v"; assumption; walk_at "at")
  | ((with_reducible apply v_fld); walk_at "v"; walk_at "h"; assumption; assumption; walk_at "fl")
  | ((with_reducible apply v_len); walk_at "ar"; walk_at "s")
  | ((with_reducible apply v_lenS); walk_at "ar"; assumption)
  | ((with_reducible apply v_lenT); walk_at "ar"; walk_at "s")
  | ((with_reducible apply v_abs); walk_at "ar")
  | ((with_reducible apply v_max2); walk_at "ar")
  | ((with_reducible apply v_min2); walk_at "ar")
  | ((with_reducible apply v_intI); walk_at "ar")
  | ((with_reducible apply v_intB); walk_at "ar")
  | ((with_reducible apply v_chain); walk_at "v"; walk_at "v"; walk_at "v"; exact i_B0; exact i_B0)
  | ((with_reducible apply v_chain3); walk_at "v"; walk_at "v"; walk_at "v"; walk_at "v"; exact i_B0; exact i_B0; exact i_B0)
  | ((with_reducible apply v_andV); walk_at "v"; (intro _; walk_at "v"))
  | ((with_reducible apply v_orV); walk_at "v"; (intro _; walk_at "v"))
  | ((with_reducible apply v_notV); walk_at "v")
  | ((with_reducible apply v_isN); walk_at "v")
  | ((with_reducible apply v_notN); walk_at "v")
  | ((with_reducible apply v_isiT); walk_at "ar"; walk_at "ty"; decide +kernel)
  | ((with_reducible apply v_isiF); walk_at "ar"; walk_at "ty"; decide +kernel)
  | ((with_reducible apply v_if); walk_at "a"; (intro _; walk_at "v"); (intro _; walk_at "v")))
local macro_rules | `(tactic| walk_at "ar") => `(tactic| first
  | (with_reducible exact ar_nil)
  | ((with_reducible apply ar_cons); walk_at "v"; walk_at "ar"))
local macro_rules | `(tactic| walk_at "a") => `(tactic| first
  | ((with_reducible apply a_test); walk_at "v")
  | ((with_reducible apply a_B); walk_at "v")
  | ((with_reducible apply a_not); walk_at "a")
  | ((with_reducible apply a_and); walk_at "a"; (intro _; walk_at "a"))
  | ((with_reducible apply a_or); walk_at "a"; (intro _; walk_at "a")))
local macro_rules | `(tactic| walk_at "fl") => `(tactic| first | exact fl_events _ _ _ | exact fl_spans _ _ _ | exact fl_round _ _ _)
local macro_rules | `(tactic| walk_at "call") => `(tactic| refine g_call (g_args (by walk_at "ar") ?_))
theorem steps_at {H : Hp} {ts : List Addr} {ps : List Step} (h : StepsAt H ts ps) {i : Nat} {v : V} (hi : (ts.map V.ref)[i]? = some v) : ∃ t p, v = .ref t ∧ ts[i]? = some t ∧ ps[i]? = some p ∧ H t = some (.tup (stV p)) := by
  obtain ⟨t, ht, rfl⟩ := refs_at hi
  have hl : i < ps.length := by
    have := (List.getElem?_eq_some_iff.mp ht).1
    rw [← h.1]; exact this
  exact ⟨t, ps[i], rfl, ht, List.getElem?_eq_getElem hl, h.2 i t _ ht (List.getElem?_eq_getElem hl)⟩
theorem steps_atI {H : Hp} {ts : List Addr} {ps : List Step} (h : StepsAt H ts ps) {i : Int} (h0 : 0 ≤ i) (h1 : i < ps.length) : ∃ t p, atI (ts.map V.ref) i = some (.ref t) ∧ ps[i.toNat]? = some p ∧ H t = some (.tup (stV p)) := by
  have hl : i.toNat < ps.length := by omega
  have hl2 : i.toNat < ts.length := by rw [h.1]; exact hl
  exact ⟨ts[i.toNat], ps[i.toNat], refs_atI h0 (List.getElem?_eq_getElem hl2), List.getElem?_eq_getElem hl, h.2 _ _ _ (List.getElem?_eq_getElem hl2) (List.getElem?_eq_getElem hl)⟩
theorem run_step {rows : List Row} {ps : List Step} {i j : Nat} {c : Option Step} {p : Step} (h : ps[i]? = some p) : runP rows (ps.drop i) j c = match stepP rows c p with
    | none => .inl j
    | some d => runP rows (ps.drop (i + 1)) (j + 1) (some d) := by
  obtain ⟨hl, e⟩ := List.getElem?_eq_some_iff.mp h
  rw [List.drop_eq_getElem_cons hl, e]
  rfl
theorem run_end {rows : List Row} {ps : List Step} {j : Nat} {c : Option Step} : runP rows (ps.drop ps.length) j c = .inr c := by
  rw [List.drop_length]; rfl
theorem pure_path_ends {K : PySem.W.Frag} (c : NetK K) {vs H Q E} (h : sp_path_ends K vs H Q E) : t_path_ends K E { nx := fun _ H' => Q .non H', rt := Q } (start N_path_ends vs) H := by
  obtain ⟨x, a, ps, rows, rfl, N, ⟨ts, ha, hs⟩, hl, q1, q2⟩ := h
  have el : ts.length = ps.length := hs.1
  refine q_val val_c ?_
  refine q_forE (xs := ts.map V.ref) (by walk_at "ar") (SqL.of ha) (fun i σ' H' => Kp [] H H' ∧ ∃ cu v y z w, EndV H' cu v ∧ runP rows ps 0 none = runP rows (ps.drop i) i cu ∧ σ' = [some (.ref x), some (.ref a), some v, y, z, w]) ⟨Kp.refl _ _, none, .non, _, _, _, rfl, rfl, rfl⟩ (fun i σ' H' _ ⟨k, _⟩ => SqL.of (k _ _ (by simp) ha)) ?_ ?_
  · rintro i u σ' H' t0 hi ⟨k, cu, v, y, z, w, hv, hrun, rfl⟩ ht0
    obtain ⟨t, p, rfl, ht, hp, hst⟩ := steps_at hs hi
    rw [run_step hp] at hrun
    have k1 := k.new (o := .tup [.int (i : Int), .ref t]) ht0
    have hv1 := hv.kp ((Kp.refl [] H').new (o := .tup [.int (i : Int), .ref t]) ht0)
    generalize upd H' t0 (.tup [.int (i : Int), .ref t]) = H1 at k1 hv1
    refine q_set ?_
    walk_at "call"
    refine call_ends (N.kp k1) (k1 _ _ (by simp) hst) fun e H2 k2 he => ?_
    have hv2 := hv1.kp k2
    have k02 := k1.trans k2
    have bad : stepP rows cu p = none → tRaise (tMkE (He.ga K "BadPath") ["place"] (tCons (tVar 3) tNil)) (W0 E) { nx := fun _ _ => False, rt := Q, bk := fun _ _ => False, ct := fun _ _ => False } [some (.ref x), some (.ref a), some v, some (.int (i : Int)), some (.ref t), some e] H2 := fun hz => by
      rw [hz] at hrun
      refine g_raise1 (by walk_at "ar") (fmt_int (by
        have := (List.getElem?_eq_some_iff.mp hp).1
        omega)) fun d hd => ?_
      exact q2 i d _ hrun (k02.new hd) upd_same
    cases hE : endsP rows p with
    | none =>
      rw [hE] at he
      have he' : e = .non := he
      subst he'
      refine q_yes (b := true) (a_or (b := true) (c := false) (a_test (v_cast (v_isN (val_var rfl)) rfl)) (fun z => by cases z)) rfl ?_
      exact bad (by unfold stepP; rw [hE])
    | some qq =>
      rw [hE] at he
      obtain ⟨et, rfl, het⟩ := he
      cases cu with
      | none =>
        have hv3 : v = .non := hv2
        subst hv3
        refine q_no (b := false) (a_or (b := false) (c := false) (a_test (v_cast (v_isN (val_var rfl)) rfl)) (fun _ => a_and (b := false) (c := false) (a_test (v_cast (v_notN (val_var rfl)) rfl)) (fun z => by cases z))) rfl ?_
        refine g_set (g_val (v_if (b := true) (a_test (v_cast (v_isN (val_var rfl)) rfl)) (fun _ => val_var rfl) (fun z => by cases z) (y := .non)) ?_)
        refine ⟨k02, some qq, .ref et, _, _, _, ⟨et, rfl, het⟩, ?_, rfl⟩
        rw [hrun]; unfold stepP; rw [hE]
      | some cc =>
        obtain ⟨vt, rfl, hvt⟩ := hv2
        by_cases hq : qq.1 = cc.2
        · refine q_no (b := false) (a_or (b := false) (c := false) (a_test (v_cast (v_isN (val_var rfl)) rfl)) (fun _ => a_and (b := true) (c := false) (a_test (v_cast (v_notN (val_var rfl)) rfl)) (fun _ => a_test (v_cast (v_ne (v_ixT (v := .int qq.1) (val_var rfl) val_c (SqT.of het) rfl) (v_ixT (v := .int cc.2) (val_var rfl) val_c (SqT.of hvt) rfl) rfl) (by rw [hq]; simp))))) rfl ?_
          refine g_set (g_ife (g_ans (a_test (v_cast (v_isN (val_var rfl)) rfl)) (iteF ?_)))
          refine g_tup (g_args (ar_cons (v_ixT (v := .int cc.1) (val_var rfl) val_c (SqT.of hvt) rfl) (ar_cons (v_ixT (v := .int qq.2) (val_var rfl) val_c (SqT.of het) rfl) ar_nil)) ⟨by show 2 ≤ sizeLine; decide, fun u3 hu3 => ?_⟩)
          refine ⟨k02.new hu3, some (cc.1, qq.2), .ref u3, _, _, _, ⟨u3, rfl, upd_same⟩, ?_, rfl⟩
          rw [hrun]; unfold stepP; rw [hE]; simp [hq]
        · refine q_yes (b := true) (a_or (b := false) (c := true) (a_test (v_cast (v_isN (val_var rfl)) rfl)) (fun _ => a_and (b := true) (c := true) (a_test (v_cast (v_notN (val_var rfl)) rfl)) (fun _ => a_test (v_cast (v_ne (v_ixT (v := .int qq.1) (val_var rfl) val_c (SqT.of het) rfl) (v_ixT (v := .int cc.2) (val_var rfl) val_c (SqT.of hvt) rfl) rfl) (by simp [hq]))))) rfl ?_
          exact bad (by unfold stepP; rw [hE]; simp [hq])
  · rintro σ' H' ⟨k, cu, v, y, z, w, hv, hrun, rfl⟩
    rw [List.length_map, el, run_end] at hrun
    exact g_ret (g_var rfl (q1 cu v H' hrun k hv))
theorem call_path {K : PySem.W.Frag} {H : Hp} {Q : VK} {E : XK} {x a : Addr} {ps : List Step} {rows : List Row} (N : NR K H x rows) (ha : PathAt H a ps) (hl : ps.length ≤ 1000) (q1 : ∀ c v H', runP rows ps 0 none = .inr c → Kp [] H H' → EndV H' c v → Q v H') (q2 : ∀ k d H', runP rows ps 0 none = .inl k → Kp [] H H' → H' d = some (noteP k) → E (.ref (He.ga K "BadPath")) (some d) H') : sp_path_ends K [.ref x, .ref a] H Q E := ⟨x, a, ps, rows, rfl, N, ha, hl, q1, q2⟩
theorem pure_l_bad {K : PySem.W.Frag} {vs H Q E} (h : sp_l_bad vs H Q E) : t_l_bad K { nx := fun _ H' => Q .non H', rt := Q } (start N_l_bad vs) H := by
  obtain ⟨a, b, ps, rows, rfl, hsp, ⟨ts, hb, hs⟩, hl, q⟩ := h
  have el : ts.length = ps.length := hs.1
  refine q_val val_c ?_
  refine q_forR (n := (ps.length : Int)) (ar_cons (v_cast (by walk_at "v") (by rw [List.length_map, el])) ar_nil) (by omega) (fun i σ' H' => Kp [] H H' ∧ ∃ (cu : Option Step) (y z : Option V), runP rows ps 0 none = runP rows (ps.drop i) i cu ∧ σ' = [some (.ref a), some (.ref b), some (match cu with | none => .non | some c => .int c.2), y, z]) ⟨Kp.refl _ _, none, _, _, rfl, rfl⟩ ?_ ?_
  · rintro i σ' H' hi ⟨k, cu, y, z, hrun, rfl⟩
    obtain ⟨t, p, e1, hp, hst⟩ := steps_atI hs (i := (i : Int)) (by omega) (by omega)
    have hp' : ps[i]? = some p := by simpa using hp
    rw [run_step hp'] at hrun
    refine q_set ?_
    refine g_call (g_args (ar_cons (val_var rfl) (ar_cons (v_ixL (val_var rfl) (val_var rfl) (SqL.of (k _ _ (by simp) hb)) e1) ar_nil)) ?_)
    refine call_lends (hsp.kp0 k) (k _ _ (by simp) hst) fun e H2 k2 he => ?_
    have k02 := k.trans k2
    cases hE : endsP rows p with
    | none =>
      rw [hE] at he
      have he' : e = .non := he
      subst he'
      refine q_yes (b := true) (a_or (b := true) (c := false) (a_test (v_cast (v_isN (val_var rfl)) rfl)) (fun z => by cases z)) rfl ?_
      refine g_ret (g_var rfl ?_)
      have hz : stepP rows cu p = none := by unfold stepP; rw [hE]
      rw [hz] at hrun
      have := q _ k02
      rw [hrun] at this
      exact this
    | some qq =>
      rw [hE] at he
      obtain ⟨et, rfl, het⟩ := he
      cases cu with
      | none =>
        refine q_no (b := false) (a_or (b := false) (c := false) (a_test (v_cast (v_isN (val_var rfl)) rfl)) (fun _ => a_and (b := false) (c := false) (a_test (v_cast (v_notN (val_var rfl)) rfl)) (fun z => by cases z))) rfl ?_
        refine g_set (g_val (v_ixT (v := .int qq.2) (val_var rfl) val_c (SqT.of het) rfl) ?_)
        refine ⟨k02, some qq, _, _, ?_, rfl⟩
        rw [hrun]; unfold stepP; rw [hE]
      | some cc =>
        by_cases hq : qq.1 = cc.2
        · refine q_no (b := false) (a_or (b := false) (c := false) (a_test (v_cast (v_isN (val_var rfl)) rfl)) (fun _ => a_and (b := true) (c := false) (a_test (v_cast (v_notN (val_var rfl)) rfl)) (fun _ => a_test (v_cast (v_ne (v_ixT (v := .int qq.1) (val_var rfl) val_c (SqT.of het) rfl) (val_var rfl) rfl) (by rw [hq]; simp))))) rfl ?_
          refine g_set (g_val (v_ixT (v := .int qq.2) (val_var rfl) val_c (SqT.of het) rfl) ?_)
          refine ⟨k02, some (cc.1, qq.2), _, _, ?_, rfl⟩
          rw [hrun]; unfold stepP; rw [hE]; simp [hq]
        · refine q_yes (b := true) (a_or (b := false) (c := true) (a_test (v_cast (v_isN (val_var rfl)) rfl)) (fun _ => a_and (b := true) (c := true) (a_test (v_cast (v_notN (val_var rfl)) rfl)) (fun _ => a_test (v_cast (v_ne (v_ixT (v := .int qq.1) (val_var rfl) val_c (SqT.of het) rfl) (val_var rfl) rfl) (by simp [hq]))))) rfl ?_
          refine g_ret (g_var rfl ?_)
          have hz : stepP rows (some cc) p = none := by unfold stepP; rw [hE]; simp [hq]
          rw [hz] at hrun
          have := q _ k02
          rw [hrun] at this
          exact this
  · rintro σ' H' ⟨k, cu, y, z, hrun, rfl⟩
    rw [show ((ps.length : Int)).toNat = ps.length by omega, run_end] at hrun
    have := q _ k
    rw [hrun] at this
    exact g_ret (g_c this)
theorem call_bad {H : Hp} {Q : VK} {E : XK} {a b : Addr} {ps : List Step} {rows : List Row} (hs : SpansAt H a rows) (hb : PathAt H b ps) (hl : ps.length ≤ 1000) (q : ∀ H', Kp [] H H' → Q (badVal (runP rows ps 0 none)) H') : sp_l_bad [.ref a, .ref b] H Q E := ⟨a, b, ps, rows, rfl, hs, hb, hl, q⟩
theorem pure_check_ring {K : PySem.W.Frag} {vs H Q E} (h : sp_check_ring K vs H Q E) : t_check_ring K E { nx := fun _ H' => Q .non H', rt := Q } (start N_check_ring vs) H := by
  obtain ⟨x, a, ps, rows, rfl, N, ha, hl, q1, q2⟩ := h
  refine q_set (g_callS (g_args (by walk_at "ar") ?_))
  refine call_path N ha hl (fun c v H1 hc k1 hv => ?_) (fun k d H1 hk k1 hd => q2 k d H1 (by unfold ringP; rw [hk]) k1 hd)
  obtain ⟨ts, hts, hs⟩ := ha.kp k1
  have bad : ringP rows ps = some ps.length → tRaise (tMkE (He.ga K "BadPath") ["place"] (tCons (tCB (rLen K) (tCons (tVar 1) tNil)) tNil)) (W0 E) { nx := fun _ H' => Q .non H', rt := Q } [some (.ref x), some (.ref a), some v] H1 := fun hz => by
    refine g_raise1 (v := .int (ps.length : Nat)) (ar_cons (v_cast (by walk_at "v") (by rw [List.length_map, hs.1])) ar_nil) (fmt_int (by omega)) fun d hd => ?_
    exact q2 ps.length d _ hz (k1.new hd) upd_same
  cases c with
  | none =>
    have hv' : v = .non := hv
    subst hv'
    refine g_yes (b := true) (a_or (b := true) (c := false) (a_test (v_cast (v_isN (val_var rfl)) rfl)) (fun z => by cases z)) rfl ?_
    exact bad (by unfold ringP; rw [hc])
  | some cc =>
    obtain ⟨t, rfl, ht⟩ := hv
    by_cases hq : cc.1 = cc.2
    · refine g_no (b := false) (a_or (b := false) (c := false) (a_test (v_cast (v_isN (val_var rfl)) rfl)) (fun _ => a_test (v_cast (v_ne (v_ixT (v := .int cc.1) (val_var rfl) val_c (SqT.of ht) rfl) (v_ixT (v := .int cc.2) (val_var rfl) val_c (SqT.of ht) rfl) rfl) (by rw [hq]; simp)))) rfl ?_
      exact q1 H1 (by unfold ringP; rw [hc]; simp [hq]) k1
    · refine g_yes (b := true) (a_or (b := false) (c := true) (a_test (v_cast (v_isN (val_var rfl)) rfl)) (fun _ => a_test (v_cast (v_ne (v_ixT (v := .int cc.1) (val_var rfl) val_c (SqT.of ht) rfl) (v_ixT (v := .int cc.2) (val_var rfl) val_c (SqT.of ht) rfl) rfl) (by simp [hq])))) rfl ?_
      exact bad (by unfold ringP; rw [hc]; simp [hq])
theorem call_ring {K : PySem.W.Frag} {H : Hp} {Q : VK} {E : XK} {x a : Addr} {ps : List Step} {rows : List Row} (N : NR K H x rows) (ha : PathAt H a ps) (hl : ps.length ≤ 1000) (q1 : ∀ H', ringP rows ps = none → Kp [] H H' → Q .non H') (q2 : ∀ k d H', ringP rows ps = some k → Kp [] H H' → H' d = some (noteP k) → E (.ref (He.ga K "BadPath")) (some d) H') : sp_check_ring K [.ref x, .ref a] H Q E := ⟨x, a, ps, rows, rfl, N, ha, hl, q1, q2⟩
theorem pure_is_ring {K : PySem.W.Frag} (c : PathK K) {vs H Q E} (h : sp_is_ring K vs H Q E) : t_is_ring K { nx := fun _ H' => Q .non H', rt := Q } (start N_is_ring vs) H := by
  obtain ⟨x, a, ps, rows, rfl, N, ha, hl, q⟩ := h
  refine g_seq (g_drop (g_callS (g_args (by walk_at "ar") ?_)))
  refine call_ring N ha hl (fun H1 hc k1 => ?_) (fun k d H1 hk k1 hd => ?_)
  · have := q H1 k1
    rw [hc] at this
    exact (show Q (.bl true) H1 from this)
  · have := q H1 k1
    rw [hk] at this
    exact ⟨true, c.pp, fun _ e he => (show Q (.bl false) H1 from this), (fun z => by cases z)⟩
theorem call_isring {K : PySem.W.Frag} {H : Hp} {Q : VK} {E : XK} {x a : Addr} {ps : List Step} {rows : List Row} (N : NR K H x rows) (ha : PathAt H a ps) (hl : ps.length ≤ 1000) (q : ∀ H', Kp [] H H' → Q (.bl (ringP rows ps).isNone) H') : sp_is_ring K [.ref x, .ref a] H Q E := ⟨x, a, ps, rows, rfl, N, ha, hl, q⟩
end Cl

/-! ## PuC -/
namespace Cl
open PySem PySem.Spec PyProof.Rows L2
/-! ### the walk's own lines: "c" a side condition, "h" what stands at an address, "s" a list that is read, "at" an item, "v" a value, "a" an answer, "ar" arguments -/
local macro_rules | `(tactic| walk_at "c") => `(tactic| first | assumption | (with_reducible rfl) | decide | omega | exact Or.inr ⟨by first | decide | omega, by first | decide | omega⟩ | exact Or.inl ⟨by first | decide | omega, by first | decide | omega⟩ | exact ⟨by first | decide | omega, by first | decide | omega⟩ | exact ⟨by decide, by decide, by decide⟩)
local macro_rules | `(tactic| walk_at "ne") => `(tactic| first | assumption | (exact Ne.symm (by assumption)) | (exact ne_of_none (by assumption) (by assumption)) | (exact Ne.symm (ne_of_none (by assumption) (by assumption))))
local macro_rules | `(tactic| walk_at "h") => `(tactic| first | assumption | exact upd_same | (refine Eq.trans (upd_ne ?_) ?_; walk_at "ne"; walk_at "h"))
local macro_rules | `(tactic| walk_at "s") => `(tactic| first | assumption | (exact SqL.of (by walk_at "h")) | (exact SqT.of (by walk_at "h")))
local macro_rules | `(tactic| walk_at "at") => `(tactic| first | rfl | exact atI_ints (by omega) (by omega))
local macro_rules | `(tactic| walk_at "ty") => `(tactic| first | exact .base (.int _) | exact .base (.bl _) | exact .base .non | exact .base (.str _) | exact .base (.lst (by walk_at "h")) | exact .base (.tup (by walk_at "h")))
local macro_rules | `(tactic| walk_at "v") => `(tactic| first
  | (with_reducible exact val_c)
  | ((with_reducible apply val_var); rfl)
  | ((with_reducible apply v_I0); walk_at "v"; walk_at "v")
  | ((with_reducible apply v_I); walk_at "v"; walk_at "v"; walk_at "c")
  | ((with_reducible apply v_U); walk_at "v")
  | ((with_reducible apply v_eq); walk_at "v"; walk_at "v"; rfl)
  | ((with_reducible apply v_ne); walk_at "v"; walk_at "v"; rfl)
  | ((with_reducible apply v_ixL); walk_at "v"; walk_at "v"; walk_at "s"; walk_at "at")
  | ((with_reducible apply v_ixT); walk_at "v"; walk_at "v"; walk_at "s"; walk_at "at")
  | ((with_reducible apply v_ixS); walk_at "v"; walk_at "v"; assumption; walk_at "at")
  | ((with_reducible apply v_fld); walk_at "v"; walk_at "h"; assumption; assumption; walk_at "fl")
  | ((with_reducible apply v_len); walk_at "ar"; walk_at "s")
  | ((with_reducible apply v_lenS); walk_at "ar"; assumption)
  | ((with_reducible apply v_lenT); walk_at "ar"; walk_at "s")
  | ((with_reducible apply v_abs); walk_at "ar")
  | ((with_reducible apply v_max2); walk_at "ar")
  | ((with_reducible apply v_min2); walk_at "ar")
  | ((with_reducible apply v_intI); walk_at "ar")
  | ((with_reducible apply v_intB); walk_at "ar")
  | ((with_reducible apply v_chain); walk_at "v"; walk_at "v"; walk_at "v"; exact i_B0; exact i_B0)
  | ((with_reducible apply v_chain3); walk_at "v"; walk_at "v"; walk_at "v"; walk_at "v"; exact i_B0; exact i_B0; exact i_B0)
  | ((with_reducible apply v_andV); walk_at "v"; (intro _; walk_at "v"))
  | ((with_reducible apply v_orV); walk_at "v"; (intro _; walk_at "v"))
  | ((with_reducible apply v_notV); walk_at "v")
  | ((with_reducible apply v_isN); walk_at "v")
  | ((with_reducible apply v_notN); walk_at "v")
  | ((with_reducible apply v_isiT); walk_at "ar"; walk_at "ty"; decide +kernel)
  | ((with_reducible apply v_isiF); walk_at "ar"; walk_at "ty"; decide +kernel)
  | ((with_reducible apply v_if); walk_at "a"; (intro _; walk_at "v"); (intro _; walk_at "v")))
local macro_rules | `(tactic| walk_at "ar") => `(tactic| first
  | (with_reducible exact ar_nil)
  | ((with_reducible apply ar_cons); walk_at "v"; walk_at "ar"))
local macro_rules | `(tactic| walk_at "a") => `(tactic| first
  | ((with_reducible apply a_test); walk_at "v")
  | ((with_reducible apply a_B); walk_at "v")
  | ((with_reducible apply a_not); walk_at "a")
  | ((with_reducible apply a_and); walk_at "a"; (intro _; walk_at "a"))
  | ((with_reducible apply a_or); walk_at "a"; (intro _; walk_at "a")))
local macro_rules | `(tactic| walk_at "fl") => `(tactic| first | exact fl_events _ _ _ | exact fl_spans _ _ _ | exact fl_round _ _ _)
local macro_rules | `(tactic| walk_at "call") => `(tactic| refine g_call (g_args (by walk_at "ar") ?_))
theorem vif_int (z w u : Int) : (if decide (V.int z = V.int w) = true then V.int u else V.int z) = V.int (if z = w then u else z) := by
  by_cases h : z = w
  · simp [h]
  · simp [h]
theorem pure_join_labels {K : PySem.W.Frag} {vs H Q E} (h : sp_join_labels vs H Q E) : t_join_labels K { nx := fun _ H' => Q .non H', rt := Q } (start N_join_labels vs) H := by
  obtain ⟨a, L, s, e, rfl, ha, hz, s0, s1, e0, e1, q⟩ := h
  refine g_ret (e_lcL (fun x => match x with | .int z => .int (if z = L.getD e.toNat 0 then L.getD s.toNat 0 else z) | v => v) (fun _ => true) (by walk_at "v") (SqL.of ha) (by rw [List.length_map]; omega) (fun _ => rfl) (fun _ _ _ _ _ _ => a_yes) (fun i x Dl o hi _ hD => ?_) (fun Dl hD => ?_))
  · obtain ⟨z, hz, rfl⟩ : ∃ z, L[i]? = some z ∧ x = V.int z := by
      rw [List.getElem?_map] at hi
      cases e : L[i]? with
      | none => rw [e] at hi; cases hi
      | some u => rw [e] at hi; exact ⟨u, rfl, (Option.some.inj hi).symm⟩
    refine v_cast (by walk_at "v") ?_
    exact vif_int _ _ _
  · refine q Dl _ hD (Kp.new (Kp.refl _ _) hD) ?_
    rw [upd_same]
    simp [joinL, List.filter_eq_self.mpr]
theorem call_join {H : Hp} {Q : VK} {E : XK} {a : Addr} {L : List Int} {s e : Int} (ha : H a = some (.lst (L.map V.int))) (hz : L.length ≤ 1000) (s0 : 0 ≤ s) (s1 : s < L.length) (e0 : 0 ≤ e) (e1 : e < L.length)
    (q : ∀ l H', H l = none → Kp [] H H' → H' l = some (.lst ((joinL L s.toNat e.toNat).map V.int)) → Q (.ref l) H') : sp_join_labels [.ref a, .int s, .int e] H Q E := ⟨a, L, s, e, rfl, ha, hz, s0, s1, e0, e1, q⟩
section
variable {K : PySem.W.Frag} {σ : L2.St} {H : Hp} {D : Ends} {r tb : TS} {Q : VK} {i j : Nat} {ta : TA} {tv te tl : TE} {tt : TT} {f : Str} {g : TG} {vs : List Nat}
theorem q_par (h : ta σ H fun vs H1 => ∃ v w, vs = [v, w] ∧ r D ((σ.set i (some v)).set j (some w)) H1) : tSeq (tPar i j ta) r D σ H := h
theorem q_fldc (h : tv σ H fun y H1 => te σ H1 fun x H2 => ∃ a C dx fs, x = .ref a ∧ H2 a = some (.ins C dx fs) ∧ Cls K C ∧ NoAttr K C f ∧ fs.length < 1000 ∧ r D σ (upd H2 a (.ins C dx (putF f y fs)))) : tSeq (sFld K te tv f) r D σ H := h
theorem g_fldc (h : te σ H fun x H1 => ∃ a C dx fs v, x = .ref a ∧ H1 a = some (.ins C dx fs) ∧ Cls K C ∧ NoAttr K C f ∧ fs.lookup f = some v ∧ Q v H1) : tFld K te f σ H Q := h
theorem q_forET {a : Addr} {xs : List V} {i1 i2 : Nat} (h : Args ta σ H [.ref a]) (hx : SqT K H a xs) (Pv : Nat → L2.St → Hp → Prop) (h0 : Pv 0 σ H) (hl : ∀ i σ' H', i ≤ xs.length → Pv i σ' H' → SqT K H' a xs)
    (hs : ∀ (i : Nat) x σ' H' t, xs[i]? = some x → Pv i σ' H' → H' t = none → tb { D with nx := Pv (i + 1), ct := Pv (i + 1), bk := r D } ((σ'.set i1 (some (.int (i : Int)))).set i2 (some x)) (upd H' t (.tup [.int (i : Int), x]))) (hd : ∀ σ' H', Pv xs.length σ' H' → r D σ' H') :
    tSeq (tFor (iEnumT K ta) (gTup K 2 (gCons (gName i1) (gCons (gName i2) gNil))) tb) r D σ H :=
  h _ ⟨a, xs, rfl, hx, for_it (D := { D with nx := r D }) (walk_enumT (K := K) (a := a) (xs := xs)) Pv h0 hl (fun i x σ' H' H'' hi p y => by
    obtain ⟨t, u, v, ex, ht, eH, e1, e2⟩ := y
    have eu : V.int (i : Int) = u := Option.some.inj e1
    subst ex eH eu
    exact ⟨t, _, rfl, SqT.of upd_same, rfl, _, _, rfl, _, _, rfl, rfl, hs i v σ' H' t e2 p ht⟩) hd⟩
def LcT (K : PySem.W.Frag) (a : Addr) (g : TG) (tt : TT) (te : TE) (vs : List Nat) : TE := tLc (fun _ H R => R (Itt K a) H) g tt te vs
def LcL (K : PySem.W.Frag) (a : Addr) (g : TG) (tt : TT) (te : TE) (vs : List Nat) : TE := tLc (fun _ H R => R (Itl K a) H) g tt te vs
theorem e_lcT_any (h : tl σ H fun v H1 => ∃ a, v = .ref a ∧ (∃ xs, SqT K H1 a xs) ∧ LcT K a g tt te vs σ H1 Q) : tLc (iTup K tl) g tt te vs σ H Q := h
theorem e_lcL_any (h : tl σ H fun v H1 => ∃ a, v = .ref a ∧ (∃ xs, SqL K H1 a xs) ∧ LcL K a g tt te vs σ H1 Q) : tLc (iList K tl) g tt te vs σ H Q := h
theorem e_lcTi {a : Addr} {xs : List V} (W : Addr → Nat → Hp → Prop) (h0 : ∀ Dl, H Dl = none → W Dl 0 (upd H Dl (.lst []))) (hl : ∀ Dl i H', H Dl = none → i ≤ xs.length → W Dl i H' → SqT K H' a xs) (hw : ∀ x, wipe ((wipe σ vs).set j (some x)) vs = wipe σ vs)
    (hs : ∀ Dl (i : Nat) x H', H Dl = none → xs[i]? = some x → W Dl i H' → tt ((wipe σ vs).set j (some x)) H' fun b H3 => if b = true then te ((wipe σ vs).set j (some x)) H3 fun y H4 => ∃ acc, H4 Dl = some (.lst acc) ∧ acc.length < sizeLine ∧ W Dl (i + 1) (upd H4 Dl (.lst (acc ++ [y]))) else W Dl (i + 1) H3)
    (q : ∀ Dl H', H Dl = none → W Dl xs.length H' → Q (.ref Dl) H') : LcT K a (gName j) tt te vs σ H Q :=
  fun Dl hD => lc_tup (K := K) (a := a) (xs := xs) (W Dl) (h0 Dl hD) (fun i H' hi p => hl Dl i H' hD hi p) (fun i x H' hi p => ⟨hw x, hs Dl i x H' hD hi p⟩) (fun H' p => q Dl H' hD p)
theorem e_lcLi {a : Addr} {xs : List V} (W : Addr → Nat → Hp → Prop) (h0 : ∀ Dl, H Dl = none → W Dl 0 (upd H Dl (.lst []))) (hl : ∀ Dl i H', H Dl = none → i ≤ xs.length → W Dl i H' → SqL K H' a xs) (hw : ∀ x, wipe ((wipe σ vs).set j (some x)) vs = wipe σ vs)
    (hs : ∀ Dl (i : Nat) x H', H Dl = none → xs[i]? = some x → W Dl i H' → tt ((wipe σ vs).set j (some x)) H' fun b H3 => if b = true then te ((wipe σ vs).set j (some x)) H3 fun y H4 => ∃ acc, H4 Dl = some (.lst acc) ∧ acc.length < sizeLine ∧ W Dl (i + 1) (upd H4 Dl (.lst (acc ++ [y]))) else W Dl (i + 1) H3)
    (q : ∀ Dl H', H Dl = none → W Dl xs.length H' → Q (.ref Dl) H') : LcL K a (gName j) tt te vs σ H Q :=
  fun Dl hD => lc_list (K := K) (a := a) (xs := xs) (W Dl) (h0 Dl hD) (fun i H' hi p => hl Dl i H' hD hi p) (fun i x H' hi p => ⟨hw x, hs Dl i x H' hD hi p⟩) (fun H' p => q Dl H' hD p)
end
theorem rows_at {H : Hp} {ts : List Addr} {rows : List Row} (h : RowsAt H ts rows) {i : Nat} {v : V} (hi : (ts.map V.ref)[i]? = some v) : ∃ t r, v = .ref t ∧ rows[i]? = some r ∧ r ∈ rows ∧ H t = some (.tup r.vs) := by
  obtain ⟨t, ht, rfl⟩ := refs_at hi
  have hl : i < rows.length := by
    have := (List.getElem?_eq_some_iff.mp ht).1
    rw [← h.1]; exact this
  exact ⟨t, rows[i], rfl, List.getElem?_eq_getElem hl, List.getElem_mem hl, h.2 i t _ ht (List.getElem?_eq_getElem hl)⟩
theorem pure_Base___init__ {K : PySem.W.Frag} (c : NetK K) (b : BaseK K) {vs H Q E} (h : sp_Base___init__ K vs H Q E) : t_Base___init__ K { nx := fun _ H' => Q .non H', rt := Q } (start N_Base___init__ vs) H := by
  obtain ⟨x, dx, y, rows, rfl, hx, N, q⟩ := h
  have rl := N.rl
  obtain ⟨T, n, ⟨dy, sa, ts, hy, hsa, hrs⟩, n0, n1, ok⟩ := N.net
  have el : ts.length = rows.length := hrs.1
  have := c.cl; have := c.nS; have := c.nE
  refine q_set (e_lstRg (by walk_at "v") (by omega) fun lb hlb => ?_)
  rw [rgI_map]
  refine q_par (g_cons (g_lst (g_nil ⟨Nat.zero_le _, fun tr htr => g_cons (g_lst (g_nil ⟨Nat.zero_le _, fun cl hcl => g_nil ⟨_, _, rfl, ?_⟩⟩))⟩)))
  have k1 : Kp [] H (upd H lb (.lst (((List.range n.toNat).map fun (i : Nat) => (i : Int)).map V.int))) := (Kp.refl _ _).new hlb
  have k2 := k1.new (o := .lst []) htr
  have k3 := k2.new (o := .lst []) hcl
  have tr0 : H tr = none := k1.free (by simp) htr
  have cl0 : H cl = none := k2.free (by simp) hcl
  have ltr : lb ≠ tr := fun z => by rw [← z, upd_same] at htr; cases htr
  have tcl : tr ≠ cl := fun z => by rw [← z, upd_same] at hcl; cases hcl
  have lcl : lb ≠ cl := fun z => by rw [← z, upd_ne ltr, upd_same] at hcl; cases hcl
  refine q_forET (xs := ts.map V.ref) (ar_cons (v_fld (val_var rfl) (k3 _ _ (by simp) hy) c.cl c.nS (fl_spans _ _ _)) ar_nil) (SqT.of (k3 _ _ (by simp) hsa))
    (fun i σ' H' => Kp [] H H' ∧ ∃ (lb' : Addr) (L Tr C : List Int) (z w : Option V), H' lb' = some (.lst (L.map V.int)) ∧ L.length = n.toNat ∧ H' tr = some (.lst (Tr.map V.int)) ∧ H' cl = some (.lst (C.map V.int)) ∧ Tr.length ≤ i ∧ C.length ≤ i ∧ lb' ≠ tr ∧ lb' ≠ cl ∧ σ' = [some (.ref x), some (.ref y), some (.ref lb'), some (.ref tr), some (.ref cl), z, w])
    ⟨k3, lb, _, [], [], _, _, by rw [upd_ne lcl, upd_ne ltr, upd_same], by simp, by rw [upd_ne tcl, upd_same]; rfl, by rw [upd_same]; rfl, Nat.le_refl _, Nat.le_refl _, ltr, lcl, rfl⟩ (fun i σ' H' _ ⟨k, _⟩ => SqT.of (k _ _ (by simp) hsa)) ?_ ?_
  · rintro i v σ' H' t0 hi ⟨k, lb', L, Tr, C, z, w, h1, h2, h3, h4, h5, h6, h7, h8, rfl⟩ ht0
    obtain ⟨t, r, rfl, hr, hmem, hrow⟩ := rows_at hrs hi
    have hlt := (List.getElem?_eq_some_iff.mp hr).1
    have o := ok r hmem
    have := o.s0; have := o.s1; have := o.e0; have := o.e1
    have kk : Kp [] H' (upd H' t0 (.tup [.int (i : Int), .ref t])) := (Kp.refl _ _).new ht0
    have kH := k.trans kk
    generalize upd H' t0 (.tup [.int (i : Int), .ref t]) = H1 at kk kH
    have g1 := kk _ _ (by simp) h1
    have g3 := kk _ _ (by simp) h3
    have g4 := kk _ _ (by simp) h4
    have gr := kH _ _ (by simp) hrow
    have ms : ∀ {σ : L2.St}, σ[6]? = some (some (.ref t)) → Val (tOp (rIxT K) (tVar 6) (tC (.int 0))) σ H1 (.int r.s) := fun e => v_ixT (val_var e) val_c (SqT.of gr) rfl
    have me : ∀ {σ : L2.St}, σ[6]? = some (some (.ref t)) → Val (tOp (rIxT K) (tVar 6) (tC (.int 1))) σ H1 (.int r.e) := fun e => v_ixT (val_var e) val_c (SqT.of gr) rfl
    refine g_ifA (a_test (v_eq (v_ixL (val_var rfl) (ms rfl) (SqL.of g1) (atI_ints (by omega) (by omega))) (v_ixL (val_var rfl) (me rfl) (SqL.of g1) (atI_ints (by omega) (by omega))) rfl)) (fun hb => ?_) (fun hb => ?_)
    · refine g_drop (e_appV (val_var rfl) (val_var rfl) g4 (sz_lt (by rw [List.length_map]; omega)) ?_)
      exact ⟨kH.mut cl0, lb', L, Tr, C ++ [(i : Int)], _, _, by rw [upd_ne h8]; exact g1, h2, by rw [upd_ne tcl]; exact g3, by rw [upd_same, List.map_append]; rfl, by omega, by simp; omega, h7, h8, rfl⟩
    · refine q_drop (e_appV (val_var rfl) (val_var rfl) g3 (sz_lt (by rw [List.length_map]; omega)) ?_)
      have k4 : Kp [] H (upd H1 tr (.lst (Tr.map V.int ++ [.int (i : Int)]))) := kH.mut tr0
      have f1 : upd H1 tr (.lst (Tr.map V.int ++ [.int (i : Int)])) lb' = some (.lst (L.map V.int)) := by rw [upd_ne h7]; exact g1
      have f3 : upd H1 tr (.lst (Tr.map V.int ++ [.int (i : Int)])) tr = some (.lst ((Tr ++ [(i : Int)]).map V.int)) := by rw [upd_same, List.map_append]; rfl
      have f4 : upd H1 tr (.lst (Tr.map V.int ++ [.int (i : Int)])) cl = some (.lst (C.map V.int)) := by rw [upd_ne tcl.symm]; exact g4
      have fr := k4 _ _ (by simp) hrow
      generalize upd H1 tr (.lst (Tr.map V.int ++ [.int (i : Int)])) = H2 at k4 f1 f3 f4 fr
      refine g_set (g_call (g_args (ar_cons (val_var rfl) (ar_cons (v_ixT (v := .int r.s) (val_var rfl) val_c (SqT.of fr) rfl) (ar_cons (v_ixT (v := .int r.e) (val_var rfl) val_c (SqT.of fr) rfl) ar_nil))) ?_))
      refine call_join f1 (by omega) (by omega) (by omega) (by omega) (by omega) fun l H3 hl k5 e5 => ?_
      exact ⟨k4.trans k5, l, joinL L r.s.toNat r.e.toNat, Tr ++ [(i : Int)], C, _, _, e5, by simp [joinL, h2], k5 _ _ (by simp) f3, k5 _ _ (by simp) f4, by simp; omega, by omega, (fun z => by rw [z, f3] at hl; cases hl), (fun z => by rw [z, f4] at hl; cases hl), rfl⟩
  · rintro σ' H' ⟨k, lb', L, Tr, C, z, w, h1, h2, h3, h4, h5, h6, h7, h8, rfl⟩
    rw [List.length_map] at h5 h6
    have clx : cl ≠ x := fun z => by rw [z, hx] at cl0; cases cl0
    have yx : y ≠ x := fun z => by
      rw [z, hx] at hy
      have e : ([] : List (Str × V)) = netF T n sa := by injection hy with e; injection e
      have := fl_events T n sa
      rw [← e] at this; cases this
    have sax : sa ≠ x := fun z => by rw [z, hx] at hsa; cases hsa
    refine q_fldc (e_tupL (ar_cons (val_var rfl) ar_nil) (SqL.of h3) fun t1 ht1 => g_var rfl ⟨x, _, dx, [], rfl, ((k.new ht1) _ _ (by simp) hx), b.cl, b.nT, by decide, ?_⟩)
    have K1 : Kp [x] H (upd (upd H' t1 (.tup (Tr.map V.int))) x (.ins (He.ga K "Base") dx (putF "tree" (.ref t1) []))) := ((k.new ht1).of [x]).upd (by simp)
    have C1 : upd (upd H' t1 (.tup (Tr.map V.int))) x (.ins (He.ga K "Base") dx (putF "tree" (.ref t1) [])) cl = some (.lst (C.map V.int)) := by
      rw [upd_ne clx, upd_ne (ne_of_none h4 ht1)]; exact h4
    have X1 : upd (upd H' t1 (.tup (Tr.map V.int))) x (.ins (He.ga K "Base") dx (putF "tree" (.ref t1) [])) x = some (.ins (He.ga K "Base") dx (putF "tree" (.ref t1) [])) := upd_same
    generalize upd (upd H' t1 (.tup (Tr.map V.int))) x (.ins (He.ga K "Base") dx (putF "tree" (.ref t1) [])) = G1 at K1 C1 X1
    have l1 : (putF "tree" (.ref t1) []).length ≤ 1 := length_putF _ _ _
    generalize putF "tree" (V.ref t1) [] = F1 at X1 l1
    refine q_fldc (e_tupL (ar_cons (val_var rfl) ar_nil) (SqL.of C1) fun t2 ht2 => g_var rfl ⟨x, _, dx, F1, rfl, ?_, b.cl, b.nC, by omega, ?_⟩)
    · rw [upd_ne (ne_of_none X1 ht2)]; exact X1
    have t2x : t2 ≠ x := (ne_of_none X1 ht2).symm
    have K2 : Kp [x] H (upd (upd G1 t2 (.tup (C.map V.int))) x (.ins (He.ga K "Base") dx (putF "closing" (.ref t2) F1))) := (K1.new ht2).upd (by simp)
    have T2 : upd (upd G1 t2 (.tup (C.map V.int))) x (.ins (He.ga K "Base") dx (putF "closing" (.ref t2) F1)) t2 = some (.tup (C.map V.int)) := by rw [upd_ne t2x, upd_same]
    have X2 : upd (upd G1 t2 (.tup (C.map V.int))) x (.ins (He.ga K "Base") dx (putF "closing" (.ref t2) F1)) x = some (.ins (He.ga K "Base") dx (putF "closing" (.ref t2) F1)) := upd_same
    generalize upd (upd G1 t2 (.tup (C.map V.int))) x (.ins (He.ga K "Base") dx (putF "closing" (.ref t2) F1)) = G2 at K2 T2 X2
    have l2 : (putF "closing" (.ref t2) F1).length ≤ 2 := Nat.le_trans (length_putF _ _ _) (by omega)
    have lk2 : (putF "closing" (.ref t2) F1).lookup ("closing" : Str) = some (.ref t2) := by rw [lookup_putF, if_pos rfl]
    generalize putF "closing" (V.ref t2) F1 = F2 at X2 l2 lk2
    refine q_fld (v_fld (val_var rfl) (K2 _ _ (by simpa using yx) hy) c.cl c.nE (fl_events _ _ _)) (val_var rfl) X2 b.cl b.nE (by omega) ?_
    have K3 : Kp [x] H (upd G2 x (.ins (He.ga K "Base") dx (putF "event_count" (.int n) F2))) := K2.upd (by simp)
    have T3 : upd G2 x (.ins (He.ga K "Base") dx (putF "event_count" (.int n) F2)) t2 = some (.tup (C.map V.int)) := by rw [upd_ne t2x]; exact T2
    have X3 : upd G2 x (.ins (He.ga K "Base") dx (putF "event_count" (.int n) F2)) x = some (.ins (He.ga K "Base") dx (putF "event_count" (.int n) F2)) := upd_same
    generalize upd G2 x (.ins (He.ga K "Base") dx (putF "event_count" (.int n) F2)) = G3 at K3 T3 X3
    have l3 : (putF "event_count" (.int n) F2).length ≤ 3 := Nat.le_trans (length_putF _ _ _) (by omega)
    have lk3 : (putF "event_count" (.int n) F2).lookup ("closing" : Str) = some (.ref t2) := by rw [lookup_putF, if_neg (by decide +kernel)]; exact lk2
    generalize putF "event_count" (V.int n) F2 = F3 at X3 l3 lk3
    have S3 := K3 _ _ (by simpa using sax) hsa
    have R3 : RowsAt G3 ts rows := hrs.kp K3 fun u xs hu z => by
      have e : u = x := by simpa using hu
      rw [e, hx] at z; cases z
    refine s_fldc (g_cb (g_cons (e_lcT_any (g_val (v_fld (val_var rfl) (K3 _ _ (by simpa using yx) hy) c.cl c.nS (fl_spans _ _ _)) ⟨sa, rfl, ⟨_, SqT.of S3⟩, ?_⟩))))
    refine e_lcTi (xs := ts.map V.ref) (fun Dl i H' => Kp [] G3 H' ∧ ∃ us : List V, H' Dl = some (.lst us) ∧ us.length ≤ i) (fun Dl hD => ⟨(Kp.refl _ _).new hD, [], upd_same, Nat.le_refl _⟩) (fun Dl i H' hD _ ⟨kk, _⟩ => SqT.of (kk _ _ (by simp) S3)) (fun _ => rfl) ?_ ?_
    · rintro Dl i v Hn hD hi ⟨kk, us, hus, hlen⟩
      obtain ⟨t, r, rfl, hr, hmem, hrow⟩ := rows_at R3 hi
      have hlt := (List.getElem?_eq_some_iff.mp hr).1
      refine t_yesIf ?_
      refine e_slT (a := t) (xs := r.vs) (val_var rfl) pt_none (pt_some val_c) (SqT.of (kk _ _ (by simp) hrow)) (by intro z; exact absurd z.2 (show ¬ ((2 : Nat) = 4) by decide)) fun u2 hu2 => ?_
      refine ⟨us, by rw [upd_ne (ne_of_none hus hu2)]; exact hus, sz_lt (by omega), (kk.new hu2).mut hD, _, upd_same, by simp; omega⟩
    · rintro Dl Hn hD ⟨kk, us, hus, hlen⟩
      refine g_nil ⟨Dl, us, rfl, Or.inl ⟨SqL.of hus, fun t3 ht3 => ?_⟩⟩
      have kk2 := kk.new (o := .tup us) ht3
      refine g_var rfl ⟨x, _, dx, F3, rfl, kk2 _ _ (by simp) X3, b.cl, b.nS, by omega, ?_⟩
      refine q _ t2 dx C (putF "span_ends" (.ref t3) F3) ((K3.trans (kk2.of [x])).upd (by simp)) upd_same ?_ ?_ (by omega)
      · rw [lookup_putF, if_neg (by decide +kernel)]; exact lk3
      · rw [upd_ne t2x]; exact kk2 _ _ (by simp) T3
/-! ## counting -/
theorem dp_step {K : PySem.W.Frag} {H : Hp} {u : Addr} {p : Step} (h : H u = some (.tup (stV p))) : Dp K H (.ref u) (stD p) := .tup (SqT.of h) (.cons (.int _) (.cons (.int _) .nil))
theorem dp_steps {K : PySem.W.Frag} {H : Hp} : ∀ {ts : List Addr} {ps : List Step}, StepsAt H ts ps → DpAll K H (ts.map V.ref) (ps.map stD)
  | [], [], _ => .nil
  | [], _ :: _, h => by cases h.1
  | _ :: _, [], h => by cases h.1
  | t :: ts, p :: ps, h => .cons (dp_step (h.2 0 t p rfl rfl)) (dp_steps ⟨by simpa using h.1, fun i t p e1 e2 => h.2 (i + 1) t p (by simpa using e1) (by simpa using e2)⟩)
theorem plain_steps : ∀ ps : List Step, PyData.plainAll (ps.map stD) = true
  | [] => by simp [PyData.plainAll]
  | p :: ps => by simp [PyData.plainAll, PyData.plain, stD, plain_steps ps]
theorem lay_steps : ∀ ps : List Step, PyData.canLayAll0 (ps.map stD) = true
  | [] => by simp [PyData.canLayAll0]
  | p :: ps => by simp [PyData.canLayAll0, PyData.canLay0, stD, lay_steps ps]
theorem depth_steps : ∀ ps : List Step, PyData.depthAll (ps.map stD) ≤ 1
  | [] => by simp [PyData.depthAll]
  | p :: ps => by
    have := depth_steps ps
    simp [PyData.depthAll, PyData.depth, stD]
    omega
theorem shaped_steps (ps : List Step) : SeqAt.shaped (.list (ps.map stD)) = true := by
  unfold SeqAt.shaped
  have := depth_steps ps
  simp [PyData.canLay0, PyData.depth, lay_steps]
  omega
theorem eqv_steps (ps : List Step) : PyData.eqv (.list (ps.map stD)) (.list []) = decide (ps = []) := by
  cases ps with
  | nil => simp [PyData.eqv, PyData.eqvAll]
  | cons p ps => simp [PyData.eqv, PyData.eqvAll]
theorem count_any {K : PySem.W.Frag} {H : Hp} {Q : VK} {a u : Addr} {ps : List Step} {p : Step} (ha : PathAt H a ps) (hu : H u = some (.tup (stV p))) (q : ∀ n : Nat, Q (.int (n : Nat)) H) : rCntD K (.ref a) [.ref u] H Q := by
  obtain ⟨ts, ha, hs⟩ := ha
  exact ⟨a, _, ps.map stD, .ref u, stD p, rfl, rfl, SqL.of ha, dp_steps hs, dp_step hu, plain_steps ps, by simp [stD, PyData.plain, PyData.plainAll], by simp [stD, PyData.depth, PyData.depthAll], q _⟩
theorem pure_parts {K : PySem.W.Frag} (b : BaseK K) {vs H Q E} (h : sp_parts K vs H Q E) : t_parts K E { nx := fun _ H' => Q .non H', rt := Q } (start N_parts vs) H := by
  obtain ⟨x, a, ps, rows, rfl, N, ha, hl, q1, q2⟩ := h
  refine q_callS (by walk_at "ar") (call_ring N ha hl (fun H1 hc k1 => ?_) (fun k d H1 hk k1 hd => q2 k d H1 hk k1 hd))
  refine g_ret (e_lcT_any (g_fldc (g_make (g_args (by walk_at "ar") fun z dz hz hdz nez => ?_))))
  have kz : Kp [] H (upd (upd H1 dz (.own z)) z (.ins (He.ga K "Base") dz [])) := kp_made k1 hz hdz nez
  refine ⟨z, dz, x, rows, rfl, upd_same, N.kp kz, fun H2 cl dx' C fs k2 hx2 hlk hcl hC => ⟨rfl, z, _, dx', fs, .ref cl, rfl, hx2, b.cl, b.nC, hlk, cl, rfl, ⟨_, SqT.of hcl⟩, ?_⟩⟩
  have k02 : Kp [] H H2 := kp_drop kz (k1.free (by simp) hz) k2
  refine e_lcTi (xs := C.map V.int) (fun Dl i H' => Kp [] H2 H' ∧ ∃ us : List V, H' Dl = some (.lst us) ∧ us.length ≤ i) (fun Dl hD => ⟨(Kp.refl _ _).new hD, [], upd_same, Nat.le_refl _⟩) (fun Dl i H' hD _ ⟨kk, _⟩ => SqT.of (kk _ _ (by simp) hcl)) (fun _ => rfl) ?_ ?_
  · rintro Dl i v Hn hD hi ⟨kk, us, hus, hlen⟩
    have hlt := (List.getElem?_eq_some_iff.mp hi).1
    rw [List.length_map] at hlt
    obtain ⟨m, rfl⟩ : ∃ m, v = V.int m := by
      rw [List.getElem?_map] at hi
      cases e : C[i]? with
      | none => rw [e] at hi; cases hi
      | some u => rw [e] at hi; exact ⟨u, (Option.some.inj hi).symm⟩
    have kn := k02.trans kk
    refine t_yesIf ?_
    obtain ⟨ts, hts, hst⟩ := ha
    refine g_op (e_bmc (g_var rfl ⟨Or.inl ⟨rfl, _, SqL.of (kn _ _ (by simp) hts)⟩, g_cons (g_tup (g_args (by walk_at "ar") ⟨by show 2 ≤ sizeLine; decide, fun u hu => g_nil ?_⟩))⟩))
    have ku := (Kp.refl [] Hn).new (o := .tup [.int m, .int 1]) hu
    have hu1 : upd Hn u (.tup [.int m, .int 1]) u = some (.tup (stV (m, 1))) := upd_same
    generalize upd Hn u (.tup [.int m, .int 1]) = Hu at ku hu1
    have kun := kn.trans ku
    refine count_any (PathAt.kp ⟨ts, hts, hst⟩ kun) hu1 fun n1 => ?_
    refine e_bmc (g_var rfl ⟨Or.inl ⟨rfl, _, SqL.of (kun _ _ (by simp) hts)⟩, g_cons (g_tup (g_args (by walk_at "ar") ⟨by show 2 ≤ sizeLine; decide, fun w hw => g_nil ?_⟩))⟩)
    have kw := (Kp.refl [] Hu).new (o := .tup [.int m, .int (-1)]) hw
    have hw1 : upd Hu w (.tup [.int m, .int (-1)]) w = some (.tup (stV (m, -1))) := upd_same
    generalize upd Hu w (.tup [.int m, .int (-1)]) = Hw at kw hw1
    have kwn := kun.trans kw
    refine count_any (PathAt.kp ⟨ts, hts, hst⟩ kwn) hw1 fun n2 => g_I0 ?_
    have k2w := kk.trans (ku.trans kw)
    refine ⟨us, (ku.trans kw) _ _ (by simp) hus, sz_lt (by omega), k2w.mut hD, _, upd_same, by simp; omega⟩
  · rintro Dl Hn hD ⟨kk, us, hus, hlen⟩
    exact q1 Dl Hn us hc (k02.trans kk) hus
theorem call_parts {K : PySem.W.Frag} {H : Hp} {Q : VK} {E : XK} {x a : Addr} {ps : List Step} {rows : List Row} (N : NR K H x rows) (ha : PathAt H a ps) (hl : ps.length ≤ 1000) (q1 : ∀ l H' xs, ringP rows ps = none → Kp [] H H' → H' l = some (.lst xs) → Q (.ref l) H') (q2 : ∀ k d H', ringP rows ps = some k → Kp [] H H' → H' d = some (noteP k) → E (.ref (He.ga K "BadPath")) (some d) H') : sp_parts K [.ref x, .ref a] H Q E := ⟨x, a, ps, rows, rfl, N, ha, hl, q1, q2⟩
end Cl

/-! ## PuD -/
namespace Cl
open PySem PySem.Spec PyProof.Rows L2
/-! ### the walk's own lines: "c" a side condition, "h" what stands at an address, "s" a list that is read, "at" an item, "v" a value, "a" an answer, "ar" arguments -/
local macro_rules | `(tactic| walk_at "c") => `(tactic| first | assumption | (with_reducible rfl) | decide | omega | exact Or.inr ⟨by first | decide | omega, by first | decide | omega⟩ | exact Or.inl ⟨by first | decide | omega, by first | decide | omega⟩ | exact ⟨by first | decide | omega, by first | decide | omega⟩ | exact ⟨by decide, by decide, by decide⟩)
local macro_rules | `(tactic| walk_at "ne") => `(tactic| first | assumption | (exact Ne.symm (by assumption)) | (exact ne_of_none (by assumption) (by assumption)) | (exact Ne.symm (ne_of_none (by assumption) (by assumption))))
local macro_rules | `(tactic| walk_at "h") => `(tactic| first | assumption | exact upd_same | (refine Eq.trans (upd_ne ?_) ?_; walk_at "ne"; walk_at "h"))
local macro_rules | `(tactic| walk_at "s") => `(tactic| first | assumption | (exact SqL.of (by walk_at "h")) | (exact SqT.of (by walk_at "h")))
local macro_rules | `(tactic| walk_at "at") => `(tactic| first | rfl | exact atI_ints (by omega) (by omega))
local macro_rules | `(tactic| walk_at "ty") => `(tactic| first | exact .base (.int _) | exact .base (.bl _) | exact .base .non | exact .base (.str _) | exact .base (.lst (by walk_at "h")) | exact .base (.tup (by walk_at "h")))
local macro_rules | `(tactic| walk_at "v") => `(tactic| first
  | (with_reducible exact val_c)
  | ((with_reducible apply val_var); rfl)
  | ((with_reducible apply v_I0); walk_at "v"; walk_at "v")
  | ((with_reducible apply v_I); walk_at "v"; walk_at "v"; walk_at "c")
  | ((with_reducible apply v_U); walk_at "v")
  | ((with_reducible apply v_eq); walk_at "v"; walk_at "v"; rfl)
  | ((with_reducible apply v_ne); walk_at "v"; walk_at "v"; rfl)
  | ((with_reducible apply v_ixL); walk_at "v"; walk_at "v"; walk_at "s"; walk_at "at")
  | ((with_reducible apply v_ixT); walk_at "v"; walk_at "v"; walk_at "s"; walk_at "at")
  | ((with_reducible apply v_ixS); walk_at "v"; walk_at "v"; assumption; walk_at "at")
  | ((with_reducible apply v_fld); walk_at "v"; walk_at "h"; assumption; assumption; walk_at "fl")
  | ((with_reducible apply v_len); walk_at "ar"; walk_at "s")
  | ((with_reducible apply v_lenS); walk_at "ar"; assumption)
  | ((with_reducible apply v_lenT); walk_at "ar"; walk_at "s")
  | ((with_reducible apply v_abs); walk_at "ar")
  | ((with_reducible apply v_max2); walk_at "ar")
  | ((with_reducible apply v_min2); walk_at "ar")
  | ((with_reducible apply v_intI); walk_at "ar")
  | ((with_reducible apply v_intB); walk_at "ar")
  | ((with_reducible apply v_chain); walk_at "v"; walk_at "v"; walk_at "v"; exact i_B0; exact i_B0)
  | ((with_reducible apply v_chain3); walk_at "v"; walk_at "v"; walk_at "v"; walk_at "v"; exact i_B0; exact i_B0; exact i_B0)
  | ((with_reducible apply v_andV); walk_at "v"; (intro _; walk_at "v"))
  | ((with_reducible apply v_orV); walk_at "v"; (intro _; walk_at "v"))
  | ((with_reducible apply v_notV); walk_at "v")
  | ((with_reducible apply v_isN); walk_at "v")
  | ((with_reducible apply v_notN); walk_at "v")
  | ((with_reducible apply v_isiT); walk_at "ar"; walk_at "ty"; decide +kernel)
  | ((with_reducible apply v_isiF); walk_at "ar"; walk_at "ty"; decide +kernel)
  | ((with_reducible apply v_if); walk_at "a"; (intro _; walk_at "v"); (intro _; walk_at "v")))
local macro_rules | `(tactic| walk_at "ar") => `(tactic| first
  | (with_reducible exact ar_nil)
  | ((with_reducible apply ar_cons); walk_at "v"; walk_at "ar"))
local macro_rules | `(tactic| walk_at "a") => `(tactic| first
  | ((with_reducible apply a_test); walk_at "v")
  | ((with_reducible apply a_B); walk_at "v")
  | ((with_reducible apply a_not); walk_at "a")
  | ((with_reducible apply a_and); walk_at "a"; (intro _; walk_at "a"))
  | ((with_reducible apply a_or); walk_at "a"; (intro _; walk_at "a")))
local macro_rules | `(tactic| walk_at "fl") => `(tactic| first | exact fl_events _ _ _ | exact fl_spans _ _ _ | exact fl_round _ _ _)
local macro_rules | `(tactic| walk_at "call") => `(tactic| refine g_call (g_args (by walk_at "ar") ?_))
/-! ## steps in a heap -/
theorem StepsAt.nil {H : Hp} : StepsAt H [] [] := ⟨rfl, fun i t r e => by simp at e⟩
theorem StepsAt.app {H : Hp} {ts us : List Addr} {ps qs : List Step} (h1 : StepsAt H ts ps) (h2 : StepsAt H us qs) : StepsAt H (ts ++ us) (ps ++ qs) := by
  have e := h1.1
  refine ⟨by simp [h1.1, h2.1], fun i t p e1 e2 => ?_⟩
  by_cases hi : i < ts.length
  · rw [List.getElem?_append_left hi] at e1
    rw [List.getElem?_append_left (by omega)] at e2
    exact h1.2 i t p e1 e2
  · rw [List.getElem?_append_right (by omega)] at e1
    rw [List.getElem?_append_right (by omega), ← e] at e2
    exact h2.2 _ t p e1 e2
theorem StepsAt.one {H : Hp} {t : Addr} {p : Step} (ht : H t = some (.tup (stV p))) : StepsAt H [t] [p] := by
  refine ⟨rfl, fun i u q e1 e2 => ?_⟩
  match i with
  | 0 => cases e1; cases e2; exact ht
  | i + 1 => simp at e1
theorem StepsAt.rev {H : Hp} {ts : List Addr} {ps : List Step} (h : StepsAt H ts ps) : StepsAt H ts.reverse ps.reverse := by
  have e := h.1
  refine ⟨by simp [h.1], fun i t p e1 e2 => ?_⟩
  have hi : i < ts.length := by
    have := (List.getElem?_eq_some_iff.mp e1).1
    rw [List.length_reverse] at this; exact this
  rw [List.getElem?_reverse hi] at e1
  rw [List.getElem?_reverse (by omega), ← e] at e2
  exact h.2 _ t p e1 e2
theorem StepsAt.put {H : Hp} {ts : List Addr} {ps : List Step} {i : Nat} {t : Addr} {p : Step} (h : StepsAt H ts ps) (ht : H t = some (.tup (stV p))) : StepsAt H (ts.set i t) (ps.set i p) := by
  refine ⟨by simp [h.1], fun m u q e1 e2 => ?_⟩
  rw [List.getElem?_set] at e1 e2
  by_cases e : i = m
  · rw [if_pos e] at e1 e2
    split at e1
    · split at e2
      · cases e1; cases e2
        exact ht
      · cases e2
    · cases e1
  · rw [if_neg e] at e1 e2
    exact h.2 m u q e1 e2
theorem StepsAt.updL {H : Hp} {ts : List Addr} {ps : List Step} {l : Addr} {xs : List V} {o : HO} (h : StepsAt H ts ps) (hl : H l = some (.lst xs)) : StepsAt (upd H l o) ts ps :=
  h.kp (S := [l]) ((Kp.refl _ _).upd (by simp)) fun t ys ht z => by
    have e : t = l := by simpa using ht
    rw [e, hl] at z; cases z
theorem steps_more {S : List Addr} {H0 H : Hp} {Dl u : Addr} {us : List Addr} {qs : List Step} {p : Step} (k : Kp S H0 H) (hD : H0 Dl = none) (hl : H Dl = some (.lst (us.map V.ref))) (hs : StepsAt H us qs) (hu : H u = some (.tup (stV p))) :
    Kp S H0 (upd H Dl (.lst (us.map V.ref ++ [.ref u]))) ∧ upd H Dl (.lst (us.map V.ref ++ [.ref u])) Dl = some (.lst ((us ++ [u]).map V.ref)) ∧ StepsAt (upd H Dl (.lst (us.map V.ref ++ [.ref u]))) (us ++ [u]) (qs ++ [p]) :=
  ⟨k.mut hD, by rw [upd_same, List.map_append]; rfl, (hs.app (StepsAt.one hu)).updL hl⟩
theorem pool_kp {H H' : Hp} {p : Addr} (h : Pool H p) (k : Kp [] H H') : Pool H' p := by
  obtain ⟨a, f, c, e, h1, h2⟩ := h
  exact ⟨a, f, c, k _ _ (by simp) e, h1, h2⟩
theorem spans_pool {H H' : Hp} {a p : Addr} {rows : List Row} (h : SpansAt H a rows) (hp : Pool H p) (k : Kp [p] H H') : SpansAt H' a rows := h.kp k fun t ht => ⟨fun xs => pool_not_tup hp ht, fun ts z => by
  have e : t = p := by simpa using ht
  exact pool_ne_refs hp z e⟩
theorem path_pool {H H' : Hp} {a p : Addr} {ps : List Step} (h : PathAt H a ps) (hp : Pool H p) (k : Kp [p] H H') : PathAt H' a ps := by
  obtain ⟨ts, ha, hs⟩ := h
  exact ⟨ts, k _ _ (by simpa using pool_ne_refs hp ha) ha, hs.kp k fun _ _ z => pool_not_tup hp z⟩
section
variable {K : PySem.W.Frag} {σ : L2.St} {H : Hp} {D : Ends} {r t : TS} {Q : VK} {te : TE} {tt : TT}
theorem q_either (G : L2.St → Hp → Prop) (hG : ∀ σ' H', G σ' H' → r D σ' H') (h : (∀ σ' H', G σ' H' → r D σ' H') → tt σ H fun b H1 => if b = true then t { D with nx := r D } σ H1 else r D σ H1) : tSeq (tIfS tt t tNext) r D σ H := h hG
theorem e_revL {a : Addr} {xs : List V} (h : Val te σ H (.ref a)) (hs : SqL K H a xs) (q : ∀ p, H p = none → Q (.ref p) (upd H p (.lst xs.reverse))) : tRevL K te σ H Q := h _ ⟨a, xs, rfl, hs, q⟩
end
/-! ## the ways on from here -/
theorem e_ways {K : PySem.W.Frag} {H : Hp} {Q : VK} {s0 s1 s3 s4 s6 s7 s8 s9 : Option V} {a : Addr} {rows : List Row} {here cj d : Int} {td : TE} (col : Row → Int) (hcol : ∀ r : Row, atI r.vs cj = some (.int (col r))) (hd : ∀ σ H, Val td σ H (.int d)) (hsp : SpansAt H a rows) (hl : rows.length ≤ 24)
    (q : ∀ l ts qs H', H l = none → Kp [] H H' → H' l = some (.lst (ts.map V.ref)) → StepsAt H' ts qs → qs.length ≤ 24 → (∀ p ∈ qs, 0 ≤ p.1 ∧ p.1 < rows.length) → Q (.ref l) H') :
    tLc (iRng1 (tCons (tCB (rLen K) (tCons (tVar 2) tNil)) tNil)) (gName 9) (tTest (tOp rEq (tOp (rIxT K) (tOp (rIxL K) (tVar 2) (tVar 9)) (tC (.int cj))) (tVar 5))) (tTup (tCons (tVar 9) (tCons td tNil))) [9] [s0, s1, some (.ref a), s3, s4, some (.int here), s6, s7, s8, s9] H Q := by
  obtain ⟨ts, ha, hr⟩ := hsp
  have el : ts.length = rows.length := hr.1
  refine e_lcRW (n := (rows.length : Int)) (ar_cons (v_cast (by walk_at "v") (by rw [List.length_map, el])) ar_nil) (by omega) (fun Dl i H' => Kp [] H H' ∧ ∃ us qs, H' Dl = some (.lst (us.map V.ref)) ∧ StepsAt H' us qs ∧ qs.length ≤ i ∧ ∀ p ∈ qs, 0 ≤ p.1 ∧ p.1 < rows.length) (fun Dl hD => ⟨(Kp.refl _ _).new hD, [], [], upd_same, StepsAt.nil, Nat.le_refl _, fun p hp => nomatch hp⟩) (fun _ => rfl) ?_ ?_
  · rintro Dl i H' hD hi ⟨k, us, qs, h1, h2, h3, h4⟩
    obtain ⟨t, e1, ht⟩ := rows_atI hr (i := (i : Int)) (by omega) hi
    have el2 : us.length = qs.length := h2.1
    refine g_ans (a_test (v_eq (v_ixT (v_ixL (val_var rfl) (val_var rfl) (SqL.of (k _ _ (by simp) ha)) e1) val_c (SqT.of (k _ _ (by simp) ht)) (hcol _)) (val_var rfl) rfl)) (g_if (fun hb => ?_) (fun hb => ?_))
    · refine g_tup (g_args (ar_cons (val_var rfl) (ar_cons (hd _ _) ar_nil)) ⟨by show 2 ≤ sizeLine; decide, fun u hu => ?_⟩)
      have k1 := k.new (o := .tup [.int (i : Nat), .int d]) hu
      have hu1 : upd H' u (.tup [.int (i : Nat), .int d]) u = some (.tup (stV ((i : Int), d))) := upd_same
      have g1 := ((Kp.refl [] H').new (o := .tup [.int (i : Nat), .int d]) hu) _ _ (by simp) h1
      have g2 := h2.kp ((Kp.refl [] H').new (o := .tup [.int (i : Nat), .int d]) hu) fun _ _ z => nomatch z
      generalize upd H' u (.tup [.int (i : Nat), .int d]) = H1 at k1 hu1 g1 g2
      obtain ⟨m1, m2, m3⟩ := steps_more k1 hD g1 g2 hu1
      refine ⟨_, g1, sz_lt (by rw [List.length_map]; omega), m1, _, _, m2, m3, by simp; omega, fun p hp => ?_⟩
      rcases List.mem_append.mp hp with z | z
      · exact h4 p z
      · have e : p = ((i : Int), d) := by simpa using z
        rw [e]; exact ⟨by show (0 : Int) ≤ (i : Int); omega, hi⟩
    · exact ⟨k, us, qs, h1, h2, by omega, h4⟩
  · rintro Dl H' hD ⟨k, us, qs, h1, h2, h3, h4⟩
    exact q Dl us qs H' hD k h1 h2 (by omega) h4
theorem pure_l_walked {K : PySem.W.Frag} {vs H Q E} (h : sp_l_walked vs H Q E) : t_l_walked K { nx := fun _ H' => Q .non H', rt := Q } (start N_l_walked vs) H := by
  obtain ⟨p, a, n, sz, rows, rfl, hp, hsp, n0, n1, rl, z0, z1, q⟩ := h
  refine q_set (g_lst (g_nil ⟨Nat.zero_le _, fun st hst => ?_⟩))
  have nst : st ≠ p := hp.ne hst
  refine q_set ?_
  walk_at "call"
  refine call_take (hp.new hst) n0 (by omega) fun here H1 h0 h1 k1 _ p1 => ?_
  have k01 : Kp [p] H H1 := ((Kp.refl _ _).new hst).trans k1
  refine q_forR (by walk_at "ar") (by omega) (fun i σ' H' => ∃ (ts : List Addr) (qs : List Step) (here : Int) (x6 x7 x8 x9 : Option V), σ' = [some (.ref p), some (.int n), some (.ref a), some (.int sz), some (.ref st), some (.int here), x6, x7, x8, x9] ∧ Kp [p] H H' ∧ Pool H' p ∧ H' st = some (.lst (ts.map V.ref)) ∧ StepsAt H' ts qs ∧ qs.length = i)
    ⟨[], [], here, _, _, _, _, rfl, k01, p1, k1 _ _ (by simpa using nst) upd_same, StepsAt.nil, rfl⟩ ?_ ?_
  · rintro i σ' H2 hi ⟨ts, qs, here, x6, x7, x8, x9, rfl, k2, p2, e2, s2, l2⟩
    have el : ts.length = qs.length := s2.1
    have hsp2 := spans_pool hsp hp k2
    refine q_set (e_ways (d := 1) Row.s (fun r => rfl) (fun _ _ => val_c) hsp2 rl fun l ts1 qs1 H3 hl3 k3 e3 s3 c3 b3 => ?_)
    refine q_set (g_op (g_var rfl (e_ways (d := -1) Row.e (fun r => rfl) (fun _ _ => v_U val_c) (hsp2.kp0 k3) rl fun m ts2 qs2 H4 hm4 k4 e4 s4 c4 b4 => ?_)))
    have el1 := s3.1
    have el2 := s4.1
    refine e_cat (k4 _ _ (by simp) e3) e4 (by simp; omega) fun w hw => ?_
    have k5 := (Kp.refl [] H4).new (o := .lst (ts1.map V.ref ++ ts2.map V.ref)) hw
    have e5 : upd H4 w (.lst (ts1.map V.ref ++ ts2.map V.ref)) w = some (.lst ((ts1 ++ ts2).map V.ref)) := by rw [upd_same, List.map_append]
    generalize upd H4 w (.lst (ts1.map V.ref ++ ts2.map V.ref)) = H5 at k5 e5
    have s5 : StepsAt H5 (ts1 ++ ts2) (qs1 ++ qs2) := (s3.kp (k4.trans k5) fun _ _ z => nomatch z).app (s4.kp k5 fun _ _ z => nomatch z)
    have b5 : ∀ pp ∈ qs1 ++ qs2, 0 ≤ pp.1 ∧ pp.1 < rows.length := fun pp hpp => by
      rcases List.mem_append.mp hpp with z | z
      · exact b3 pp z
      · exact b4 pp z
    have c5 : (qs1 ++ qs2).length ≤ 48 := by simp; omega
    have k25 : Kp [] H2 H5 := k3.trans (k4.trans k5)
    generalize qs1 ++ qs2 = ws at s5 b5 c5
    generalize ts1 ++ ts2 = us at e5 s5
    have el5 := s5.1
    refine q_whenc (g_test (g_op (g_var rfl (g_lst (g_nil ⟨Nat.zero_le _, fun e he => ⟨.list (ws.map stD), .list [], ?_, Dp.lst (SqL.of upd_same) .nil, shaped_steps _, shaped_steps [], _, rfl, ?_⟩⟩)))))
    · exact Dp.lst (SqL.of (((Kp.refl [] H5).new he) _ _ (by simp) e5)) (dp_steps (s5.kp ((Kp.refl [] H5).new he) fun _ _ z => nomatch z))
    rw [eqv_steps]
    have k26 := k25.new (o := .lst []) he
    have e6 := ((Kp.refl [] H5).new (o := .lst []) he) _ _ (by simp) e5
    have s6 := s5.kp ((Kp.refl [] H5).new (o := .lst []) he) fun _ _ z => nomatch z
    generalize upd H5 e (.lst []) = H6 at k26 e6 s6
    have p6 := pool_kp p2 k26
    have st6 := k26 _ _ (by simp) e2
    have t6 := s2.kp k26 fun _ _ z => nomatch z
    have k06 : Kp [p] H H6 := k2.trans (k26.of [p])
    refine g_if (fun hb => ?_) (fun hb => ?_)
    · exact g_ret (g_var rfl (q st qs H6 hst k06 p6 ⟨ts, st6, t6⟩ (by omega)))
    · have hne : ws ≠ [] := by simpa using hb
      have hpos : 0 < ws.length := List.length_pos_iff.mpr hne
      refine q_set (g_op (g_var rfl (g_call (g_args (ar_cons (val_var rfl) (ar_cons (v_len (ar_cons (val_var rfl) ar_nil) (SqL.of e6)) ar_nil)) ?_))))
      refine call_take p6 (by rw [List.length_map]; omega) (by rw [List.length_map]; omega) fun m H7 m0 m1 k7 _ p7 => ?_
      rw [List.length_map] at m1
      have nw : w ≠ p := pool_ne_refs p6 e6
      have s7 := s6.kp k7 fun _ _ z => pool_not_tup p6 z
      obtain ⟨t, pp, a1, a2, a3⟩ := steps_atI s7 (i := m) m0 (by omega)
      refine ⟨w, _, m, _, rfl, rfl, SqL.of (k7 _ _ (by simpa using nw) e6), a1, ?_⟩
      have k07 := k06.trans k7
      have st7 := k7 _ _ (by simpa using nst) st6
      have t7 := t6.kp k7 fun _ _ z => pool_not_tup p6 z
      refine q_drop (e_appV (val_var rfl) (val_var rfl) st7 (sz_lt (by rw [List.length_map]; omega)) ?_)
      obtain ⟨g1, g2, g3⟩ := steps_more k07 hst st7 t7 a3
      have p8 : Pool (upd H7 st (.lst (ts.map V.ref ++ [.ref t]))) p := p7.upd nst.symm
      have a8 : upd H7 st (.lst (ts.map V.ref ++ [.ref t])) t = some (.tup (stV pp)) := by rw [upd_ne (fun z => by rw [z, st7] at a3; cases a3)]; exact a3
      generalize upd H7 st (.lst (ts.map V.ref ++ [.ref t])) = H8 at g1 g2 g3 p8 a8
      obtain ⟨rt, hr1, hr2⟩ := spans_pool hsp hp g1
      have bb := b5 pp (List.mem_of_getElem? a2)
      obtain ⟨u, c1, c2⟩ := rows_atI hr2 (i := pp.1) bb.1 bb.2
      have pick : ∀ b : Bool, atI (rows.getD pp.1.toNat ⟨0, 0, 0, 0⟩).vs (if b then 1 else 0) = some (.int (if b then (rows.getD pp.1.toNat ⟨0, 0, 0, 0⟩).e else (rows.getD pp.1.toNat ⟨0, 0, 0, 0⟩).s)) := fun b => by cases b <;> rfl
      refine g_set (g_val (v_ixT (v_ixL (val_var rfl) (v_ixT (v := .int pp.1) (val_var rfl) val_c (SqT.of a8) rfl) (SqL.of hr1) c1) (v_intB (ar_cons (v_eq (v_ixT (v := .int pp.2) (val_var rfl) val_c (SqT.of a8) rfl) val_c rfl) ar_nil)) (SqT.of c2) (pick _)) ?_)
      exact ⟨ts ++ [t], qs ++ [pp], _, _, _, _, _, rfl, g1, p8, g2, g3, by simp [l2]⟩
  · rintro σ' H2 ⟨ts, qs, here, x6, x7, x8, x9, rfl, k2, p2, e2, s2, l2⟩
    exact g_ret (g_var rfl (q st qs H2 hst k2 p2 ⟨ts, e2, s2⟩ (by omega)))
theorem pure_l_back {K : PySem.W.Frag} {vs H Q E} (h : sp_l_back vs H Q E) : t_l_back K { nx := fun _ H' => Q .non H', rt := Q } (start N_l_back vs) H := by
  obtain ⟨a, ps, rfl, ⟨ts, ha, hs⟩, hl, q⟩ := h
  have el : ts.length = ps.length := hs.1
  refine g_ret (e_lcL_any (e_revL (val_var rfl) (SqL.of ha) fun rv hrv => ⟨rv, rfl, ⟨_, SqL.of upd_same⟩, ?_⟩))
  have k1 := (Kp.refl [] H).new (o := .lst (ts.map V.ref).reverse) hrv
  have e1 : upd H rv (.lst (ts.map V.ref).reverse) rv = some (.lst (ts.reverse.map V.ref)) := by rw [upd_same, List.map_reverse]
  generalize upd H rv (.lst (ts.map V.ref).reverse) = H1 at k1 e1
  have s1 : StepsAt H1 ts.reverse ps.reverse := (hs.kp k1 fun _ _ z => nomatch z).rev
  refine e_lcLi (xs := ts.reverse.map V.ref) (fun Dl i H' => Kp [] H1 H' ∧ ∃ us qs, H' Dl = some (.lst (us.map V.ref)) ∧ StepsAt H' us qs ∧ qs.length = i) (fun Dl hD => ⟨(Kp.refl _ _).new hD, [], [], upd_same, StepsAt.nil, rfl⟩) (fun Dl i H' hD _ ⟨kk, _⟩ => SqL.of (kk _ _ (by simp) e1)) (fun _ => rfl) ?_ ?_
  · rintro Dl i v H' hD hi ⟨k, us, qs, h1, h2, h3⟩
    obtain ⟨t, p, rfl, ht, hp, hst⟩ := steps_at s1 hi
    have hlt := (List.getElem?_eq_some_iff.mp hp).1
    rw [List.length_reverse] at hlt
    have el2 : us.length = qs.length := h2.1
    have hst1 := k _ _ (by simp) hst
    refine t_yesIf ?_
    refine g_tup (g_args (ar_cons (v_ixT (v := .int p.1) (val_var rfl) val_c (SqT.of hst1) rfl) (ar_cons (v_I0 (g := fun i j => .int (i - j)) val_c (v_ixT (v := .int p.2) (val_var rfl) val_c (SqT.of hst1) rfl)) ar_nil)) ⟨by show 2 ≤ sizeLine; decide, fun u hu => ?_⟩)
    have kn := (Kp.refl [] H').new (o := .tup [.int p.1, .int (0 - p.2)]) hu
    have hu1 : upd H' u (.tup [.int p.1, .int (0 - p.2)]) u = some (.tup (stV (p.1, 0 - p.2))) := upd_same
    obtain ⟨m1, m2, m3⟩ := steps_more (k.trans kn) hD (kn _ _ (by simp) h1) (h2.kp kn fun _ _ z => nomatch z) hu1
    exact ⟨_, kn _ _ (by simp) h1, sz_lt (by rw [List.length_map]; omega), m1, _, _, m2, m3, by simp [h3]⟩
  · rintro Dl H' hD ⟨k, us, qs, h1, h2, h3⟩
    rw [List.length_map, List.length_reverse, el] at h3
    exact q Dl qs H' (k1.free (by simp) hD) (k1.trans k) ⟨us, h1, h2⟩ h3
theorem pure_l_any_step {K : PySem.W.Frag} {vs H Q E} (h : sp_l_any_step vs H Q E) : t_l_any_step K { nx := fun _ H' => Q .non H', rt := Q } (start N_l_any_step vs) H := by
  obtain ⟨p, c, rfl, hp, c0, c1, q⟩ := h
  refine q_set (g_op ?_)
  walk_at "call"
  refine call_take hp (by omega) (by omega) fun m H1 _ _ k1 _ p1 => g_c (g_I0 ?_)
  refine q_either (fun σ' H' => ∃ num : Int, σ' = [some (.ref p), some (.int c), some (.int num), none] ∧ Kp [p] H H' ∧ Pool H' p) ?_ fun rest => ?_
  · rintro σ' H2 ⟨num, rfl, k2, p2⟩
    have vN : ∀ {σ : L2.St}, Val (tUn uNeg (tC (.int 1))) σ H2 (.int (-1)) := v_U val_c
    have vN2 : ∀ {σ : L2.St}, Val (tUn uNeg (tC (.int 2))) σ H2 (.int (-2)) := v_U val_c
    refine q_set (e_pick (m := 9) (xs := [.int 1, .int (-1), .int 1, .int (-1), .int 1, .int (-1), .int 0, .int 2, .int (-2)]) [1, -1, 1, -1, 1, -1, 0, 2, -2] p2 (ar_cons val_c (ar_cons vN (ar_cons val_c (ar_cons vN (ar_cons val_c (ar_cons vN (ar_cons val_c (ar_cons val_c (ar_cons vN2 ar_nil))))))))) rfl rfl (by decide) (by decide) (fun _ => ar_cons (val_var rfl) (ar_cons val_c ar_nil)) fun r H3 _ _ k3 p3 => ?_)
    refine q_either (fun σ' H' => ∃ way : Int, σ' = [some (.ref p), some (.int c), some (.int num), some (.int way)] ∧ Kp [p] H H' ∧ Pool H' p) ?_ fun rest => ?_
    · rintro σ' H4 ⟨way, rfl, k4, p4⟩
      refine g_ret (g_tup (g_args (by walk_at "ar") ⟨by show 2 ≤ sizeLine; decide, fun t ht => ?_⟩))
      exact q t (num, way) _ (k4.free (by simpa using p4.ne ht) ht) (k4.new ht) (p4.new ht) upd_same
    · refine g_test (g_op ?_)
      walk_at "call"
      refine call_take p3 (by decide) (by decide) fun r2 H4 _ _ k4 _ p4 => g_c (g_eq rfl ⟨_, rfl, g_if (fun _ => ?_) (fun _ => rest _ _ ⟨_, rfl, k2.trans (k3.trans k4), p4⟩)⟩)
      refine g_set (g_op ?_)
      walk_at "call"
      refine call_take p4 (by decide) (by decide) fun r3 H5 _ _ k5 _ p5 => g_val (by walk_at "v") (g_I0 (rest _ _ ⟨_, rfl, k2.trans (k3.trans (k4.trans k5)), p5⟩))
  · refine g_test (g_op ?_)
    walk_at "call"
    refine call_take p1 (by decide) (by decide) fun r2 H4 _ _ k4 _ p4 => g_c (g_eq rfl ⟨_, rfl, g_if (fun _ => ?_) (fun _ => rest _ _ ⟨_, rfl, k1.trans k4, p4⟩)⟩)
    refine g_set (g_op ?_)
    walk_at "call"
    refine call_take p4 (by decide) (by decide) fun r3 H5 _ _ k5 _ p5 => g_val (by walk_at "v") (g_I0 (rest _ _ ⟨_, rfl, k1.trans (k4.trans k5), p5⟩))
theorem call_astep {H : Hp} {Q : VK} {E : XK} {p : Addr} {c : Int} (hp : Pool H p) (c0 : 0 ≤ c) (c1 : c ≤ 24) (q : ∀ t s H', H t = none → Kp [p] H H' → Pool H' p → H' t = some (.tup (stV s)) → Q (.ref t) H') : sp_l_any_step [.ref p, .int c] H Q E := ⟨p, c, rfl, hp, c0, c1, q⟩
theorem e_anys {K : PySem.W.Frag} {H0 H : Hp} {Q : VK} {s1 s4 s5 s6 : Option V} {p a : Addr} {rows : List Row} {sz : Int} (k0 : Kp [p] H0 H) (hp : Pool H p) (hsp : SpansAt H a rows) (hl : rows.length ≤ 24) (z0 : 0 ≤ sz) (z1 : sz ≤ 60) (q : GotPath p 200 H0 Q) :
    tLc (iRng1 (tCons (tVar 3) tNil)) (gName 6) tYes (tCall (sp_l_any_step) [] E0 (tCons (tVar 0) (tCons (tCB (rLen K) (tCons (tVar 2) tNil)) tNil))) [6] [some (.ref p), s1, some (.ref a), some (.int sz), s4, s5, s6] H Q := by
  refine e_lcRW (n := sz) (by walk_at "ar") (by omega) (fun Dl i H' => Kp [p] H H' ∧ Pool H' p ∧ ∃ us qs, H' Dl = some (.lst (us.map V.ref)) ∧ StepsAt H' us qs ∧ qs.length = i) (fun Dl hD => ⟨(Kp.refl _ _).new hD, hp.new hD, [], [], upd_same, StepsAt.nil, rfl⟩) (fun _ => rfl) ?_ ?_
  · rintro Dl i H' hD hi ⟨k, p1, us, qs, h1, h2, h3⟩
    have nD : Dl ≠ p := hp.ne hD
    obtain ⟨rt, hr1, hr2⟩ := spans_pool hsp hp k
    have el : rt.length = rows.length := hr2.1
    have el2 : us.length = qs.length := h2.1
    refine t_yesIf ?_
    refine g_call (g_args (ar_cons (val_var rfl) (ar_cons (v_len (ar_cons (val_var rfl) ar_nil) (SqL.of hr1)) ar_nil)) ?_)
    refine call_astep p1 (by omega) (by rw [List.length_map]; omega) fun t s H2 ht k2 p2 h2t => ?_
    have g1 := k2 _ _ (by simpa using nD) h1
    obtain ⟨m1, m2, m3⟩ := steps_more (k.trans k2) hD g1 (h2.kp k2 fun _ _ z => pool_not_tup p1 z) h2t
    exact ⟨_, g1, sz_lt (by rw [List.length_map]; omega), m1, p2.upd nD.symm, _, _, m2, m3, by simp [h3]⟩
  · rintro Dl H' hD ⟨k, p1, us, qs, h1, h2, h3⟩
    exact q Dl qs H' (k0.free (by simpa using hp.ne hD) hD) (k0.trans k) p1 ⟨us, h1, h2⟩ (by omega)
theorem pure_l_steps {K : PySem.W.Frag} {vs H Q E} (h : sp_l_steps vs H Q E) : t_l_steps K { nx := fun _ H' => Q .non H', rt := Q } (start N_l_steps vs) H := by
  obtain ⟨p, a, n, rows, rfl, hp, hsp, n0, n1, rl, q⟩ := h
  refine q_set ?_
  walk_at "call"
  refine call_take hp (by decide) (by decide) fun sz0 H1 z00 z01 k1 _ p1 => ?_
  refine q_either (fun σ' H' => ∃ sz : Int, 0 ≤ sz ∧ sz ≤ 60 ∧ σ' = [some (.ref p), some (.int n), some (.ref a), some (.int sz), none, none, none] ∧ Kp [p] H H' ∧ Pool H' p) ?_ fun rest => ?_
  · rintro σ' H2 ⟨sz, z0, z1, rfl, k2, p2⟩
    have hsp2 := spans_pool hsp hp k2
    refine q_whenc (g_or (g_ans (a_test (v_eq (val_var rfl) val_c rfl)) (g_if (fun hb => iteT ?_) (fun hb => ?_))))
    · exact g_ret (e_anys k2 p2 hsp2 rl z0 z1 q)
    have hn : n ≠ 0 := by simpa using hb
    refine g_test (g_op ?_)
    walk_at "call"
    refine call_take p2 (by decide) (by decide) fun r3 H3 _ _ k3 _ p3 => g_c (g_eq rfl ⟨_, rfl, g_if (fun _ => ?_) (fun _ => ?_)⟩)
    · exact g_ret (e_anys (k2.trans k3) p3 (spans_pool hsp2 p2 k3) rl z0 z1 q)
    have k03 := k2.trans k3
    refine q_set ?_
    walk_at "call"
    refine ⟨p, a, n, sz, rows, rfl, p3, spans_pool hsp2 p2 k3, by omega, n1, rl, z0, z1, fun l ps H4 hl4 k4 p4 hps hlen => ?_⟩
    have k04 := k03.trans k4
    have l0 : H l = none := k03.free (by simpa using p3.ne hl4) hl4
    refine q_either (fun σ' H' => ∃ l ps, σ' = [some (.ref p), some (.int n), some (.ref a), some (.int sz), some (.ref l), none, none] ∧ H l = none ∧ Kp [p] H H' ∧ Pool H' p ∧ PathAt H' l ps ∧ ps.length ≤ 120) ?_ fun rest => ?_
    · rintro σ' H5 ⟨l, ps, rfl, l0, k5, p5, ⟨ts, e5, s5⟩, hlen⟩
      have el := s5.1
      have nl : l ≠ p := pool_ne_refs p5 e5
      refine q_either (fun σ' H' => ∃ ps x5, σ' = [some (.ref p), some (.int n), some (.ref a), some (.int sz), some (.ref l), x5, none] ∧ Kp [p] H H' ∧ Pool H' p ∧ PathAt H' l ps ∧ ps.length ≤ 120) ?_ fun rest => ?_
      · rintro σ' H6 ⟨ps, x5, rfl, k6, p6, h6, hlen⟩
        exact g_ret (g_var rfl (q l ps H6 l0 k6 p6 h6 (by omega)))
      · refine g_and (g_test (g_op (g_var rfl (g_lst (g_nil ⟨Nat.zero_le _, fun e he => ⟨.list (ps.map stD), .list [], ?_, Dp.lst (SqL.of upd_same) .nil, shaped_steps _, shaped_steps [], _, rfl, ?_⟩⟩)))))
        · exact Dp.lst (SqL.of (((Kp.refl [] H5).new he) _ _ (by simp) e5)) (dp_steps (s5.kp ((Kp.refl [] H5).new he) fun _ _ z => nomatch z))
        rw [eqv_steps]
        have k56 := (Kp.refl [] H5).new (o := .lst []) he
        have p6 := p5.new (o := .lst []) he
        generalize upd H5 e (.lst []) = H6 at k56 p6
        have e6 := k56 _ _ (by simp) e5
        have s6 := s5.kp k56 fun _ _ z => nomatch z
        have k06 : Kp [p] H H6 := k5.trans (k56.of [p])
        refine g_if (fun hb => ?_) (fun hb => iteF (rest _ _ ⟨ps, _, rfl, k06, p6, ⟨ts, e6, s6⟩, hlen⟩))
        have hne : ps ≠ [] := by simpa using hb
        have hpos : 0 < ps.length := List.length_pos_iff.mpr hne
        refine g_test (g_op ?_)
        walk_at "call"
        refine call_take p6 (by decide) (by decide) fun r7 H7 _ _ k7 _ p7 => ?_
        have e7 := k7 _ _ (by simpa using nl) e6
        have s7 := s6.kp k7 fun _ _ z => pool_not_tup p6 z
        have k07 := k06.trans k7
        refine g_c (g_eq rfl ⟨_, rfl, g_if (fun _ => ?_) (fun _ => rest _ _ ⟨ps, _, rfl, k07, p7, ⟨ts, e7, s7⟩, hlen⟩)⟩)
        refine q_set (g_call (g_args (ar_cons (val_var rfl) (ar_cons (v_len (ar_cons (val_var rfl) ar_nil) (SqL.of e7)) ar_nil)) ?_))
        refine call_take p7 (by rw [List.length_map]; omega) (by rw [List.length_map]; omega) fun at_ H8 a0 a1 k8 _ p8 => ?_
        rw [List.length_map] at a1
        have k08 := k07.trans k8
        obtain ⟨rt, hr1, hr2⟩ := spans_pool hsp hp k08
        have elr : rt.length = rows.length := hr2.1
        have e8 := k8 _ _ (by simpa using nl) e7
        have s8 := s7.kp k8 fun _ _ z => pool_not_tup p7 z
        refine g_asg (g_call (g_args (ar_cons (val_var rfl) (ar_cons (v_len (ar_cons (val_var rfl) ar_nil) (SqL.of hr1)) ar_nil)) ?_))
        refine call_astep p8 (by omega) (by rw [List.length_map]; omega) fun t s H9 ht k9 p9 h9 => ?_
        have e9 := k9 _ _ (by simpa using nl) e8
        have s9 := s8.kp k9 fun _ _ z => pool_not_tup p8 z
        have fin := rest _ (upd H9 l (.lst ((ts.map V.ref).set at_.toNat (.ref t)))) ⟨ps.set at_.toNat s, some (.int at_), rfl, (k08.trans k9).mut l0, p9.upd nl.symm, ⟨ts.set at_.toNat t, by rw [upd_same, List.map_set], (s9.put h9).updL e9⟩, by simp; omega⟩
        exact g_var rfl (g_var rfl ⟨l, _, _, at_.toNat, rfl, rfl, e9, ixN_of a0 (by rw [List.length_map]; omega), fin⟩)
    · refine g_test (g_op ?_)
      walk_at "call"
      refine call_take p4 (by decide) (by decide) fun r5 H5 _ _ k5 _ p5 => ?_
      have h5 := path_pool hps p4 k5
      have k05 := k04.trans k5
      refine g_c (g_eq rfl ⟨_, rfl, g_if (fun _ => ?_) (fun _ => rest _ _ ⟨l, ps, rfl, l0, k05, p5, h5, by omega⟩)⟩)
      refine g_set (g_op (g_var rfl ?_))
      walk_at "call"
      refine ⟨l, ps, rfl, h5, by omega, fun m qs H6 hm k6 hq6 hlen6 => ?_⟩
      obtain ⟨ts, f1, f2⟩ := h5.kp k6
      obtain ⟨us, f3, f4⟩ := hq6
      have el1 := f2.1
      have el2 := f4.1
      refine e_cat f1 f3 (by simp; omega) fun w hw => ?_
      have k07 : Kp [p] H H6 := k05.trans (k6.of [p])
      have p6 := pool_kp p5 k6
      refine rest _ _ ⟨w, ps ++ qs, rfl, k07.free (by simpa using p6.ne hw) hw, k07.new hw, p6.new hw, ⟨ts ++ us, by rw [upd_same, List.map_append], ?_⟩, by simp; omega⟩
      exact (f2.app f4).kp ((Kp.refl [] H6).new hw) fun _ _ z => nomatch z
  · refine g_test (g_op ?_)
    walk_at "call"
    refine call_take p1 (by decide) (by decide) fun r2 H2 _ _ k2 _ p2 => g_c (g_eq rfl ⟨_, rfl, g_if (fun _ => ?_) (fun _ => rest _ _ ⟨_, by omega, by omega, rfl, k1.trans k2, p2⟩)⟩)
    refine g_set ?_
    walk_at "call"
    exact call_take p2 (by decide) (by decide) fun r3 H3 _ _ k3 _ p3 => rest _ _ ⟨_, by omega, by omega, rfl, k1.trans (k2.trans k3), p3⟩
theorem call_steps {H : Hp} {Q : VK} {E : XK} {p a : Addr} {n : Int} {rows : List Row} (hp : Pool H p) (hs : SpansAt H a rows) (n0 : 0 ≤ n) (n1 : n ≤ 12) (rl : rows.length ≤ 24) (q : GotPath p 200 H Q) : sp_l_steps [.ref p, .int n, .ref a] H Q E := ⟨p, a, n, rows, rfl, hp, hs, n0, n1, rl, q⟩
end Cl

/-! ## Pu -/
namespace Cl
open PySem PySem.Spec PyProof.Rows L2
/-! ### the walk's own lines: "c" a side condition, "h" what stands at an address, "s" a list that is read, "at" an item, "v" a value, "a" an answer, "ar" arguments -/
local macro_rules | `(tactic| walk_at "c") => `(tactic| first | assumption | (with_reducible rfl) | decide | omega | exact Or.inr ⟨by first | decide | omega, by first | decide | omega⟩ | exact Or.inl ⟨by first | decide | omega, by first | decide | omega⟩ | exact ⟨by first | decide | omega, by first | decide | omega⟩ | exact ⟨by decide, by decide, by decide⟩)
local macro_rules | `(tactic| walk_at "ne") => `(tactic| first | assumption | (exact Ne.symm (by assumption)) | (exact ne_of_none (by assumption) (by assumption)) | (exact Ne.symm (ne_of_none (by assumption) (by assumption))))
local macro_rules | `(tactic| walk_at "h") => `(tactic| first | assumption | exact upd_same | (refine Eq.trans (upd_ne ?_) ?_; walk_at "ne"; walk_at "h"))
local macro_rules | `(tactic| walk_at "s") => `(tactic| first | assumption | (exact SqL.of (by walk_at "h")) | (exact SqT.of (by walk_at "h")))
local macro_rules | `(tactic| walk_at "at") => `(tactic| first | rfl | exact atI_ints (by omega) (by omega))
local macro_rules | `(tactic| walk_at "ty") => `(tactic| first | exact .base (.int _) | exact .base (.bl _) | exact .base .non | exact .base (.str _) | exact .base (.lst (by walk_at "h")) | exact .base (.tup (by walk_at "h")))
local macro_rules | `(tactic| walk_at "v") => `(tactic| first
  | (with_reducible exact val_c)
  | ((with_reducible apply val_var); rfl)
  | ((with_reducible apply v_I0); walk_at "v"; walk_at "v")
  | ((with_reducible apply v_I); walk_at "v"; walk_at "v"; walk_at "c")
  | ((with_reducible apply v_U); walk_at "v")
  | ((with_reducible apply v_eq); walk_at "v"; walk_at "v"; rfl)
  | ((with_reducible apply v_ne); walk_at "v"; walk_at "v"; rfl)
  | ((with_reducible apply v_ixL); walk_at "v"; walk_at "v"; walk_at "s"; walk_at "at")
  | ((with_reducible apply v_ixT); walk_at "v"; walk_at "v"; walk_at "s"; walk_at "at")
  | ((with_reducible apply v_ixS); walk_at "v"; walk_at "v"; assumption; walk_at "at")
  | ((with_reducible apply v_fld); walk_at "v"; walk_at "h"; assumption; assumption; walk_at "fl")
  | ((with_reducible apply v_len); walk_at "ar"; walk_at "s")
  | ((with_reducible apply v_lenS); walk_at "ar"; assumption)
  | ((with_reducible apply v_lenT); walk_at "ar"; walk_at "s")
  | ((with_reducible apply v_abs); walk_at "ar")
  | ((with_reducible apply v_max2); walk_at "ar")
  | ((with_reducible apply v_min2); walk_at "ar")
  | ((with_reducible apply v_intI); walk_at "ar")
  | ((with_reducible apply v_intB); walk_at "ar")
  | ((with_reducible apply v_chain); walk_at "v"; walk_at "v"; walk_at "v"; exact i_B0; exact i_B0)
  | ((with_reducible apply v_chain3); walk_at "v"; walk_at "v"; walk_at "v"; walk_at "v"; exact i_B0; exact i_B0; exact i_B0)
  | ((with_reducible apply v_andV); walk_at "v"; (intro _; walk_at "v"))
  | ((with_reducible apply v_orV); walk_at "v"; (intro _; walk_at "v"))
  | ((with_reducible apply v_notV); walk_at "v")
  | ((with_reducible apply v_isN); walk_at "v")
  | ((with_reducible apply v_notN); walk_at "v")
  | ((with_reducible apply v_isiT); walk_at "ar"; walk_at "ty"; decide +kernel)
  | ((with_reducible apply v_isiF); walk_at "ar"; walk_at "ty"; decide +kernel)
  | ((with_reducible apply v_if); walk_at "a"; (intro _; walk_at "v"); (intro _; walk_at "v")))
local macro_rules | `(tactic| walk_at "ar") => `(tactic| first
  | (with_reducible exact ar_nil)
  | ((with_reducible apply ar_cons); walk_at "v"; walk_at "ar"))
local macro_rules | `(tactic| walk_at "a") => `(tactic| first
  | ((with_reducible apply a_test); walk_at "v")
  | ((with_reducible apply a_B); walk_at "v")
  | ((with_reducible apply a_not); walk_at "a")
  | ((with_reducible apply a_and); walk_at "a"; (intro _; walk_at "a"))
  | ((with_reducible apply a_or); walk_at "a"; (intro _; walk_at "a")))
local macro_rules | `(tactic| walk_at "fl") => `(tactic| first | exact fl_events _ _ _ | exact fl_spans _ _ _ | exact fl_round _ _ _)
local macro_rules | `(tactic| walk_at "call") => `(tactic| refine g_call (g_args (by walk_at "ar") ?_))
theorem vals_refs : ∀ {as : List Addr} {us : List Value}, Vals (as.map V.ref) us → us = as.map Value.ref
  | [], _, .nil => rfl
  | a :: as, _, .cons r rr => by
    have e : _ = Value.ref a := r
    rw [e, vals_refs rr]; rfl
theorem kit8 {K : PySem.W.Frag} (c : PathK K) : PySem.W.kitAny K (.ref (He.ga K "BadPath")) ([He.ga K "BadNet", He.ga K "UnknownSpan", He.ga K "UnknownEvent", He.ga K "BadTimes", He.ga K "BrokenSpan", He.ga K "BadRounds", He.ga K "ShutRing", He.ga K "TooMany"].map Value.ref) = some false := by
  simp [PySem.W.kitAny, c.k1, c.k2, c.k3, c.k4, c.k5, c.k6, c.k7, c.k8]
theorem path_suite {K : PySem.W.Frag} (c : PathK K) {s0 s1 s2 s3 s5 : Option V} {H : Hp} {D : Ends} {r : TS} {a dd : Addr} {k : Nat} (hd : H dd = some (noteP k)) (q : ∀ t H', Kp [] H H' → H' t = some (.tup (badV k)) → r D [s0, s1, some (.ref t), s3, none, some (.bl false)] H') :
    (tSeq (tAsg (tCB (rIsXs K (He.ga K "BadPath") a (.ref (He.ga K "BadPath")) (some dd)) (tCons (tVar 4) (tCons (tTup (tCons (tC (.ref (He.ga K "BadNet"))) (tCons (tC (.ref (He.ga K "UnknownSpan"))) (tCons (tC (.ref (He.ga K "UnknownEvent"))) (tCons (tC (.ref (He.ga K "BadTimes"))) (tCons (tC (.ref (He.ga K "BrokenSpan"))) (tCons (tC (.ref (He.ga K "BadRounds"))) (tCons (tC (.ref (He.ga K "ShutRing"))) (tCons (tC (.ref (He.ga K "TooMany"))) tNil))))))))) tNil))) (gName 5))
    (tAsg (tTup (tCons (tC (.str "bad path")) (tCons (tXf a (.ref (He.ga K "BadPath")) (some dd) (He.ga K "BadPath") "place" (tVar 4)) (tCons (tCB (rIsX K (He.ga K "BadPath") a (.ref (He.ga K "BadPath")) (some dd)) (tCons (tVar 4) (tCons (tC (.ref (He.ga K "DepotError"))) tNil))) (tCons (tCB (rIsX K (He.ga K "BadPath") a (.ref (He.ga K "BadPath")) (some dd)) (tCons (tVar 4) (tCons (tC (.ty "ValueError")) tNil))) (tCons (tVar 5) tNil)))))) (gName 2))) (endN { D with nx := r D } 4) [s0, s1, s2, s3, some (.ref a), s5] H := by
  refine q_set (g_cb (g_cons (g_var rfl (g_cons (g_tup (g_args (ar_cons val_c (ar_cons val_c (ar_cons val_c (ar_cons val_c (ar_cons val_c (ar_cons val_c (ar_cons val_c (ar_cons val_c ar_nil)))))))) ⟨by show 8 ≤ sizeLine; decide, fun tp htp => g_nil ⟨tp, _, _, false, dd, [("place", .int (k : Nat))], rfl, rfl, rfl, ?_, upd_same, fun us r => vals_refs (as := [He.ga K "BadNet", He.ga K "UnknownSpan", He.ga K "UnknownEvent", He.ga K "BadTimes", He.ga K "BrokenSpan", He.ga K "BadRounds", He.ga K "ShutRing", He.ga K "TooMany"]) r, kit8 c, ?_⟩⟩))))))
  · rw [upd_ne (ne_of_none hd htp)]; exact hd
  have k1 := (Kp.refl [] H).new (o := .tup [.ref (He.ga K "BadNet"), .ref (He.ga K "UnknownSpan"), .ref (He.ga K "UnknownEvent"), .ref (He.ga K "BadTimes"), .ref (He.ga K "BrokenSpan"), .ref (He.ga K "BadRounds"), .ref (He.ga K "ShutRing"), .ref (He.ga K "TooMany")]) htp
  have hd1 := k1 _ _ (by simp) hd
  generalize upd H tp (.tup [.ref (He.ga K "BadNet"), .ref (He.ga K "UnknownSpan"), .ref (He.ga K "UnknownEvent"), .ref (He.ga K "BadTimes"), .ref (He.ga K "BrokenSpan"), .ref (He.ga K "BadRounds"), .ref (He.ga K "ShutRing"), .ref (He.ga K "TooMany")]) = H1 at k1 hd1
  exact g_set (g_tup (g_args (ar_cons val_c (ar_cons (v_xf (val_var rfl) hd1 rfl) (ar_cons (v_isX (ar_cons (val_var rfl) (ar_cons val_c ar_nil)) hd1 c.pd) (ar_cons (v_isXT (ar_cons (val_var rfl) (ar_cons val_c ar_nil)) hd1 c.pv) (ar_cons (val_var rfl) ar_nil))))) ⟨by show 5 ≤ sizeLine; decide, fun t ht => q t _ (k1.new ht) upd_same⟩))
theorem pure_l_ends_told {K : PySem.W.Frag} (c : PathK K) {vs H Q E} (h : sp_l_ends_told K vs H Q E) : t_l_ends_told K { nx := fun _ H' => Q .non H', rt := Q } (start N_l_ends_told vs) H := by
  obtain ⟨x, a, ps, rows, rfl, N, ha, hl, q1, q2⟩ := h
  refine q_val val_c (q_val val_c (q_tryC (by walk_at "ar") (call_path N ha hl (fun cc v H1 hc k1 hv => ?_) (fun k d H1 hk k1 hd => ?_))))
  · refine q_yes (by walk_at "a") (by rfl) ?_
    refine g_set (g_tup (g_args (by walk_at "ar") ⟨by show 2 ≤ sizeLine; decide, fun t ht => ?_⟩))
    exact g_ret (g_var rfl (q1 cc t v _ hc (k1.new ht) (hv.kp ((Kp.refl [] _).new ht)) upd_same))
  · refine w_hit c.pp fun e he => path_suite c hd fun t H2 k2 h2 => ?_
    refine q_no (by walk_at "a") (by rfl) ?_
    exact g_ret (g_var rfl (q2 k t H2 hk (k1.trans k2) h2))
theorem pure_l_parts_told {K : PySem.W.Frag} (c : PathK K) {vs H Q E} (h : sp_l_parts_told K vs H Q E) : t_l_parts_told K { nx := fun _ H' => Q .non H', rt := Q } (start N_l_parts_told vs) H := by
  obtain ⟨x, a, ps, rows, rfl, N, ha, hl, q1, q2⟩ := h
  refine q_val val_c (q_val val_c (q_tryC (by walk_at "ar") (call_parts N ha hl (fun l H1 xs hc k1 hx => ?_) (fun k d H1 hk k1 hd => ?_))))
  · refine q_yes (by walk_at "a") (by rfl) ?_
    refine g_set (g_tup (g_args (by walk_at "ar") ⟨by show 2 ≤ sizeLine; decide, fun t ht => ?_⟩))
    exact g_ret (g_var rfl (q1 t _ hc (k1.new ht) upd_same))
  · refine w_hit c.pp fun e he => path_suite c hd fun t H2 k2 h2 => ?_
    refine q_no (by walk_at "a") (by rfl) ?_
    exact g_ret (g_var rfl (q2 k t H2 hk (k1.trans k2) h2))
theorem call_etold {K : PySem.W.Frag} {H : Hp} {Q : VK} {E : XK} {x a : Addr} {ps : List Step} {rows : List Row} (N : NR K H x rows) (ha : PathAt H a ps) (hl : ps.length ≤ 1000) (q1 : ∀ c t v H', runP rows ps 0 none = .inr c → Kp [] H H' → EndV H' c v → H' t = some (.tup [.str "returned", v]) → Q (.ref t) H') (q2 : ∀ k t H', runP rows ps 0 none = .inl k → Kp [] H H' → H' t = some (.tup (badV k)) → Q (.ref t) H') : sp_l_ends_told K [.ref x, .ref a] H Q E := ⟨x, a, ps, rows, rfl, N, ha, hl, q1, q2⟩
theorem call_ptold {K : PySem.W.Frag} {H : Hp} {Q : VK} {E : XK} {x a : Addr} {ps : List Step} {rows : List Row} (N : NR K H x rows) (ha : PathAt H a ps) (hl : ps.length ≤ 1000) (q1 : ∀ t H', ringP rows ps = none → Kp [] H H' → H' t = some (.tup [.str "returned", .bl true]) → Q (.ref t) H') (q2 : ∀ k t H', ringP rows ps = some k → Kp [] H H' → H' t = some (.tup (badV k)) → Q (.ref t) H') : sp_l_parts_told K [.ref x, .ref a] H Q E := ⟨x, a, ps, rows, rfl, N, ha, hl, q1, q2⟩
/-! ## the ends of a path -/
theorem run_last {rows : List Row} {c : Option Step} : ∀ {ps : List Step} {i : Nat} {d : Step}, runP rows ps i (some d) = .inr c → (ps = [] ∧ c = some d) ∨ ∃ q e, ps.getLast? = some q ∧ endsP rows q = some e ∧ c = some (d.1, e.2)
  | [], i, d, h => .inl ⟨rfl, by unfold runP at h; exact (Sum.inr.inj h).symm⟩
  | p :: ps, i, d, h => by
    right
    unfold runP stepP at h
    cases he : endsP rows p with
    | none => rw [he] at h; cases h
    | some q =>
      rw [he] at h
      by_cases hq : q.1 = d.2
      · simp only [hq, if_true] at h
        rcases run_last h with ⟨rfl, hc⟩ | ⟨q', e, h1, h2, h3⟩
        · exact ⟨p, q, rfl, he, hc⟩
        · exact ⟨q', e, by rw [List.getLast?_cons, h1]; rfl, h2, h3⟩
      · simp only [hq, if_false] at h
        cases h
theorem run_ends {rows : List Row} {c : Option Step} {p : Step} {ps : List Step} (h : runP rows (p :: ps) 0 none = .inr c) : ∃ e0 q e1, endsP rows p = some e0 ∧ (p :: ps).getLast? = some q ∧ endsP rows q = some e1 ∧ c = some (e0.1, e1.2) := by
  unfold runP stepP at h
  cases he : endsP rows p with
  | none => rw [he] at h; cases h
  | some q =>
    rw [he] at h
    rcases run_last h with ⟨rfl, hc⟩ | ⟨q', e, h1, h2, h3⟩
    · exact ⟨q, p, q, rfl, rfl, he, hc⟩
    · exact ⟨q, q', e, rfl, by rw [List.getLast?_cons, h1]; rfl, h2, h3⟩
theorem ring_len {rows : List Row} {ps : List Step} {c : Option Step} {k : Nat} (h : runP rows ps 0 none = .inr c) (hk : ringP rows ps = some k) : k = ps.length := by
  unfold ringP at hk
  rw [h] at hk
  cases c with
  | none => exact (Option.some.inj hk).symm
  | some cc =>
    by_cases e : cc.1 = cc.2
    · simp [e] at hk
    · simp [e] at hk; exact hk.symm
theorem atI_end {xs : List V} {v : V} (h : xs[xs.length - 1]? = some v) : atI xs (-1) = some v := by
  have hl : 0 < xs.length := by
    cases xs with
    | nil => simp at h
    | cons => simp
  unfold atI ixN
  rw [if_neg (by decide), if_pos (by omega)]
  have e1 : (-1 + (xs.length : Int)).toNat = xs.length - 1 := by omega
  show xs[(-1 + (xs.length : Int)).toNat]? = some v
  rw [e1]; exact h
/-! ## data of paths -/
theorem steps_dat {H : Hp} {ts : List Addr} {ps : List Step} (h : StepsAt H ts ps) (i : Nat) (d : PyData) (x : V) (h1 : (ps.map stD)[i]? = some d) (h2 : (ts.map V.ref)[i]? = some x) : Dat H 1 d x := by
  obtain ⟨t, h3, rfl⟩ := refs_at h2
  rw [List.getElem?_map] at h1
  cases e : ps[i]? with
  | none => rw [e] at h1; cases h1
  | some r =>
    rw [e] at h1
    cases h1
    exact dat_tup (n := 0) (h.2 i t r h3 e) rfl (by simp) (by simp [isS])
theorem path_dat {H : Hp} {a : Addr} {ps : List Step} (h : PathAt H a ps) (hl : ps.length ≤ 1000) : Dat H 2 (.list (ps.map stD)) (.ref a) := by
  obtain ⟨ts, ha, hs⟩ := h
  exact ⟨a, _, rfl, ha, by rw [List.length_map]; omega, by rw [List.length_map, List.length_map]; exact hs.1, fun i d x h1 h2 => steps_dat hs i d x h1 h2⟩
def endD : Option Step → PyData
  | none => .none
  | some q => stD q
theorem end_dat {H : Hp} {c : Option Step} {v : V} (h : EndV H c v) : Dat H 1 (endD c) v := by
  cases c with
  | none => exact h
  | some q =>
    obtain ⟨t, rfl, ht⟩ := h
    exact dat_tup (n := 0) ht rfl (by simp) (by simp [isS])
theorem told_dat {H : Hp} {c : Option Step} {v : V} {t : Addr} (ht : H t = some (.tup [.str "returned", v])) (h : EndV H c v) : Dat H 2 (.tuple [.str "returned", endD c]) (.ref t) := by
  refine ⟨t, _, rfl, ht, by simp, rfl, fun i d x g1 g2 => ?_⟩
  match i with
  | 0 => cases g1; cases g2; rfl
  | 1 => cases g1; cases g2; exact end_dat h
  | i + 2 => simp at g1
theorem bad_dat {H : Hp} {k : Nat} {t : Addr} (ht : H t = some (.tup (badV k))) : Dat H 1 (.tuple [.str "bad path", .int (k : Nat), .bool true, .bool true, .bool false]) (.ref t) := dat_tup ht rfl (by simp) (by simp [isS])
theorem yes_dat {H : Hp} {t : Addr} (ht : H t = some (.tup [.str "returned", .bl true])) : Dat H 1 (.tuple [.str "returned", .bool true]) (.ref t) := dat_tup ht rfl (by simp) (by simp [isS])
theorem g_andV {σ : L2.St} {H : Hp} {Q : VK} {ta tb : TE} (h : ta σ H fun x H1 => ∃ k, x = .bl k ∧ if k = true then tb σ H1 Q else Q (.bl false) H1) : tAndV ta tb σ H Q := h
theorem good_end {K : PySem.W.Frag} {H H0 : Hp} {D : Ends} {s1 s4 s5 s6 : Option V} {x a b d : Addr} {ps : List Step} {rows : List Row} {dd : PyData} (k0 : Kp [] H0 H) (N : NR K H0 x rows) (ha : PathAt H0 a ps) (hb : PathAt H0 b ps) (hl : ps.length ≤ 1000)
    (hd : ∀ H', Kp [] H H' → Dat H' 1 dd (.ref d)) (h1 : ringP rows ps = none → dd = .tuple [.str "returned", .bool true]) (h2 : ∀ k, ringP rows ps = some k → dd = .tuple [.str "bad path", .int (k : Nat), .bool true, .bool true, .bool false]) (q : ∀ H', Kp [] H0 H' → D.rt (.bl true) H') :
    tRet (tAndV (tCall (sp_l_same) [] E0 (tCons (tCall (sp_l_parts_told K) [] E0 (tCons (tVar 0) (tCons (tVar 3) tNil))) (tCons (tVar 7) tNil))) (tCall (sp_l_same) [] E0 (tCons (tVar 3) (tCons (tVar 2) tNil)))) D [some (.ref x), s1, some (.ref a), some (.ref b), s4, s5, s6, some (.ref d)] H := by
  have fin : ∀ {H' : Hp}, Kp [] H H' → tCall (sp_l_same) [] E0 (tCons (tVar 3) (tCons (tVar 2) tNil)) [some (.ref x), s1, some (.ref a), some (.ref b), s4, s5, s6, some (.ref d)] H' D.rt := fun {H'} k =>
    g_call (g_args (ar_cons (val_var rfl) (ar_cons (val_var rfl) ar_nil)) (call_same 2 (.list (ps.map stD)) (by decide) (path_dat (hb.kp (k0.trans k)) hl) (path_dat (ha.kp (k0.trans k)) hl) (q _ (k0.trans k))))
  refine g_ret (g_andV (g_call (g_cons (g_call (g_args (ar_cons (val_var rfl) (ar_cons (val_var rfl) ar_nil)) ?_)))))
  refine call_ptold (N.kp k0) (hb.kp k0) hl (fun t H9 hc k9 h9 => g_cons (g_var rfl (g_nil ?_))) (fun k' t H9 hk k9 h9 => g_cons (g_var rfl (g_nil ?_)))
  · exact call_same 1 dd (by decide) (by rw [h1 hc]; exact yes_dat h9) (hd _ k9) ⟨true, rfl, iteT (fin k9)⟩
  · exact call_same 1 dd (by decide) (by rw [h2 k' hk]; exact bad_dat h9) (hd _ k9) ⟨true, rfl, iteT (fin k9)⟩
theorem pure_l_path_good {K : PySem.W.Frag} {vs H Q E} (h : sp_l_path_good K vs H Q E) : t_l_path_good K { nx := fun _ H' => Q .non H', rt := Q } (start N_l_path_good vs) H := by
  obtain ⟨x, s, a, ps, rows, rfl, N, hsp, ha, hl, q⟩ := h
  obtain ⟨ts, hts, hst⟩ := ha
  have el : ts.length = ps.length := hst.1
  refine q_set (e_listL (by walk_at "ar") (SqL.of hts) fun b hb => ?_)
  have k1 := (Kp.refl [] H).new (o := .lst (ts.map V.ref)) hb
  have hb1 : upd H b (.lst (ts.map V.ref)) b = some (.lst (ts.map V.ref)) := upd_same
  generalize upd H b (.lst (ts.map V.ref)) = H1 at k1 hb1
  have N1 := N.kp k1
  have hsp1 := hsp.kp0 k1
  have ha1 : PathAt H1 a ps := PathAt.kp ⟨ts, hts, hst⟩ k1
  have hd1 : PathAt H1 b ps := ⟨ts, hb1, hst.kp k1 fun _ _ z => nomatch z⟩
  have hts1 := k1 _ _ (by simp) hts
  refine q_set ?_
  walk_at "call"
  refine call_bad hsp1 ha1 hl fun H2 k2 => ?_
  -- the last line
  have lastL : ∀ {H' : Hp} {σ : L2.St}, Kp [] H1 H' → σ[2]? = some (some (.ref a)) → σ[3]? = some (some (.ref b)) → tCall sp_l_same [] E0 (tCons (tVar 3) (tCons (tVar 2) tNil)) σ H' Q := fun {H' σ} k e2 e3 =>
    g_call (g_args (ar_cons (val_var e3) (ar_cons (val_var e2) ar_nil)) (call_same 2 (.list (ps.map stD)) (by decide) (path_dat (hd1.kp k) hl) (path_dat (ha1.kp k) hl) (q _ (k1.trans k))))
  cases hrun : runP rows ps 0 none with
  | inl k =>
    have hring : ringP rows ps = some k := by unfold ringP; rw [hrun]
    refine q_yes (b := true) (a_test (v_cast (v_notN (val_var rfl)) rfl)) rfl ?_
    refine q_set (g_tup (g_args (ar_cons val_c (ar_cons (val_var rfl) (ar_cons val_c (ar_cons val_c (ar_cons val_c ar_nil))))) ⟨by show 5 ≤ sizeLine; decide, fun du hdu => ?_⟩))
    have k3 := k2.new (o := .tup (badV k)) hdu
    have hdu3 : upd H2 du (.tup (badV k)) du = some (.tup (badV k)) := upd_same
    change tSeq _ _ _ _ (upd H2 du (.tup (badV k)))
    generalize upd H2 du (.tup (badV k)) = H3 at k3 hdu3
    refine q_whenc (g_or (g_not (g_B (g_call (g_cons (g_call (g_args (by walk_at "ar") ?_)))))))
    refine call_etold (N1.kp k3) (hd1.kp k3) hl (fun c t v H4 hc _ _ _ => by rw [hrun] at hc; cases hc) (fun k' t H4 hk k4 h4 => ?_)
    obtain rfl : k = k' := by rw [hrun] at hk; exact Sum.inl.inj hk
    refine g_cons (g_var rfl (g_nil ?_))
    refine call_same 1 _ (by decide) (bad_dat h4) (bad_dat (k4 _ _ (by simp) hdu3)) ⟨true, rfl, iteF ?_⟩
    have k14 := k3.trans k4
    refine g_not (g_B (g_call (g_cons (g_call (g_args (by walk_at "ar") ?_)))))
    refine call_ptold (N1.kp k14) (hd1.kp k14) hl (fun t H5 hc _ _ => by rw [hring] at hc; cases hc) (fun k' t H5 hk k5 h5 => ?_)
    obtain rfl : k = k' := by rw [hring] at hk; exact Option.some.inj hk
    refine g_cons (g_var rfl (g_nil ?_))
    refine call_same 1 _ (by decide) (bad_dat h5) (bad_dat ((k4.trans k5) _ _ (by simp) hdu3)) ⟨true, rfl, iteF ?_⟩
    have k15 := k14.trans k5
    refine g_ret (g_andV (g_call (g_cons (g_call (g_args (by walk_at "ar") (call_isring (N1.kp k15) (hd1.kp k15) hl fun H6 k6 => g_cons (g_c (g_nil ?_))))))))
    refine call_same 1 (.bool false) (by decide) (by rw [hring]; rfl) rfl ⟨true, rfl, iteT ?_⟩
    exact lastL (k15.trans k6) rfl rfl
  | inr c =>
    refine q_no (b := false) (a_test (v_cast (v_notN (val_var rfl)) rfl)) rfl ?_
    refine q_val val_c (q_val val_c ?_)
    refine q_either (fun σ' H' => ∃ v, σ' = [some (.ref x), some (.ref s), some (.ref a), some (.ref b), some .non, some v, some (.bl (ringP rows ps).isNone), none] ∧ Kp [] H1 H' ∧ EndV H' c v) ?_ fun rest => ?_
    · rintro σ' H3 ⟨v, rfl, k3, hv⟩
      refine q_whenc (g_or (g_not (g_B (g_call (g_cons (g_call (g_args (by walk_at "ar") ?_)))))))
      refine call_etold (N1.kp k3) (hd1.kp k3) hl (fun c' t v' H4 hc k4 hv' h4 => ?_) (fun k' t H4 hk _ _ => by rw [hrun] at hk; cases hk)
      obtain rfl : c = c' := by rw [hrun] at hc; exact Sum.inr.inj hc
      refine g_cons (g_tup (g_args (by walk_at "ar") ⟨by show 2 ≤ sizeLine; decide, fun u hu => g_nil ?_⟩))
      have kn := (Kp.refl [] H4).new (o := .tup [.str "returned", v]) hu
      have hu5 : upd H4 u (.tup [.str "returned", v]) u = some (.tup [.str "returned", v]) := upd_same
      generalize upd H4 u (.tup [.str "returned", v]) = H5 at kn hu5
      refine call_same 2 _ (by decide) (told_dat (kn _ _ (by simp) h4) (hv'.kp kn)) (told_dat hu5 (hv.kp (k4.trans kn))) ⟨true, rfl, iteF ?_⟩
      have k15 := k3.trans (k4.trans kn)
      refine g_not (g_B (g_call (g_cons (g_call (g_args (by walk_at "ar") (call_isring (N1.kp k15) (hd1.kp k15) hl fun H6 k6 => g_cons (g_var rfl (g_nil ?_))))))))
      refine call_same 1 (.bool (ringP rows ps).isNone) (by decide) rfl rfl ⟨true, rfl, iteF ?_⟩
      have k16 := k15.trans k6
      refine q_set (g_tup (g_args (ar_cons val_c (ar_cons (v_cast (w := .int (ps.length : Nat)) (v_len (ar_cons (val_var rfl) ar_nil) (SqL.of (k16 _ _ (by simp) hts1))) (by rw [List.length_map, el])) (ar_cons val_c (ar_cons val_c (ar_cons val_c ar_nil))))) ⟨by show 5 ≤ sizeLine; decide, fun du hdu => ?_⟩))
      have k7 := k16.new (o := .tup (badV ps.length)) hdu
      have hdu7 : upd H6 du (.tup (badV ps.length)) du = some (.tup (badV ps.length)) := upd_same
      change tSeq _ _ _ _ (upd H6 du (.tup (badV ps.length)))
      generalize upd H6 du (.tup (badV ps.length)) = H7 at k7 hdu7
      cases hring : ringP rows ps with
      | none =>
        refine q_yes (b := true) (a_B (val_var rfl)) rfl ?_
        refine g_set (g_tup (g_args (by walk_at "ar") ⟨by show 2 ≤ sizeLine; decide, fun d2 hd2 => ?_⟩))
        have k8 := k7.new (o := .tup [.str "returned", .bl true]) hd2
        have hd8 : upd H7 d2 (.tup [.str "returned", .bl true]) d2 = some (.tup [.str "returned", .bl true]) := upd_same
        generalize upd H7 d2 (.tup [.str "returned", .bl true]) = H8 at k8 hd8
        exact good_end k8 N1 ha1 hd1 hl (fun H' k => yes_dat (k _ _ (by simp) hd8)) (fun _ => rfl) (fun k hk => by rw [hring] at hk; cases hk) (fun H' k => q _ (k1.trans k))
      | some kk =>
        have ekk := ring_len hrun hring
        refine q_no (b := false) (a_B (val_var rfl)) rfl ?_
        exact good_end k7 N1 ha1 hd1 hl (fun H' k => bad_dat (k _ _ (by simp) hdu7)) (fun hc => by rw [hring] at hc; cases hc) (fun k hk => by rw [hring] at hk; rw [← Option.some.inj hk, ekk]) (fun H' k => q _ (k1.trans k))
    · have hts2 := k2 _ _ (by simp) hts1
      refine g_ans (a_test (v_cast (w := .bl (decide ((0 : Int) < (ps.length : Nat)))) (by walk_at "v") (by rw [List.length_map, el]))) (g_if (fun hb => ?_) (fun hb => ?_))
      · have hpos : 0 < ps.length := by simpa using hb
        have hsp2 := hsp1.kp0 k2
        have hst2 : StepsAt H2 ts ps := hst.kp (k1.trans k2) fun _ _ z => nomatch z
        obtain ⟨p0, pr, hps⟩ : ∃ p0 pr, ps = p0 :: pr := by
          cases ps with
          | nil => simp at hpos
          | cons p0 pr => exact ⟨p0, pr, rfl⟩
        obtain ⟨e0, pq, e1, he0, hlast, he1, hcc⟩ := run_ends (hps ▸ hrun)
        rw [← hps, List.getLast?_eq_getElem?] at hlast
        have h0 : ps[0]? = some p0 := by rw [hps]; rfl
        obtain ⟨t0, q0, at0, hq0, ht0⟩ := steps_atI hst2 (i := 0) (by decide) (by omega)
        obtain ⟨t1, p1, at1, hp1, ht1⟩ : ∃ t p, atI (ts.map V.ref) (-1) = some (.ref t) ∧ ps[ps.length - 1]? = some p ∧ H2 t = some (.tup (stV p)) := by
          have hlt : ts.length - 1 < ts.length := by omega
          have e : ts[ts.length - 1]? = some ts[ts.length - 1] := List.getElem?_eq_getElem hlt
          refine ⟨ts[ts.length - 1], pq, atI_end ?_, hlast, hst2.2 (ts.length - 1) _ _ e (by rw [el]; exact hlast)⟩
          rw [List.length_map, List.getElem?_map, e]; rfl
        obtain rfl : p0 = q0 := by
          have : ps[0]? = some q0 := hq0
          rw [h0] at this; exact Option.some.inj this
        obtain rfl : pq = p1 := by rw [hlast] at hp1; exact Option.some.inj hp1
        refine q_set (g_tup (g_cons (g_op (g_call (g_args (ar_cons (val_var rfl) (ar_cons (v_ixL (val_var rfl) val_c (SqL.of hts2) at0) ar_nil)) ?_)))))
        refine call_lends hsp2 ht0 fun v0 H3 k3 hv0 => ?_
        rw [he0] at hv0
        obtain ⟨u0, rfl, hu0⟩ := hv0
        refine g_c ⟨u0, _, 0, .int e0.1, rfl, rfl, SqT.of hu0, rfl, ?_⟩
        refine g_cons (g_op (g_call (g_args (ar_cons (val_var rfl) (ar_cons (v_ixL (n := -1) (val_var rfl) (v_U val_c) (SqL.of (k3 _ _ (by simp) hts2)) at1) ar_nil)) ?_)))
        refine call_lends (hsp2.kp0 k3) (k3 _ _ (by simp) ht1) fun v1 H4 k4 hv1 => ?_
        rw [he1] at hv1
        obtain ⟨u1, rfl, hu1⟩ := hv1
        refine g_c ⟨u1, _, 1, .int e1.2, rfl, rfl, SqT.of hu1, rfl, ?_⟩
        refine g_nil ⟨by show 2 ≤ sizeLine; decide, fun en hen => ?_⟩
        have hring : (ringP rows ps).isNone = decide (V.int e0.1 = V.int e1.2) := by
          unfold ringP
          rw [hrun, hcc]
          by_cases e : e0.1 = e1.2 <;> simp [e]
        refine g_set (g_val (v_eq (v_ixT (v := .int e0.1) (val_var rfl) val_c (SqT.of upd_same) rfl) (v_ixT (v := .int e1.2) (val_var rfl) val_c (SqT.of upd_same) rfl) rfl) (rest _ _ ⟨.ref en, ?_, ((k2.trans (k3.trans k4)).new hen), ?_⟩))
        · rw [hring]; rfl
        · rw [hcc]; exact ⟨en, rfl, upd_same⟩
      · have hnil : ps = [] := by
          have : ¬ 0 < ps.length := by simpa using hb
          exact List.length_eq_zero_iff.mp (by omega)
        have hc : c = none := by
          rw [hnil] at hrun
          exact (Sum.inr.inj hrun).symm
        refine rest _ _ ⟨.non, ?_, k2, by rw [hc]; rfl⟩
        have hring : (ringP rows ps).isNone = false := by unfold ringP; rw [hrun, hc]; rfl
        rw [hring]; rfl
theorem pure_law {K : PySem.W.Frag} (c : NetK K) {vs H Q E} (h : sp_law K vs H Q E) : t_law K { nx := fun _ H' => Q .non H', rt := Q } (start N_law vs) H := by
  obtain ⟨sc, ns, rfl, hS, q⟩ := h
  refine q_set ?_
  walk_at "call"
  refine call_pool hS (by decide) (by decide) fun p H1 hp0 k1 p1 => ?_
  refine q_set ?_
  walk_at "call"
  refine call_length p1 fun T H2 t0 t1 k2 p2 => ?_
  refine q_set ?_
  walk_at "call"
  refine call_many p2 fun n H3 n0 n1 k3 p3 => ?_
  refine q_set (g_call (g_cons (g_var rfl (g_cons (g_var rfl (g_cons (g_var rfl (g_cons (g_call (g_args (by walk_at "ar") (call_count p3 n0 fun cc H4 c0 c1 nc k4 p4 => g_nil ?_)))))))))))
  refine call_any p4 t0 t1 n0 n1 c0 c1 nc fun s rows H5 hs5 k5 p5 hsp hlen ok => ?_
  have rl : rows.length ≤ 24 := by omega
  have k05 : Kp [p] H H5 := (k1.of [p]).trans (k2.trans (k3.trans (k4.trans k5)))
  have hS5 := sq_new hS k05 hp0
  obtain ⟨ts, hts, hrs⟩ := hsp
  refine q_set (g_make (g_cons (g_val (by walk_at "v") (g_cons (g_val (by walk_at "v") (g_cons (e_listL (by walk_at "ar") (SqL.of hts) fun l1 hl1 => g_nil fun x dx hx hd ne => ?_)))))))
  have kx : Kp [] H5 (upd (upd (upd H5 l1 (.lst (ts.map V.ref))) dx (.own x)) x (.ins (He.ga K "Net") dx [])) := kp_made ((Kp.refl _ _).new hl1) hx hd ne
  have nlx : l1 ≠ x := fun z => by rw [← z, upd_same] at hx; cases hx
  have nld : l1 ≠ dx := fun z => by rw [← z, upd_same] at hd; cases hd
  have hx5 : H5 x = none := by rw [upd_ne nlx.symm] at hx; exact hx
  refine call_net upd_same ⟨ts, by rw [upd_ne nlx, upd_ne nld, upd_same], hrs.kp kx fun _ _ z => nomatch z⟩ t0 t1 n0 (by omega) (by omega) ok fun H6 k6 hn6 => ⟨rfl, ?_⟩
  have k56 : Kp [] H5 H6 := kp_drop kx hx5 k6
  have hs6 : SpansAt H6 s rows := ⟨ts, k56 _ _ (by simp) hts, hrs.kp k56 fun _ _ z => nomatch z⟩
  have N6 : NR K H6 x rows := ⟨⟨T, n, hn6, n0, n1, ok⟩, rl⟩
  have hS6 := sq_kp hS5 k56
  refine q_set (g_call (g_cons (g_call (g_args (by walk_at "ar") ?_))))
  refine call_pool hS6 (by decide) (by decide) fun p2 H7 hp7 k7 pp7 => g_cons (g_var rfl (g_cons (g_var rfl (g_nil ?_))))
  refine call_steps pp7 (hs6.kp0 k7) n0 n1 rl fun f1 ps1 H8 hf1 k8 _ hps1 hlen1 => ?_
  have k68 : Kp [] H6 H8 := kp_drop k7 hp7 k8
  refine q_set (g_call (g_cons (g_call (g_args (by walk_at "ar") ?_))))
  refine call_pool (sq_kp hS6 k68) (by decide) (by decide) fun p3 H9 hp9 k9 pp9 => g_cons (g_var rfl (g_cons (g_var rfl (g_nil ?_))))
  refine call_steps pp9 (hs6.kp0 (k68.trans k9)) n0 n1 rl fun f2 ps2 H10 hf2 k10 _ hps2 hlen2 => ?_
  have k810 : Kp [] H8 H10 := kp_drop k9 hp9 k10
  refine s_seq (s_for_lst (xs := [.ref f1, .ref f2, .ref f1]) (by walk_at "ar") (by show 3 ≤ sizeLine; decide) fun lp hlp => ?_)
  have k11 : Kp [] H10 (upd H10 lp (.lst [.ref f1, .ref f2, .ref f1])) := (Kp.refl _ _).new hlp
  have hlp4 : upd H10 lp (.lst [.ref f1, .ref f2, .ref f1]) lp = some (.lst [.ref f1, .ref f2, .ref f1]) := upd_same
  generalize upd H10 lp (.lst [.ref f1, .ref f2, .ref f1]) = H11 at k11 hlp4
  have k611 : Kp [] H6 H11 := k68.trans (k810.trans k11)
  refine s_forLi (K := K) (SqL.of hlp4) (fun i σ' H5 => Kp [] H11 H5 ∧ ∃ y, σ' = [some (.ref sc), some (.ref p), some (.int T), some (.int n), some (.ref s), some (.ref x), some (.ref f1), some (.ref f2), y]) ⟨Kp.refl _ _, _, rfl⟩ (fun i σ' H5 _ ⟨k5, _⟩ => SqL.of (k5 _ _ (by simp) hlp4)) ?_ ?_
  · rintro i v σ' H12 hi ⟨k12, y, rfl⟩
    have hv : ∃ (u : Addr) (ps : List Step), v = .ref u ∧ PathAt H12 u ps ∧ ps.length ≤ 1000 := by
      have ca : PathAt H12 f1 ps1 := hps1.kp (k810.trans (k11.trans k12))
      have cb : PathAt H12 f2 ps2 := hps2.kp (k11.trans k12)
      match i with
      | 0 => cases hi; exact ⟨f1, ps1, rfl, ca, by omega⟩
      | 1 => cases hi; exact ⟨f2, ps2, rfl, cb, by omega⟩
      | 2 => cases hi; exact ⟨f1, ps1, rfl, ca, by omega⟩
      | i + 3 => simp at hi
    obtain ⟨u, ps, rfl, hu, hN⟩ := hv
    have k612 := k611.trans k12
    refine g_ifS (g_not (g_B ?_))
    walk_at "call"
    exact ⟨x, s, u, ps, rows, rfl, N6.kp k612, hs6.kp0 k612, hu, hN, fun H13 k13 => ⟨true, rfl, iteF ⟨k12.trans k13, _, rfl⟩⟩⟩
  · rintro σ' H12 ⟨k12, y, rfl⟩
    have k612 := k611.trans k12
    obtain ⟨dx', sa, ts', hxx, hsa, hrr⟩ := hn6.kp k612
    have hts5 : H12 s = some (.lst (ts.map V.ref)) := (k56.trans k612) _ _ (by simp) hts
    have hrs5 : RowsAt H12 ts rows := hrs.kp (k56.trans k612) fun _ _ z => nomatch z
    refine g_ret (g_call (g_cons (g_val (v_fld (val_var rfl) hxx c.cl c.nS (fl_spans _ _ _)) (g_cons (e_tupL (by walk_at "ar") (SqL.of hts5) fun tt htt => g_nil ?_)))))
    refine call_same 2 (.tuple (rows.map Row.d)) (by decide) ⟨sa, _, rfl, by rw [upd_ne (ne_of_none hsa htt)]; exact hsa, by rw [List.length_map]; omega, by rw [List.length_map, List.length_map]; exact hrr.1, fun i d x h1 h2 => ?_⟩ ⟨tt, _, rfl, upd_same, by rw [List.length_map]; omega, by rw [List.length_map, List.length_map]; exact hrs.1, fun i d x h1 h2 => ?_⟩ (q _)
    · exact rows_dat (hrr.kp ((Kp.refl [] _).new htt) fun _ _ z => nomatch z) i d x h1 h2
    · exact rows_dat (hrs5.kp ((Kp.refl [] _).new htt) fun _ _ z => nomatch z) i d x h1 h2
end Cl

/-! ## Hd -/

namespace Cl
open PySem PySem.Spec PyProof.Rows L2
def top (i : Nat) : Stmt := PySem.Challenge.pw_depotday_k15_paths_and_rings.main.body.getD i (.Pass ⟨0, 0, 0, 0⟩)
abbrev s_l_cell : Stmt := top 33
def d_l_cell : He.DefD := ⟨("_law_cell", none), "_law_cell", "_law_cell", defArgs s_l_cell, defBody s_l_cell, defScope s_l_cell, [], []⟩
theorem sc_l_cell : FnScope N_l_cell ["_law_script", "_law_k"] (defScope s_l_cell) := ⟨rfl, rfl, rfl, by decide +kernel, rfl, by decide +kernel, by decide +kernel⟩
abbrev s_l_pool : Stmt := top 34
def d_l_pool : He.DefD := ⟨("_law_pool", none), "_law_pool", "_law_pool", defArgs s_l_pool, defBody s_l_pool, defScope s_l_pool, [], []⟩
theorem sc_l_pool : FnScope N_l_pool ["_law_script", "_law_k"] (defScope s_l_pool) := ⟨rfl, rfl, rfl, by decide +kernel, rfl, by decide +kernel, by decide +kernel⟩
abbrev s_l_take : Stmt := top 35
def d_l_take : He.DefD := ⟨("_law_take", none), "_law_take", "_law_take", defArgs s_l_take, defBody s_l_take, defScope s_l_take, [], []⟩
theorem sc_l_take : FnScope N_l_take ["_law_pool_here", "_law_many_here"] (defScope s_l_take) := ⟨rfl, rfl, rfl, by decide +kernel, rfl, by decide +kernel, by decide +kernel⟩
abbrev s_l_same : Stmt := top 36
def d_l_same : He.DefD := ⟨("_law_same", none), "_law_same", "_law_same", defArgs s_l_same, defBody s_l_same, defScope s_l_same, [], []⟩
theorem sc_l_same : FnScope N_l_same ["_law_got", "_law_due"] (defScope s_l_same) := ⟨rfl, rfl, rfl, by decide +kernel, rfl, by decide +kernel, by decide +kernel⟩
abbrev s_is_window : Stmt := top 25
def d_is_window : He.DefD := ⟨("is_window", none), "is_window", "is_window", defArgs s_is_window, defBody s_is_window, defScope s_is_window, [], []⟩
theorem sc_is_window : FnScope N_is_window ["round_length", "least", "most", "limit"] (defScope s_is_window) := ⟨rfl, rfl, rfl, by decide +kernel, rfl, by decide +kernel, by decide +kernel⟩
abbrev s_is_span : Stmt := top 26
def d_is_span : He.DefD := ⟨("is_span", none), "is_span", "is_span", defArgs s_is_span, defBody s_is_span, defScope s_is_span, [], []⟩
theorem sc_is_span : FnScope N_is_span ["round_length", "events", "span"] (defScope s_is_span) := ⟨rfl, rfl, rfl, by decide +kernel, rfl, by decide +kernel, by decide +kernel⟩
abbrev s_Net___init__ : Stmt := inClass (top 28) 0
def d_Net___init__ : He.DefD := ⟨("Net", some "__init__"), "__init__", "Net.__init__", defArgs s_Net___init__, defBody s_Net___init__, defScope s_Net___init__, [], []⟩
theorem sc_Net___init__ : FnScope N_Net___init__ ["self", "round_length", "events", "spans"] (defScope s_Net___init__) := ⟨rfl, rfl, rfl, by decide +kernel, rfl, by decide +kernel, by decide +kernel⟩
abbrev s_step_ends : Stmt := top 15
def d_step_ends : He.DefD := ⟨("step_ends", none), "step_ends", "step_ends", defArgs s_step_ends, defBody s_step_ends, defScope s_step_ends, [], []⟩
theorem sc_step_ends : FnScope N_step_ends ["net", "step"] (defScope s_step_ends) := ⟨rfl, rfl, rfl, by decide +kernel, rfl, by decide +kernel, by decide +kernel⟩
abbrev s_path_ends : Stmt := top 16
def d_path_ends : He.DefD := ⟨("path_ends", none), "path_ends", "path_ends", defArgs s_path_ends, defBody s_path_ends, defScope s_path_ends, [], []⟩
theorem sc_path_ends : FnScope N_path_ends ["net", "path"] (defScope s_path_ends) := ⟨rfl, rfl, rfl, by decide +kernel, rfl, by decide +kernel, by decide +kernel⟩
abbrev s_check_ring : Stmt := top 17
def d_check_ring : He.DefD := ⟨("check_ring", none), "check_ring", "check_ring", defArgs s_check_ring, defBody s_check_ring, defScope s_check_ring, [], []⟩
theorem sc_check_ring : FnScope N_check_ring ["net", "path"] (defScope s_check_ring) := ⟨rfl, rfl, rfl, by decide +kernel, rfl, by decide +kernel, by decide +kernel⟩
abbrev s_is_ring : Stmt := top 18
def d_is_ring : He.DefD := ⟨("is_ring", none), "is_ring", "is_ring", defArgs s_is_ring, defBody s_is_ring, defScope s_is_ring, [], []⟩
theorem sc_is_ring : FnScope N_is_ring ["net", "path"] (defScope s_is_ring) := ⟨rfl, rfl, rfl, by decide +kernel, rfl, by decide +kernel, by decide +kernel⟩
abbrev s_join_labels : Stmt := top 27
def d_join_labels : He.DefD := ⟨("join_labels", none), "join_labels", "join_labels", defArgs s_join_labels, defBody s_join_labels, defScope s_join_labels, [], []⟩
theorem sc_join_labels : FnScope N_join_labels ["labels", "first", "second"] (defScope s_join_labels) := ⟨rfl, rfl, rfl, by decide +kernel, rfl, by decide +kernel, by decide +kernel⟩
abbrev s_Base___init__ : Stmt := inClass (top 30) 0
def d_Base___init__ : He.DefD := ⟨("Base", some "__init__"), "__init__", "Base.__init__", defArgs s_Base___init__, defBody s_Base___init__, defScope s_Base___init__, [], []⟩
theorem sc_Base___init__ : FnScope N_Base___init__ ["self", "net"] (defScope s_Base___init__) := ⟨rfl, rfl, rfl, by decide +kernel, rfl, by decide +kernel, by decide +kernel⟩
abbrev s_parts : Stmt := top 31
def d_parts : He.DefD := ⟨("parts", none), "parts", "parts", defArgs s_parts, defBody s_parts, defScope s_parts, [], []⟩
theorem sc_parts : FnScope N_parts ["net", "ring"] (defScope s_parts) := ⟨rfl, rfl, rfl, by decide +kernel, rfl, by decide +kernel, by decide +kernel⟩
abbrev s_l_length : Stmt := top 37
def d_l_length : He.DefD := ⟨("_law_length", none), "_law_length", "_law_length", defArgs s_l_length, defBody s_l_length, defScope s_l_length, [], []⟩
theorem sc_l_length : FnScope N_l_length ["_law_pool_here"] (defScope s_l_length) := ⟨rfl, rfl, rfl, by decide +kernel, rfl, by decide +kernel, by decide +kernel⟩
abbrev s_l_many : Stmt := top 38
def d_l_many : He.DefD := ⟨("_law_many", none), "_law_many", "_law_many", defArgs s_l_many, defBody s_l_many, defScope s_l_many, [], []⟩
theorem sc_l_many : FnScope N_l_many ["_law_pool_here"] (defScope s_l_many) := ⟨rfl, rfl, rfl, by decide +kernel, rfl, by decide +kernel, by decide +kernel⟩
abbrev s_l_count : Stmt := top 39
def d_l_count : He.DefD := ⟨("_law_count", none), "_law_count", "_law_count", defArgs s_l_count, defBody s_l_count, defScope s_l_count, [], []⟩
theorem sc_l_count : FnScope N_l_count ["_law_pool_here", "_law_many_here"] (defScope s_l_count) := ⟨rfl, rfl, rfl, by decide +kernel, rfl, by decide +kernel, by decide +kernel⟩
abbrev s_l_any_spans : Stmt := top 40
def d_l_any_spans : He.DefD := ⟨("_law_any_spans", none), "_law_any_spans", "_law_any_spans", defArgs s_l_any_spans, defBody s_l_any_spans, defScope s_l_any_spans, [], []⟩
theorem sc_l_any_spans : FnScope N_l_any_spans ["_law_pool_here", "_law_length_here", "_law_many_here", "_law_count_here"] (defScope s_l_any_spans) := ⟨rfl, rfl, rfl, by decide +kernel, rfl, by decide +kernel, by decide +kernel⟩
abbrev s_l_step_ends : Stmt := top 41
def d_l_step_ends : He.DefD := ⟨("_law_step_ends", none), "_law_step_ends", "_law_step_ends", defArgs s_l_step_ends, defBody s_l_step_ends, defScope s_l_step_ends, [], []⟩
theorem sc_l_step_ends : FnScope N_l_step_ends ["_law_spans", "_law_step"] (defScope s_l_step_ends) := ⟨rfl, rfl, rfl, by decide +kernel, rfl, by decide +kernel, by decide +kernel⟩
abbrev s_l_bad : Stmt := top 42
def d_l_bad : He.DefD := ⟨("_law_bad", none), "_law_bad", "_law_bad", defArgs s_l_bad, defBody s_l_bad, defScope s_l_bad, [], []⟩
theorem sc_l_bad : FnScope N_l_bad ["_law_spans", "_law_steps_here"] (defScope s_l_bad) := ⟨rfl, rfl, rfl, by decide +kernel, rfl, by decide +kernel, by decide +kernel⟩
abbrev s_l_walked : Stmt := top 43
def d_l_walked : He.DefD := ⟨("_law_walked", none), "_law_walked", "_law_walked", defArgs s_l_walked, defBody s_l_walked, defScope s_l_walked, [], []⟩
theorem sc_l_walked : FnScope N_l_walked ["_law_pool_here", "_law_many_here", "_law_spans", "_law_size"] (defScope s_l_walked) := ⟨rfl, rfl, rfl, by decide +kernel, rfl, by decide +kernel, by decide +kernel⟩
abbrev s_l_back : Stmt := top 44
def d_l_back : He.DefD := ⟨("_law_back", none), "_law_back", "_law_back", defArgs s_l_back, defBody s_l_back, defScope s_l_back, [], []⟩
theorem sc_l_back : FnScope N_l_back ["_law_steps_here"] (defScope s_l_back) := ⟨rfl, rfl, rfl, by decide +kernel, rfl, by decide +kernel, by decide +kernel⟩
abbrev s_l_any_step : Stmt := top 45
def d_l_any_step : He.DefD := ⟨("_law_any_step", none), "_law_any_step", "_law_any_step", defArgs s_l_any_step, defBody s_l_any_step, defScope s_l_any_step, [], []⟩
theorem sc_l_any_step : FnScope N_l_any_step ["_law_pool_here", "_law_count_here"] (defScope s_l_any_step) := ⟨rfl, rfl, rfl, by decide +kernel, rfl, by decide +kernel, by decide +kernel⟩
abbrev s_l_steps : Stmt := top 46
def d_l_steps : He.DefD := ⟨("_law_steps", none), "_law_steps", "_law_steps", defArgs s_l_steps, defBody s_l_steps, defScope s_l_steps, [], []⟩
theorem sc_l_steps : FnScope N_l_steps ["_law_pool_here", "_law_many_here", "_law_spans"] (defScope s_l_steps) := ⟨rfl, rfl, rfl, by decide +kernel, rfl, by decide +kernel, by decide +kernel⟩
abbrev s_l_ends_told : Stmt := top 47
def d_l_ends_told : He.DefD := ⟨("_law_ends_told", none), "_law_ends_told", "_law_ends_told", defArgs s_l_ends_told, defBody s_l_ends_told, defScope s_l_ends_told, [], []⟩
theorem sc_l_ends_told : FnScope N_l_ends_told ["_law_net", "_law_steps_here"] (defScope s_l_ends_told) := ⟨rfl, rfl, rfl, by decide +kernel, rfl, by decide +kernel, by decide +kernel⟩
abbrev s_l_parts_told : Stmt := top 48
def d_l_parts_told : He.DefD := ⟨("_law_parts_told", none), "_law_parts_told", "_law_parts_told", defArgs s_l_parts_told, defBody s_l_parts_told, defScope s_l_parts_told, [], []⟩
theorem sc_l_parts_told : FnScope N_l_parts_told ["_law_net", "_law_steps_here"] (defScope s_l_parts_told) := ⟨rfl, rfl, rfl, by decide +kernel, rfl, by decide +kernel, by decide +kernel⟩
abbrev s_l_path_good : Stmt := top 49
def d_l_path_good : He.DefD := ⟨("_law_path_good", none), "_law_path_good", "_law_path_good", defArgs s_l_path_good, defBody s_l_path_good, defScope s_l_path_good, [], []⟩
theorem sc_l_path_good : FnScope N_l_path_good ["_law_net", "_law_spans", "_law_steps_here"] (defScope s_l_path_good) := ⟨rfl, rfl, rfl, by decide +kernel, rfl, by decide +kernel, by decide +kernel⟩
abbrev s_law : Stmt := top 50
def d_law : He.DefD := ⟨("law", none), "law", "law", defArgs s_law, defBody s_law, defScope s_law, [], []⟩
theorem sc_law : FnScope N_law ["_law_script"] (defScope s_law) := ⟨rfl, rfl, rfl, by decide +kernel, rfl, by decide +kernel, by decide +kernel⟩
def fn_0 : List He.DefD := [d_l_cell, d_l_pool, d_l_take, d_l_same, d_is_window, d_is_span, d_Net___init__, d_step_ends, d_path_ends, d_check_ring, d_is_ring, d_join_labels, d_Base___init__, d_parts, d_l_length, d_l_many, d_l_count, d_l_any_spans, d_l_step_ends, d_l_bad, d_l_walked, d_l_back, d_l_any_step, d_l_steps, d_l_ends_told, d_l_parts_told, d_l_path_good, d_law]
def fn : List He.DefD := fn_0
def fa_0 : List He.Fa := [.free "len", .free "abs", .glo "_law_cell", .free "int", .free "isinstance", .free "bool", .free "str", .free "list", .free "tuple", .free "range", .glo "_law_same", .int "MOST_MINUTES" 999, .glo "is_window", .int "SHORTEST_ROUND" 2, .int "LONGEST_ROUND" 60, .int "MOST_EVENTS" 12, .int "MOST_SPANS" 24, .free "enumerate", .glo "is_span", .int "FORWARD" 1, .int "BACKWARD" (-1), .glo "step_ends", .glo "BadPath", .free "super", .glo "path_ends", .glo "check_ring", .glo "join_labels", .mkr "Base", .glo "Base", .glo "_law_take"]
def fa_1 : List He.Fa := [.free "min", .glo "_law_step_ends", .glo "_law_any_step", .glo "_law_walked", .glo "_law_back", .glo "TooMany", .glo "ShutRing", .glo "BadRounds", .glo "BrokenSpan", .glo "BadTimes", .glo "UnknownEvent", .glo "UnknownSpan", .glo "BadNet", .glo "DepotError", .free "ValueError", .glo "parts", .glo "_law_bad", .glo "_law_ends_told", .glo "_law_parts_told", .glo "is_ring", .glo "_law_pool", .glo "_law_length", .glo "_law_many", .glo "_law_count", .glo "_law_any_spans", .mkr "Net", .glo "Net", .glo "_law_steps", .glo "_law_path_good", .glo "law"]
def fa_2 : List He.Fa := [.cls "Net", .noat "Net" "round_length", .noat "Net" "events", .noat "Net" "spans", .cls "Base", .noat "Base" "tree", .noat "Base" "closing", .noat "Base" "event_count", .noat "Base" "span_ends"]
def fa : List He.Fa := fa_0 ++ fa_1 ++ fa_2
def e_BadPath : Hz.ExD := ⟨"BadPath", ["place"], "BadPath.__init__", inClass (top 6) 0⟩
def fe_0 : List Hz.ExD := [e_BadPath]
def fe : List Hz.ExD := fe_0
def xf_0 : List Xf := [.xc "BadPath", .noat "BadPath" "place", .exm "BadPath" "BadPath" true, .kit "BadPath" "DepotError" true, .kitT "BadPath" "ValueError" true, .kit "BadPath" "BadNet" false, .kit "BadPath" "UnknownSpan" false, .kit "BadPath" "UnknownEvent" false, .kit "BadPath" "BadTimes" false, .kit "BadPath" "BrokenSpan" false, .kit "BadPath" "BadRounds" false, .kit "BadPath" "ShutRing" false, .kit "BadPath" "TooMany" false]
def xf : List Xf := xf_0
abbrev PP : Program := PySem.Challenge.pw_depotday_k15_paths_and_rings
abbrev FZ (K : PySem.W.Frag) (mg : Str → Option Value) : Prop := Fz (PP.main.file : Str) fe xf fa fn K mg
theorem netK {K : PySem.W.Frag} {mg : Str → Option Value} (c : FZ K mg) : NetK K := ⟨c.cls 60, c.noat 61, c.noat 62, c.noat 63⟩
theorem baseK {K : PySem.W.Frag} {mg : Str → Option Value} (c : FZ K mg) : BaseK K := ⟨c.cls 64, c.noat 65, c.noat 66, c.noat 67, c.noat 68⟩
theorem pathK {K : PySem.W.Frag} {mg : Str → Option Value} (c : FZ K mg) : PathK K := ⟨c.exm 2, c.kit 3, c.kitT 4, c.kit 5, c.kit 6, c.kit 7, c.kit 8, c.kit 9, c.kit 10, c.kit 11, c.kit 12⟩
theorem xk_BadPath {w : World} {K : PySem.W.Frag} {mg : Str → Option Value} (c : FZ K mg) : ExcK PP w K mg "BadPath" ["place"] := by
  obtain ⟨h1, h2⟩ := c.more.e 0 (e := e_BadPath) rfl
  obtain ⟨cc, cda, T, C0, hno, g1, g2⟩ := Hz.tx_of (prog := PP) h1 h2
  refine ⟨c.glo 22, c.free 23, C0, fun us hl hf => ?_⟩
  match us, hl, hf with
  | [v0], _, hf =>
    intro A R hp g d t os mg mb x t0 X G hx hnx hxC hroom hq
    exact Exs.init1 (f := "place") T ⟨⟨_, rfl, rfl⟩, rfl, rfl, rfl, rfl, by decide +kernel⟩ (hno _ (by simp [e_BadPath])) rfl (by decide) (by decide) (by decide) (by decide +kernel) rfl rfl (fun _ _ _ _ _ => rfl) (fun _ => rfl) (fun _ => rfl) (fun _ => rfl) (fun _ => rfl) (hf _ (by simp)) X G hx hnx hxC hroom hq
end Cl

/-! ## Ok -/

namespace Cl
open PySem PySem.Spec PyProof.Rows L2
section
variable {w : World} {K : PySem.W.Frag} {mg : Str → Option Value} {base : Heap}
theorem ok_l_cell_fd (c : FZ K mg) {fd : FuncData} (F' : FunD K "_law_cell" "_law_cell" (defArgs s_l_cell) (defBody s_l_cell) (defScope s_l_cell) [] [] (He.fAd K ("_law_cell", none)) fd) : FnOk PP w K mg base CX0 1 (He.fAd K ("_law_cell", none)) fd ["_law_script", "_law_k"] (sp_l_cell K) := by
  refine F'.ok sc_l_cell (fun vs H Q E h => len_l_cell h) (fun cdv A outer s H vs Q E hr h => ⟨t_l_cell K, PSs.nox ?_, pure_l_cell h⟩)
  exact (pss_cons (ps_if (pt_cmpR op_lt (pv 1) (pe_callB cl_len (by rfl) (c.free 0) (by decide +kernel) (pa_cons (pv 0) pa_nil)) (nomark _)) (pss_one (ps_ret (pe_callB cl_abs (by rfl) (c.free 1) (by decide +kernel) (pa_cons (pe_ix ix_list (pv 0) (pv 1) (fun _ _ => rfl)) pa_nil)))) pss_nil)
      (pss_one (ps_ret pe_int)))
theorem ok_l_cell (c : FZ K mg) : FnX PP w K mg base CX0 1 ("_law_cell", none) ["_law_script", "_law_k"] (sp_l_cell K) := by
  obtain ⟨fd, F⟩ := c.says.def_ 0 (d := d_l_cell) rfl
  have F' : FunD K "_law_cell" "_law_cell" (defArgs s_l_cell) (defBody s_l_cell) (defScope s_l_cell) [] [] (He.fAd K ("_law_cell", none)) fd := F
  exact ⟨⟨fd, ok_l_cell_fd c F', F'.bindsN fun _ _ _ _ _ _ us hl => match us, hl with | [_, _], _ => rfl⟩, F'.kp⟩
theorem ok_l_pool_fd (c : FZ K mg) {fd : FuncData} (F' : FunD K "_law_pool" "_law_pool" (defArgs s_l_pool) (defBody s_l_pool) (defScope s_l_pool) [] [] (He.fAd K ("_law_pool", none)) fd) : FnOk PP w K mg base CX0 2 (He.fAd K ("_law_pool", none)) fd ["_law_script", "_law_k"] (sp_l_pool K) := by
  refine F'.ok sc_l_pool (fun vs H Q E h => len_l_pool h) (fun cdv A outer s H vs Q E hr h => ⟨t_l_pool K, PSs.nox ?_, pure_l_pool h⟩)
  exact (pss_cons (ps_set (i := 2) sc_l_pool.nd rfl (by first | exact Or.inl rfl | exact Or.inr rfl) (pcall (ok_l_cell c) (hr.mono (by decide)) (by rfl) (c.glo 2) pass0 (pa_cons (pv 0) (pa_cons (pv 1) pa_nil))))
      (pss_one (ps_ret (pe_lst (pa_cons (pv 2) (pa_cons (pe_callTy cl_int1 (by rfl) (c.free 3) (by decide +kernel) (pa_cons (pe_cmpR op_ge (pv 2) (pe_op op_pow pe_int pe_int) (nomark _)) pa_nil)) (pa_cons (pe_op op_mul pe_int (pv 1)) pa_nil)))))))
theorem ok_l_pool (c : FZ K mg) : FnX PP w K mg base CX0 2 ("_law_pool", none) ["_law_script", "_law_k"] (sp_l_pool K) := by
  obtain ⟨fd, F⟩ := c.says.def_ 1 (d := d_l_pool) rfl
  have F' : FunD K "_law_pool" "_law_pool" (defArgs s_l_pool) (defBody s_l_pool) (defScope s_l_pool) [] [] (He.fAd K ("_law_pool", none)) fd := F
  exact ⟨⟨fd, ok_l_pool_fd c F', F'.bindsN fun _ _ _ _ _ _ us hl => match us, hl with | [_, _], _ => rfl⟩, F'.kp⟩
theorem ok_l_take_fd (c : FZ K mg) {fd : FuncData} (F' : FunD K "_law_take" "_law_take" (defArgs s_l_take) (defBody s_l_take) (defScope s_l_take) [] [] (He.fAd K ("_law_take", none)) fd) : FnOk PP w K mg base CX0 1 (He.fAd K ("_law_take", none)) fd ["_law_pool_here", "_law_many_here"] (sp_l_take) := by
  refine F'.ok sc_l_take (fun vs H Q E h => len_l_take h) (fun cdv A outer s H vs Q E hr h => ⟨t_l_take K, PSs.nox ?_, pure_l_take h⟩)
  exact (pss_cons (ps_if (PW.pt (pw_and (pt_cmpR op_eq (pe_ix ix_list (pv 0) pe_int (fun _ _ => rfl)) pe_int (nomark _)) (pw_and1 (pt_cmpR op_gt (pe_ix ix_list (pv 0) pe_int (fun _ _ => rfl)) pe_int (nomark _))))) (pss_cons (ps_set (i := 3) sc_l_take.nd rfl (by first | exact Or.inl rfl | exact Or.inr rfl) (pe_op op_mod (pe_callTy cl_int1 (by rfl) (c.free 3) (by decide +kernel) (pa_cons (pe_ix ix_list (pv 0) pe_int (fun _ _ => rfl)) pa_nil)) (pv 1)))
      (pss_cons (ps_asg (pe_op op_fdivB (pe_ix ix_list (pv 0) pe_int (fun _ _ => rfl)) (pv 1)) (pg_sub (pv 0) pe_int set_list))
      (pss_one (ps_ret (pv 3))))) pss_nil)
      (pss_cons (ps_asg (pe_op op_add (pe_ix ix_list (pv 0) pe_int (fun _ _ => rfl)) pe_int) (pg_sub (pv 0) pe_int set_list))
      (pss_cons (ps_set (i := 2) sc_l_take.nd rfl (by first | exact Or.inl rfl | exact Or.inr rfl) (pe_op op_mod (pe_callTy cl_int1 (by rfl) (c.free 3) (by decide +kernel) (pa_cons (pe_op op_add (pe_op op_mul (pe_op op_add (pe_ix ix_list (pv 0) pe_int (fun _ _ => rfl)) pe_int) pe_int) (pe_op op_mul (pe_ix ix_list (pv 0) pe_int (fun _ _ => rfl)) pe_int)) pa_nil)) pe_int))
      (pss_cons (ps_set (i := 2) sc_l_take.nd rfl (by first | exact Or.inl rfl | exact Or.inr rfl) (pe_op op_mod (pe_callTy cl_int1 (by rfl) (c.free 3) (by decide +kernel) (pa_cons (pe_op op_add (pe_op op_mul (pv 2) pe_int) (pe_op op_mul (pe_ix ix_list (pv 0) pe_int (fun _ _ => rfl)) pe_int)) pa_nil)) pe_int))
      (pss_cons (ps_if (pt_cmpR op_gt (pe_ix ix_list (pv 0) pe_int (fun _ _ => rfl)) pe_int (nomark _)) (pss_one (ps_set (i := 2) sc_l_take.nd rfl (by first | exact Or.inl rfl | exact Or.inr rfl) (pe_op op_mod (pe_callTy cl_int1 (by rfl) (c.free 3) (by decide +kernel) (pa_cons (pe_op op_mul (pe_op op_fdivB (pv 2) pe_int) (pe_op op_add (pe_op op_add (pe_op op_fdivB (pv 2) pe_int) (pe_ix ix_list (pv 0) pe_int (fun _ _ => rfl))) pe_int)) pa_nil)) pe_int))) pss_nil)
      (pss_one (ps_ret (pe_op op_mod (pe_callTy cl_int1 (by rfl) (c.free 3) (by decide +kernel) (pa_cons (pe_op op_fdivB (pv 2) pe_int) pa_nil)) (pv 1)))))))))
theorem ok_l_take (c : FZ K mg) : FnX PP w K mg base CX0 1 ("_law_take", none) ["_law_pool_here", "_law_many_here"] (sp_l_take) := by
  obtain ⟨fd, F⟩ := c.says.def_ 2 (d := d_l_take) rfl
  have F' : FunD K "_law_take" "_law_take" (defArgs s_l_take) (defBody s_l_take) (defScope s_l_take) [] [] (He.fAd K ("_law_take", none)) fd := F
  exact ⟨⟨fd, ok_l_take_fd c F', F'.bindsN fun _ _ _ _ _ _ us hl => match us, hl with | [_, _], _ => rfl⟩, F'.kp⟩
theorem ok_l_same_st (c : FZ K mg) {fd : FuncData} (F' : FunD K "_law_same" "_law_same" (defArgs s_l_same) (defBody s_l_same) (defScope s_l_same) [] [] (He.fAd K ("_law_same", none)) fd) (n : Nat) (ih : FnX PP w K mg base CX0 n ("_law_same", none) ["_law_got", "_law_due"] (sp_l_same_r n)) : FnOk PP w K mg base CX0 (n + 1) (He.fAd K ("_law_same", none)) fd ["_law_got", "_law_due"] (sp_l_same_n n) := by
  refine F'.ok sc_l_same (fun vs H Q E h => len_l_same h) (fun cdv A outer s H vs Q E hr h => ⟨t_l_same K (sp_l_same_r n), PSs.nox ?_, pure_l_same h⟩)
  exact (pss_cons (ps_if (PW.pt (pw_or (pt_val (pe_callB call_isi (by rfl) (c.free 4) (by decide +kernel) (pa_cons (pv 0) (pa_cons (pe_bltn (v := .ty "bool") (by rfl) (c.free 5) (by decide +kernel) rfl) pa_nil)))) (pw_or1 (pt_val (pe_callB call_isi (by rfl) (c.free 4) (by decide +kernel) (pa_cons (pv 1) (pa_cons (pe_bltn (v := .ty "bool") (by rfl) (c.free 5) (by decide +kernel) rfl) pa_nil))))))) (pss_one (ps_ret (pe_and (pe_callB call_isi (by rfl) (c.free 4) (by decide +kernel) (pa_cons (pv 0) (pa_cons (pe_bltn (v := .ty "bool") (by rfl) (c.free 5) (by decide +kernel) rfl) pa_nil))) (pe_and (pe_callB call_isi (by rfl) (c.free 4) (by decide +kernel) (pa_cons (pv 1) (pa_cons (pe_bltn (v := .ty "bool") (by rfl) (c.free 5) (by decide +kernel) rfl) pa_nil))) (pe_one (pe_cmpR op_eq (pv 0) (pv 1) (nomark _))))))) pss_nil)
      (pss_cons (ps_if (PW.pt (pw_or (pt_cmpR op_isN1 (pv 0) pe_non (nomark _)) (pw_or1 (pt_cmpR op_isN1 (pv 1) pe_non (nomark _))))) (pss_one (ps_ret (pe_and (pe_cmpR op_isN1 (pv 0) pe_non (nomark _)) (pe_one (pe_cmpR op_isN1 (pv 1) pe_non (nomark _)))))) pss_nil)
      (pss_cons (ps_if (pt_val (pe_callB call_isi (by rfl) (c.free 4) (by decide +kernel) (pa_cons (pv 1) (pa_cons (pe_bltn (v := .ty "int") (by rfl) (c.free 3) (by decide +kernel) rfl) pa_nil)))) (pss_one (ps_ret (pe_and (pe_callB call_isi (by rfl) (c.free 4) (by decide +kernel) (pa_cons (pv 0) (pa_cons (pe_bltn (v := .ty "int") (by rfl) (c.free 3) (by decide +kernel) rfl) pa_nil))) (pe_one (pe_cmpR op_eq (pv 0) (pv 1) (nomark _)))))) pss_nil)
      (pss_cons (ps_if (pt_val (pe_callB call_isi (by rfl) (c.free 4) (by decide +kernel) (pa_cons (pv 1) (pa_cons (pe_bltn (v := .ty "str") (by rfl) (c.free 6) (by decide +kernel) rfl) pa_nil)))) (pss_one (ps_ret (pe_and (pe_callB call_isi (by rfl) (c.free 4) (by decide +kernel) (pa_cons (pv 0) (pa_cons (pe_bltn (v := .ty "str") (by rfl) (c.free 6) (by decide +kernel) rfl) pa_nil))) (pe_one (pe_cmpR op_eq (pv 0) (pv 1) (nomark _)))))) pss_nil)
      (pss_cons (ps_if (PW.pt (pw_and (pt_val (pe_callB call_isi (by rfl) (c.free 4) (by decide +kernel) (pa_cons (pv 1) (pa_cons (pe_bltn (v := .ty "list") (by rfl) (c.free 7) (by decide +kernel) rfl) pa_nil)))) (pw_and1 (pt_not (pt_val (pe_callB call_isi (by rfl) (c.free 4) (by decide +kernel) (pa_cons (pv 0) (pa_cons (pe_bltn (v := .ty "list") (by rfl) (c.free 7) (by decide +kernel) rfl) pa_nil)))))))) (pss_one (ps_ret pe_bl)) pss_nil)
      (pss_cons (ps_if (PW.pt (pw_and (pt_val (pe_callB call_isi (by rfl) (c.free 4) (by decide +kernel) (pa_cons (pv 1) (pa_cons (pe_bltn (v := .ty "tuple") (by rfl) (c.free 8) (by decide +kernel) rfl) pa_nil)))) (pw_and1 (pt_not (pt_val (pe_callB call_isi (by rfl) (c.free 4) (by decide +kernel) (pa_cons (pv 0) (pa_cons (pe_bltn (v := .ty "tuple") (by rfl) (c.free 8) (by decide +kernel) rfl) pa_nil)))))))) (pss_one (ps_ret pe_bl)) pss_nil)
      (pss_cons (ps_if (pt_cmpR op_ne (pe_callB cl_len (by rfl) (c.free 0) (by decide +kernel) (pa_cons (pv 0) pa_nil)) (pe_callB cl_len (by rfl) (c.free 0) (by decide +kernel) (pa_cons (pv 1) pa_nil)) (nomark _)) (pss_one (ps_ret pe_bl)) pss_nil)
      (pss_cons (ps_for PassesOwn.never rfl (pi_range1 (by rfl) (c.free 9) (pa_cons (pe_callB cl_len (by rfl) (c.free 0) (by decide +kernel) (pa_cons (pv 1) pa_nil)) pa_nil)) (pg_name (i := 2) sc_l_same.nd rfl (by first | exact Or.inl rfl | exact Or.inr rfl)) (pss_one (ps_if (pt_not (pt_val (pcall (ih) (hr.mono (by omega)) (by rfl) (c.glo 10) pass0 (pa_cons (pe_ix ix_seq (pv 0) (pv 2) (fun _ _ => rfl)) (pa_cons (pe_ix ix_seq (pv 1) (pv 2) (fun _ _ => rfl)) pa_nil))))) (pss_one (ps_ret pe_bl)) pss_nil)))
      (pss_one (ps_ret pe_bl))))))))))
theorem ok_l_same_fd (c : FZ K mg) {fd : FuncData} (F' : FunD K "_law_same" "_law_same" (defArgs s_l_same) (defBody s_l_same) (defScope s_l_same) [] [] (He.fAd K ("_law_same", none)) fd) : ∀ n, FnOk PP w K mg base CX0 (n + 1) (He.fAd K ("_law_same", none)) fd ["_law_got", "_law_due"] (sp_l_same_n n) := by
  have bn : Binds K fd ["_law_got", "_law_due"] [] := F'.bindsN fun _ _ _ _ _ _ us hl => match us, hl with | [_, _], _ => rfl
  intro n
  induction n with
  | zero => exact ok_l_same_st c F' 0 ⟨⟨fd, ⟨fun _ _ _ _ h => h.elim, fun _ _ _ _ _ _ _ _ _ _ _ _ _ h => h.elim⟩, bn⟩, F'.kp⟩
  | succ n ih => exact ok_l_same_st c F' (n + 1) ⟨⟨fd, ih, bn⟩, F'.kp⟩
theorem ok_l_same (c : FZ K mg) : FnX PP w K mg base CX0 8 ("_law_same", none) ["_law_got", "_law_due"] sp_l_same := by
  obtain ⟨fd, F⟩ := c.says.def_ 3 (d := d_l_same) rfl
  have F' : FunD K "_law_same" "_law_same" (defArgs s_l_same) (defBody s_l_same) (defScope s_l_same) [] [] (He.fAd K ("_law_same", none)) fd := F
  have bn : Binds K fd ["_law_got", "_law_due"] [] := F'.bindsN fun _ _ _ _ _ _ us hl => match us, hl with | [_, _], _ => rfl
  exact ⟨⟨fd, ⟨fun vs H Q E ⟨n, _, h⟩ => (ok_l_same_fd (w := w) (base := base) c F' n).len vs H Q E h, fun A outer s H args us vs Q E hr he hb hv ⟨n, hn, h⟩ => (ok_l_same_fd c F' n).run A outer s H args us vs Q E (hr.mono hn) he hb hv h⟩, bn⟩, F'.kp⟩
theorem ok_is_window_fd (c : FZ K mg) {fd : FuncData} (F' : FunD K "is_window" "is_window" (defArgs s_is_window) (defBody s_is_window) (defScope s_is_window) [] [] (He.fAd K ("is_window", none)) fd) : FnOk PP w K mg base CX0 1 (He.fAd K ("is_window", none)) fd ["round_length", "least", "most", "limit"] (sp_is_window) := by
  refine F'.ok sc_is_window (fun vs H Q E h => len_is_window h) (fun cdv A outer s H vs Q E hr h => ⟨t_is_window K, PSs.nox ?_, pure_is_window h⟩)
  exact (pss_one (ps_ret (pe_and (pe_chain3 op_le op_le op_le pe_int (pv 1) (pv 2) (pe_op op_sub (pe_op op_add (pv 1) (pv 0)) pe_int)) (pe_one (pe_cmpR op_le (pv 2) (pv 3) (nomark _))))))
theorem ok_is_window (c : FZ K mg) : FnX PP w K mg base CX0 1 ("is_window", none) ["round_length", "least", "most", "limit"] (sp_is_window) := by
  obtain ⟨fd, F⟩ := c.says.def_ 4 (d := d_is_window) rfl
  have F' : FunD K "is_window" "is_window" (defArgs s_is_window) (defBody s_is_window) (defScope s_is_window) [] [] (He.fAd K ("is_window", none)) fd := F
  exact ⟨⟨fd, ok_is_window_fd c F', F'.bindsN fun _ _ _ _ _ _ us hl => match us, hl with | [_, _, _, _], _ => rfl⟩, F'.kp⟩
theorem ok_is_span_fd (c : FZ K mg) {fd : FuncData} (F' : FunD K "is_span" "is_span" (defArgs s_is_span) (defBody s_is_span) (defScope s_is_span) [] [] (He.fAd K ("is_span", none)) fd) : FnOk PP w K mg base CX0 2 (He.fAd K ("is_span", none)) fd ["round_length", "events", "span"] (sp_is_span K) := by
  refine F'.ok sc_is_span (fun vs H Q E h => len_is_span h) (fun cdv A outer s H vs Q E hr h => ⟨t_is_span K, PSs.nox ?_, pure_is_span h⟩)
  exact (pss_cons (ps_if (pt_cmpR op_ne (pe_callB cl_len (by rfl) (c.free 0) (by decide +kernel) (pa_cons (pv 2) pa_nil)) pe_int (nomark _)) (pss_one (ps_ret pe_bl)) pss_nil)
      (pss_cons (ps_asg (pv 2) (pg_tup rfl (pgs_cons (pg_name (i := 3) sc_is_span.nd rfl (by first | exact Or.inl rfl | exact Or.inr rfl)) (pgs_cons (pg_name (i := 4) sc_is_span.nd rfl (by first | exact Or.inl rfl | exact Or.inr rfl)) (pgs_cons (pg_name (i := 5) sc_is_span.nd rfl (by first | exact Or.inl rfl | exact Or.inr rfl)) (pgs_cons (pg_name (i := 6) sc_is_span.nd rfl (by first | exact Or.inl rfl | exact Or.inr rfl)) pgs_nil))))))
      (pss_cons (ps_if (PW.pt (pw_or (pt_not (pt_chain op_le op_lt pe_int (pv 3) (pv 1))) (pw_or (pt_not (pt_chain op_le op_lt pe_int (pv 4) (pv 1))) (pw_or1 (pt_cmpR op_eq (pv 3) (pv 4) (nomark _)))))) (pss_one (ps_ret pe_bl)) pss_nil)
      (pss_one (ps_ret (pcall (ok_is_window c) (hr.mono (by decide)) (by rfl) (c.glo 12) pass0 (pa_cons (pv 0) (pa_cons (pv 5) (pa_cons (pv 6) (pa_cons (pgi (by rfl) (c.int 11)) pa_nil))))))))))
theorem ok_is_span (c : FZ K mg) : FnX PP w K mg base CX0 2 ("is_span", none) ["round_length", "events", "span"] (sp_is_span K) := by
  obtain ⟨fd, F⟩ := c.says.def_ 5 (d := d_is_span) rfl
  have F' : FunD K "is_span" "is_span" (defArgs s_is_span) (defBody s_is_span) (defScope s_is_span) [] [] (He.fAd K ("is_span", none)) fd := F
  exact ⟨⟨fd, ok_is_span_fd c F', F'.bindsN fun _ _ _ _ _ _ us hl => match us, hl with | [_, _, _], _ => rfl⟩, F'.kp⟩
theorem ok_Net___init___fd (c : FZ K mg) {fd : FuncData} (F' : FunD K "__init__" "Net.__init__" (defArgs s_Net___init__) (defBody s_Net___init__) (defScope s_Net___init__) [] [] (He.fAd K ("Net", some "__init__")) fd) : FnOk PP w K mg base CX0 3 (He.fAd K ("Net", some "__init__")) fd ["self", "round_length", "events", "spans"] (sp_Net___init__ K) := by
  refine F'.ok sc_Net___init__ (fun vs H Q E h => len_Net___init__ h) (fun cdv A outer s H vs Q E hr h => ⟨t_Net___init__ K, PSs.nox ?_, pure_Net___init__ (netK c) h⟩)
  exact (pss_cons (ps_if (pt_not (pt_chain op_le op_le (pgi (by rfl) (c.int 13)) (pv 1) (pgi (by rfl) (c.int 14)))) (pss_one ps_never) pss_nil)
      (pss_cons (ps_if (pt_not (pt_chain op_le op_le pe_int (pv 2) (pgi (by rfl) (c.int 15)))) (pss_one ps_never) pss_nil)
      (pss_cons (ps_if (pt_cmpR op_gt (pe_callB cl_len (by rfl) (c.free 0) (by decide +kernel) (pa_cons (pv 3) pa_nil)) (pgi (by rfl) (c.int 16)) (nomark _)) (pss_one ps_never) pss_nil)
      (pss_cons (ps_for PassesOwn.never rfl (pi_enum (by rfl) (c.free 17) (pa_cons (pv 3) pa_nil)) (pg_tup rfl (pgs_cons (pg_name (i := 4) sc_Net___init__.nd rfl (by first | exact Or.inl rfl | exact Or.inr rfl)) (pgs_cons (pg_name (i := 5) sc_Net___init__.nd rfl (by first | exact Or.inl rfl | exact Or.inr rfl)) pgs_nil))) (pss_one (ps_if (pt_not (pt_val (pcall (ok_is_span c) (hr.mono (by decide)) (by rfl) (c.glo 18) pass0 (pa_cons (pv 1) (pa_cons (pv 2) (pa_cons (pv 5) pa_nil)))))) (pss_one ps_never) pss_nil)))
      (pss_cons (ps_fld (pv 0) (pv 1) rfl)
      (pss_cons (ps_fld (pv 0) (pv 2) rfl)
      (pss_one (ps_fld (pv 0) (pe_callTy cl_tuple (by rfl) (c.free 8) (by decide +kernel) (pa_cons (pe_lc (own := [("span", 5)]) (g := (gName 5)) (tt := tYes) rfl sc_Net___init__.nd (pi_list (pv 3)) (blkOk_by (own := [("span", 5)]) (N := N_Net___init__) (sc := defScope s_Net___init__) (by decide +kernel)) (fun _ _ _ _ _ => (pg_name (i := 5) sc_Net___init__.nd rfl (by first | exact Or.inl rfl | exact Or.inr rfl))) (fun _ _ _ _ _ => pts_nil) (fun _ _ _ _ _ => (pe_callTy cl_tuple (by rfl) (c.free 8) (by decide +kernel) (pa_cons (pv 5) pa_nil)))) pa_nil)) rfl))))))))
theorem ok_Net___init__ (c : FZ K mg) : FnX PP w K mg base CX0 3 ("Net", some "__init__") ["self", "round_length", "events", "spans"] (sp_Net___init__ K) := by
  obtain ⟨fd, F⟩ := c.says.def_ 6 (d := d_Net___init__) rfl
  have F' : FunD K "__init__" "Net.__init__" (defArgs s_Net___init__) (defBody s_Net___init__) (defScope s_Net___init__) [] [] (He.fAd K ("Net", some "__init__")) fd := F
  exact ⟨⟨fd, ok_Net___init___fd c F', F'.bindsN fun _ _ _ _ _ _ us hl => match us, hl with | [_, _, _, _], _ => rfl⟩, F'.kp⟩
theorem ok_step_ends_fd (c : FZ K mg) {fd : FuncData} (F' : FunD K "step_ends" "step_ends" (defArgs s_step_ends) (defBody s_step_ends) (defScope s_step_ends) [] [] (He.fAd K ("step_ends", none)) fd) : FnOk PP w K mg base CX0 1 (He.fAd K ("step_ends", none)) fd ["net", "step"] (sp_step_ends K) := by
  refine F'.ok sc_step_ends (fun vs H Q E h => len_step_ends h) (fun cdv A outer s H vs Q E hr h => ⟨t_step_ends K, PSs.nox ?_, pure_step_ends (netK c) h⟩)
  exact (pss_cons (ps_asg (pv 1) (pg_tup rfl (pgs_cons (pg_name (i := 2) sc_step_ends.nd rfl (by first | exact Or.inl rfl | exact Or.inr rfl)) (pgs_cons (pg_name (i := 3) sc_step_ends.nd rfl (by first | exact Or.inl rfl | exact Or.inr rfl)) pgs_nil))))
      (pss_cons (ps_if (PW.pt (pw_or (pt_not (pt_chain op_le op_lt pe_int (pv 2) (pe_callB cl_len (by rfl) (c.free 0) (by decide +kernel) (pa_cons (pe_fld (pv 0) rfl) pa_nil)))) (pw_or1 (pt_cmpR op_notIn_seq (pv 3) (pe_tup (pa_cons (pgi (by rfl) (c.int 19)) (pa_cons (pgi (by rfl) (c.int 20)) pa_nil))) (by rfl))))) (pss_one (ps_ret pe_non)) pss_nil)
      (pss_cons (ps_asg (pe_slice sl_tup (pe_ix ix_tup (pe_fld (pv 0) rfl) (pv 2) (fun _ _ => rfl)) po_none (po_some pe_int)) (pg_tup rfl (pgs_cons (pg_name (i := 4) sc_step_ends.nd rfl (by first | exact Or.inl rfl | exact Or.inr rfl)) (pgs_cons (pg_name (i := 5) sc_step_ends.nd rfl (by first | exact Or.inl rfl | exact Or.inr rfl)) pgs_nil))))
      (pss_cons (ps_if (pt_cmpR op_eq (pv 3) (pgi (by rfl) (c.int 19)) (nomark _)) (pss_one (ps_ret (pe_tup (pa_cons (pv 4) (pa_cons (pv 5) pa_nil))))) pss_nil)
      (pss_one (ps_ret (pe_tup (pa_cons (pv 5) (pa_cons (pv 4) pa_nil)))))))))
theorem ok_step_ends (c : FZ K mg) : FnX PP w K mg base CX0 1 ("step_ends", none) ["net", "step"] (sp_step_ends K) := by
  obtain ⟨fd, F⟩ := c.says.def_ 7 (d := d_step_ends) rfl
  have F' : FunD K "step_ends" "step_ends" (defArgs s_step_ends) (defBody s_step_ends) (defScope s_step_ends) [] [] (He.fAd K ("step_ends", none)) fd := F
  exact ⟨⟨fd, ok_step_ends_fd c F', F'.bindsN fun _ _ _ _ _ _ us hl => match us, hl with | [_, _], _ => rfl⟩, F'.kp⟩
theorem ok_path_ends_fd (c : FZ K mg) {fd : FuncData} (F' : FunD K "path_ends" "path_ends" (defArgs s_path_ends) (defBody s_path_ends) (defScope s_path_ends) [] [] (He.fAd K ("path_ends", none)) fd) : FnOk PP w K mg base (L2.CX PP w) 3 (He.fAd K ("path_ends", none)) fd ["net", "path"] (sp_path_ends K) := by
  refine F'.ok sc_path_ends (fun vs H Q E h => len_path_ends h) (fun cdv A outer s H vs Q E hr h => ⟨t_path_ends K E, ?_, pure_path_ends (netK c) h⟩)
  exact (pss_cons (ps_set (i := 2) sc_path_ends.nd rfl (by first | exact Or.inl rfl | exact Or.inr rfl) pe_non)
      (pss_cons (ps_for (passes_of rfl) rfl (pi_enum (by rfl) (c.free 17) (pa_cons (pv 1) pa_nil)) (pg_tup rfl (pgs_cons (pg_name (i := 3) sc_path_ends.nd rfl (by first | exact Or.inl rfl | exact Or.inr rfl)) (pgs_cons (pg_name (i := 4) sc_path_ends.nd rfl (by first | exact Or.inl rfl | exact Or.inr rfl)) pgs_nil))) (pss_cons (ps_set (i := 5) sc_path_ends.nd rfl (by first | exact Or.inl rfl | exact Or.inr rfl) (pcall (ok_step_ends c) (hr.mono (by decide)) (by rfl) (c.glo 21) pass0 (pa_cons (pv 0) (pa_cons (pv 4) pa_nil))))
      (pss_cons (ps_if (PW.pt (pw_or (pt_cmpR op_isN1 (pv 5) pe_non (nomark _)) (pw_or1 (PW.pt (pw_and (pt_cmpR op_notN1 (pv 2) pe_non (nomark _)) (pw_and1 (pt_cmpR op_ne (pe_ix ix_tup (pv 5) pe_int (fun _ _ => rfl)) (pe_ix ix_tup (pv 2) pe_int (fun _ _ => rfl)) (nomark _)))))))) (pss_one (praise rfl (takes_of rfl rfl rfl rfl) (pmk_exs (xk_BadPath c) (hr.mono (by decide) : Room 2 _) (by rfl) (pa_cons (pv 3) pa_nil)))) pss_nil)
      (pss_one (ps_set (i := 2) sc_path_ends.nd rfl (by first | exact Or.inl rfl | exact Or.inr rfl) (pe_ifExp (pt_cmpR op_isN1 (pv 2) pe_non (nomark _)) (pv 5) (pe_tup (pa_cons (pe_ix ix_tup (pv 2) pe_int (fun _ _ => rfl)) (pa_cons (pe_ix ix_tup (pv 5) pe_int (fun _ _ => rfl)) pa_nil)))))))))
      (pss_one (ps_ret (pv 2)))))
theorem ok_path_ends (c : FZ K mg) : FnX PP w K mg base (L2.CX PP w) 3 ("path_ends", none) ["net", "path"] (sp_path_ends K) := by
  obtain ⟨fd, F⟩ := c.says.def_ 8 (d := d_path_ends) rfl
  have F' : FunD K "path_ends" "path_ends" (defArgs s_path_ends) (defBody s_path_ends) (defScope s_path_ends) [] [] (He.fAd K ("path_ends", none)) fd := F
  exact ⟨⟨fd, ok_path_ends_fd c F', F'.bindsN fun _ _ _ _ _ _ us hl => match us, hl with | [_, _], _ => rfl⟩, F'.kp⟩
theorem ok_check_ring_fd (c : FZ K mg) {fd : FuncData} (F' : FunD K "check_ring" "check_ring" (defArgs s_check_ring) (defBody s_check_ring) (defScope s_check_ring) [] [] (He.fAd K ("check_ring", none)) fd) : FnOk PP w K mg base (L2.CX PP w) 4 (He.fAd K ("check_ring", none)) fd ["net", "path"] (sp_check_ring K) := by
  refine F'.ok sc_check_ring (fun vs H Q E h => len_check_ring h) (fun cdv A outer s H vs Q E hr h => ⟨t_check_ring K E, ?_, pure_check_ring h⟩)
  exact (pss_cons (ps_set (i := 2) sc_check_ring.nd rfl (by first | exact Or.inl rfl | exact Or.inr rfl) (pcallS (ok_path_ends c) (hr.mono (by decide)) (by rfl) (c.glo 24) (takes_of rfl rfl rfl rfl) (pa_cons (pv 0) (pa_cons (pv 1) pa_nil))))
      (pss_one (ps_if (PW.pt (pw_or (pt_cmpR op_isN1 (pv 2) pe_non (nomark _)) (pw_or1 (pt_cmpR op_ne (pe_ix ix_tup (pv 2) pe_int (fun _ _ => rfl)) (pe_ix ix_tup (pv 2) pe_int (fun _ _ => rfl)) (nomark _))))) (pss_one (praise rfl (takes_of rfl rfl rfl rfl) (pmk_exs (xk_BadPath c) (hr.mono (by decide) : Room 2 _) (by rfl) (pa_cons (pe_callB cl_len (by rfl) (c.free 0) (by decide +kernel) (pa_cons (pv 1) pa_nil)) pa_nil)))) pss_nil)))
theorem ok_check_ring (c : FZ K mg) : FnX PP w K mg base (L2.CX PP w) 4 ("check_ring", none) ["net", "path"] (sp_check_ring K) := by
  obtain ⟨fd, F⟩ := c.says.def_ 9 (d := d_check_ring) rfl
  have F' : FunD K "check_ring" "check_ring" (defArgs s_check_ring) (defBody s_check_ring) (defScope s_check_ring) [] [] (He.fAd K ("check_ring", none)) fd := F
  exact ⟨⟨fd, ok_check_ring_fd c F', F'.bindsN fun _ _ _ _ _ _ us hl => match us, hl with | [_, _], _ => rfl⟩, F'.kp⟩
theorem ok_is_ring_fd (c : FZ K mg) {fd : FuncData} (F' : FunD K "is_ring" "is_ring" (defArgs s_is_ring) (defBody s_is_ring) (defScope s_is_ring) [] [] (He.fAd K ("is_ring", none)) fd) : FnOk PP w K mg base CX0 5 (He.fAd K ("is_ring", none)) fd ["net", "path"] (sp_is_ring K) := by
  refine F'.ok sc_is_ring (fun vs H Q E h => len_is_ring h) (fun cdv A outer s H vs Q E hr h => ⟨t_is_ring K, PSs.nox ?_, pure_is_ring (pathK c) h⟩)
  exact (pss_cons (ps_try_only rfl rfl ⟨by rfl, by decide, .inl (c.glo 22)⟩ takes0 (fun W pn xe tk po => (pss_one (ps_expr (pcallS (ok_check_ring c) (hr.mono (by decide)) (by rfl) (c.glo 25) tk (pa_cons (pv 0) (pa_cons (pv 1) pa_nil)))))) (fun a oe cls d pn hz hf => (pss_one (ps_ret pe_bl))))
      (pss_one (ps_ret pe_bl)))
theorem ok_is_ring (c : FZ K mg) : FnX PP w K mg base CX0 5 ("is_ring", none) ["net", "path"] (sp_is_ring K) := by
  obtain ⟨fd, F⟩ := c.says.def_ 10 (d := d_is_ring) rfl
  have F' : FunD K "is_ring" "is_ring" (defArgs s_is_ring) (defBody s_is_ring) (defScope s_is_ring) [] [] (He.fAd K ("is_ring", none)) fd := F
  exact ⟨⟨fd, ok_is_ring_fd c F', F'.bindsN fun _ _ _ _ _ _ us hl => match us, hl with | [_, _], _ => rfl⟩, F'.kp⟩
theorem ok_join_labels_fd (c : FZ K mg) {fd : FuncData} (F' : FunD K "join_labels" "join_labels" (defArgs s_join_labels) (defBody s_join_labels) (defScope s_join_labels) [] [] (He.fAd K ("join_labels", none)) fd) : FnOk PP w K mg base CX0 1 (He.fAd K ("join_labels", none)) fd ["labels", "first", "second"] (sp_join_labels) := by
  refine F'.ok sc_join_labels (fun vs H Q E h => len_join_labels h) (fun cdv A outer s H vs Q E hr h => ⟨t_join_labels K, PSs.nox ?_, pure_join_labels h⟩)
  exact (pss_one (ps_ret (pe_lc (own := [("label", 3)]) (g := (gName 3)) (tt := tYes) rfl sc_join_labels.nd (pi_list (pv 0)) (blkOk_by (own := [("label", 3)]) (N := N_join_labels) (sc := defScope s_join_labels) (by decide +kernel)) (fun _ _ _ _ _ => (pg_name (i := 3) sc_join_labels.nd rfl (by first | exact Or.inl rfl | exact Or.inr rfl))) (fun _ _ _ _ _ => pts_nil) (fun _ _ _ _ _ => (pe_ifExp (pt_cmpR op_eq (pv 3) (pe_ix ix_list (pv 0) (pv 2) (fun _ _ => rfl)) (nomark _)) (pe_ix ix_list (pv 0) (pv 1) (fun _ _ => rfl)) (pv 3))))))
theorem ok_join_labels (c : FZ K mg) : FnX PP w K mg base CX0 1 ("join_labels", none) ["labels", "first", "second"] (sp_join_labels) := by
  obtain ⟨fd, F⟩ := c.says.def_ 11 (d := d_join_labels) rfl
  have F' : FunD K "join_labels" "join_labels" (defArgs s_join_labels) (defBody s_join_labels) (defScope s_join_labels) [] [] (He.fAd K ("join_labels", none)) fd := F
  exact ⟨⟨fd, ok_join_labels_fd c F', F'.bindsN fun _ _ _ _ _ _ us hl => match us, hl with | [_, _, _], _ => rfl⟩, F'.kp⟩
theorem ok_Base___init___fd (c : FZ K mg) {fd : FuncData} (F' : FunD K "__init__" "Base.__init__" (defArgs s_Base___init__) (defBody s_Base___init__) (defScope s_Base___init__) [] [] (He.fAd K ("Base", some "__init__")) fd) : FnOk PP w K mg base CX0 2 (He.fAd K ("Base", some "__init__")) fd ["self", "net"] (sp_Base___init__ K) := by
  refine F'.ok sc_Base___init__ (fun vs H Q E h => len_Base___init__ h) (fun cdv A outer s H vs Q E hr h => ⟨t_Base___init__ K, PSs.nox ?_, pure_Base___init__ (netK c) (baseK c) h⟩)
  exact (pss_cons (ps_set (i := 2) sc_Base___init__.nd rfl (by first | exact Or.inl rfl | exact Or.inr rfl) (pe_listRg rfl (by rfl) (c.free 7) (prg_1 (by rfl) (c.free 9) (pe_fld (pv 1) rfl))))
      (pss_cons (ps_par (i := 3) (j := 4) (by rfl) sc_Base___init__.nd rfl rfl (by decide) rfl rfl (pa_cons (pe_lst pa_nil) (pa_cons (pe_lst pa_nil) pa_nil)) (by rfl))
      (pss_cons (ps_for PassesOwn.never rfl (pi_enumT (by rfl) (c.free 17) (pa_cons (pe_fld (pv 1) rfl) pa_nil)) (pg_tup rfl (pgs_cons (pg_name (i := 5) sc_Base___init__.nd rfl (by first | exact Or.inl rfl | exact Or.inr rfl)) (pgs_cons (pg_name (i := 6) sc_Base___init__.nd rfl (by first | exact Or.inl rfl | exact Or.inr rfl)) pgs_nil))) (pss_one (ps_if (pt_cmpR op_eq (pe_ix ix_list (pv 2) (pe_ix ix_tup (pv 6) pe_int (fun _ _ => rfl)) (fun _ _ => rfl)) (pe_ix ix_list (pv 2) (pe_ix ix_tup (pv 6) pe_int (fun _ _ => rfl)) (fun _ _ => rfl)) (nomark _)) (pss_one (ps_expr (pe_bm PySem.F.plainAttrs_list PySem.F.slot_list_append PySem.F.type_list_append mt_append (pv 4) (pa_cons (pv 5) pa_nil)))) (pss_cons (ps_expr (pe_bm PySem.F.plainAttrs_list PySem.F.slot_list_append PySem.F.type_list_append mt_append (pv 3) (pa_cons (pv 5) pa_nil)))
      (pss_one (ps_set (i := 2) sc_Base___init__.nd rfl (by first | exact Or.inl rfl | exact Or.inr rfl) (pcall (ok_join_labels c) (hr.mono (by decide)) (by rfl) (c.glo 26) pass0 (pa_cons (pv 2) (pa_cons (pe_ix ix_tup (pv 6) pe_int (fun _ _ => rfl)) (pa_cons (pe_ix ix_tup (pv 6) pe_int (fun _ _ => rfl)) pa_nil))))))))))
      (pss_cons (ps_fld (pv 0) (pe_callTy cl_tuple (by rfl) (c.free 8) (by decide +kernel) (pa_cons (pv 3) pa_nil)) rfl)
      (pss_cons (ps_fld (pv 0) (pe_callTy cl_tuple (by rfl) (c.free 8) (by decide +kernel) (pa_cons (pv 4) pa_nil)) rfl)
      (pss_cons (ps_fld (pv 0) (pe_fld (pv 1) rfl) rfl)
      (pss_one (ps_fld (pv 0) (pe_callTy cl_tuple (by rfl) (c.free 8) (by decide +kernel) (pa_cons (pe_lc (own := [("span", 6)]) (g := (gName 6)) (tt := tYes) rfl sc_Base___init__.nd (pi_tup (pe_fld (pv 1) rfl)) (blkOk_by (own := [("span", 6)]) (N := N_Base___init__) (sc := defScope s_Base___init__) (by decide +kernel)) (fun _ _ _ _ _ => (pg_name (i := 6) sc_Base___init__.nd rfl (by first | exact Or.inl rfl | exact Or.inr rfl))) (fun _ _ _ _ _ => pts_nil) (fun _ _ _ _ _ => (pe_slice sl_tup (pv 6) po_none (po_some pe_int)))) pa_nil)) rfl))))))))
theorem ok_Base___init__ (c : FZ K mg) : FnX PP w K mg base CX0 2 ("Base", some "__init__") ["self", "net"] (sp_Base___init__ K) := by
  obtain ⟨fd, F⟩ := c.says.def_ 12 (d := d_Base___init__) rfl
  have F' : FunD K "__init__" "Base.__init__" (defArgs s_Base___init__) (defBody s_Base___init__) (defScope s_Base___init__) [] [] (He.fAd K ("Base", some "__init__")) fd := F
  exact ⟨⟨fd, ok_Base___init___fd c F', F'.bindsN fun _ _ _ _ _ _ us hl => match us, hl with | [_, _], _ => rfl⟩, F'.kp⟩
theorem ok_parts_fd (c : FZ K mg) {fd : FuncData} (F' : FunD K "parts" "parts" (defArgs s_parts) (defBody s_parts) (defScope s_parts) [] [] (He.fAd K ("parts", none)) fd) : FnOk PP w K mg base (L2.CX PP w) 5 (He.fAd K ("parts", none)) fd ["net", "ring"] (sp_parts K) := by
  refine F'.ok sc_parts (fun vs H Q E h => len_parts h) (fun cdv A outer s H vs Q E hr h => ⟨t_parts K E, ?_, pure_parts (baseK c) h⟩)
  exact (pss_cons (ps_expr (pcallS (ok_check_ring c) (hr.mono (by decide)) (by rfl) (c.glo 25) (takes_of rfl rfl rfl rfl) (pa_cons (pv 0) (pa_cons (pv 1) pa_nil))))
      (pss_one (ps_ret (pe_lc (own := [("number", 2)]) (g := (gName 2)) (tt := tYes) rfl sc_parts.nd (pi_tup (pe_fld (pmake (c.mkr 27) (ok_Base___init__ c) (hr.mono (by decide)) (by rfl) (c.glo 28) pass0 (pa_cons (pv 0) pa_nil)) rfl)) (blkOk_by (own := [("number", 2)]) (N := N_parts) (sc := defScope s_parts) (by decide +kernel)) (fun _ _ _ _ _ => (pg_name (i := 2) sc_parts.nd rfl (by first | exact Or.inl rfl | exact Or.inr rfl))) (fun _ _ _ _ _ => pts_nil) (fun _ _ _ _ _ => (pe_op op_sub (pe_bm PySem.F.plainAttrs_list PySem.F.slot_list_count PySem.F.type_list_count (mt_lcountD hr.units) (pv 1) (pa_cons (pe_tup (pa_cons (pv 2) (pa_cons (pgi (by rfl) (c.int 19)) pa_nil))) pa_nil)) (pe_bm PySem.F.plainAttrs_list PySem.F.slot_list_count PySem.F.type_list_count (mt_lcountD hr.units) (pv 1) (pa_cons (pe_tup (pa_cons (pv 2) (pa_cons (pgi (by rfl) (c.int 20)) pa_nil))) pa_nil))))))))
theorem ok_parts (c : FZ K mg) : FnX PP w K mg base (L2.CX PP w) 5 ("parts", none) ["net", "ring"] (sp_parts K) := by
  obtain ⟨fd, F⟩ := c.says.def_ 13 (d := d_parts) rfl
  have F' : FunD K "parts" "parts" (defArgs s_parts) (defBody s_parts) (defScope s_parts) [] [] (He.fAd K ("parts", none)) fd := F
  exact ⟨⟨fd, ok_parts_fd c F', F'.bindsN fun _ _ _ _ _ _ us hl => match us, hl with | [_, _], _ => rfl⟩, F'.kp⟩
theorem ok_l_length_fd (c : FZ K mg) {fd : FuncData} (F' : FunD K "_law_length" "_law_length" (defArgs s_l_length) (defBody s_l_length) (defScope s_l_length) [] [] (He.fAd K ("_law_length", none)) fd) : FnOk PP w K mg base CX0 2 (He.fAd K ("_law_length", none)) fd ["_law_pool_here"] (sp_l_length) := by
  refine F'.ok sc_l_length (fun vs H Q E h => len_l_length h) (fun cdv A outer s H vs Q E hr h => ⟨t_l_length K, PSs.nox ?_, pure_l_length h⟩)
  exact (pss_cons (ps_if (pt_cmpR op_eq (pcall (ok_l_take c) (hr.mono (by decide)) (by rfl) (c.glo 29) pass0 (pa_cons (pv 0) (pa_cons pe_int pa_nil))) pe_int (nomark _)) (pss_one (ps_ret (pe_op op_add pe_int (pcall (ok_l_take c) (hr.mono (by decide)) (by rfl) (c.glo 29) pass0 (pa_cons (pv 0) (pa_cons pe_int pa_nil)))))) pss_nil)
      (pss_one (ps_ret (pe_ix ix_list (pe_lst (pa_cons pe_int (pa_cons pe_int (pa_cons pe_int (pa_cons pe_int (pa_cons pe_int (pa_cons pe_int pa_nil))))))) (pcall (ok_l_take c) (hr.mono (by decide)) (by rfl) (c.glo 29) pass0 (pa_cons (pv 0) (pa_cons pe_int pa_nil))) (fun _ _ => rfl)))))
theorem ok_l_length (c : FZ K mg) : FnX PP w K mg base CX0 2 ("_law_length", none) ["_law_pool_here"] (sp_l_length) := by
  obtain ⟨fd, F⟩ := c.says.def_ 14 (d := d_l_length) rfl
  have F' : FunD K "_law_length" "_law_length" (defArgs s_l_length) (defBody s_l_length) (defScope s_l_length) [] [] (He.fAd K ("_law_length", none)) fd := F
  exact ⟨⟨fd, ok_l_length_fd c F', F'.bindsN fun _ _ _ _ _ _ us hl => match us, hl with | [_], _ => rfl⟩, F'.kp⟩
theorem ok_l_many_fd (c : FZ K mg) {fd : FuncData} (F' : FunD K "_law_many" "_law_many" (defArgs s_l_many) (defBody s_l_many) (defScope s_l_many) [] [] (He.fAd K ("_law_many", none)) fd) : FnOk PP w K mg base CX0 2 (He.fAd K ("_law_many", none)) fd ["_law_pool_here"] (sp_l_many) := by
  refine F'.ok sc_l_many (fun vs H Q E h => len_l_many h) (fun cdv A outer s H vs Q E hr h => ⟨t_l_many K, PSs.nox ?_, pure_l_many h⟩)
  exact (pss_cons (ps_set (i := 1) sc_l_many.nd rfl (by first | exact Or.inl rfl | exact Or.inr rfl) (pcall (ok_l_take c) (hr.mono (by decide)) (by rfl) (c.glo 29) pass0 (pa_cons (pv 0) (pa_cons pe_int pa_nil))))
      (pss_cons (ps_if (pt_cmpR op_eq (pv 1) pe_int (nomark _)) (pss_one (ps_ret (pcall (ok_l_take c) (hr.mono (by decide)) (by rfl) (c.glo 29) pass0 (pa_cons (pv 0) (pa_cons pe_int pa_nil))))) pss_nil)
      (pss_cons (ps_if (pt_cmpR op_eq (pv 1) pe_int (nomark _)) (pss_one (ps_ret (pe_op op_add pe_int (pcall (ok_l_take c) (hr.mono (by decide)) (by rfl) (c.glo 29) pass0 (pa_cons (pv 0) (pa_cons pe_int pa_nil)))))) pss_nil)
      (pss_one (ps_ret (pe_op op_add pe_int (pcall (ok_l_take c) (hr.mono (by decide)) (by rfl) (c.glo 29) pass0 (pa_cons (pv 0) (pa_cons pe_int pa_nil)))))))))
theorem ok_l_many (c : FZ K mg) : FnX PP w K mg base CX0 2 ("_law_many", none) ["_law_pool_here"] (sp_l_many) := by
  obtain ⟨fd, F⟩ := c.says.def_ 15 (d := d_l_many) rfl
  have F' : FunD K "_law_many" "_law_many" (defArgs s_l_many) (defBody s_l_many) (defScope s_l_many) [] [] (He.fAd K ("_law_many", none)) fd := F
  exact ⟨⟨fd, ok_l_many_fd c F', F'.bindsN fun _ _ _ _ _ _ us hl => match us, hl with | [_], _ => rfl⟩, F'.kp⟩
theorem ok_l_count_fd (c : FZ K mg) {fd : FuncData} (F' : FunD K "_law_count" "_law_count" (defArgs s_l_count) (defBody s_l_count) (defScope s_l_count) [] [] (He.fAd K ("_law_count", none)) fd) : FnOk PP w K mg base CX0 2 (He.fAd K ("_law_count", none)) fd ["_law_pool_here", "_law_many_here"] (sp_l_count) := by
  refine F'.ok sc_l_count (fun vs H Q E h => len_l_count h) (fun cdv A outer s H vs Q E hr h => ⟨t_l_count K, PSs.nox ?_, pure_l_count h⟩)
  exact (pss_cons (ps_if (pt_cmpR op_lt (pv 1) pe_int (nomark _)) (pss_one (ps_ret pe_int)) pss_nil)
      (pss_cons (ps_if (pt_cmpR op_eq (pcall (ok_l_take c) (hr.mono (by decide)) (by rfl) (c.glo 29) pass0 (pa_cons (pv 0) (pa_cons pe_int pa_nil))) pe_int (nomark _)) (pss_one (ps_ret (pe_op op_add pe_int (pcall (ok_l_take c) (hr.mono (by decide)) (by rfl) (c.glo 29) pass0 (pa_cons (pv 0) (pa_cons pe_int pa_nil)))))) pss_nil)
      (pss_one (ps_ret (pcall (ok_l_take c) (hr.mono (by decide)) (by rfl) (c.glo 29) pass0 (pa_cons (pv 0) (pa_cons pe_int pa_nil)))))))
theorem ok_l_count (c : FZ K mg) : FnX PP w K mg base CX0 2 ("_law_count", none) ["_law_pool_here", "_law_many_here"] (sp_l_count) := by
  obtain ⟨fd, F⟩ := c.says.def_ 16 (d := d_l_count) rfl
  have F' : FunD K "_law_count" "_law_count" (defArgs s_l_count) (defBody s_l_count) (defScope s_l_count) [] [] (He.fAd K ("_law_count", none)) fd := F
  exact ⟨⟨fd, ok_l_count_fd c F', F'.bindsN fun _ _ _ _ _ _ us hl => match us, hl with | [_, _], _ => rfl⟩, F'.kp⟩
theorem ok_l_any_spans_fd (c : FZ K mg) {fd : FuncData} (F' : FunD K "_law_any_spans" "_law_any_spans" (defArgs s_l_any_spans) (defBody s_l_any_spans) (defScope s_l_any_spans) [] [] (He.fAd K ("_law_any_spans", none)) fd) : FnOk PP w K mg base CX0 2 (He.fAd K ("_law_any_spans", none)) fd ["_law_pool_here", "_law_length_here", "_law_many_here", "_law_count_here"] (sp_l_any_spans) := by
  refine F'.ok sc_l_any_spans (fun vs H Q E h => len_l_any_spans h) (fun cdv A outer s H vs Q E hr h => ⟨t_l_any_spans K, PSs.nox ?_, pure_l_any_spans h⟩)
  exact (pss_cons (ps_set (i := 4) sc_l_any_spans.nd rfl (by first | exact Or.inl rfl | exact Or.inr rfl) (pe_lst pa_nil))
      (pss_cons (ps_for PassesOwn.never rfl (pi_range1 (by rfl) (c.free 9) (pa_cons (pv 3) pa_nil)) (pg_name (i := 5) sc_l_any_spans.nd rfl (by first | exact Or.inl rfl | exact Or.inr rfl)) (pss_cons (ps_set (i := 6) sc_l_any_spans.nd rfl (by first | exact Or.inl rfl | exact Or.inr rfl) (pcall (ok_l_take c) (hr.mono (by decide)) (by rfl) (c.glo 29) pass0 (pa_cons (pv 0) (pa_cons (pv 2) pa_nil))))
      (pss_cons (ps_set (i := 7) sc_l_any_spans.nd rfl (by first | exact Or.inl rfl | exact Or.inr rfl) (pe_op op_mod (pe_callTy cl_int1 (by rfl) (c.free 3) (by decide +kernel) (pa_cons (pe_op op_add (pe_op op_add (pv 6) pe_int) (pcall (ok_l_take c) (hr.mono (by decide)) (by rfl) (c.glo 29) pass0 (pa_cons (pv 0) (pa_cons (pe_op op_sub (pv 2) pe_int) pa_nil)))) pa_nil)) (pv 2)))
      (pss_cons (ps_set (i := 8) sc_l_any_spans.nd rfl (by first | exact Or.inl rfl | exact Or.inr rfl) (pe_op op_mul pe_int (pv 1)))
      (pss_cons (ps_if (pt_cmpR op_eq (pcall (ok_l_take c) (hr.mono (by decide)) (by rfl) (c.glo 29) pass0 (pa_cons (pv 0) (pa_cons pe_int pa_nil))) pe_int (nomark _)) (pss_one (ps_set (i := 8) sc_l_any_spans.nd rfl (by first | exact Or.inl rfl | exact Or.inr rfl) pe_int)) pss_nil)
      (pss_cons (ps_set (i := 9) sc_l_any_spans.nd rfl (by first | exact Or.inl rfl | exact Or.inr rfl) (pcall (ok_l_take c) (hr.mono (by decide)) (by rfl) (c.glo 29) pass0 (pa_cons (pv 0) (pa_cons (pv 8) pa_nil))))
      (pss_cons (ps_expr (pe_bm PySem.F.plainAttrs_list PySem.F.slot_list_append PySem.F.type_list_append mt_append (pv 4) (pa_cons (pe_tup (pa_cons (pv 6) (pa_cons (pv 7) (pa_cons (pv 9) (pa_cons (pe_op op_add (pv 9) (pcall (ok_l_take c) (hr.mono (by decide)) (by rfl) (c.glo 29) pass0 (pa_cons (pv 0) (pa_cons (pe_callB (cl_min2 rfl) (by rfl) (c.free 30) (by decide +kernel) (pa_cons (pv 1) (pa_cons (pe_op op_sub pe_int (pv 9)) pa_nil))) pa_nil)))) pa_nil))))) pa_nil)))
      (pss_one (ps_if (pt_cmpR op_eq (pcall (ok_l_take c) (hr.mono (by decide)) (by rfl) (c.glo 29) pass0 (pa_cons (pv 0) (pa_cons pe_int pa_nil))) pe_int (nomark _)) (pss_one (ps_asg (pe_ix ix_list (pv 4) (pcall (ok_l_take c) (hr.mono (by decide)) (by rfl) (c.glo 29) pass0 (pa_cons (pv 0) (pa_cons (pe_op op_add (pv 5) pe_int) pa_nil))) (fun _ _ => rfl)) (pg_sub (pv 4) (pv 5) set_list))) pss_nil)))))))))
      (pss_one (ps_ret (pv 4)))))
theorem ok_l_any_spans (c : FZ K mg) : FnX PP w K mg base CX0 2 ("_law_any_spans", none) ["_law_pool_here", "_law_length_here", "_law_many_here", "_law_count_here"] (sp_l_any_spans) := by
  obtain ⟨fd, F⟩ := c.says.def_ 17 (d := d_l_any_spans) rfl
  have F' : FunD K "_law_any_spans" "_law_any_spans" (defArgs s_l_any_spans) (defBody s_l_any_spans) (defScope s_l_any_spans) [] [] (He.fAd K ("_law_any_spans", none)) fd := F
  exact ⟨⟨fd, ok_l_any_spans_fd c F', F'.bindsN fun _ _ _ _ _ _ us hl => match us, hl with | [_, _, _, _], _ => rfl⟩, F'.kp⟩
theorem ok_l_step_ends_fd (c : FZ K mg) {fd : FuncData} (F' : FunD K "_law_step_ends" "_law_step_ends" (defArgs s_l_step_ends) (defBody s_l_step_ends) (defScope s_l_step_ends) [] [] (He.fAd K ("_law_step_ends", none)) fd) : FnOk PP w K mg base CX0 1 (He.fAd K ("_law_step_ends", none)) fd ["_law_spans", "_law_step"] (sp_l_step_ends) := by
  refine F'.ok sc_l_step_ends (fun vs H Q E h => len_l_step_ends h) (fun cdv A outer s H vs Q E hr h => ⟨t_l_step_ends K, PSs.nox ?_, pure_l_step_ends h⟩)
  exact (pss_cons (ps_if (PW.pt (pw_or (pt_cmpR op_lt (pe_ix ix_tup (pv 1) pe_int (fun _ _ => rfl)) pe_int (nomark _)) (pw_or (pt_cmpR op_ge (pe_ix ix_tup (pv 1) pe_int (fun _ _ => rfl)) (pe_callB cl_len (by rfl) (c.free 0) (by decide +kernel) (pa_cons (pv 0) pa_nil)) (nomark _)) (pw_or1 (pt_cmpR op_notIn_seq (pe_ix ix_tup (pv 1) pe_int (fun _ _ => rfl)) (pe_tup (pa_cons pe_int (pa_cons (pe_un un_neg pe_int) pa_nil))) (by rfl)))))) (pss_one (ps_ret pe_non)) pss_nil)
      (pss_cons (ps_set (i := 2) sc_l_step_ends.nd rfl (by first | exact Or.inl rfl | exact Or.inr rfl) (pe_ix ix_list (pv 0) (pe_ix ix_tup (pv 1) pe_int (fun _ _ => rfl)) (fun _ _ => rfl)))
      (pss_cons (ps_if (pt_cmpR op_eq (pe_ix ix_tup (pv 1) pe_int (fun _ _ => rfl)) pe_int (nomark _)) (pss_one (ps_ret (pe_tup (pa_cons (pe_ix ix_tup (pv 2) pe_int (fun _ _ => rfl)) (pa_cons (pe_ix ix_tup (pv 2) pe_int (fun _ _ => rfl)) pa_nil))))) pss_nil)
      (pss_one (ps_ret (pe_tup (pa_cons (pe_ix ix_tup (pv 2) pe_int (fun _ _ => rfl)) (pa_cons (pe_ix ix_tup (pv 2) pe_int (fun _ _ => rfl)) pa_nil))))))))
theorem ok_l_step_ends (c : FZ K mg) : FnX PP w K mg base CX0 1 ("_law_step_ends", none) ["_law_spans", "_law_step"] (sp_l_step_ends) := by
  obtain ⟨fd, F⟩ := c.says.def_ 18 (d := d_l_step_ends) rfl
  have F' : FunD K "_law_step_ends" "_law_step_ends" (defArgs s_l_step_ends) (defBody s_l_step_ends) (defScope s_l_step_ends) [] [] (He.fAd K ("_law_step_ends", none)) fd := F
  exact ⟨⟨fd, ok_l_step_ends_fd c F', F'.bindsN fun _ _ _ _ _ _ us hl => match us, hl with | [_, _], _ => rfl⟩, F'.kp⟩
theorem ok_l_bad_fd (c : FZ K mg) {fd : FuncData} (F' : FunD K "_law_bad" "_law_bad" (defArgs s_l_bad) (defBody s_l_bad) (defScope s_l_bad) [] [] (He.fAd K ("_law_bad", none)) fd) : FnOk PP w K mg base CX0 2 (He.fAd K ("_law_bad", none)) fd ["_law_spans", "_law_steps_here"] (sp_l_bad) := by
  refine F'.ok sc_l_bad (fun vs H Q E h => len_l_bad h) (fun cdv A outer s H vs Q E hr h => ⟨t_l_bad K, PSs.nox ?_, pure_l_bad h⟩)
  exact (pss_cons (ps_set (i := 2) sc_l_bad.nd rfl (by first | exact Or.inl rfl | exact Or.inr rfl) pe_non)
      (pss_cons (ps_for PassesOwn.never rfl (pi_range1 (by rfl) (c.free 9) (pa_cons (pe_callB cl_len (by rfl) (c.free 0) (by decide +kernel) (pa_cons (pv 1) pa_nil)) pa_nil)) (pg_name (i := 3) sc_l_bad.nd rfl (by first | exact Or.inl rfl | exact Or.inr rfl)) (pss_cons (ps_set (i := 4) sc_l_bad.nd rfl (by first | exact Or.inl rfl | exact Or.inr rfl) (pcall (ok_l_step_ends c) (hr.mono (by decide)) (by rfl) (c.glo 31) pass0 (pa_cons (pv 0) (pa_cons (pe_ix ix_list (pv 1) (pv 3) (fun _ _ => rfl)) pa_nil))))
      (pss_cons (ps_if (PW.pt (pw_or (pt_cmpR op_isN1 (pv 4) pe_non (nomark _)) (pw_or1 (PW.pt (pw_and (pt_cmpR op_notN1 (pv 2) pe_non (nomark _)) (pw_and1 (pt_cmpR op_ne (pe_ix ix_tup (pv 4) pe_int (fun _ _ => rfl)) (pv 2) (nomark _)))))))) (pss_one (ps_ret (pv 3))) pss_nil)
      (pss_one (ps_set (i := 2) sc_l_bad.nd rfl (by first | exact Or.inl rfl | exact Or.inr rfl) (pe_ix ix_tup (pv 4) pe_int (fun _ _ => rfl)))))))
      (pss_one (ps_ret pe_non))))
theorem ok_l_bad (c : FZ K mg) : FnX PP w K mg base CX0 2 ("_law_bad", none) ["_law_spans", "_law_steps_here"] (sp_l_bad) := by
  obtain ⟨fd, F⟩ := c.says.def_ 19 (d := d_l_bad) rfl
  have F' : FunD K "_law_bad" "_law_bad" (defArgs s_l_bad) (defBody s_l_bad) (defScope s_l_bad) [] [] (He.fAd K ("_law_bad", none)) fd := F
  exact ⟨⟨fd, ok_l_bad_fd c F', F'.bindsN fun _ _ _ _ _ _ us hl => match us, hl with | [_, _], _ => rfl⟩, F'.kp⟩
theorem ok_l_walked_fd (c : FZ K mg) {fd : FuncData} (F' : FunD K "_law_walked" "_law_walked" (defArgs s_l_walked) (defBody s_l_walked) (defScope s_l_walked) [] [] (He.fAd K ("_law_walked", none)) fd) : FnOk PP w K mg base CX0 2 (He.fAd K ("_law_walked", none)) fd ["_law_pool_here", "_law_many_here", "_law_spans", "_law_size"] (sp_l_walked) := by
  refine F'.ok sc_l_walked (fun vs H Q E h => len_l_walked h) (fun cdv A outer s H vs Q E hr h => ⟨t_l_walked K, PSs.nox ?_, pure_l_walked h⟩)
  exact (pss_cons (ps_set (i := 4) sc_l_walked.nd rfl (by first | exact Or.inl rfl | exact Or.inr rfl) (pe_lst pa_nil))
      (pss_cons (ps_set (i := 5) sc_l_walked.nd rfl (by first | exact Or.inl rfl | exact Or.inr rfl) (pcall (ok_l_take c) (hr.mono (by decide)) (by rfl) (c.glo 29) pass0 (pa_cons (pv 0) (pa_cons (pv 1) pa_nil))))
      (pss_cons (ps_for PassesOwn.never rfl (pi_range1 (by rfl) (c.free 9) (pa_cons (pv 3) pa_nil)) (pg_name (i := 6) sc_l_walked.nd rfl (by first | exact Or.inl rfl | exact Or.inr rfl)) (pss_cons (ps_setLc (i := 7) (own := [("_law_one", 9)]) (g := (gName 9)) (tt := (tTest (tOp rEq (tOp (rIxT K) (tOp (rIxL K) (tVar 2) (tVar 9)) (tC (.int 0))) (tVar 5)))) rfl sc_l_walked.nd rfl rfl (sw_true rfl rfl rfl (by decide +kernel)) (pi_range1 (by rfl) (c.free 9) (pa_cons (pe_callB cl_len (by rfl) (c.free 0) (by decide +kernel) (pa_cons (pv 2) pa_nil)) pa_nil)) (blkOk_by (own := [("_law_one", 9)]) (N := N_l_walked) (sc := defScope s_l_walked) (by decide +kernel)) (fun _ _ _ _ _ => (pg_name (i := 9) sc_l_walked.nd rfl (by first | exact Or.inl rfl | exact Or.inr rfl))) (fun _ _ _ _ _ => (pts_one (pt_cmpR op_eq (pe_ix ix_tup (pe_ix ix_list (pv 2) (pv 9) (fun _ _ => rfl)) pe_int (fun _ _ => rfl)) (pv 5) (nomark _)))) (fun _ _ _ _ _ => (pe_tup (pa_cons (pv 9) (pa_cons pe_int pa_nil)))))
      (pss_cons (ps_set (i := 7) sc_l_walked.nd rfl (by first | exact Or.inl rfl | exact Or.inr rfl) (pe_op op_cat (pv 7) (pe_lc (own := [("_law_one", 9)]) (g := (gName 9)) (tt := (tTest (tOp rEq (tOp (rIxT K) (tOp (rIxL K) (tVar 2) (tVar 9)) (tC (.int 1))) (tVar 5)))) rfl sc_l_walked.nd (pi_range1 (by rfl) (c.free 9) (pa_cons (pe_callB cl_len (by rfl) (c.free 0) (by decide +kernel) (pa_cons (pv 2) pa_nil)) pa_nil)) (blkOk_by (own := [("_law_one", 9)]) (N := N_l_walked) (sc := defScope s_l_walked) (by decide +kernel)) (fun _ _ _ _ _ => (pg_name (i := 9) sc_l_walked.nd rfl (by first | exact Or.inl rfl | exact Or.inr rfl))) (fun _ _ _ _ _ => (pts_one (pt_cmpR op_eq (pe_ix ix_tup (pe_ix ix_list (pv 2) (pv 9) (fun _ _ => rfl)) pe_int (fun _ _ => rfl)) (pv 5) (nomark _)))) (fun _ _ _ _ _ => (pe_tup (pa_cons (pv 9) (pa_cons (pe_un un_neg pe_int) pa_nil)))))))
      (pss_cons (ps_if (pt_cmpR (op_eqD hr.units) (pv 7) (pe_lst pa_nil) (nomark _)) (pss_one (ps_ret (pv 4))) pss_nil)
      (pss_cons (ps_set (i := 8) sc_l_walked.nd rfl (by first | exact Or.inl rfl | exact Or.inr rfl) (pe_ix ix_list (pv 7) (pcall (ok_l_take c) (hr.mono (by decide)) (by rfl) (c.glo 29) pass0 (pa_cons (pv 0) (pa_cons (pe_callB cl_len (by rfl) (c.free 0) (by decide +kernel) (pa_cons (pv 7) pa_nil)) pa_nil))) (fun _ _ => rfl)))
      (pss_cons (ps_expr (pe_bm PySem.F.plainAttrs_list PySem.F.slot_list_append PySem.F.type_list_append mt_append (pv 4) (pa_cons (pv 8) pa_nil)))
      (pss_one (ps_set (i := 5) sc_l_walked.nd rfl (by first | exact Or.inl rfl | exact Or.inr rfl) (pe_ix ix_tup (pe_ix ix_list (pv 2) (pe_ix ix_tup (pv 8) pe_int (fun _ _ => rfl)) (fun _ _ => rfl)) (pe_callTy cl_int1 (by rfl) (c.free 3) (by decide +kernel) (pa_cons (pe_cmpR op_eq (pe_ix ix_tup (pv 8) pe_int (fun _ _ => rfl)) pe_int (nomark _)) pa_nil)) (fun _ _ => rfl))))))))))
      (pss_one (ps_ret (pv 4))))))
theorem ok_l_walked (c : FZ K mg) : FnX PP w K mg base CX0 2 ("_law_walked", none) ["_law_pool_here", "_law_many_here", "_law_spans", "_law_size"] (sp_l_walked) := by
  obtain ⟨fd, F⟩ := c.says.def_ 20 (d := d_l_walked) rfl
  have F' : FunD K "_law_walked" "_law_walked" (defArgs s_l_walked) (defBody s_l_walked) (defScope s_l_walked) [] [] (He.fAd K ("_law_walked", none)) fd := F
  exact ⟨⟨fd, ok_l_walked_fd c F', F'.bindsN fun _ _ _ _ _ _ us hl => match us, hl with | [_, _, _, _], _ => rfl⟩, F'.kp⟩
theorem ok_l_back_fd (c : FZ K mg) {fd : FuncData} (F' : FunD K "_law_back" "_law_back" (defArgs s_l_back) (defBody s_l_back) (defScope s_l_back) [] [] (He.fAd K ("_law_back", none)) fd) : FnOk PP w K mg base CX0 1 (He.fAd K ("_law_back", none)) fd ["_law_steps_here"] (sp_l_back) := by
  refine F'.ok sc_l_back (fun vs H Q E h => len_l_back h) (fun cdv A outer s H vs Q E hr h => ⟨t_l_back K, PSs.nox ?_, pure_l_back h⟩)
  exact (pss_one (ps_ret (pe_lc (own := [("_law_step", 1)]) (g := (gName 1)) (tt := tYes) rfl sc_l_back.nd (pi_list (pe_revL (pv 0))) (blkOk_by (own := [("_law_step", 1)]) (N := N_l_back) (sc := defScope s_l_back) (by decide +kernel)) (fun _ _ _ _ _ => (pg_name (i := 1) sc_l_back.nd rfl (by first | exact Or.inl rfl | exact Or.inr rfl))) (fun _ _ _ _ _ => pts_nil) (fun _ _ _ _ _ => (pe_tup (pa_cons (pe_ix ix_tup (pv 1) pe_int (fun _ _ => rfl)) (pa_cons (pe_op op_sub pe_int (pe_ix ix_tup (pv 1) pe_int (fun _ _ => rfl))) pa_nil)))))))
theorem ok_l_back (c : FZ K mg) : FnX PP w K mg base CX0 1 ("_law_back", none) ["_law_steps_here"] (sp_l_back) := by
  obtain ⟨fd, F⟩ := c.says.def_ 21 (d := d_l_back) rfl
  have F' : FunD K "_law_back" "_law_back" (defArgs s_l_back) (defBody s_l_back) (defScope s_l_back) [] [] (He.fAd K ("_law_back", none)) fd := F
  exact ⟨⟨fd, ok_l_back_fd c F', F'.bindsN fun _ _ _ _ _ _ us hl => match us, hl with | [_], _ => rfl⟩, F'.kp⟩
theorem ok_l_any_step_fd (c : FZ K mg) {fd : FuncData} (F' : FunD K "_law_any_step" "_law_any_step" (defArgs s_l_any_step) (defBody s_l_any_step) (defScope s_l_any_step) [] [] (He.fAd K ("_law_any_step", none)) fd) : FnOk PP w K mg base CX0 2 (He.fAd K ("_law_any_step", none)) fd ["_law_pool_here", "_law_count_here"] (sp_l_any_step) := by
  refine F'.ok sc_l_any_step (fun vs H Q E h => len_l_any_step h) (fun cdv A outer s H vs Q E hr h => ⟨t_l_any_step K, PSs.nox ?_, pure_l_any_step h⟩)
  exact (pss_cons (ps_set (i := 2) sc_l_any_step.nd rfl (by first | exact Or.inl rfl | exact Or.inr rfl) (pe_op op_sub (pcall (ok_l_take c) (hr.mono (by decide)) (by rfl) (c.glo 29) pass0 (pa_cons (pv 0) (pa_cons (pe_op op_add (pv 1) pe_int) pa_nil))) pe_int))
      (pss_cons (ps_if (pt_cmpR op_eq (pcall (ok_l_take c) (hr.mono (by decide)) (by rfl) (c.glo 29) pass0 (pa_cons (pv 0) (pa_cons pe_int pa_nil))) pe_int (nomark _)) (pss_one (ps_set (i := 2) sc_l_any_step.nd rfl (by first | exact Or.inl rfl | exact Or.inr rfl) (pe_op op_sub (pcall (ok_l_take c) (hr.mono (by decide)) (by rfl) (c.glo 29) pass0 (pa_cons (pv 0) (pa_cons (pe_op op_add (pe_op op_mul pe_int (pe_op op_pow pe_int pe_int)) pe_int) pa_nil))) (pe_op op_pow pe_int pe_int)))) pss_nil)
      (pss_cons (ps_set (i := 3) sc_l_any_step.nd rfl (by first | exact Or.inl rfl | exact Or.inr rfl) (pe_ix ix_list (pe_lst (pa_cons pe_int (pa_cons (pe_un un_neg pe_int) (pa_cons pe_int (pa_cons (pe_un un_neg pe_int) (pa_cons pe_int (pa_cons (pe_un un_neg pe_int) (pa_cons pe_int (pa_cons pe_int (pa_cons (pe_un un_neg pe_int) pa_nil)))))))))) (pcall (ok_l_take c) (hr.mono (by decide)) (by rfl) (c.glo 29) pass0 (pa_cons (pv 0) (pa_cons pe_int pa_nil))) (fun _ _ => rfl)))
      (pss_cons (ps_if (pt_cmpR op_eq (pcall (ok_l_take c) (hr.mono (by decide)) (by rfl) (c.glo 29) pass0 (pa_cons (pv 0) (pa_cons pe_int pa_nil))) pe_int (nomark _)) (pss_one (ps_set (i := 3) sc_l_any_step.nd rfl (by first | exact Or.inl rfl | exact Or.inr rfl) (pe_op op_sub (pcall (ok_l_take c) (hr.mono (by decide)) (by rfl) (c.glo 29) pass0 (pa_cons (pv 0) (pa_cons (pe_op op_add (pe_op op_mul pe_int (pe_op op_pow pe_int pe_int)) pe_int) pa_nil))) (pe_op op_pow pe_int pe_int)))) pss_nil)
      (pss_one (ps_ret (pe_tup (pa_cons (pv 2) (pa_cons (pv 3) pa_nil)))))))))
theorem ok_l_any_step (c : FZ K mg) : FnX PP w K mg base CX0 2 ("_law_any_step", none) ["_law_pool_here", "_law_count_here"] (sp_l_any_step) := by
  obtain ⟨fd, F⟩ := c.says.def_ 22 (d := d_l_any_step) rfl
  have F' : FunD K "_law_any_step" "_law_any_step" (defArgs s_l_any_step) (defBody s_l_any_step) (defScope s_l_any_step) [] [] (He.fAd K ("_law_any_step", none)) fd := F
  exact ⟨⟨fd, ok_l_any_step_fd c F', F'.bindsN fun _ _ _ _ _ _ us hl => match us, hl with | [_, _], _ => rfl⟩, F'.kp⟩
theorem ok_l_steps_fd (c : FZ K mg) {fd : FuncData} (F' : FunD K "_law_steps" "_law_steps" (defArgs s_l_steps) (defBody s_l_steps) (defScope s_l_steps) [] [] (He.fAd K ("_law_steps", none)) fd) : FnOk PP w K mg base CX0 3 (He.fAd K ("_law_steps", none)) fd ["_law_pool_here", "_law_many_here", "_law_spans"] (sp_l_steps) := by
  refine F'.ok sc_l_steps (fun vs H Q E h => len_l_steps h) (fun cdv A outer s H vs Q E hr h => ⟨t_l_steps K, PSs.nox ?_, pure_l_steps h⟩)
  exact (pss_cons (ps_set (i := 3) sc_l_steps.nd rfl (by first | exact Or.inl rfl | exact Or.inr rfl) (pcall (ok_l_take c) (hr.mono (by decide)) (by rfl) (c.glo 29) pass0 (pa_cons (pv 0) (pa_cons pe_int pa_nil))))
      (pss_cons (ps_if (pt_cmpR op_eq (pcall (ok_l_take c) (hr.mono (by decide)) (by rfl) (c.glo 29) pass0 (pa_cons (pv 0) (pa_cons pe_int pa_nil))) pe_int (nomark _)) (pss_one (ps_set (i := 3) sc_l_steps.nd rfl (by first | exact Or.inl rfl | exact Or.inr rfl) (pcall (ok_l_take c) (hr.mono (by decide)) (by rfl) (c.glo 29) pass0 (pa_cons (pv 0) (pa_cons pe_int pa_nil))))) pss_nil)
      (pss_cons (ps_if (PW.pt (pw_or (pt_cmpR op_eq (pv 1) pe_int (nomark _)) (pw_or1 (pt_cmpR op_eq (pcall (ok_l_take c) (hr.mono (by decide)) (by rfl) (c.glo 29) pass0 (pa_cons (pv 0) (pa_cons pe_int pa_nil))) pe_int (nomark _))))) (pss_one (ps_ret (pe_lc (own := [("_law_k", 6)]) (g := (gName 6)) (tt := tYes) rfl sc_l_steps.nd (pi_range1 (by rfl) (c.free 9) (pa_cons (pv 3) pa_nil)) (blkOk_by (own := [("_law_k", 6)]) (N := N_l_steps) (sc := defScope s_l_steps) (by decide +kernel)) (fun _ _ _ _ _ => (pg_name (i := 6) sc_l_steps.nd rfl (by first | exact Or.inl rfl | exact Or.inr rfl))) (fun _ _ _ _ _ => pts_nil) (fun _ _ _ _ _ => (pcall (ok_l_any_step c) (hr.mono (by decide)) (by rfl) (c.glo 32) pass0 (pa_cons (pv 0) (pa_cons (pe_callB cl_len (by rfl) (c.free 0) (by decide +kernel) (pa_cons (pv 2) pa_nil)) pa_nil))))))) pss_nil)
      (pss_cons (ps_set (i := 4) sc_l_steps.nd rfl (by first | exact Or.inl rfl | exact Or.inr rfl) (pcall (ok_l_walked c) (hr.mono (by decide)) (by rfl) (c.glo 33) pass0 (pa_cons (pv 0) (pa_cons (pv 1) (pa_cons (pv 2) (pa_cons (pv 3) pa_nil))))))
      (pss_cons (ps_if (pt_cmpR op_eq (pcall (ok_l_take c) (hr.mono (by decide)) (by rfl) (c.glo 29) pass0 (pa_cons (pv 0) (pa_cons pe_int pa_nil))) pe_int (nomark _)) (pss_one (ps_set (i := 4) sc_l_steps.nd rfl (by first | exact Or.inl rfl | exact Or.inr rfl) (pe_op op_cat (pv 4) (pcall (ok_l_back c) (hr.mono (by decide)) (by rfl) (c.glo 34) pass0 (pa_cons (pv 4) pa_nil))))) pss_nil)
      (pss_cons (ps_if (PW.pt (pw_and (pt_cmpR (op_neD hr.units) (pv 4) (pe_lst pa_nil) (nomark _)) (pw_and1 (pt_cmpR op_eq (pcall (ok_l_take c) (hr.mono (by decide)) (by rfl) (c.glo 29) pass0 (pa_cons (pv 0) (pa_cons pe_int pa_nil))) pe_int (nomark _))))) (pss_cons (ps_set (i := 5) sc_l_steps.nd rfl (by first | exact Or.inl rfl | exact Or.inr rfl) (pcall (ok_l_take c) (hr.mono (by decide)) (by rfl) (c.glo 29) pass0 (pa_cons (pv 0) (pa_cons (pe_callB cl_len (by rfl) (c.free 0) (by decide +kernel) (pa_cons (pv 4) pa_nil)) pa_nil))))
      (pss_one (ps_asg (pcall (ok_l_any_step c) (hr.mono (by decide)) (by rfl) (c.glo 32) pass0 (pa_cons (pv 0) (pa_cons (pe_callB cl_len (by rfl) (c.free 0) (by decide +kernel) (pa_cons (pv 2) pa_nil)) pa_nil))) (pg_sub (pv 4) (pv 5) set_list)))) pss_nil)
      (pss_one (ps_ret (pv 4)))))))))
theorem ok_l_steps (c : FZ K mg) : FnX PP w K mg base CX0 3 ("_law_steps", none) ["_law_pool_here", "_law_many_here", "_law_spans"] (sp_l_steps) := by
  obtain ⟨fd, F⟩ := c.says.def_ 23 (d := d_l_steps) rfl
  have F' : FunD K "_law_steps" "_law_steps" (defArgs s_l_steps) (defBody s_l_steps) (defScope s_l_steps) [] [] (He.fAd K ("_law_steps", none)) fd := F
  exact ⟨⟨fd, ok_l_steps_fd c F', F'.bindsN fun _ _ _ _ _ _ us hl => match us, hl with | [_, _, _], _ => rfl⟩, F'.kp⟩
theorem ok_l_ends_told_fd (c : FZ K mg) {fd : FuncData} (F' : FunD K "_law_ends_told" "_law_ends_told" (defArgs s_l_ends_told) (defBody s_l_ends_told) (defScope s_l_ends_told) [] [] (He.fAd K ("_law_ends_told", none)) fd) : FnOk PP w K mg base CX0 4 (He.fAd K ("_law_ends_told", none)) fd ["_law_net", "_law_steps_here"] (sp_l_ends_told K) := by
  refine F'.ok sc_l_ends_told (fun vs H Q E h => len_l_ends_told h) (fun cdv A outer s H vs Q E hr h => ⟨t_l_ends_told K, PSs.nox ?_, pure_l_ends_told (pathK c) h⟩)
  exact (pss_cons (ps_set (i := 2) sc_l_ends_told.nd rfl (by first | exact Or.inl rfl | exact Or.inr rfl) pe_non)
      (pss_cons (ps_set (i := 3) sc_l_ends_told.nd rfl (by first | exact Or.inl rfl | exact Or.inr rfl) pe_non)
      (pss_cons (ps_try_ma rfl rfl sc_l_ends_told.nd takes0 (fun W pn xe tk po => (pss_one (ps_set (i := 3) sc_l_ends_told.nd rfl (by first | exact Or.inl rfl | exact Or.inr rfl) (pcallS (ok_path_ends c) (hr.mono (by decide)) (by rfl) (c.glo 24) tk (pa_cons (pv 0) (pa_cons (pv 1) pa_nil)))))) (HdsA.cons (i := 4) rfl rfl ⟨rfl, by decide, .inl (c.glo 22)⟩ (fun a oe cls d pn hz hf => (pss_cons (ps_set (i := 5) sc_l_ends_told.nd rfl (by first | exact Or.inl rfl | exact Or.inr rfl) (pe_callB (call_isXs (c.xc 0) hz hf) (by rfl) (c.free 4) (by decide +kernel) (pa_cons (pv 4) (pa_cons (pe_tup (pa_cons (pgc (by rfl) (c.glo 42)) (pa_cons (pgc (by rfl) (c.glo 41)) (pa_cons (pgc (by rfl) (c.glo 40)) (pa_cons (pgc (by rfl) (c.glo 39)) (pa_cons (pgc (by rfl) (c.glo 38)) (pa_cons (pgc (by rfl) (c.glo 37)) (pa_cons (pgc (by rfl) (c.glo 36)) (pa_cons (pgc (by rfl) (c.glo 35)) pa_nil))))))))) pa_nil))))
      (pss_one (ps_set (i := 2) sc_l_ends_told.nd rfl (by first | exact Or.inl rfl | exact Or.inr rfl) (pe_tup (pa_cons pe_str (pa_cons (pe_xf (c.xfc 0) (c.xnoat 1) hz hf (pv 4)) (pa_cons (pe_callB (call_isX (c.xc 0) hz hf) (by rfl) (c.free 4) (by decide +kernel) (pa_cons (pv 4) (pa_cons (pgc (by rfl) (c.glo 43)) pa_nil))) (pa_cons (pe_callB (call_isX (c.xc 0) hz hf) (by rfl) (c.free 4) (by decide +kernel) (pa_cons (pv 4) (pa_cons (pe_bltn (v := .ty "ValueError") (by rfl) (c.free 44) (by decide +kernel) rfl) pa_nil))) (pa_cons (pv 5) pa_nil)))))))))) HdsA.nil))
      (pss_cons (ps_if (pt_cmpR op_isN1 (pv 2) pe_non (nomark _)) (pss_one (ps_set (i := 2) sc_l_ends_told.nd rfl (by first | exact Or.inl rfl | exact Or.inr rfl) (pe_tup (pa_cons pe_str (pa_cons (pv 3) pa_nil))))) pss_nil)
      (pss_one (ps_ret (pv 2)))))))
theorem ok_l_ends_told (c : FZ K mg) : FnX PP w K mg base CX0 4 ("_law_ends_told", none) ["_law_net", "_law_steps_here"] (sp_l_ends_told K) := by
  obtain ⟨fd, F⟩ := c.says.def_ 24 (d := d_l_ends_told) rfl
  have F' : FunD K "_law_ends_told" "_law_ends_told" (defArgs s_l_ends_told) (defBody s_l_ends_told) (defScope s_l_ends_told) [] [] (He.fAd K ("_law_ends_told", none)) fd := F
  exact ⟨⟨fd, ok_l_ends_told_fd c F', F'.bindsN fun _ _ _ _ _ _ us hl => match us, hl with | [_, _], _ => rfl⟩, F'.kp⟩
theorem ok_l_parts_told_fd (c : FZ K mg) {fd : FuncData} (F' : FunD K "_law_parts_told" "_law_parts_told" (defArgs s_l_parts_told) (defBody s_l_parts_told) (defScope s_l_parts_told) [] [] (He.fAd K ("_law_parts_told", none)) fd) : FnOk PP w K mg base CX0 6 (He.fAd K ("_law_parts_told", none)) fd ["_law_net", "_law_steps_here"] (sp_l_parts_told K) := by
  refine F'.ok sc_l_parts_told (fun vs H Q E h => len_l_parts_told h) (fun cdv A outer s H vs Q E hr h => ⟨t_l_parts_told K, PSs.nox ?_, pure_l_parts_told (pathK c) h⟩)
  exact (pss_cons (ps_set (i := 2) sc_l_parts_told.nd rfl (by first | exact Or.inl rfl | exact Or.inr rfl) pe_non)
      (pss_cons (ps_set (i := 3) sc_l_parts_told.nd rfl (by first | exact Or.inl rfl | exact Or.inr rfl) pe_non)
      (pss_cons (ps_try_ma rfl rfl sc_l_parts_told.nd takes0 (fun W pn xe tk po => (pss_one (ps_set (i := 3) sc_l_parts_told.nd rfl (by first | exact Or.inl rfl | exact Or.inr rfl) (pcallS (ok_parts c) (hr.mono (by decide)) (by rfl) (c.glo 45) tk (pa_cons (pv 0) (pa_cons (pv 1) pa_nil)))))) (HdsA.cons (i := 4) rfl rfl ⟨rfl, by decide, .inl (c.glo 22)⟩ (fun a oe cls d pn hz hf => (pss_cons (ps_set (i := 5) sc_l_parts_told.nd rfl (by first | exact Or.inl rfl | exact Or.inr rfl) (pe_callB (call_isXs (c.xc 0) hz hf) (by rfl) (c.free 4) (by decide +kernel) (pa_cons (pv 4) (pa_cons (pe_tup (pa_cons (pgc (by rfl) (c.glo 42)) (pa_cons (pgc (by rfl) (c.glo 41)) (pa_cons (pgc (by rfl) (c.glo 40)) (pa_cons (pgc (by rfl) (c.glo 39)) (pa_cons (pgc (by rfl) (c.glo 38)) (pa_cons (pgc (by rfl) (c.glo 37)) (pa_cons (pgc (by rfl) (c.glo 36)) (pa_cons (pgc (by rfl) (c.glo 35)) pa_nil))))))))) pa_nil))))
      (pss_one (ps_set (i := 2) sc_l_parts_told.nd rfl (by first | exact Or.inl rfl | exact Or.inr rfl) (pe_tup (pa_cons pe_str (pa_cons (pe_xf (c.xfc 0) (c.xnoat 1) hz hf (pv 4)) (pa_cons (pe_callB (call_isX (c.xc 0) hz hf) (by rfl) (c.free 4) (by decide +kernel) (pa_cons (pv 4) (pa_cons (pgc (by rfl) (c.glo 43)) pa_nil))) (pa_cons (pe_callB (call_isX (c.xc 0) hz hf) (by rfl) (c.free 4) (by decide +kernel) (pa_cons (pv 4) (pa_cons (pe_bltn (v := .ty "ValueError") (by rfl) (c.free 44) (by decide +kernel) rfl) pa_nil))) (pa_cons (pv 5) pa_nil)))))))))) HdsA.nil))
      (pss_cons (ps_if (pt_cmpR op_isN1 (pv 2) pe_non (nomark _)) (pss_one (ps_set (i := 2) sc_l_parts_told.nd rfl (by first | exact Or.inl rfl | exact Or.inr rfl) (pe_tup (pa_cons pe_str (pa_cons (pe_callB call_isi (by rfl) (c.free 4) (by decide +kernel) (pa_cons (pv 3) (pa_cons (pe_bltn (v := .ty "list") (by rfl) (c.free 7) (by decide +kernel) rfl) pa_nil))) pa_nil))))) pss_nil)
      (pss_one (ps_ret (pv 2)))))))
theorem ok_l_parts_told (c : FZ K mg) : FnX PP w K mg base CX0 6 ("_law_parts_told", none) ["_law_net", "_law_steps_here"] (sp_l_parts_told K) := by
  obtain ⟨fd, F⟩ := c.says.def_ 25 (d := d_l_parts_told) rfl
  have F' : FunD K "_law_parts_told" "_law_parts_told" (defArgs s_l_parts_told) (defBody s_l_parts_told) (defScope s_l_parts_told) [] [] (He.fAd K ("_law_parts_told", none)) fd := F
  exact ⟨⟨fd, ok_l_parts_told_fd c F', F'.bindsN fun _ _ _ _ _ _ us hl => match us, hl with | [_, _], _ => rfl⟩, F'.kp⟩
theorem ok_l_path_good_fd (c : FZ K mg) {fd : FuncData} (F' : FunD K "_law_path_good" "_law_path_good" (defArgs s_l_path_good) (defBody s_l_path_good) (defScope s_l_path_good) [] [] (He.fAd K ("_law_path_good", none)) fd) : FnOk PP w K mg base CX0 9 (He.fAd K ("_law_path_good", none)) fd ["_law_net", "_law_spans", "_law_steps_here"] (sp_l_path_good K) := by
  refine F'.ok sc_l_path_good (fun vs H Q E h => len_l_path_good h) (fun cdv A outer s H vs Q E hr h => ⟨t_l_path_good K, PSs.nox ?_, pure_l_path_good h⟩)
  exact (pss_cons (ps_set (i := 3) sc_l_path_good.nd rfl (by first | exact Or.inl rfl | exact Or.inr rfl) (pe_callTy cl_list (by rfl) (c.free 7) (by decide +kernel) (pa_cons (pv 2) pa_nil)))
      (pss_cons (ps_set (i := 4) sc_l_path_good.nd rfl (by first | exact Or.inl rfl | exact Or.inr rfl) (pcall (ok_l_bad c) (hr.mono (by decide)) (by rfl) (c.glo 46) pass0 (pa_cons (pv 1) (pa_cons (pv 2) pa_nil))))
      (pss_cons (ps_if (pt_cmpR op_notN1 (pv 4) pe_non (nomark _)) (pss_cons (ps_set (i := 7) sc_l_path_good.nd rfl (by first | exact Or.inl rfl | exact Or.inr rfl) (pe_tup (pa_cons pe_str (pa_cons (pv 4) (pa_cons pe_bl (pa_cons pe_bl (pa_cons pe_bl pa_nil)))))))
      (pss_cons (ps_if (PW.pt (pw_or (pt_not (pt_val (pcall (ok_l_same c) (hr.mono (by decide)) (by rfl) (c.glo 10) pass0 (pa_cons (pcall (ok_l_ends_told c) (hr.mono (by decide)) (by rfl) (c.glo 47) pass0 (pa_cons (pv 0) (pa_cons (pv 3) pa_nil))) (pa_cons (pv 7) pa_nil))))) (pw_or1 (pt_not (pt_val (pcall (ok_l_same c) (hr.mono (by decide)) (by rfl) (c.glo 10) pass0 (pa_cons (pcall (ok_l_parts_told c) (hr.mono (by decide)) (by rfl) (c.glo 48) pass0 (pa_cons (pv 0) (pa_cons (pv 3) pa_nil))) (pa_cons (pv 7) pa_nil)))))))) (pss_one (ps_ret pe_bl)) pss_nil)
      (pss_one (ps_ret (pe_and (pcall (ok_l_same c) (hr.mono (by decide)) (by rfl) (c.glo 10) pass0 (pa_cons (pcall (ok_is_ring c) (hr.mono (by decide)) (by rfl) (c.glo 49) pass0 (pa_cons (pv 0) (pa_cons (pv 3) pa_nil))) (pa_cons pe_bl pa_nil))) (pe_one (pcall (ok_l_same c) (hr.mono (by decide)) (by rfl) (c.glo 10) pass0 (pa_cons (pv 3) (pa_cons (pv 2) pa_nil))))))))) pss_nil)
      (pss_cons (ps_set (i := 5) sc_l_path_good.nd rfl (by first | exact Or.inl rfl | exact Or.inr rfl) pe_non)
      (pss_cons (ps_set (i := 6) sc_l_path_good.nd rfl (by first | exact Or.inl rfl | exact Or.inr rfl) pe_bl)
      (pss_cons (ps_if (pt_cmpR op_gt (pe_callB cl_len (by rfl) (c.free 0) (by decide +kernel) (pa_cons (pv 2) pa_nil)) pe_int (nomark _)) (pss_cons (ps_set (i := 5) sc_l_path_good.nd rfl (by first | exact Or.inl rfl | exact Or.inr rfl) (pe_tup (pa_cons (pe_ix ix_tup (pcall (ok_l_step_ends c) (hr.mono (by decide)) (by rfl) (c.glo 31) pass0 (pa_cons (pv 1) (pa_cons (pe_ix ix_list (pv 2) pe_int (fun _ _ => rfl)) pa_nil))) pe_int (fun _ _ => rfl)) (pa_cons (pe_ix ix_tup (pcall (ok_l_step_ends c) (hr.mono (by decide)) (by rfl) (c.glo 31) pass0 (pa_cons (pv 1) (pa_cons (pe_ix ix_list (pv 2) (pe_un un_neg pe_int) (fun _ _ => rfl)) pa_nil))) pe_int (fun _ _ => rfl)) pa_nil))))
      (pss_one (ps_set (i := 6) sc_l_path_good.nd rfl (by first | exact Or.inl rfl | exact Or.inr rfl) (pe_cmpR op_eq (pe_ix ix_tup (pv 5) pe_int (fun _ _ => rfl)) (pe_ix ix_tup (pv 5) pe_int (fun _ _ => rfl)) (nomark _))))) pss_nil)
      (pss_cons (ps_if (PW.pt (pw_or (pt_not (pt_val (pcall (ok_l_same c) (hr.mono (by decide)) (by rfl) (c.glo 10) pass0 (pa_cons (pcall (ok_l_ends_told c) (hr.mono (by decide)) (by rfl) (c.glo 47) pass0 (pa_cons (pv 0) (pa_cons (pv 3) pa_nil))) (pa_cons (pe_tup (pa_cons pe_str (pa_cons (pv 5) pa_nil))) pa_nil))))) (pw_or1 (pt_not (pt_val (pcall (ok_l_same c) (hr.mono (by decide)) (by rfl) (c.glo 10) pass0 (pa_cons (pcall (ok_is_ring c) (hr.mono (by decide)) (by rfl) (c.glo 49) pass0 (pa_cons (pv 0) (pa_cons (pv 3) pa_nil))) (pa_cons (pv 6) pa_nil)))))))) (pss_one (ps_ret pe_bl)) pss_nil)
      (pss_cons (ps_set (i := 7) sc_l_path_good.nd rfl (by first | exact Or.inl rfl | exact Or.inr rfl) (pe_tup (pa_cons pe_str (pa_cons (pe_callB cl_len (by rfl) (c.free 0) (by decide +kernel) (pa_cons (pv 2) pa_nil)) (pa_cons pe_bl (pa_cons pe_bl (pa_cons pe_bl pa_nil)))))))
      (pss_cons (ps_if (pt_val (pv 6)) (pss_one (ps_set (i := 7) sc_l_path_good.nd rfl (by first | exact Or.inl rfl | exact Or.inr rfl) (pe_tup (pa_cons pe_str (pa_cons pe_bl pa_nil))))) pss_nil)
      (pss_one (ps_ret (pe_and (pcall (ok_l_same c) (hr.mono (by decide)) (by rfl) (c.glo 10) pass0 (pa_cons (pcall (ok_l_parts_told c) (hr.mono (by decide)) (by rfl) (c.glo 48) pass0 (pa_cons (pv 0) (pa_cons (pv 3) pa_nil))) (pa_cons (pv 7) pa_nil))) (pe_one (pcall (ok_l_same c) (hr.mono (by decide)) (by rfl) (c.glo 10) pass0 (pa_cons (pv 3) (pa_cons (pv 2) pa_nil))))))))))))))))
theorem ok_l_path_good (c : FZ K mg) : FnX PP w K mg base CX0 9 ("_law_path_good", none) ["_law_net", "_law_spans", "_law_steps_here"] (sp_l_path_good K) := by
  obtain ⟨fd, F⟩ := c.says.def_ 26 (d := d_l_path_good) rfl
  have F' : FunD K "_law_path_good" "_law_path_good" (defArgs s_l_path_good) (defBody s_l_path_good) (defScope s_l_path_good) [] [] (He.fAd K ("_law_path_good", none)) fd := F
  exact ⟨⟨fd, ok_l_path_good_fd c F', F'.bindsN fun _ _ _ _ _ _ us hl => match us, hl with | [_, _, _], _ => rfl⟩, F'.kp⟩
theorem ok_law_fd (c : FZ K mg) {fd : FuncData} (F' : FunD K "law" "law" (defArgs s_law) (defBody s_law) (defScope s_law) [] [] (He.fAd K ("law", none)) fd) : FnOk PP w K mg base CX0 10 (He.fAd K ("law", none)) fd ["_law_script"] (sp_law K) := by
  refine F'.ok sc_law (fun vs H Q E h => len_law h) (fun cdv A outer s H vs Q E hr h => ⟨t_law K, PSs.nox ?_, pure_law (netK c) h⟩)
  exact (pss_cons (ps_set (i := 1) sc_law.nd rfl (by first | exact Or.inl rfl | exact Or.inr rfl) (pcall (ok_l_pool c) (hr.mono (by decide)) (by rfl) (c.glo 50) pass0 (pa_cons (pv 0) (pa_cons pe_int pa_nil))))
      (pss_cons (ps_set (i := 2) sc_law.nd rfl (by first | exact Or.inl rfl | exact Or.inr rfl) (pcall (ok_l_length c) (hr.mono (by decide)) (by rfl) (c.glo 51) pass0 (pa_cons (pv 1) pa_nil)))
      (pss_cons (ps_set (i := 3) sc_law.nd rfl (by first | exact Or.inl rfl | exact Or.inr rfl) (pcall (ok_l_many c) (hr.mono (by decide)) (by rfl) (c.glo 52) pass0 (pa_cons (pv 1) pa_nil)))
      (pss_cons (ps_set (i := 4) sc_law.nd rfl (by first | exact Or.inl rfl | exact Or.inr rfl) (pcall (ok_l_any_spans c) (hr.mono (by decide)) (by rfl) (c.glo 54) pass0 (pa_cons (pv 1) (pa_cons (pv 2) (pa_cons (pv 3) (pa_cons (pcall (ok_l_count c) (hr.mono (by decide)) (by rfl) (c.glo 53) pass0 (pa_cons (pv 1) (pa_cons (pv 3) pa_nil))) pa_nil))))))
      (pss_cons (ps_set (i := 5) sc_law.nd rfl (by first | exact Or.inl rfl | exact Or.inr rfl) (pmake (c.mkr 55) (ok_Net___init__ c) (hr.mono (by decide)) (by rfl) (c.glo 56) pass0 (pa_cons (pv 2) (pa_cons (pv 3) (pa_cons (pe_callTy cl_list (by rfl) (c.free 7) (by decide +kernel) (pa_cons (pv 4) pa_nil)) pa_nil)))))
      (pss_cons (ps_set (i := 6) sc_law.nd rfl (by first | exact Or.inl rfl | exact Or.inr rfl) (pcall (ok_l_steps c) (hr.mono (by decide)) (by rfl) (c.glo 57) pass0 (pa_cons (pcall (ok_l_pool c) (hr.mono (by decide)) (by rfl) (c.glo 50) pass0 (pa_cons (pv 0) (pa_cons pe_int pa_nil))) (pa_cons (pv 3) (pa_cons (pv 4) pa_nil)))))
      (pss_cons (ps_set (i := 7) sc_law.nd rfl (by first | exact Or.inl rfl | exact Or.inr rfl) (pcall (ok_l_steps c) (hr.mono (by decide)) (by rfl) (c.glo 57) pass0 (pa_cons (pcall (ok_l_pool c) (hr.mono (by decide)) (by rfl) (c.glo 50) pass0 (pa_cons (pv 0) (pa_cons pe_int pa_nil))) (pa_cons (pv 3) (pa_cons (pv 4) pa_nil)))))
      (pss_cons (ps_for PassesOwn.never rfl (pi_list (pe_lst (pa_cons (pv 6) (pa_cons (pv 7) (pa_cons (pv 6) pa_nil))))) (pg_name (i := 8) sc_law.nd rfl (by first | exact Or.inl rfl | exact Or.inr rfl)) (pss_one (ps_if (pt_not (pt_val (pcall (ok_l_path_good c) (hr.mono (by decide)) (by rfl) (c.glo 58) pass0 (pa_cons (pv 5) (pa_cons (pv 4) (pa_cons (pv 8) pa_nil)))))) (pss_one (ps_ret pe_bl)) pss_nil)))
      (pss_one (ps_ret (pcall (ok_l_same c) (hr.mono (by decide)) (by rfl) (c.glo 10) pass0 (pa_cons (pe_fld (pv 5) rfl) (pa_cons (pe_callTy cl_tuple (by rfl) (c.free 8) (by decide +kernel) (pa_cons (pv 4) pa_nil)) pa_nil)))))))))))))
theorem ok_law (c : FZ K mg) : FnX PP w K mg base CX0 10 ("law", none) ["_law_script"] (sp_law K) := by
  obtain ⟨fd, F⟩ := c.says.def_ 27 (d := d_law) rfl
  have F' : FunD K "law" "law" (defArgs s_law) (defBody s_law) (defScope s_law) [] [] (He.fAd K ("law", none)) fd := F
  exact ⟨⟨fd, ok_law_fd c F', F'.bindsN fun _ _ _ _ _ _ us hl => match us, hl with | [_], _ => rfl⟩, F'.kp⟩
end
end Cl

/-! ## End -/

namespace Cl
open PySem PySem.Spec PyProof.Rows L2
def names_0 : List Str := ["_wall", "__name__", "DepotError", "BadRounds", "BadNet", "BadTimes", "BadPath", "UnknownSpan", "UnknownEvent", "BrokenSpan", "TooMany", "ShutRing", "FORWARD", "BACKWARD", "step_ends", "path_ends", "check_ring", "is_ring", "SHORTEST_ROUND", "LONGEST_ROUND", "MOST_EVENTS", "MOST_SPANS", "MOST_MINUTES", "is_window", "is_span", "join_labels", "Net", "Base", "parts", "_law_cell"]
def names_1 : List Str := ["_law_pool", "_law_take", "_law_same", "_law_length", "_law_many", "_law_count", "_law_any_spans", "_law_step_ends", "_law_bad", "_law_walked", "_law_back", "_law_any_step", "_law_steps", "_law_ends_told", "_law_parts_told", "_law_path_good"]
def names : List Str := names_0 ++ names_1
abbrev R : PySem.W.OpenRow := PySem.W.OpenLaw.row PySem.Challenge.rw_depotday_k15_paths_and_rings
abbrev hk : PySem.W.Hook := Hz.hookZ (PP.main.file : Str) 5 fa fn fe (exOf xf)
def ob (s : PySem.W.SharedT) : Hz.AlZ := Hz.obsG (PP.main.file : Str) 5 fa fn fe (exOf xf) (HandSHeadRun.getT s)
theorem ob_eq (s : PySem.W.SharedT) : ob s = hk.obs s.abs := Hz.obsG_eq (HandSHeadRun.getT_eq s)
theorem run (w : World) : HandSHeadRun.RunEq R (PySem.W.view R.prog [50]) hk ob 6000 names w := by
  intro os
  kernel_rfl
end Cl
open PySem PySem.W PySem.Calls PyProof.Rows in
set_option maxRecDepth 100000 in
set_option maxHeartbeats 0 in
theorem PySem.Challenge.cw_depotday_k15_paths_and_rings_holds : PySem.Challenge.rw_depotday_k15_paths_and_rings.Holds := by
  w_on; o_law
  refine HandSHeadRun.head_any (r := OpenLaw.row PySem.Challenge.rw_depotday_k15_paths_and_rings) (q := view (OpenLaw.row PySem.Challenge.rw_depotday_k15_paths_and_rings).prog [50]) (H := Cl.hk) (ob := Cl.ob) (M := 6000) (loose := Cl.names) (d := HandSHeadRun.topDef (OpenLaw.row PySem.Challenge.rw_depotday_k15_paths_and_rings).prog 50) (kwd := []) Cl.ob_eq
    (by kernel_rfl) (fun s => by kernel_rfl) Cl.run (by kernel_rfl) (by kernel_rfl) (by kernel_rfl) (by rfl) (by first | assumption | decide +kernel) (by decide +kernel) ⟨rfl, rfl, rfl, rfl, rfl, by decide +kernel⟩ ?hw ?hc
  case hw => w_witness2
  case hc =>
    refine L2.walk_ofE (l := PySem.Challenge.rw_depotday_k15_paths_and_rings) (n := 63) (k := 10) (x := "_law_script") (CX := L2.CX0) rfl (by decide) (by kernel_rfl) ⟨rfl, by decide, by decide⟩ ?F (fun _ _ _ _ z => z)
    intro w mg fa h Y G hmg0
    obtain ⟨K, KX, says⟩ := Y
    have hmg : mg ("law" : PySem.Str) = some (.ref fa) := by
      have e : (HandSHeadRun.topDef (OpenLaw.row PySem.Challenge.rw_depotday_k15_paths_and_rings).prog 50).name = ("law" : PySem.Str) := by kernel_rfl
      rw [← e]
      exact hmg0
    have c : Cl.FZ K mg := Cl.Fz.mk' KX G says
    have ef := hmg.symm.trans (c.glo 59)
    cases ef
    obtain ⟨fd, F⟩ := c.says.def_ 27 (d := Cl.d_law) rfl
    have hb := L2.FunD.bindsA (ps := ["_law_script"]) F fun _ _ _ _ _ _ us hl => match us, hl with | [_], _ => rfl
    refine ⟨K, fd, Cl.sp_law K, KX, fun s v => hb s [v] rfl, fun H a ns hl _ hS => Cl.start_law hl hS, fun base _ _ => ?_⟩
    exact Cl.ok_law_fd c F
