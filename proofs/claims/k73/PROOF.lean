import PyProof.Rows.All
import Wide.All
import OpenK.AllK
import Wide.FinOn
import HandS.ForMost
import HandS.Exc
import HandS.WordsExc
import HandS.Defaults
import HandS.Walk
import HandS.Steps
import HandS.IsInst
import HandS.Conv
import HandS.SetKeys
import HandS.Head0
import HandS.Head1
import HandS.Head2
import HandS.HeadEnd
import HandS.HeadHook1
import HandS.HeadHook2
import HandS.HeadHook3
import HandS.HeadHook4
import HandS.Wide
import KE.KDictList
import HandS.ExcInit
import HandS.FStr
import HandS.ExcSuper
import KE.KExcSuper
import PyProof.Rows.RegStrFacts
import HandS.ExcValue
import HandS.HeadNt
import HandS.Property
import HandS.TryMany
import HandS.ExcField
import HandS.ExcIs
import KE.KExcIs
import PySem.Challenge.RW_depotday_k73_rule_texts
import KE.GoesEnum
import HandS.Iter
import HandS.Style
import HandS.TryOnly
import KE.DataFind
import HandS.OwnEq
import KE.KCallOwn
import OpenK.KOps
import HandS.Strs
import HandS.Text
import HandS.Star
import HandS.SortKw
import HandS.Zip
import KE.GoesNew
import HandS.Deep
import HandS.SetFor
import KE.DataMinMax
import HandS.DictComp
import HandS.SortInts
import HandS.TupLe
import KE.KOpsOwn
import PyProof.Conv_bool
import KE.KDictZip
import PyProof.AutoIntOps
import HandS.IterVal
import KE.DataCmp
import PyProof.EqAt
set_option Elab.async false
set_option linter.all false
set_option maxRecDepth 100000
set_option maxHeartbeats 4000000
/-! ## Lib -/
namespace Cl
open PySem PySem.Spec PyProof.Rows L2

/-! ## readings, one step each (continuations) -/
section
variable {σ : L2.St} {H : Hp} {Q : VK} {QA : List V → Hp → Prop} {QB : Bool → Hp → Prop} {D : Ends} {t u : TS} {te ta tb tc : TE} {tt tv : TT} {ts tr : TA} {v x y : V} {i : Nat}
theorem g_seq (h : t { D with nx := u D } σ H) : tSeq t u D σ H := h
theorem g_next (h : D.nx σ H) : tNext D σ H := h
theorem g_brk (h : D.bk σ H) : tBreak D σ H := h
theorem g_cnt (h : D.ct σ H) : tCont D σ H := h
theorem g_asg {g : TG} (h : te σ H fun x H1 => g x σ H1 D.nx) : tAsg te g D σ H := h
theorem g_name {QS : L2.St → Hp → Prop} (h : QS (σ.set i (some v)) H) : gName i v σ H QS := h
theorem g_drop (h : te σ H fun _ H1 => D.nx σ H1) : tDrop te D σ H := h
theorem g_ret (h : te σ H D.rt) : tRet te D σ H := h
theorem g_retN (h : D.rt .non H) : tRetN D σ H := h
theorem g_ifS (h : tt σ H fun b H1 => if b = true then t D σ H1 else u D σ H1) : tIfS tt t u D σ H := h
theorem g_if {b : Bool} {A B : Prop} (h1 : b = true → A) (h2 : b = false → B) : if b = true then A else B := by
  cases b with
  | true => exact iteT (h1 rfl)
  | false => exact iteF (h2 rfl)
theorem g_var (e : σ[i]? = some (some v)) (h : Q v H) : tVar i σ H Q := ⟨v, e, h⟩
theorem g_c (h : Q v H) : tC v σ H Q := h
theorem g_op {r : R2} (h : ta σ H fun x H1 => tb σ H1 fun y H2 => r x y H2 Q) : tOp r ta tb σ H Q := h
theorem g_un {r : V → Hp → VK → Prop} (h : ta σ H fun x H1 => r x H1 Q) : tUn r ta σ H Q := h
theorem g_I0 {g : Int → Int → V} {a b : Int} (h : Q (g a b) H) : rI0 g (.int a) (.int b) H Q := ⟨a, b, rfl, rfl, h⟩
theorem g_I {C : Int → Int → Prop} {g : Int → Int → V} {a b : Int} (hc : C a b) (h : Q (g a b) H) : rI C g (.int a) (.int b) H Q := ⟨a, b, rfl, rfl, hc, h⟩
theorem g_U {g : Int → V} {a : Int} (h : Q (g a) H) : rU g (.int a) H Q := ⟨a, rfl, h⟩
theorem g_eq (hs : scal x y = true) (h : Q (.bl (decide (x = y))) H) : rEq x y H Q := ⟨hs, h⟩
theorem g_ne (hs : scal x y = true) (h : Q (.bl (!decide (x = y))) H) : rNe x y H Q := ⟨hs, h⟩
theorem g_test (h : te σ H fun x H' => ∃ k, x = .bl k ∧ QB k H') : tTest te σ H QB := h
theorem g_B (h : te σ H fun x H' => ∃ k, x = .bl k ∧ QB k H') : tB te σ H QB := h
theorem g_bl {b : Bool} (h : QB b H) : ∃ k, V.bl b = .bl k ∧ QB k H := ⟨b, rfl, h⟩
theorem g_and (h : tt σ H fun c H1 => if c = true then tv σ H1 QB else QB false H1) : tAnd tt tv σ H QB := h
theorem g_or (h : tt σ H fun c H1 => if c = true then QB true H1 else tv σ H1 QB) : tOr tt tv σ H QB := h
theorem g_not (h : tt σ H fun c H1 => QB (!c) H1) : tNot tt σ H QB := h
theorem g_nil (h : QA [] H) : tNil σ H QA := h
theorem g_cons (h : te σ H fun x H1 => tr σ H1 fun xs H2 => QA (x :: xs) H2) : tCons te tr σ H QA := h
theorem g_call {sp : Sp} {E : XK} (h : ts σ H fun vs H1 => sp (vs ++ []) H1 Q E) : tCall sp [] E ts σ H Q := h
theorem g_cb {r : List V → Hp → VK → Prop} (h : ts σ H fun vs H1 => r vs H1 Q) : tCB r ts σ H Q := h
theorem g_tup (h : ts σ H fun xs H1 => xs.length ≤ sizeLine ∧ ∀ p, H1 p = none → Q (.ref p) (upd H1 p (.tup xs))) : tTup ts σ H Q := h
theorem g_lst (h : ts σ H fun xs H1 => xs.length ≤ sizeLine ∧ ∀ p, H1 p = none → Q (.ref p) (upd H1 p (.lst xs))) : tLst ts σ H Q := h
theorem g_ife (h : tt σ H fun c H1 => if c = true then ta σ H1 Q else tb σ H1 Q) : tIf tt ta tb σ H Q := h
end

/-! ## values that leave the heap: Val, tests: Ans -/
section
variable {σ : L2.St} {H : Hp} {i : Nat} {v x y z : V} {ta tb tc te : TE} {b c d : Bool} {K : PySem.W.Frag} {t u : TT} {a p : Addr} {xs : List V} {n m : Int}
theorem v_op {r : R2} (ha : Val ta σ H x) (hb : Val tb σ H y) (hr : ∀ Q : VK, Q z H → r x y H Q) : Val (tOp r ta tb) σ H z := val_op ha hb hr
theorem v_I0 {g : Int → Int → V} (ha : Val ta σ H (.int n)) (hb : Val tb σ H (.int m)) : Val (tOp (rI0 g) ta tb) σ H (g n m) := v_op ha hb fun _ q => ⟨n, m, rfl, rfl, q⟩
theorem v_I {C : Int → Int → Prop} {g : Int → Int → V} (ha : Val ta σ H (.int n)) (hb : Val tb σ H (.int m)) (hc : C n m) : Val (tOp (rI C g) ta tb) σ H (g n m) := v_op ha hb fun _ q => ⟨n, m, rfl, rfl, hc, q⟩
theorem v_U {g : Int → V} (ha : Val ta σ H (.int n)) : Val (tUn (rU g) ta) σ H (g n) := fun _ q => ha _ ⟨n, rfl, q⟩
theorem v_eq (ha : Val ta σ H x) (hb : Val tb σ H y) (hs : scal x y = true) : Val (tOp rEq ta tb) σ H (.bl (decide (x = y))) := v_op ha hb fun _ q => ⟨hs, q⟩
theorem v_ne (ha : Val ta σ H x) (hb : Val tb σ H y) (hs : scal x y = true) : Val (tOp rNe ta tb) σ H (.bl (!decide (x = y))) := v_op ha hb fun _ q => ⟨hs, q⟩
theorem v_ixL (ha : Val ta σ H (.ref p)) (hb : Val tb σ H (.int n)) (h : SqL K H p xs) (e : atI xs n = some v) : Val (tOp (rIxL K) ta tb) σ H v := v_op ha hb fun _ q => ⟨p, xs, n, v, rfl, rfl, h, e, q⟩
theorem v_ixT (ha : Val ta σ H (.ref p)) (hb : Val tb σ H (.int n)) (h : SqT K H p xs) (e : atI xs n = some v) : Val (tOp (rIxT K) ta tb) σ H v := v_op ha hb fun _ q => ⟨p, xs, n, v, rfl, rfl, h, e, q⟩
theorem v_chain {r r' : R2} {b c : Bool} (ha : Val ta σ H x) (hb : Val tb σ H y) (hc : Val tc σ H z) (h1 : ∀ Q : VK, Q (.bl b) H → r x y H Q) (h2 : ∀ Q : VK, Q (.bl c) H → r' y z H Q) : Val (tChain r r' ta tb tc) σ H (.bl (b && c)) := fun Q q => by
  refine ha _ (hb _ (h1 _ ⟨b, rfl, ?_⟩))
  cases b with
  | true => exact iteT (hc _ (h2 _ q))
  | false => exact iteF q
theorem i_I0 {g : Int → Int → V} : ∀ Q : VK, Q (g n m) H → rI0 g (.int n) (.int m) H Q := fun _ q => ⟨n, m, rfl, rfl, q⟩
theorem i_B0 {p : Int → Int → Bool} : ∀ Q : VK, Q (.bl (p n m)) H → rI0 (fun i j => .bl (p i j)) (.int n) (.int m) H Q := fun _ q => ⟨n, m, rfl, rfl, q⟩
theorem v_andV (ha : Val ta σ H (.bl b)) (hb : b = true → Val tb σ H (.bl c)) : Val (tAndV ta tb) σ H (.bl (b && c)) := fun Q q => by
  refine ha _ ⟨b, rfl, ?_⟩
  cases b with
  | true => exact iteT (hb rfl _ q)
  | false => exact iteF q
theorem v_orV (ha : Val ta σ H (.bl b)) (hb : b = false → Val tb σ H (.bl c)) : Val (tOrV ta tb) σ H (.bl (b || c)) := fun Q q => by
  refine ha _ ⟨b, rfl, ?_⟩
  cases b with
  | true => exact iteT q
  | false => exact iteF (hb rfl _ q)
theorem v_notV (ha : Val ta σ H (.bl b)) : Val (tNotV ta) σ H (.bl (!b)) := fun Q q => ha _ ⟨b, rfl, q⟩
theorem v_if (h : Ans t σ H b) (h1 : b = true → Val ta σ H x) (h2 : b = false → Val tb σ H y) : Val (tIf t ta tb) σ H (if b = true then x else y) := fun Q q => by
  refine h _ ?_
  cases b with
  | true => exact iteT (h1 rfl _ q)
  | false => exact iteF (h2 rfl _ q)
theorem a_test (h : Val te σ H (.bl b)) : Ans (tTest te) σ H b := fun Q q => h _ ⟨b, rfl, q⟩
theorem a_B (h : Val te σ H (.bl b)) : Ans (tB te) σ H b := fun Q q => h _ ⟨b, rfl, q⟩
theorem a_and (h1 : Ans t σ H b) (h2 : b = true → Ans u σ H c) : Ans (tAnd t u) σ H (b && c) := fun Q q => by
  refine h1 _ ?_
  cases b with
  | true => exact iteT (h2 rfl _ q)
  | false => exact iteF q
theorem a_or (h1 : Ans t σ H b) (h2 : b = false → Ans u σ H c) : Ans (tOr t u) σ H (b || c) := fun Q q => by
  refine h1 _ ?_
  cases b with
  | true => exact iteT q
  | false => exact iteF (h2 rfl _ q)
theorem a_not (h : Ans t σ H b) : Ans (tNot t) σ H (!b) := fun Q q => h _ q
/-- a list of argument values -/
def Args (ts : TA) (σ : L2.St) (H : Hp) (vs : List V) : Prop := ∀ Q : List V → Hp → Prop, Q vs H → ts σ H Q
theorem ar_nil : Args tNil σ H [] := fun _ q => q
theorem ar_cons {ts : TA} {vs : List V} (h : Val te σ H v) (hr : Args ts σ H vs) : Args (tCons te ts) σ H (v :: vs) := fun _ q => h _ (hr _ q)
theorem v_cb {r : List V → Hp → VK → Prop} {ts : TA} {vs : List V} (h : Args ts σ H vs) (hr : ∀ Q : VK, Q z H → r vs H Q) : Val (tCB r ts) σ H z := fun Q q => h _ (hr _ q)
/-- an expression whose value is known, then what follows -/
theorem g_val {Q : VK} (h : Val te σ H v) (q : Q v H) : te σ H Q := h Q q
theorem g_ans {Q : Bool → Hp → Prop} (h : Ans t σ H b) (q : Q b H) : t σ H Q := h Q q
theorem g_args {Q : List V → Hp → Prop} {ts : TA} {vs : List V} (h : Args ts σ H vs) (q : Q vs H) : ts σ H Q := h Q q
end
/-- a test whose answer is known, two ways -/
theorem g_ifA {c : TT} {t u : TS} {D : Ends} {σ : L2.St} {H : Hp} {b : Bool} (h : Ans c σ H b) (h1 : b = true → t D σ H) (h2 : b = false → u D σ H) : tIfS c t u D σ H := h _ (g_if h1 h2)
end Cl

/-! ## Lib2 -/
namespace Cl
open PySem PySem.Spec PyProof.Rows L2

/-! ## the head's facts -/
structure Fx (fa : List He.Fa) (fn : List He.DefD) (K : PySem.W.Frag) (mg : Str → Option Value) : Prop where
  says : He.SaysD fa fn K
  ns : ∃ h : Heap, K.In h ∧ h.Ns mainGlobals mg
theorem Fx.mk' {fa : List He.Fa} {fn : List He.DefD} {K : PySem.W.Frag} {h : Heap} {mg : Str → Option Value} (X : K.In h) (G : h.Ns mainGlobals mg) (c : He.SaysD fa fn K) : Fx fa fn K mg := ⟨c, h, X, G⟩
section
variable {fa : List He.Fa} {fn : List He.DefD} {K : PySem.W.Frag} {mg : Str → Option Value}
theorem Fx.glo (c : Fx fa fn K mg) (i : Nat) {x : Str} (h : fa[i]? = some (.glo x) := by rfl) : mg x = some (.ref (He.ga K x)) := let ⟨_, X, G⟩ := c.ns; He.glo_ok X G (c.says.fact i h)
theorem Fx.free (c : Fx fa fn K mg) (i : Nat) {x : Str} (h : fa[i]? = some (.free x) := by rfl) : mg x = none := let ⟨_, X, G⟩ := c.ns; He.free_ok X G (c.says.fact i h)
theorem Fx.int (c : Fx fa fn K mg) (i : Nat) {x : Str} {n : Int} (h : fa[i]? = some (.int x n) := by rfl) : ∃ t, mg x = some (.int n t) := let ⟨_, X, G⟩ := c.ns; He.int_ok X G (c.says.fact i h)
theorem Fx.str (c : Fx fa fn K mg) (i : Nat) {x z : Str} (h : fa[i]? = some (.str x z) := by rfl) : ∃ t, mg x = some (.str z t) := let ⟨_, X, G⟩ := c.ns; He.str_ok X G (c.says.fact i h)
theorem Fx.cls (c : Fx fa fn K mg) (i : Nat) {x : Str} (h : fa[i]? = some (.cls x) := by rfl) : Cls K (He.ga K x) := He.cls_ok (c.says.fact i h)
theorem Fx.noat (c : Fx fa fn K mg) (i : Nat) {x f : Str} (h : fa[i]? = some (.noat x f) := by rfl) : NoAttr K (He.ga K x) f := He.noat_ok (c.says.fact i h)
theorem Fx.meth (c : Fx fa fn K mg) (i : Nat) {x m : Str} (h : fa[i]? = some (.meth x m) := by rfl) : Meth K (He.ga K x) m (He.ma K (He.ga K x) m) := He.meth_ok (c.says.fact i h)
theorem Fx.mkr (c : Fx fa fn K mg) (i : Nat) {x : Str} (h : fa[i]? = some (.mkr x) := by rfl) : Mk K (He.ga K x) (He.ma K (He.ga K x) "__init__") := He.mkr_ok (c.says.fact i h)
end

/-! ## a def that keeps its promise -/
structure FnX (P : Program) (w : World) (K : PySem.W.Frag) (mg : Str → Option Value) (base : Heap) (CX : CXT) (k : Nat) (at_ : Str × Option Str) (ps : List Str) (sp : Sp) : Prop where
  ex : ∃ fd, FnOk P w K mg base CX k (He.fAd K at_) fd ps sp ∧ Binds K fd ps []
  kp : PySem.W.keepIn K (.ref (He.fAd K at_)) = true
section
variable {X : Cx} {CX : CXT} {k : Nat} {ps : List Str} {sp : Sp} {E : XK} {x m : Str} {p pos apos : Pos} {e o : Expr} {es : List Expr} {ta : TE} {t : TA}
theorem pcall (F : FnX X.prog X.w X.K X.mg X.base CX k (x, none) ps sp) (hr : Room k X.A) (hg : Gl X x) (hm : X.mg x = some (.ref (He.ga X.K x))) (hx : Passes CX X E)
    (ha : PA X (e :: es) t) (hdb : (x == ("__debug__" : Str)) = false := by decide) (he : starEach (e :: es) X.env = (false, eval e X.env) :: starEach es X.env := by rfl) (hpl : (backTo pos (starEach es X.env)).any (·.1) = false := by rfl) :
    PE X (.Call (.Name x p) (e :: es) [] pos) (tCall sp [] E t) := by
  obtain ⟨⟨fd, F, b⟩, kp⟩ := F
  exact pe_call F hr hg hm kp b .nil hx ha hdb he hpl
theorem pmeth {pl : Sem Bool} {C : Str} (he : PE X o ta) (c : Cls X.K (He.ga X.K C)) (hm : Meth X.K (He.ga X.K C) m (He.ma X.K (He.ga X.K C) m)) (F : FnX X.prog X.w X.K X.mg X.base CX k (C, some m) ps sp) (hr : Room k X.A) (hx : Passes CX X E) (ha : PA X (e :: es) t)
    (hst : starEach (e :: es) X.env = (false, eval e X.env) :: starEach es X.env := by rfl) (hpl : (backTo pos (starEach es X.env)).any (·.1) = false := by rfl)
    (ht : eval (.Call (.Attribute o m apos) (e :: es) [] pos) X.env = (do
      let ov ← eval o X.env
      standAt apos.atName
      let (f, first) ← holding [ov] (getMethod ov m pl)
      callWith pos f first (backTo pos (starEach (e :: es) X.env)) (backToKw pos (keywordEach [] X.env))) := by rfl) :
    PE X (.Call (.Attribute o m apos) (e :: es) [] pos) (tMeth (He.ga X.K C) m sp [] E ta t) := by
  obtain ⟨⟨fd, F, b⟩, kp⟩ := F
  exact pe_meth he c hm F hr b .nil hx ha hst hpl ht
theorem pmeth0 {pl : Sem Bool} {C : Str} (he : PE X o ta) (c : Cls X.K (He.ga X.K C)) (hm : Meth X.K (He.ga X.K C) m (He.ma X.K (He.ga X.K C) m)) (F : FnX X.prog X.w X.K X.mg X.base CX k (C, some m) ps sp) (hr : Room k X.A) (hx : Passes CX X E)
    (ht : eval (.Call (.Attribute o m apos) [] [] pos) X.env = (do
      let ov ← eval o X.env
      standAt apos.atName
      let (f, first) ← holding [ov] (getMethod ov m pl)
      callWith pos f first (backTo pos (starEach [] X.env)) (backToKw pos (keywordEach [] X.env))) := by rfl) :
    PE X (.Call (.Attribute o m apos) [] [] pos) (tMeth (He.ga X.K C) m sp [] E ta tNil) := by
  obtain ⟨⟨fd, F, b⟩, kp⟩ := F
  exact pe_meth0 he c hm F hr b .nil hx ht
theorem pmake (M : Mk X.K (He.ga X.K x) (He.ma X.K (He.ga X.K x) "__init__")) (F : FnX X.prog X.w X.K X.mg X.base CX k (x, some "__init__") ps sp) (hr : Room (k + 1) X.A) (hg : Gl X x) (hm : X.mg x = some (.ref (He.ga X.K x))) (hx : Passes CX X E)
    (ha : PA X (e :: es) t) (hdb : (x == ("__debug__" : Str)) = false := by decide) (he : starEach (e :: es) X.env = (false, eval e X.env) :: starEach es X.env := by rfl) (hpl : (backTo pos (starEach es X.env)).any (·.1) = false := by rfl) :
    PE X (.Call (.Name x p) (e :: es) [] pos) (tMake (He.ga X.K x) sp [] E t) := by
  obtain ⟨⟨fd, F, b⟩, kp⟩ := F
  exact pe_make M F hr hg hm b .nil hx ha hdb he hpl
theorem pgi {n : Int} (hg : Gl X x) (h : ∃ t, X.mg x = some (.int n t)) (hd : (x == ("__debug__" : Str)) = false := by decide) : PE X (.Name x pos) (tC (.int n)) := by
  obtain ⟨t, h⟩ := h
  exact pe_glob hg h ⟨t, rfl⟩ hd
theorem pgs {z : Str} (hg : Gl X x) (h : ∃ t, X.mg x = some (.str z t)) (hd : (x == ("__debug__" : Str)) = false := by decide) : PE X (.Name x pos) (tC (.str z)) := by
  obtain ⟨t, h⟩ := h
  exact pe_glob hg h ⟨t, rfl⟩ hd
end

/-! ## named readings of the kit's rules -/
def rLen (K : PySem.W.Frag) : List V → Hp → VK → Prop := fun xs H Q => ∃ p ys, xs = [.ref p] ∧ (SqL K H p ys ∨ SqT K H p ys) ∧ Q (.int ys.length) H
def rListOf (K : PySem.W.Frag) : List V → Hp → VK → Prop := fun xs H Q => ∃ p ys, xs = [.ref p] ∧ (SqL K H p ys ∨ SqT K H p ys) ∧ ∀ l, H l = none → Q (.ref l) (upd H l (.lst ys))
def rTupOf (K : PySem.W.Frag) : List V → Hp → VK → Prop := fun xs H Q => ∃ p ys, xs = [.ref p] ∧ ((SqL K H p ys ∧ ∀ l, H l = none → Q (.ref l) (upd H l (.tup ys))) ∨ (SqT K H p ys ∧ Q (.ref p) H))
def rAbs : List V → Hp → VK → Prop := fun xs H Q => ∃ i, xs = [.int i] ∧ Q (.int (if i < 0 then -i else i)) H
def rMax2 : List V → Hp → VK → Prop := fun xs H Q => ∃ i j, xs = [.int i, .int j] ∧ Q (.int (if j > i then j else i)) H
def rMin2 : List V → Hp → VK → Prop := fun xs H Q => ∃ i j, xs = [.int i, .int j] ∧ Q (.int (if j < i then j else i)) H
def rInt1 : List V → Hp → VK → Prop := fun xs H Q => (∃ i, xs = [.int i] ∧ Q (.int i) H) ∨ ∃ k, xs = [.bl k] ∧ Q (.int (if k then 1 else 0)) H
def rBool1 : List V → Hp → VK → Prop := fun xs H Q => (∃ i, xs = [.int i] ∧ Q (.bl (i != 0)) H) ∨ ∃ k, xs = [.bl k] ∧ Q (.bl k) H
abbrev oAdd : R2 := rI0 fun i j => .int (i + j)
abbrev oSub : R2 := rI0 fun i j => .int (i - j)
abbrev oMul : R2 := rI CMul fun i j => .int (i * j)
/-- // by a positive divisor below 2 ^ 62 -/
def CDivB (_ j : Int) : Prop := 0 < j ∧ j < 4611686018427387904
theorem op_fdivB {X : Cx} : OpR X (binaryOp .FloorDiv) (rI CDivB fun i j => .int (i / j)) := by
  intro pins s σ H x y v u Q I rx ry h
  obtain ⟨i, j, ex, ey, hc, q⟩ := h
  have h1 : 0 < j := hc.1
  have h2 : j < 4611686018427387904 := hc.2
  have h3 : j.natAbs < 2 ^ 62 := by
    have e : (2 : Nat) ^ 62 = 4611686018427387904 := by decide
    omega
  exact op_fdivW pins s σ H x y v u Q I rx ry ⟨i, j, ex, ey, wide_div (b := 62) h1 h3 (by decide) (by decide), q⟩
abbrev oDiv : R2 := rI CDivB fun i j => .int (i / j)
abbrev oMod : R2 := rI (fun _ j => 0 < j) fun i j => .int (i % j)
abbrev oPow : R2 := rI CPow fun i j => .int (i ^ j.toNat)
abbrev oLt : R2 := rI0 fun i j => .bl (decide (i < j))
abbrev oLe : R2 := rI0 fun i j => .bl (decide (i ≤ j))
abbrev oGt : R2 := rI0 fun i j => .bl (decide (j < i))
abbrev oGe : R2 := rI0 fun i j => .bl (decide (j ≤ i))
abbrev uNeg : V → Hp → VK → Prop := rU fun i => .int (-i)
section
variable {X : Cx}
theorem cl_len : CallR X (.builtin "len") (rLen X.K) := call_len_seq
theorem cl_list : CallR X (.type "list") (rListOf X.K) := call_list_of
theorem cl_tuple : CallR X (.type "tuple") (rTupOf X.K) := call_tuple_of
theorem cl_abs : CallR X (.builtin "abs") rAbs := call_abs
theorem cl_max2 (hc : X.calm = true) : CallR X (.builtin "max") rMax2 := call_max2 hc
theorem cl_min2 (hc : X.calm = true) : CallR X (.builtin "min") rMin2 := call_min2 hc
theorem cl_int1 : CallR X (.type "int") rInt1 := call_int1
theorem cl_bool1 : CallR X (.type "bool") rBool1 := call_bool1
end
section
variable {σ : L2.St} {H : Hp} {K : PySem.W.Frag} {p : Addr} {xs : List V} {n m : Int} {ts : TA} {b : Bool} {te ta tb : TE} {v w : V}
theorem v_len (h : Args ts σ H [.ref p]) (hl : SqL K H p xs) : Val (tCB (rLen K) ts) σ H (.int xs.length) := v_cb h fun _ q => ⟨p, xs, rfl, .inl hl, q⟩
theorem v_lenT (h : Args ts σ H [.ref p]) (hl : SqT K H p xs) : Val (tCB (rLen K) ts) σ H (.int xs.length) := v_cb h fun _ q => ⟨p, xs, rfl, .inr hl, q⟩
theorem v_abs (h : Args ts σ H [.int n]) : Val (tCB rAbs ts) σ H (.int (if n < 0 then -n else n)) := v_cb h fun _ q => ⟨n, rfl, q⟩
theorem v_max2 (h : Args ts σ H [.int n, .int m]) : Val (tCB rMax2 ts) σ H (.int (if m > n then m else n)) := v_cb h fun _ q => ⟨n, m, rfl, q⟩
theorem v_min2 (h : Args ts σ H [.int n, .int m]) : Val (tCB rMin2 ts) σ H (.int (if m < n then m else n)) := v_cb h fun _ q => ⟨n, m, rfl, q⟩
theorem v_intI (h : Args ts σ H [.int n]) : Val (tCB rInt1 ts) σ H (.int n) := v_cb h fun _ q => .inl ⟨n, rfl, q⟩
theorem v_intB (h : Args ts σ H [.bl b]) : Val (tCB rInt1 ts) σ H (.int (if b then 1 else 0)) := v_cb h fun _ q => .inr ⟨b, rfl, q⟩
theorem v_cast (h : Val te σ H v) (e : v = w) : Val te σ H w := e ▸ h
end
theorem atI_of {α : Type} {xs : List α} {i : Int} {v : α} (h0 : 0 ≤ i) (h : xs[i.toNat]? = some v) : atI xs i = some v := by
  have e : ((i.toNat : Nat) : Int) = i := Int.toNat_of_nonneg h0
  rw [← e]
  exact atI_nat h
theorem ixN_of {n : Nat} {i : Int} (h0 : 0 ≤ i) (h : i < n) : ixN n i = some i.toNat := by
  unfold ixN
  rw [if_pos h0, if_pos h]
/-! ## a statement, then the rest -/
section
variable {σ : L2.St} {H : Hp} {D : Ends} {t u r : TS} {te to ti : TE} {tt : TT} {b : Bool} {v x : V} {i : Nat} {K : PySem.W.Frag} {Q : VK}
theorem q_asg {g : TG} (h : te σ H fun x H1 => g x σ H1 (r D)) : tSeq (tAsg te g) r D σ H := h
theorem q_set (h : te σ H fun x H1 => r D (σ.set i (some x)) H1) : tSeq (tAsg te (gName i)) r D σ H := h
theorem q_val (h : Val te σ H v) (q : r D (σ.set i (some v)) H) : tSeq (tAsg te (gName i)) r D σ H := h _ q
theorem q_drop (h : te σ H fun _ H1 => r D σ H1) : tSeq (tDrop te) r D σ H := h
theorem q_next (h : r D σ H) : tSeq tNext r D σ H := h
theorem q_if (h : Ans tt σ H b) (h1 : b = true → t { D with nx := r D } σ H) (h2 : b = false → u { D with nx := r D } σ H) : tSeq (tIfS tt t u) r D σ H := g_ifA h h1 h2
theorem q_ifc (h : tt σ H fun b H1 => if b = true then t { D with nx := r D } σ H1 else u { D with nx := r D } σ H1) : tSeq (tIfS tt t u) r D σ H := h
theorem q_whenc (h : tt σ H fun b H1 => if b = true then t { D with nx := r D } σ H1 else r D σ H1) : tSeq (tIfS tt t tNext) r D σ H := h
theorem q_when (h : Ans tt σ H b) (h1 : b = true → t { D with nx := r D } σ H) (h2 : b = false → r D σ H) : tSeq (tIfS tt t tNext) r D σ H := g_ifA h h1 h2
theorem q_setI {p : Addr} {xs : List V} {n : Int} {j : Nat} (h : Val te σ H v) (ho : Val to σ H (.ref p)) (hi : Val ti σ H (.int n)) (hp : H p = some (.lst xs)) (hj : ixN xs.length n = some j) (q : r D σ (upd H p (.lst (xs.set j v)))) : tSeq (tAsg te (gSub to ti rSetL)) r D σ H :=
  h _ (ho _ (hi _ ⟨p, xs, n, j, rfl, rfl, hp, hj, q⟩))
theorem g_setI {p : Addr} {xs : List V} {n : Int} {j : Nat} (h : Val te σ H v) (ho : Val to σ H (.ref p)) (hi : Val ti σ H (.int n)) (hp : H p = some (.lst xs)) (hj : ixN xs.length n = some j) (q : D.nx σ (upd H p (.lst (xs.set j v)))) : tAsg te (gSub to ti rSetL) D σ H :=
  h _ (ho _ (hi _ ⟨p, xs, n, j, rfl, rfl, hp, hj, q⟩))
theorem g_set (h : te σ H fun x H1 => D.nx (σ.set i (some x)) H1) : tAsg te (gName i) D σ H := h
/-- xs.append(e), e any -/
theorem e_app {p : Addr} {xs : List V} (ho : Val to σ H (.ref p)) (hp : H p = some (.lst xs)) (h : te σ H fun y H2 => ∃ xs, H2 p = some (.lst xs) ∧ xs.length < sizeLine ∧ Q .non (upd H2 p (.lst (xs ++ [y]))))
    (mono : ∀ Q Q' : VK, (∀ v H, Q v H → Q' v H) → te σ H Q → te σ H Q' := by intros; assumption) : tBM K "list" rAppend to (tCons te tNil) σ H Q :=
  ho _ ⟨Or.inl ⟨rfl, xs, SqL.of hp⟩, mono _ _ (fun y H2 ⟨ys, e, l, q⟩ => ⟨p, ys, y, rfl, rfl, e, l, q⟩) h⟩
theorem e_appV {p : Addr} {xs : List V} (ho : Val to σ H (.ref p)) (h : Val te σ H v) (hp : H p = some (.lst xs)) (hl : xs.length < sizeLine) (q : Q .non (upd H p (.lst (xs ++ [v])))) : tBM K "list" rAppend to (tCons te tNil) σ H Q :=
  ho _ ⟨Or.inl ⟨rfl, xs, SqL.of hp⟩, h _ ⟨p, xs, v, rfl, rfl, hp, hl, q⟩⟩
end
end Cl

/-! ## Lib3 -/
namespace Cl
open PySem PySem.Spec PyProof.Rows L2
section
variable {X : Cx} {a b c d : Expr} {ta tb tc td : TE} {pos : Pos}
/-- a < b < c < d -/
def tChain3 (r r' r'' : R2) (ta tb tc td : TE) : TE := fun σ H Q => ta σ H fun x H1 => tb σ H1 fun y H2 => r x y H2 fun z H3 => ∃ k, z = .bl k ∧
  (if k = true then tc σ H3 fun w' H4 => r' y w' H4 fun z' H5 => ∃ k', z' = .bl k' ∧ (if k' = true then td σ H5 fun u' H6 => r'' w' u' H6 Q else Q (.bl false) H5) else Q (.bl false) H3)
theorem pe_chain3 {op op' op'' : CmpOp} {r r' r'' : R2} (ho : OpR X (compareOp op) r) (ho' : OpR X (compareOp op') r') (ho'' : OpR X (compareOp op'') r'') (ha : PE X a ta) (hb : PE X b tb) (hc : PE X c tc) (hd : PE X d td)
    (hm : lastMarks [op, op', op''] [b, c, d] = false := by with_unfolding_all rfl) : PE X (.Compare a [op, op', op''] [b, c, d] pos) (tChain3 r r' r'' ta tb tc td) := by
  refine ⟨fun pins s σ H Q I h => ?_⟩
  refine Compare_chain (thn (ha.run pins s σ H _ I h) fun v s1 ⟨x, H1, I1, r1, q1⟩ => chain_link (thn (hb.run pins s1 σ H1 _ I1 q1) fun u s2 ⟨y, H2, I2, r2, q2⟩ =>
    thn (ho pins s2 σ H2 x y v u _ I2 r1 r2 q2) fun d s3 ⟨z, H3, I3, r3, k, e, q3⟩ => ?_)) hm
  subst e
  cases r3
  refine wpAny_truthy_bool ?_
  cases k with
  | false => exact ite_ff ⟨.bl false, H3, I3, rfl, q3⟩
  | true =>
    refine ite_tt (chain_link (thn (hc.run pins s3 σ H3 _ I3 q3) fun w' s4 ⟨z', H4, I4, r4, q4⟩ => thn (ho' pins s4 σ H4 y z' u w' _ I4 r2 r4 q4) fun d' s5 ⟨z2, H5, I5, r5, k2, e2, q5⟩ => ?_))
    subst e2
    cases r5
    refine wpAny_truthy_bool ?_
    cases k2 with
    | false => exact ite_ff ⟨.bl false, H5, I5, rfl, q5⟩
    | true => exact ite_tt (chain_last (thn (hd.run pins s5 σ H5 _ I5 q5) fun w2 s6 ⟨z3, H6, I6, r6, q6⟩ => ho'' pins s6 σ H6 z' z3 w' w2 Q I6 r4 r6 q6))
theorem v_chain3 {σ : L2.St} {H : Hp} {x y z w : V} {r r' r'' : R2} {p q s : Bool} (ha : Val ta σ H x) (hb : Val tb σ H y) (hc : Val tc σ H z) (hd : Val td σ H w) (h1 : ∀ Q : VK, Q (.bl p) H → r x y H Q) (h2 : ∀ Q : VK, Q (.bl q) H → r' y z H Q) (h3 : ∀ Q : VK, Q (.bl s) H → r'' z w H Q) :
    Val (tChain3 r r' r'' ta tb tc td) σ H (.bl (p && (q && s))) := fun Q k => by
  refine ha _ (hb _ (h1 _ ⟨p, rfl, ?_⟩))
  cases p with
  | false => exact iteF k
  | true =>
    refine iteT (hc _ (h2 _ ⟨q, rfl, ?_⟩))
    cases q with
    | false => exact iteF k
    | true => exact iteT (hd _ (h3 _ k))
/-- list(e.values()) -/
def tListV (te : TE) : TE := fun σ H Q => te σ H fun x H1 => ∃ (d : Addr) (kvs : List (Key × V)), x = .ref d ∧ H1 d = some (.dK kvs) ∧ ∀ l, H1 l = none → Q (.ref l) (upd H1 l (.lst (kvs.map (·.2))))
theorem vals_snd {κ : Type} : ∀ {kvs : List (κ × V)} {vs : List (κ × Value)}, KV kvs vs → Vals (kvs.map (·.2)) (vs.map (·.2))
  | _, _, .nil => .nil
  | _, _, .cons r t => .cons r.2 (vals_snd t)
theorem plistV {e : Expr} {te : TE} {p apos cpos : Pos} (hc : X.calm = true) (hg : Gl X "list") (hm : X.mg "list" = none) (he : PE X e te) (hv : bootBuiltins "list" = some (.type "list") := by decide +kernel) (hbase : attributeBase e "values" X.env (eval e X.env) = eval e X.env := by rfl) (hline : (apos.endLine == cpos.line) = true := by rfl)
    (hs : starEach [.Call (.Attribute e "values" apos) [] [] cpos] X.env = (false, eval (.Call (.Attribute e "values" apos) [] [] cpos) X.env) :: starEach [] X.env := by rfl) :
    PE X (.Call (.Name "list" p) [.Call (.Attribute e "values" apos) [] [] cpos] [] pos) (tListV te) := by
  refine ⟨fun pins s σ H Q I hq => ?_⟩
  refine wpAny_Call_Name_kw (ld_blt I hg hm hv ?_)
  refine PyProof.Rows.callWith_type1 ?_ hs rfl
  rw [hs]
  show wpAny _ _ (spliced ((false, eval (.Call (.Attribute e "values" apos) [] [] cpos) X.env) :: backTo pos (starEach [] X.env))) _ _ s
  refine Calls.spliced_cons ?_
  refine wpAny_Call_method (T := "dict") (id := "dict.values") hbase rfl hline F.plainAttrs_dict F.slot_dict_values F.type_dict_values (thn (he.run pins s σ H _ I hq) fun u s1 ⟨x, H1, I1, rx, d, kvs, ex, hd, q⟩ => ?_)
  subst ex
  obtain rfl : u = Value.ref d := rx
  obtain ⟨hz, hs0, vs, kv, hdo⟩ := I1.hok d _ hd
  obtain ⟨ep, hat⟩ := hdo.dictAt
  have lk : kvs.length = vs.length := Paired.length kv
  have I2 : Inv X pins σ H1 { s1 with heap := s1.heap.push { cls := .type "dict_values", data := .fields #[.ref d] } } := I1.kept (t' := s1.toks) fun b ob q => Heap.get?_push_of_some _ q
  refine ⟨hdo.typeIs, hdo.mapOf.noDict, ?_⟩
  show wpAny _ _ (callWith cpos (.builtin "dict.values") [.ref d] [] []) _ X.xe s1
  refine method_meetsIn F.slot_dict_values F.entry_dict_values rfl (PySem.evalArgs_none ⟨rfl, hdo.typeIs, F.args_dict_values_1 _, _, meets_dict_values (mixKind X.prog X.w) d hs0, ⟨vs, hdo⟩, ?_⟩)
  refine Calls.spliced_nil ?_
  refine PySem.W.kdl_call (PySem.W.kdl_values (knd := mixKind X.prog X.w) (kvs := vs) (ep := ep)) (I1.ok.hd hc) ⟨⟨_, Heap.get?_push_size _ rfl, rfl, rfl⟩, hat.push _⟩ (by omega) fun h' tk acc c hk hS hi => ?_
  have ea : acc.toList = vs.map (·.2) := PySem.W.kdl_vals_eq acc.toList (by rw [Array.length_toList]; exact hi.1) fun j v hj => hi.2 j v (by rw [← hj, Array.getElem?_toList])
  have hn : H1 (s1.heap.push { cls := .type "dict_values", data := .fields #[.ref d] }).objs.size = none := I2.hok.fresh (Nat.le_refl _)
  refine ⟨.ref _, upd H1 (s1.heap.push { cls := .type "dict_values", data := .fields #[.ref d] }).objs.size (.lst (kvs.map (·.2))), I2.laid (t' := tk) hk (Nat.le_refl _) (show ObjOk X.prog X.w _ _ _ (.lst (kvs.map (·.2))) from ⟨by rw [List.length_map]; exact hz, acc.toList, c, by rw [ea]; exact vals_snd kv, ?_⟩), rfl, q _ hn⟩
  rw [Array.toArray_toList]; exact hS
end
section
variable {X : Cx} {o e f : Expr} {apos cpos : Pos} {m : Str}
theorem m2_of (h1 : attributeBase o m X.env (eval o X.env) = eval o X.env := by rfl)
    (h2 : ((backTo cpos (starEach [e, f] X.env)).all (fun x => !x.1) && (backToKw cpos (keywordEach [] X.env)).all (fun x => x.1.isSome)
    && decide (([e, f] : List Expr).length + ([] : List Keyword).length + (if ([] : List Keyword).isEmpty then 0 else 1) < 30)) = true := by rfl)
    (h3 : (apos.endLine == cpos.line) = true := by rfl) (h4 : backTo cpos (starEach [e, f] X.env) = [(false, eval e X.env), (false, eval f X.env)] := by rfl) : M2 X o m apos e f cpos := ⟨h1, h2, h3, h4⟩
end
/-! ## loops -/
section
variable {σ : L2.St} {H : Hp} {D : Ends} {tb r : TS} {K : PySem.W.Frag} {j : Nat}
theorem s_forR {ta : TA} {n : Int} (h : Args ta σ H [.int n]) (hn : -1000000000 ≤ n ∧ n < 1000000000) (Pv : Nat → L2.St → Hp → Prop) (h0 : Pv 0 σ H)
    (hs : ∀ (i : Nat) σ' H', (i : Int) < n → Pv i σ' H' → tb { D with nx := Pv (i + 1), ct := Pv (i + 1), bk := D.nx } (σ'.set j (some (.int (i : Int)))) H') (hd : ∀ σ' H', Pv n.toNat σ' H' → D.nx σ' H') : tFor (iRng1 ta) (gName j) tb D σ H :=
  h _ ⟨n, rfl, by omega, by omega, for_range (lo := 0) (n := n.toNat) Pv h0 (fun i σ' H' hi p => by
    have e0 : (0 : Int) + (i : Int) = (i : Int) := Int.zero_add _
    show tb { D with nx := Pv (i + 1), ct := Pv (i + 1), bk := D.nx } (σ'.set j (some (.int ((0 : Int) + (i : Int))))) H'
    rw [e0]
    exact hs i σ' H' (by omega) p) hd⟩
theorem q_forR {ta : TA} {n : Int} (h : Args ta σ H [.int n]) (hn : -1000000000 ≤ n ∧ n < 1000000000) (Pv : Nat → L2.St → Hp → Prop) (h0 : Pv 0 σ H)
    (hs : ∀ (i : Nat) σ' H', (i : Int) < n → Pv i σ' H' → tb { D with nx := Pv (i + 1), ct := Pv (i + 1), bk := r D } (σ'.set j (some (.int (i : Int)))) H') (hd : ∀ σ' H', Pv n.toNat σ' H' → r D σ' H') : tSeq (tFor (iRng1 ta) (gName j) tb) r D σ H :=
  s_forR (D := { D with nx := r D }) h hn Pv h0 hs hd
theorem s_forR2 {ta : TA} {lo hi : Int} (h : Args ta σ H [.int lo, .int hi]) (h1 : -1000000000 ≤ lo ∧ lo < 1000000000) (h2 : -1000000000 ≤ hi ∧ hi < 1000000000) (Pv : Nat → L2.St → Hp → Prop) (h0 : Pv 0 σ H)
    (hs : ∀ (i : Nat) σ' H', lo + (i : Int) < hi → Pv i σ' H' → tb { D with nx := Pv (i + 1), ct := Pv (i + 1), bk := D.nx } (σ'.set j (some (.int (lo + (i : Int))))) H') (hd : ∀ σ' H', Pv (hi - lo).toNat σ' H' → D.nx σ' H') : tFor (iRng2 ta) (gName j) tb D σ H :=
  h _ ⟨lo, hi, rfl, ⟨by omega, by omega, by omega, by omega⟩, for_range (lo := lo) (n := (hi - lo).toNat) Pv h0 (fun i σ' H' hi p => hs i σ' H' (by omega) p) hd⟩
theorem q_forR2 {ta : TA} {lo hi : Int} (h : Args ta σ H [.int lo, .int hi]) (h1 : -1000000000 ≤ lo ∧ lo < 1000000000) (h2 : -1000000000 ≤ hi ∧ hi < 1000000000) (Pv : Nat → L2.St → Hp → Prop) (h0 : Pv 0 σ H)
    (hs : ∀ (i : Nat) σ' H', lo + (i : Int) < hi → Pv i σ' H' → tb { D with nx := Pv (i + 1), ct := Pv (i + 1), bk := r D } (σ'.set j (some (.int (lo + (i : Int))))) H') (hd : ∀ σ' H', Pv (hi - lo).toNat σ' H' → r D σ' H') : tSeq (tFor (iRng2 ta) (gName j) tb) r D σ H :=
  s_forR2 (D := { D with nx := r D }) h h1 h2 Pv h0 hs hd
theorem s_forL {a : Addr} {xs : List V} {tl : TE} (h : Val tl σ H (.ref a)) (hx : SqL K H a xs) (Pv : Nat → L2.St → Hp → Prop) (h0 : Pv 0 σ H) (hl : ∀ i σ' H', i ≤ xs.length → Pv i σ' H' → SqL K H' a xs)
    (hs : ∀ i x σ' H', xs[i]? = some x → Pv i σ' H' → tb { D with nx := Pv (i + 1), ct := Pv (i + 1), bk := D.nx } (σ'.set j (some x)) H') (hd : ∀ σ' H', Pv xs.length σ' H' → D.nx σ' H') : tFor (iList K tl) (gName j) tb D σ H :=
  h _ ⟨a, rfl, ⟨xs, hx⟩, for_list Pv h0 hl hs hd⟩
theorem q_forL {a : Addr} {xs : List V} {tl : TE} (h : Val tl σ H (.ref a)) (hx : SqL K H a xs) (Pv : Nat → L2.St → Hp → Prop) (h0 : Pv 0 σ H) (hl : ∀ i σ' H', i ≤ xs.length → Pv i σ' H' → SqL K H' a xs)
    (hs : ∀ i x σ' H', xs[i]? = some x → Pv i σ' H' → tb { D with nx := Pv (i + 1), ct := Pv (i + 1), bk := r D } (σ'.set j (some x)) H') (hd : ∀ σ' H', Pv xs.length σ' H' → r D σ' H') : tSeq (tFor (iList K tl) (gName j) tb) r D σ H :=
  s_forL (D := { D with nx := r D }) h hx Pv h0 hl hs hd
theorem s_forT {a : Addr} {xs : List V} {tl : TE} (h : Val tl σ H (.ref a)) (hx : SqT K H a xs) (Pv : Nat → L2.St → Hp → Prop) (h0 : Pv 0 σ H) (hl : ∀ i σ' H', i ≤ xs.length → Pv i σ' H' → SqT K H' a xs)
    (hs : ∀ i x σ' H', xs[i]? = some x → Pv i σ' H' → tb { D with nx := Pv (i + 1), ct := Pv (i + 1), bk := D.nx } (σ'.set j (some x)) H') (hd : ∀ σ' H', Pv xs.length σ' H' → D.nx σ' H') : tFor (iTup K tl) (gName j) tb D σ H :=
  h _ ⟨a, rfl, ⟨xs, hx⟩, for_tup Pv h0 hl hs hd⟩
theorem q_forT {a : Addr} {xs : List V} {tl : TE} (h : Val tl σ H (.ref a)) (hx : SqT K H a xs) (Pv : Nat → L2.St → Hp → Prop) (h0 : Pv 0 σ H) (hl : ∀ i σ' H', i ≤ xs.length → Pv i σ' H' → SqT K H' a xs)
    (hs : ∀ i x σ' H', xs[i]? = some x → Pv i σ' H' → tb { D with nx := Pv (i + 1), ct := Pv (i + 1), bk := r D } (σ'.set j (some x)) H') (hd : ∀ σ' H', Pv xs.length σ' H' → r D σ' H') : tSeq (tFor (iTup K tl) (gName j) tb) r D σ H :=
  s_forT (D := { D with nx := r D }) h hx Pv h0 hl hs hd
/-- for i, x in enumerate(xs): the pair is a new tuple, taken apart -/
theorem s_forE {a : Addr} {xs : List V} {ta : TA} {i1 i2 : Nat} (h : Args ta σ H [.ref a]) (hx : SqL K H a xs) (Pv : Nat → L2.St → Hp → Prop) (h0 : Pv 0 σ H) (hl : ∀ i σ' H', i ≤ xs.length → Pv i σ' H' → SqL K H' a xs)
    (hs : ∀ (i : Nat) x σ' H' t, xs[i]? = some x → Pv i σ' H' → H' t = none → tb { D with nx := Pv (i + 1), ct := Pv (i + 1), bk := D.nx } ((σ'.set i1 (some (.int (i : Int)))).set i2 (some x)) (upd H' t (.tup [.int (i : Int), x]))) (hd : ∀ σ' H', Pv xs.length σ' H' → D.nx σ' H') :
    tFor (iEnum K ta) (gTup K 2 (gCons (gName i1) (gCons (gName i2) gNil))) tb D σ H :=
  h _ ⟨a, xs, rfl, hx, for_it (walk_enum (K := K) (a := a) (xs := xs)) Pv h0 hl (fun i x σ' H' H'' hi p y => by
    obtain ⟨t, u, v, ex, ht, eH, e1, e2⟩ := y
    have eu : V.int (i : Int) = u := Option.some.inj e1
    subst ex eH eu
    exact ⟨t, _, rfl, SqT.of upd_same, rfl, _, _, rfl, _, _, rfl, rfl, hs i v σ' H' t e2 p ht⟩) hd⟩
theorem q_forE {a : Addr} {xs : List V} {ta : TA} {i1 i2 : Nat} (h : Args ta σ H [.ref a]) (hx : SqL K H a xs) (Pv : Nat → L2.St → Hp → Prop) (h0 : Pv 0 σ H) (hl : ∀ i σ' H', i ≤ xs.length → Pv i σ' H' → SqL K H' a xs)
    (hs : ∀ (i : Nat) x σ' H' t, xs[i]? = some x → Pv i σ' H' → H' t = none → tb { D with nx := Pv (i + 1), ct := Pv (i + 1), bk := r D } ((σ'.set i1 (some (.int (i : Int)))).set i2 (some x)) (upd H' t (.tup [.int (i : Int), x]))) (hd : ∀ σ' H', Pv xs.length σ' H' → r D σ' H') :
    tSeq (tFor (iEnum K ta) (gTup K 2 (gCons (gName i1) (gCons (gName i2) gNil))) tb) r D σ H := s_forE (D := { D with nx := r D }) h hx Pv h0 hl hs hd
/-! ## tests that are known -/
variable {tt : TT} {t u : TS} {b : Bool} {te ta : TE} {x : V} {ts : TA}
theorem q_yes (h : Ans tt σ H b) (e : b = true) (q : t { D with nx := r D } σ H) : tSeq (tIfS tt t u) r D σ H := g_ifA h (fun _ => q) (fun z => by rw [e] at z; cases z)
theorem q_no (h : Ans tt σ H b) (e : b = false) (q : r D σ H) : tSeq (tIfS tt t tNext) r D σ H := g_ifA h (fun z => by rw [e] at z; cases z) (fun _ => q)
theorem g_yes (h : Ans tt σ H b) (e : b = true) (q : t D σ H) : tIfS tt t u D σ H := g_ifA h (fun _ => q) (fun z => by rw [e] at z; cases z)
theorem g_no (h : Ans tt σ H b) (e : b = false) (q : u D σ H) : tIfS tt t u D σ H := g_ifA h (fun z => by rw [e] at z; cases z) (fun _ => q)
theorem v_isN (ha : Val ta σ H x) : Val (tOp rIsN ta (tC .non)) σ H (.bl (decide (x = .non))) := v_op ha val_c fun _ q => ⟨rfl, q⟩
theorem v_notN (ha : Val ta σ H x) : Val (tOp rNotN ta (tC .non)) σ H (.bl (!decide (x = .non))) := v_op ha val_c fun _ q => ⟨rfl, q⟩
theorem v_isi {T A : String} (h : Args ts σ H [x, .ty T]) (ht : TyX K H x (.type A)) (hk : kitB A T = some b) : Val (tCB (rIsi K) ts) σ H (.bl b) := v_cb h fun _ q => ⟨x, .ty T, .type A, .type T, b, rfl, .ty T, ht, kit_ty hk, q⟩
theorem v_isiT {T A : String} (h : Args ts σ H [x, .ty T]) (ht : TyX K H x (.type A)) (hk : kitB A T = some true) : Val (tCB (rIsi K) ts) σ H (.bl true) := v_isi h ht hk
theorem v_isiF {T A : String} (h : Args ts σ H [x, .ty T]) (ht : TyX K H x (.type A)) (hk : kitB A T = some false) : Val (tCB (rIsi K) ts) σ H (.bl false) := v_isi h ht hk
theorem v_ixS {p : Addr} {xs : List V} {tb : TE} {n : Int} {v : V} (ha : Val ta σ H (.ref p)) (hb : Val tb σ H (.int n)) (h : SqL K H p xs ∨ SqT K H p xs) (e : atI xs n = some v) : Val (tOp (rIx K) ta tb) σ H v := v_op ha hb fun _ q => by
  rcases h with h | h
  · exact Or.inl ⟨p, xs, n, v, rfl, rfl, h, e, q⟩
  · exact Or.inr (Or.inl ⟨p, xs, n, v, rfl, rfl, h, e, q⟩)
end
end Cl

/-! ## ComSp -/
namespace Cl
open PySem PySem.Spec PyProof.Rows L2
/-! ## heaps: all but S is kept -/
def Kp (S : List Addr) (H H' : Hp) : Prop := ∀ b o, b ∉ S → H b = some o → H' b = some o
theorem Kp.refl (S : List Addr) (H : Hp) : Kp S H H := fun _ _ _ e => e
theorem Kp.trans {S : List Addr} {H H1 H2 : Hp} (a : Kp S H H1) (b : Kp S H1 H2) : Kp S H H2 := fun c o n e => b c o n (a c o n e)
theorem Kp.mono {S T : List Addr} {H H1 : Hp} (a : Kp S H H1) (h : ∀ x ∈ S, x ∈ T) : Kp T H H1 := fun c o n e => a c o (fun z => n (h c z)) e
theorem Kp.upd {S : List Addr} {H H1 : Hp} {p : Addr} {o : HO} (a : Kp S H H1) (h : p ∈ S) : Kp S H (upd H1 p o) := fun c u n e => by
  have hne : c ≠ p := fun z => n (by rw [z]; exact h)
  rw [upd_ne hne]
  exact a c u n e
theorem Kp.new {S : List Addr} {H H1 : Hp} {p : Addr} {o : HO} (a : Kp S H H1) (h : H1 p = none) : Kp S H (L2.upd H1 p o) := fun c u n e => by
  have e1 := a c u n e
  rw [upd_ne (ne_of_none e1 h)]
  exact e1
/-- an object that came behind H may change -/
theorem Kp.mut {S : List Addr} {H H1 : Hp} {p : Addr} {o : HO} (a : Kp S H H1) (h : H p = none) : Kp S H (L2.upd H1 p o) := fun c u n e => by
  rw [upd_ne (ne_of_none e h)]
  exact a c u n e
theorem Kp.free {S : List Addr} {H H1 : Hp} {p : Addr} (a : Kp S H H1) (hs : p ∉ S) (h : H1 p = none) : H p = none := by
  cases e : H p with
  | none => rfl
  | some o => rw [a p o hs e] at h; cases h
theorem Kp.of {H H1 : Hp} (S : List Addr) (a : Kp [] H H1) : Kp S H H1 := a.mono fun _ z => nomatch z
/-- a pool: what draws are made of -/
def Pool (H : Hp) (p : Addr) : Prop := ∃ a f c : Int, H p = some (.lst [.int a, .int f, .int c]) ∧ 0 ≤ a ∧ 0 ≤ c
theorem Pool.some {H : Hp} {p : Addr} (h : Pool H p) : ∃ o, H p = some o := let ⟨_, _, _, e, _⟩ := h; ⟨_, e⟩
theorem Pool.ne {H : Hp} {p q : Addr} (h : Pool H p) (hq : H q = none) : q ≠ p := fun z => by
  obtain ⟨_, _, _, e, _⟩ := h
  rw [z, e] at hq; cases hq
theorem Pool.upd {H : Hp} {p q : Addr} {o : HO} (h : Pool H p) (hn : p ≠ q) : Pool (upd H q o) p := by
  obtain ⟨a, f, c, e, z⟩ := h
  exact ⟨a, f, c, by rw [upd_ne hn]; exact e, z⟩
theorem Pool.new {H : Hp} {p q : Addr} {o : HO} (h : Pool H p) (hq : H q = none) : Pool (L2.upd H q o) p := h.upd (h.ne hq).symm
/-! ## data of depth n at most -/
def Dat (H : Hp) : Nat → PyData → V → Prop
  | _, .none, v => v = .non
  | _, .bool b, v => v = .bl b
  | _, .int i, v => v = .int i
  | _, .str s, v => v = .str s
  | n + 1, .list ds, v => ∃ a vs, v = .ref a ∧ H a = some (.lst vs) ∧ ds.length ≤ 1000000 ∧ vs.length = ds.length ∧ ∀ (i : Nat) d x, ds[i]? = some d → vs[i]? = some x → Dat H n d x
  | n + 1, .tuple ds, v => ∃ a vs, v = .ref a ∧ H a = some (.tup vs) ∧ ds.length ≤ 1000000 ∧ vs.length = ds.length ∧ ∀ (i : Nat) d x, ds[i]? = some d → vs[i]? = some x → Dat H n d x
  | _, _, _ => False
/-! ## promises of the law's common defs -/
def sp_l_cell (K : PySem.W.Frag) : Sp := fun vs H Q _ => ∃ (a : Addr) (ns : List Int) (k : Int), vs = [.ref a, .int k] ∧ SqL K H a (ns.map V.int) ∧ 0 ≤ k ∧ ∀ i, 0 ≤ i → Q (.int i) H
def sp_l_pool (K : PySem.W.Frag) : Sp := fun vs H Q _ => ∃ (a : Addr) (ns : List Int) (k : Int), vs = [.ref a, .int k] ∧ SqL K H a (ns.map V.int) ∧ 0 ≤ k ∧ k < 1000000 ∧
  ∀ p H', H p = none → Kp [] H H' → Pool H' p → Q (.ref p) H'
def sp_l_take : Sp := fun vs H Q _ => ∃ (p : Addr) (m : Int), vs = [.ref p, .int m] ∧ Pool H p ∧ 0 < m ∧ m < 4611686018427387904 ∧ ∀ r H', 0 ≤ r → r < m → Kp [p] H H' → (∀ b, H b = none → H' b = none) → Pool H' p → Q (.int r) H'
/-- both the same data -/
def sp_l_same_n (n : Nat) : Sp := fun vs H Q _ => ∃ (x y : V) (d : PyData), vs = [x, y] ∧ Dat H n d x ∧ Dat H n d y ∧ Q (.bl true) H
def sp_l_same_r : Nat → Sp
  | 0 => fun _ _ _ _ => False
  | n + 1 => sp_l_same_n n
def sp_l_same : Sp := fun vs H Q E => ∃ n, n < 8 ∧ sp_l_same_n n vs H Q E
theorem len_l_cell {K : PySem.W.Frag} {vs H Q E} (h : sp_l_cell K vs H Q E) : vs.length = 2 := by obtain ⟨_, _, _, rfl, _⟩ := h; rfl
theorem len_l_pool {K : PySem.W.Frag} {vs H Q E} (h : sp_l_pool K vs H Q E) : vs.length = 2 := by obtain ⟨_, _, _, rfl, _⟩ := h; rfl
theorem len_l_take {vs H Q E} (h : sp_l_take vs H Q E) : vs.length = 2 := by obtain ⟨_, _, rfl, _⟩ := h; rfl
theorem len_l_same {n vs H Q E} (h : sp_l_same_n n vs H Q E) : vs.length = 2 := by obtain ⟨_, _, _, rfl, _⟩ := h; rfl
theorem call_cell {K : PySem.W.Frag} {H : Hp} {Q : VK} {E : XK} {a : Addr} {ns : List Int} {k : Int} (h : SqL K H a (ns.map V.int)) (h0 : 0 ≤ k) (q : ∀ i, 0 ≤ i → Q (.int i) H) : sp_l_cell K [.ref a, .int k] H Q E := ⟨a, ns, k, rfl, h, h0, q⟩
theorem call_pool {K : PySem.W.Frag} {H : Hp} {Q : VK} {E : XK} {a : Addr} {ns : List Int} {k : Int} (h : SqL K H a (ns.map V.int)) (h0 : 0 ≤ k) (h1 : k < 1000000) (q : ∀ p H', H p = none → Kp [] H H' → Pool H' p → Q (.ref p) H') : sp_l_pool K [.ref a, .int k] H Q E := ⟨a, ns, k, rfl, h, h0, h1, q⟩
theorem call_take {H : Hp} {Q : VK} {E : XK} {p : Addr} {m : Int} (h : Pool H p) (h0 : 0 < m) (h1 : m < 4611686018427387904) (q : ∀ r H', 0 ≤ r → r < m → Kp [p] H H' → (∀ b, H b = none → H' b = none) → Pool H' p → Q (.int r) H') : sp_l_take [.ref p, .int m] H Q E := ⟨p, m, rfl, h, h0, h1, q⟩
theorem call_same {H : Hp} {Q : VK} {E : XK} {x y : V} (n : Nat) (d : PyData) (hn : n < 8) (hx : Dat H n d x) (hy : Dat H n d y) (q : Q (.bl true) H) : sp_l_same [x, y] H Q E := ⟨n, hn, x, y, d, rfl, hx, hy, q⟩
theorem atI_ints {ns : List Int} {i : Int} (h0 : 0 ≤ i) (h1 : i < ns.length) : atI (ns.map V.int) i = some (.int (ns.getD i.toNat 0)) := by
  refine atI_of h0 ?_
  rw [List.getElem?_map]
  have h : i.toNat < ns.length := by omega
  simp [List.getElem?_eq_getElem h, List.getD_eq_getElem?_getD]
/-! ## comprehensions: xs.filter g, mapped by f; the elements leave the heap (they are read behind any more of it) -/
section
variable {σ : L2.St} {H : Hp} {K : PySem.W.Frag} {j : Nat} {vs : List Nat} {tt : TT} {te tl : TE} {Q : VK}
theorem a_yes {σ : L2.St} {H : Hp} : Ans tYes σ H true := fun _ q => q
def lcT (xs : List V) (f : V → V) (g : V → Bool) (i : Nat) : List V := ((xs.take i).filter g).map f
theorem lcT_yes {xs : List V} {f : V → V} {g : V → Bool} {i : Nat} {x : V} (h : xs[i]? = some x) (hg : g x = true) : lcT xs f g (i + 1) = lcT xs f g i ++ [f x] := by
  unfold lcT
  rw [List.take_succ, h, List.filter_append, List.map_append]
  simp [hg]
theorem lcT_no {xs : List V} {f : V → V} {g : V → Bool} {i : Nat} {x : V} (h : xs[i]? = some x) (hg : g x = false) : lcT xs f g (i + 1) = lcT xs f g i := by
  unfold lcT
  rw [List.take_succ, h, List.filter_append, List.map_append]
  simp [hg]
theorem lcT_len (xs : List V) (f : V → V) (g : V → Bool) (i : Nat) : (lcT xs f g i).length ≤ xs.length := by
  unfold lcT
  rw [List.length_map]
  exact Nat.le_trans (List.length_filter_le _ _) (by rw [List.length_take]; omega)
def LcW (H : Hp) (xs : List V) (f : V → V) (g : V → Bool) (Dl : Addr) (i : Nat) (H' : Hp) : Prop := H' = upd H Dl (.lst (lcT xs f g i))
theorem lc_turn {H H' : Hp} {xs : List V} {f : V → V} {g : V → Bool} {Dl : Addr} {i : Nat} {x : V} {σ2 : L2.St} (p : LcW H xs f g Dl i H') (hi : xs[i]? = some x) (hz : xs.length ≤ 1000000) (hD : H Dl = none)
    (ht : Ans tt σ2 H' (g x)) (he : g x = true → Val te σ2 H' (f x)) :
    tt σ2 H' fun b H3 => if b = true then te σ2 H3 fun y H4 => ∃ acc, H4 Dl = some (.lst acc) ∧ acc.length < sizeLine ∧ LcW H xs f g Dl (i + 1) (upd H4 Dl (.lst (acc ++ [y]))) else LcW H xs f g Dl (i + 1) H3 := by
  unfold LcW at p
  subst p
  refine ht _ ?_
  cases hg : g x with
  | true =>
    refine iteT (he hg _ ⟨_, upd_same, ?_, ?_⟩)
    · have := lcT_len xs f g i
      exact Nat.lt_of_le_of_lt (Nat.le_trans this hz) (by decide)
    · show _ = _
      rw [upd_upd, lcT_yes hi hg]
  | false =>
    refine iteF ?_
    show _ = _
    rw [lcT_no hi hg]
theorem lcT_all (xs : List V) (f : V → V) (g : V → Bool) : lcT xs f g xs.length = (xs.filter g).map f := by unfold lcT; rw [List.take_length]
/-- over a list -/
theorem e_lcL {a : Addr} {xs : List V} (f : V → V) (g : V → Bool) (h : Val tl σ H (.ref a)) (hx : SqL K H a xs) (hz : xs.length ≤ 1000000) (hw : ∀ x, wipe ((wipe σ vs).set j (some x)) vs = wipe σ vs)
    (ht : ∀ (i : Nat) x Dl o, xs[i]? = some x → H Dl = none → Ans tt ((wipe σ vs).set j (some x)) (upd H Dl o) (g x)) (he : ∀ (i : Nat) x Dl o, xs[i]? = some x → g x = true → H Dl = none → Val te ((wipe σ vs).set j (some x)) (upd H Dl o) (f x))
    (q : ∀ Dl, H Dl = none → Q (.ref Dl) (upd H Dl (.lst ((xs.filter g).map f)))) : tLc (iList K tl) (gName j) tt te vs σ H Q :=
  h _ ⟨a, rfl, ⟨xs, hx⟩, fun Dl hD => lc_list (K := K) (a := a) (xs := xs) (LcW H xs f g Dl) rfl (fun i H' _ p => by
    unfold LcW at p
    subst p
    rcases hx with (hx | ⟨o, hx⟩) | hx
    · exact .inl (.inl (by rw [upd_ne (ne_of_none hx hD)]; exact hx))
    · exact .inl (.inr ⟨o, by rw [upd_ne (ne_of_none hx hD)]; exact hx⟩)
    · exact .inr hx) (fun i x H' hi p => ⟨hw x, lc_turn p hi hz hD (by rw [show H' = _ from p]; exact ht i x Dl _ hi hD) (fun hg => by rw [show H' = _ from p]; exact he i x Dl _ hi hg hD)⟩)
    (fun H' p => by rw [show H' = _ from p, lcT_all]; exact q Dl hD)⟩
/-- over a tuple -/
theorem e_lcT {a : Addr} {xs : List V} (f : V → V) (g : V → Bool) (h : Val tl σ H (.ref a)) (hx : SqT K H a xs) (hz : xs.length ≤ 1000000) (hw : ∀ x, wipe ((wipe σ vs).set j (some x)) vs = wipe σ vs)
    (ht : ∀ (i : Nat) x Dl o, xs[i]? = some x → H Dl = none → Ans tt ((wipe σ vs).set j (some x)) (upd H Dl o) (g x)) (he : ∀ (i : Nat) x Dl o, xs[i]? = some x → g x = true → H Dl = none → Val te ((wipe σ vs).set j (some x)) (upd H Dl o) (f x))
    (q : ∀ Dl, H Dl = none → Q (.ref Dl) (upd H Dl (.lst ((xs.filter g).map f)))) : tLc (iTup K tl) (gName j) tt te vs σ H Q :=
  h _ ⟨a, rfl, ⟨xs, hx⟩, fun Dl hD => lc_tup (K := K) (a := a) (xs := xs) (LcW H xs f g Dl) rfl (fun i H' _ p => by
    unfold LcW at p
    subst p
    rcases hx with (hx | ⟨o, hx⟩) | hx
    · exact .inl (.inl (by rw [upd_ne (ne_of_none hx hD)]; exact hx))
    · exact .inl (.inr ⟨o, by rw [upd_ne (ne_of_none hx hD)]; exact hx⟩)
    · exact .inr hx) (fun i x H' hi p => ⟨hw x, lc_turn p hi hz hD (by rw [show H' = _ from p]; exact ht i x Dl _ hi hD) (fun hg => by rw [show H' = _ from p]; exact he i x Dl _ hi hg hD)⟩)
    (fun H' p => by rw [show H' = _ from p, lcT_all]; exact q Dl hD)⟩
def rgI (n : Nat) : List V := (List.range n).map fun i => V.int (i : Nat)
theorem rgI_at {n i : Nat} (h : i < n) : (rgI n)[i]? = some (.int (i : Nat)) := by unfold rgI; simp [h]
theorem rgI_len (n : Nat) : (rgI n).length = n := by unfold rgI; simp
/-- over range(n) -/
theorem e_lcR {ta : TA} {n : Int} (f : V → V) (g : V → Bool) (h : Args ta σ H [.int n]) (hn : 0 ≤ n ∧ n ≤ 1000000) (hw : ∀ x, wipe ((wipe σ vs).set j (some x)) vs = wipe σ vs)
    (ht : ∀ (i : Nat) Dl o, (i : Int) < n → H Dl = none → Ans tt ((wipe σ vs).set j (some (.int (i : Nat)))) (upd H Dl o) (g (.int (i : Nat)))) (he : ∀ (i : Nat) Dl o, (i : Int) < n → g (.int (i : Nat)) = true → H Dl = none → Val te ((wipe σ vs).set j (some (.int (i : Nat)))) (upd H Dl o) (f (.int (i : Nat))))
    (q : ∀ Dl, H Dl = none → Q (.ref Dl) (upd H Dl (.lst (((rgI n.toNat).filter g).map f)))) : tLc (iRng1 ta) (gName j) tt te vs σ H Q :=
  h _ ⟨n, rfl, by omega, by omega, fun Dl hD => lc_range (lo := 0) (n := n.toNat) (LcW H (rgI n.toNat) f g Dl) rfl (fun i H' hi p => by
    have e0 : (0 : Int) + (i : Int) = (i : Int) := Int.zero_add _
    show wipe ((wipe σ vs).set j (some (.int ((0 : Int) + (i : Int))))) vs = wipe σ vs ∧ tt ((wipe σ vs).set j (some (.int ((0 : Int) + (i : Int))))) H' fun b H3 => if b = true then te ((wipe σ vs).set j (some (.int ((0 : Int) + (i : Int))))) H3 fun y H4 => ∃ acc, H4 Dl = some (.lst acc) ∧ acc.length < sizeLine ∧ LcW H (rgI n.toNat) f g Dl (i + 1) (upd H4 Dl (.lst (acc ++ [y]))) else LcW H (rgI n.toNat) f g Dl (i + 1) H3
    rw [e0]
    exact ⟨hw _, lc_turn p (rgI_at hi) (by rw [rgI_len]; omega) hD (by rw [show H' = _ from p]; exact ht i Dl _ (by omega) hD) (fun hg => by rw [show H' = _ from p]; exact he i Dl _ (by omega) hg hD)⟩)
    (fun H' p => by
      have e := lcT_all (rgI n.toNat) f g
      rw [rgI_len] at e
      rw [show H' = _ from p, e]
      exact q Dl hD)⟩
end
section
variable {σ : L2.St} {H : Hp} {K : PySem.W.Frag} {D : Ends} {r : TS} {ta tv to : TE} {a C dx p : Addr} {fs : List (Str × V)} {f : Str} {x y v : V} {ts : TA} {ys : List V} {Q : VK}
theorem v_fld (h : Val ta σ H (.ref a)) (ho : H a = some (.ins C dx fs)) (hc : Cls K C) (hn : NoAttr K C f) (hl : fs.lookup f = some v) : Val (tFld K ta f) σ H v := val_fld h ho hc hn hl
theorem s_fld (hv : Val tv σ H y) (ha : Val ta σ H (.ref a)) (ho : H a = some (.ins C dx fs)) (hc : Cls K C) (hn : NoAttr K C f) (hl : fs.length < 1000) (q : D.nx σ (upd H a (.ins C dx (putF f y fs)))) : sFld K ta tv f D σ H :=
  hv _ (ha _ ⟨a, C, dx, fs, rfl, ho, hc, hn, hl, q⟩)
theorem q_fld (hv : Val tv σ H y) (ha : Val ta σ H (.ref a)) (ho : H a = some (.ins C dx fs)) (hc : Cls K C) (hn : NoAttr K C f) (hl : fs.length < 1000) (q : r D σ (upd H a (.ins C dx (putF f y fs)))) : tSeq (sFld K ta tv f) r D σ H :=
  hv _ (ha _ ⟨a, C, dx, fs, rfl, ho, hc, hn, hl, q⟩)
/-- the value any -/
theorem s_fldc (h : tv σ H fun y H1 => ta σ H1 fun x H2 => ∃ a C dx fs, x = .ref a ∧ H2 a = some (.ins C dx fs) ∧ Cls K C ∧ NoAttr K C f ∧ fs.length < 1000 ∧ D.nx σ (upd H2 a (.ins C dx (putF f y fs)))) : sFld K ta tv f D σ H := h
theorem v_tupT (h : Args ts σ H [.ref p]) (ht : SqT K H p ys) : Val (tCB (rTupOf K) ts) σ H (.ref p) := v_cb h fun _ q => ⟨p, ys, rfl, .inr ⟨ht, q⟩⟩
theorem e_tupL (h : Args ts σ H [.ref p]) (hl : SqL K H p ys) (q : ∀ l, H l = none → Q (.ref l) (upd H l (.tup ys))) : tCB (rTupOf K) ts σ H Q := h _ ⟨p, ys, rfl, .inl ⟨hl, q⟩⟩
theorem e_listL (h : Args ts σ H [.ref p]) (hl : SqL K H p ys) (q : ∀ l, H l = none → Q (.ref l) (upd H l (.lst ys))) : tCB (rListOf K) ts σ H Q := h _ ⟨p, ys, rfl, .inl hl, q⟩
theorem e_listT (h : Args ts σ H [.ref p]) (hl : SqT K H p ys) (q : ∀ l, H l = none → Q (.ref l) (upd H l (.lst ys))) : tCB (rListOf K) ts σ H Q := h _ ⟨p, ys, rfl, .inr hl, q⟩
theorem e_lstRg {te : TE} {n : Int} (h : Val te σ H (.int n)) (hn : 0 ≤ n ∧ n ≤ 1000000) (q : ∀ l, H l = none → Q (.ref l) (upd H l (.lst (rgI n.toNat)))) : tLstRg (tRg1 te) σ H Q := h _ ⟨n, rfl, RgOk.of_le (by decide) (by omega) (by decide) hn.1, fun l hl => by
  have e : rgV 0 n = rgI n.toNat := by unfold rgV rgI; simp
  rw [e]; exact q l hl⟩
end
/-! ## slices, sums of lists -/
section
variable {σ : L2.St} {H : Hp} {K : PySem.W.Frag} {te : TE} {a : Addr} {xs : List V} {lo hi : Option Int} {tl th : TO} {Q : VK}
def Part (to : TO) (σ : L2.St) (H : Hp) (o : Option Int) : Prop := ∀ Q : Option Int → Hp → Prop, Q o H → to σ H Q
theorem pt_none : Part tNoPart σ H none := fun _ q => q
theorem pt_some {i : Int} (h : Val te σ H (.int i)) : Part (tPart te) σ H (some i) := fun _ q => h _ ⟨i, rfl, q⟩
theorem e_slL (h : Val te σ H (.ref a)) (h1 : Part tl σ H lo) (h2 : Part th σ H hi) (hs : SqL K H a xs) (q : ∀ p, H p = none → Q (.ref p) (upd H p (.lst (cutV xs lo hi)))) : tSl (rSlL K) te tl th σ H Q :=
  h _ (h1 _ (h2 _ ⟨a, xs, rfl, hs, q⟩))
theorem cut_to {xs : List V} {k : Int} (h0 : 0 ≤ k) : cutV xs none (some k) = xs.take k.toNat := by
  unfold cutV
  show (xs.drop 0).take ((if k < 0 then (k + (xs.length : Int)).toNat else min k.toNat xs.length) - 0) = _
  rw [if_neg (by omega), List.drop_zero, Nat.sub_zero]
  by_cases h : k.toNat ≤ xs.length
  · rw [Nat.min_eq_left h]
  · rw [Nat.min_eq_right (by omega), List.take_length, List.take_of_length_le (by omega)]
theorem cut_from {xs : List V} {k : Int} (h0 : 0 ≤ k) : cutV xs (some k) none = xs.drop k.toNat := by
  unfold cutV
  show (xs.drop (if k < 0 then (k + (xs.length : Int)).toNat else min k.toNat xs.length)).take (xs.length - (if k < 0 then (k + (xs.length : Int)).toNat else min k.toNat xs.length)) = _
  rw [if_neg (by omega)]
  by_cases h : k.toNat ≤ xs.length
  · rw [Nat.min_eq_left h]
    exact List.take_of_length_le (by rw [List.length_drop]; omega)
  · rw [Nat.min_eq_right (by omega), List.drop_length, List.take_nil, List.drop_of_length_le (by omega)]
theorem cut_all {xs : List V} : cutV xs none none = xs := by
  unfold cutV
  show (xs.drop 0).take (xs.length - 0) = xs
  rw [List.drop_zero, Nat.sub_zero, List.take_length]
theorem e_appc {to : TE} {p : Addr} {xs : List V} (ho : Val to σ H (.ref p)) (hp : H p = some (.lst xs)) (h : te σ H fun y H2 => tNil σ H2 fun ys H3 => rAppend (.ref p) (y :: ys) H3 Q) : tBM K "list" rAppend to (tCons te tNil) σ H Q :=
  ho _ ⟨Or.inl ⟨rfl, xs, SqL.of hp⟩, h⟩
theorem e_bmc {to : TE} {ts : TA} {T : String} {r : V → List V → Hp → VK → Prop} (h : to σ H fun x H1 => tyV K T x H1 ∧ ts σ H1 fun xs H2 => r x xs H2 Q) : tBM K T r to ts σ H Q := h
theorem e_setd {td ty tx : TE} (h : td σ H fun x H1 => ∃ a, x = .ref a ∧ IsD H1 a ∧ ty σ H1 fun y H2 => tx σ H2 fun z H3 => ∃ (kvs : List (Key × V)) (k : Key), H3 a = some (.dK kvs) ∧ y = kV k ∧ kvs.length < sizeLine ∧
  (∀ v, valV kvs k = some v → Q v H3) ∧ (valV kvs k = none → Q z (upd H3 a (.dK (putK kvs k z))))) : tDSetd td ty tx σ H Q := h
theorem e_listV (h : te σ H fun x H1 => ∃ (d : Addr) (kvs : List (Key × V)), x = .ref d ∧ H1 d = some (.dK kvs) ∧ ∀ l, H1 l = none → Q (.ref l) (upd H1 l (.lst (kvs.map (·.2))))) : tListV te σ H Q := h
theorem e_meth {C : Addr} {m : Str} {sp : Sp} {E : XK} {ta : TE} {ts : TA} {a dx : Addr} {fs : List (Str × V)} (h : Val ta σ H (.ref a)) (ha : H a = some (.ins C dx fs)) (hf : fs.lookup m = none) (q : ts σ H fun vs H2 => sp (.ref a :: (vs ++ [])) H2 Q E) : tMeth C m sp [] E ta ts σ H Q := h _ ⟨a, dx, fs, rfl, ha, hf, q⟩
theorem e_cat {l b : Addr} {xs zs : List V} (hl : H l = some (.lst xs)) (hb : H b = some (.lst zs)) (hz : xs.length + zs.length ≤ 1000000) (q : ∀ p, H p = none → Q (.ref p) (upd H p (.lst (xs ++ zs)))) : rCat (.ref l) (.ref b) H Q :=
  ⟨l, b, xs, zs, rfl, rfl, hl, hb, Nat.le_trans hz (by decide), q⟩
theorem sz_lt {n : Nat} (h : n ≤ 1000000) : n < sizeLine := Nat.lt_of_le_of_lt h (by decide)
theorem rgI_map (n : Nat) : rgI n = ((List.range n).map fun (i : Nat) => (i : Int)).map V.int := by
  unfold rgI
  rw [List.map_map]
  rfl
theorem map_int_inj {L M : List Int} (h : L.map V.int = M.map V.int) : L = M := by
  induction L generalizing M with
  | nil => cases M with
    | nil => rfl
    | cons b M => simp at h
  | cons a L ih => cases M with
    | nil => simp at h
    | cons b M =>
      simp at h
      rw [h.1, ih (by simpa using h.2)]
end
end Cl

/-! ## Exs -/
namespace Cl
open PySem PySem.Spec PyProof.Rows L2
/-! ## an own exception over ValueError whose __init__ says super().__init__(f'..') and stores its arguments -/
namespace Exs
open PySem.W PySem.Calls PySem.HandSPX
section
variable {prog : Program} {w : World} {A : Around} {E : Value → Shared → Prop} {h : Heap} {g : Array GenState} {d : Drawn} {t : Nat} {os : OsState}
variable {nm q : Str} {C N : Addr} {bs bm : List Value} {hdct : Bool} {sn : List Str} {sub : List Value} {ab : Bool} {col : Option Bool} {dd : Option Addr} {k0 k1 k2 k3 k5 : Option Value}
/-- the bound ValueError.__init__ called -/
theorem call_mw {u e t0 : Addr} {rest : List Value} {Q : Value → Shared → Prop}
    (hC : h.get? C = some (excClassObj nm q C N bs bm hdct sn sub ab col dd k0 k1 k2 k3 k5 "ValueError.__new__")) (he : h.get? e = some (excO C t0)) (hu : h.get? u = some (kxs_mw "ValueError.__init__" e)) (hrest : rest.length ≤ sizeLine)
    (hq : ∀ h' t1, (∀ b o, b ≠ e → h.get? b = some o → h'.get? b = some o) → h'.get? e = some (excO C t1) → Q .none ⟨h', g, d, t, os⟩) :
    wpAny (model prog w) A (call (.ref u) rest) Q E ⟨h, g, d, t, os⟩ := by
  refine wpAny_call (codeAny_of_tree ?_)
  show wpAny _ A.in1 (callAny (.ref u) ⟨rest, []⟩) _ _ _
  simp only [callAny]
  refine wpAny_bind (wpAny_load hu ?_)
  simp only [kxs_mw, show (Value.type "method-wrapper" == Value.type "method" || Value.type "method-wrapper" == Value.type "builtin_function_or_method" || Value.type "method-wrapper" == Value.type "method-wrapper") = true by decide, if_true]
  refine W.KFB.if_so (by decide) ?_
  refine wpAny_bind (PySem.ESX.check_bound F.excBase_ValueError hC he rfl ?_)
  refine wpAny_bind (wpAny_pure (wpAny_pure ?_))
  refine ⟨Code.quiet_builtin _ (by decide +kernel), codeAny_builtin F.excBase_ValueError.initEntry ?_⟩
  rw [Around.under_plainId F.excBase_ValueError.init.plain _]
  wp_walk
  refine hq _ h.objs.size (fun b o hb ho => ?_) ?_
  · rw [Heap.get?_update_other _ _ (Ne.symm hb)]
    exact Heap.get?_push_of_some _ ho
  · rw [Heap.get?_update_self _ (Heap.get?_push_of_some _ he) rfl]
    rfl
end
/-- a value that an f-string writes: a short text, an int of some size -/
def FmtV : V → Prop
  | .str y => y.length ≤ 1000
  | .int i => i.natAbs.log2 < 1920
  | _ => False
def Fmt (v : Value) : Prop := (∃ y tk, v = .str y tk ∧ y.length ≤ 1000) ∨ ∃ i tk, v = .int i tk ∧ i.natAbs.log2 < 1920
theorem FmtV.val {v : V} {u : Value} (h : FmtV v) (r : RelV v u) : Fmt u := by
  cases v with
  | str y => obtain ⟨tk, rfl⟩ := r; exact .inl ⟨y, tk, rfl, h⟩
  | int i => obtain ⟨tk, rfl⟩ := r; exact .inr ⟨i, tk, rfl, h⟩
  | _ => exact h.elim
section
variable {prog : Program} {w : World} {A : Around} {E : Value → Shared → Prop} {s : Shared} {env : Env} {m : Str → Option Value}
theorem ldE {x : Str} {pos : Pos} {v : Value} {Q : Value → Shared → Prop} {M : Model} (hn : s.heap.Ns env.locals m) (hv : m x = some v) (hk : env.scope.kind = .function) (hl : env.kindOf x = some .local) (hd : (x == ("__debug__" : Str)) = false) (h : Q v s) : wpAny M A (eval (.Name x pos) env) Q E s := wpAny_Name (wpAny_loadName_local hk hl hn hv h) hd
/-- {x} -/
theorem fmt_name {x : Str} {p1 p2 : Pos} {v : Value} {Q : Value → Shared → Prop} (hn : s.heap.Ns env.locals m) (hv : m x = some v) (hk : env.scope.kind = .function) (hl : env.kindOf x = some .local) (hd : (x == ("__debug__" : Str)) = false) (hf : Fmt v)
    (h : ∀ z tk tk', z.length ≤ 2000 → Q (.str z tk) { s with toks := tk' }) : wpAny (model prog w) A (eval (.FormattedValue (.Name x p1) (-1) none p2) env) Q E s := by
  refine wpAny_FormattedValue_plain (ldE hn hv hk hl hd ?_)
  rcases hf with ⟨y, tk, rfl, hz⟩ | ⟨i, tk, rfl, hz⟩
  · refine wpAny_formatField_str ?_ ?_ (Nat.le_trans hz (by decide))
    · have e := h y tk s.toks (by omega)
      exact e
    · exact h y _ _ (by omega)
  · exact wpAny_formatField_int hz (h _ _ _ (Nat.le_trans (int_text_len_1921 hz) (by decide)))
/-- f'text{x}' -/
theorem fs1 {x z0 : Str} {p0 p1 p2 p3 : Pos} {k0 : Nat} {v : Value} {Q : Value → Shared → Prop} (hn : s.heap.Ns env.locals m) (hv : m x = some v) (hk : env.scope.kind = .function) (hl : env.kindOf x = some .local) (hd : (x == ("__debug__" : Str)) = false) (hf : Fmt v) (hz : z0.length ≤ 1000)
    (h : ∀ z tk tk', Q (.str z tk) { s with toks := tk' }) : wpAny (model prog w) A (eval (.JoinedStr [.Constant (.str z0) k0 p0, .FormattedValue (.Name x p1) (-1) none p2] p3) env) Q E s := by
  refine wpAny_JoinedStr ?_
  have e0 : evalEach [.Constant (.str z0) k0 p0, .FormattedValue (.Name x p1) (-1) none p2] env = [eval (.Constant (.str z0) k0 p0) env, eval (.FormattedValue (.Name x p1) (-1) none p2) env] := by first | rfl | simp [evalEach]
  rw [e0]
  have l0 : (Str.empty ++ z0).length ≤ 1000 := by
    have e1 : (Str.empty ++ z0).length = Str.empty.length + z0.length := Str.length_append _ _
    have e2 : Str.empty.length = 0 := rfl
    omega
  refine Calls.Constant_str ⟨z0, _, rfl, Nat.le_trans l0 (by decide), ?_⟩
  refine fmt_name (s := { s with toks := s.toks + 1 }) hn hv hk hl hd hf fun z tk tk' hz' => ⟨z, tk, rfl, ?_, ?_⟩
  · have e1 : (Str.empty ++ z0 ++ z).length = (Str.empty ++ z0).length + z.length := Str.length_append _ _
    exact Nat.le_trans (show (Str.empty ++ z0 ++ z).length ≤ 3000 by omega) (by decide)
  · have e1 : (Str.empty ++ z0 ++ z).length = (Str.empty ++ z0).length + z.length := Str.length_append _ _
    exact ⟨Nat.le_trans (show (Str.empty ++ z0 ++ z).length ≤ 3000 by omega) (by decide), h _ _ _⟩
/-- f'text{x} {y}' -/
theorem fs2 {x y z0 z1 : Str} {p0 p1 p2 p3 p4 p5 p6 : Pos} {k0 k1 : Nat} {v u : Value} {Q : Value → Shared → Prop} (hn : s.heap.Ns env.locals m) (hv : m x = some v) (hu : m y = some u) (hk : env.scope.kind = .function) (hl : env.kindOf x = some .local) (hl2 : env.kindOf y = some .local) (hd : (x == ("__debug__" : Str)) = false) (hd2 : (y == ("__debug__" : Str)) = false)
    (hf : Fmt v) (hf2 : Fmt u) (hz : z0.length ≤ 1000) (hz1 : z1.length ≤ 1000)
    (h : ∀ z tk tk', Q (.str z tk) { s with toks := tk' }) : wpAny (model prog w) A (eval (.JoinedStr [.Constant (.str z0) k0 p0, .FormattedValue (.Name x p1) (-1) none p2, .Constant (.str z1) k1 p3, .FormattedValue (.Name y p4) (-1) none p5] p6) env) Q E s := by
  refine wpAny_JoinedStr ?_
  have e0 : evalEach [.Constant (.str z0) k0 p0, .FormattedValue (.Name x p1) (-1) none p2, .Constant (.str z1) k1 p3, .FormattedValue (.Name y p4) (-1) none p5] env = [eval (.Constant (.str z0) k0 p0) env, eval (.FormattedValue (.Name x p1) (-1) none p2) env, eval (.Constant (.str z1) k1 p3) env, eval (.FormattedValue (.Name y p4) (-1) none p5) env] := by first | rfl | simp [evalEach]
  rw [e0]
  have l0 : (Str.empty ++ z0).length ≤ 1000 := by
    have e1 : (Str.empty ++ z0).length = Str.empty.length + z0.length := Str.length_append _ _
    have e2 : Str.empty.length = 0 := rfl
    omega
  refine Calls.Constant_str ⟨z0, _, rfl, Nat.le_trans l0 (by decide), ?_⟩
  refine fmt_name (s := { s with toks := s.toks + 1 }) hn hv hk hl hd hf fun z tk tk' hz' => ⟨z, tk, rfl, ?_, ?_⟩
  · have e1 : (Str.empty ++ z0 ++ z).length = (Str.empty ++ z0).length + z.length := Str.length_append _ _
    exact Nat.le_trans (show (Str.empty ++ z0 ++ z).length ≤ 3000 by omega) (by decide)
  · have l1 : (Str.empty ++ z0 ++ z).length ≤ 3000 := by
      have e1 : (Str.empty ++ z0 ++ z).length = (Str.empty ++ z0).length + z.length := Str.length_append _ _
      omega
    have l2 : (Str.empty ++ z0 ++ z ++ z1).length ≤ 4000 := by
      have e1 : (Str.empty ++ z0 ++ z ++ z1).length = (Str.empty ++ z0 ++ z).length + z1.length := Str.length_append _ _
      omega
    refine Calls.Constant_str ⟨z1, _, rfl, Nat.le_trans l2 (by decide), ?_⟩
    refine fmt_name (s := { s with toks := tk' + 1 }) hn hu hk hl2 hd2 hf2 fun z' tk2 tk3 hz'' => ⟨z', tk2, rfl, ?_, ?_⟩
    · have e1 : (Str.empty ++ z0 ++ z ++ z1 ++ z').length = (Str.empty ++ z0 ++ z ++ z1).length + z'.length := Str.length_append _ _
      exact Nat.le_trans (show (Str.empty ++ z0 ++ z ++ z1 ++ z').length ≤ 6000 by omega) (by decide)
    · have e1 : (Str.empty ++ z0 ++ z ++ z1 ++ z').length = (Str.empty ++ z0 ++ z ++ z1).length + z'.length := Str.length_append _ _
      exact ⟨Nat.le_trans (show (Str.empty ++ z0 ++ z ++ z1 ++ z').length ≤ 6000 by omega) (by decide), h _ _ _⟩
end
/-- what the written part says of the class at C, its __init__ at fI (its cell cc holds C), of super -/
structure Tx (prog : Program) (K : Frag) (C fI cc cda : Addr) (qual : Str) (params : Arguments) (body : List Stmt) (scope : Scope) : Prop where
  cls : ∃ nm q N bs bm sn sub ab col dd k0 k1 k2 k3 k5, K.lookup C = some (excClassObj nm q C N bs bm true sn sub ab col dd k0 k1 k2 k3 k5 "ValueError.__new__") ∧ refsVE bm = true
  sa : findIn K (.ref C) "__setattr__" = some (some (.builtin "object.__setattr__"))
  iC : findIn K (.ref C) "__init__" = some (some (.ref fI))
  tC : typeIn K (.ref fI) = some (.type "function")
  kC : keepIn K (.ref C) = true
  exC : subIn K (.ref C) (.type "BaseException") = some true
  vE : subIn K (.ref C) (.type "ValueError") = some true
  tyC : typeIn K (.ref C) = some (.type "type")
  sup : ks_superIn K C C "__init__" = some (some (.builtin "ValueError.__init__"))
  self : mroIn K C (.ref C) = some true
  opq : nsIn K cStatics "thirdparty.any" = some none
  fn : ∃ (oc : Value) (od : Option Addr) (kV doc pm : Value) (an : Option Addr) (ct : Value) (osl : Array (Option Value)),
    K.lookup fI = some ⟨oc, od, .func (ksFn "__init__" qual params body scope .none kV doc pm an (.ref cda) ct cc), osl⟩ ∧ codeIn K (.ref cda) qual = true
  code : ∃ (cl : Value) (dd : Option Addr) (vs : Array Value) (sl : Array (Option Value)) (file : Str) (tf : Tok), K.lookup cda = some ⟨cl, dd, .fields vs, sl⟩ ∧ vs[2]? = some (.str file tf) ∧ ((prog.main.file : Str) == file) = true
  cell : ∃ (cl : Value) (dd : Option Addr) (sl : Array (Option Value)), K.lookup cc = some ⟨cl, dd, .cell (some (.ref C)), sl⟩
/-- what the text says of the scope -/
structure Sc (prog : Program) (params : Arguments) (scope : Scope) : Prop where
  par : ∃ ar : Arg, (params.posonlyargs ++ params.args).head? = some ar ∧ ar.arg = ("self" : Str)
  sup : scope.names.lookup ("super" : Str) = some .globalImplicit
  cls : scope.names.lookup ("__class__" : Str) = some .free
  slf : scope.names.lookup ("self" : Str) = some .local
  kind : scope.kind = .function
  top : (prog.main.scope.names.lookup ("super" : Str)).isSome = false
section
variable {prog : Program} {w : World} {A : Around} {E : Value → Shared → Prop} {K : Frag} {C fI cc cda L x t0 : Addr} {qual : Str} {params : Arguments} {body : List Stmt} {scope : Scope} {m mg mb : Str → Option Value}
theorem lookups_clsIn {nm q : Str} {N : Addr} {bs bm : List Value} {sn : List Str} {sub : List Value} {ab : Bool} {col : Option Bool} {dd : Option Addr} {k0 k1 k2 k3 k5 : Option Value} (hC : K.lookup C = some (excClassObj nm q C N bs bm true sn sub ab col dd k0 k1 k2 k3 k5 "ValueError.__new__")) :
    clsIn K C = some { name := nm, bases := bs, mro := .ref C :: bm, ns := N, qualname := q, hasDict := true, slotNames := sn, subclasses := sub, abstract := ab, collection := col, hasDel := false } := by unfold clsIn; rw [hC] <;> rfl
/-- super().__init__(e) -/
theorem sup_stmt {hp : Heap} {g : Array GenState} {d : Drawn} {t : Nat} {os : OsState} (T : Tx prog K C fI cc cda qual params body scope) (S : Sc prog params scope) (X : K.In hp) (Gg : hp.Ns mainGlobals mg) (Gs : mg "super" = none) (Gb : hp.Ns builtinsNs mb) (Gbs : mb "super" = bootBuiltins "super") (hboot : bootBuiltins "super" = some (.type "super"))
    (hn : hp.Ns L m) (hv : m "self" = some (.ref x)) (hx : hp.get? x = some (excO C t0)) (hxC : x ≠ C) {e : PySem.Expr} {p0 p1 p2 p3 p4 : Pos} {pl : Sem Bool} {Q : Flow → Shared → Prop}
    (he : ∀ (hp' : Heap) (t' : Nat) (Q' : Value → Shared → Prop), (∀ b o, hp.get? b = some o → hp'.get? b = some o) → (∀ z tk tk', Q' (.str z tk) ⟨hp', g, d, tk', os⟩) → wpAny (model prog w) A (eval e (ksEnv qual scope L fI (.ref cda) cc)) Q' E ⟨hp', g, d, t', os⟩)
    (hq : ∀ h' t1 tk', (∀ b o, b ≠ x → hp.get? b = some o → h'.get? b = some o) → h'.get? x = some (excO C t1) → Q .next ⟨h', g, d, tk', os⟩)
    (hst : starEach [e] (ksEnv qual scope L fI (.ref cda) cc) = (false, eval e (ksEnv qual scope L fI (.ref cda) cc)) :: starEach [] (ksEnv qual scope L fI (.ref cda) cc))
    (hsw : swapsWith (.Call (.Attribute (.Call (.Name "super" p0) [] [] p1) "__init__" p2) [e] [] p3) none p4.line (ksEnv qual scope L fI (.ref cda) cc) = pure false)
    (hev : eval (.Call (.Attribute (.Call (.Name "super" p0) [] [] p1) "__init__" p2) [e] [] p3) (ksEnv qual scope L fI (.ref cda) cc) = (do
      let ov ← attributeBase (.Call (.Name "super" p0) [] [] p1) "__init__" (ksEnv qual scope L fI (.ref cda) cc) (eval (.Call (.Name "super" p0) [] [] p1) (ksEnv qual scope L fI (.ref cda) cc))
      standAt p2.atName
      let (f, first) ← holding [ov] (getMethod ov "__init__" pl)
      callWith p3 f first (backTo p3 (starEach [e] (ksEnv qual scope L fI (.ref cda) cc))) [])) :
    PySem.wpAt (model prog w) A (.func body (ksEnv qual scope L fI (.ref cda) cc)) (exec (.Expr (.Call (.Attribute (.Call (.Name "super" p0) [] [] p1) "__init__" p2) [e] [] p3) p4) (ksEnv qual scope L fI (.ref cda) cc)) Q E ⟨hp, g, d, t, os⟩ := by
  obtain ⟨nm, q, N, bs, bm, sn, sub, ab, col, dd, k0, k1, k2, k3, k5, hC, hbm⟩ := T.cls
  obtain ⟨oc, od, kV, doc, pm, an, ct, osl, hf, _⟩ := T.fn
  obtain ⟨ccl, cdd, vs, csl, file, tf, hcode, hvs, hfile⟩ := T.code
  obtain ⟨cl, cld, csl2, hcell⟩ := T.cell
  obtain ⟨ar, har, hself⟩ := S.par
  have hcd := lookups_clsIn hC
  refine ks_wpAt_Expr_any (ks_wpAt_MethodCall (pl := pl) ?_ hev) (by simp [interactive, S.kind]) hsw
  refine ks_wpAt_super_base (env := ksEnv qual scope L fI (.ref cda) cc) S.sup S.cls (by decide +kernel) rfl (X _ _ hf) rfl har rfl (X _ _ hcode) rfl hvs hfile S.top ?_
  refine ks_loadName_global S.kind S.sup (loadGlobal_builtin (env := ksEnv qual scope L fI (.ref cda) cc) Gg Gs Gb (Gbs.trans hboot) ⟨rfl, ?_⟩)
  refine wpAny_loadName_free S.kind S.cls rfl ⟨_, X _ _ hcell, rfl⟩ ?_
  rw [hself]
  refine wpAny_loadName_local S.kind S.slf hn hv ?_
  refine ks_wpAny_isType_cls (X _ _ hC) rfl ⟨rfl, ?_⟩
  refine ks_wpAny_call_super (X _ _ hC) rfl hx rfl (fun c e => nomatch e) (looks_mroIn X T.self) (fun h1 e1 kk1 => ?_)
  have X1 : K.In h1 := X.keeps kk1
  have hx1 := kk1 _ _ hx
  have I1 : InstAt h1 x (excO C t0) C none := ⟨hx1, rfl, rfl, trivial⟩
  have hsm := T.sup
  unfold ks_superIn at hsm
  rw [hcd] at hsm
  refine kxs_getMethod kxs_ValueError e1 (looks_opaque X1 T.opq) (l₀ := .ref C :: bm) ?_ rfl X1 hsm (I1.type.andThen (looks_subIn X1 T.vE)) hxC (by decide +kernel) ?_
  · exact fun A Q E s k q => wpAny_bind ((looks_clsIn X1 hcd) A _ E s k (wpAny_pure q))
  have kk2 : ∀ b o, hp.get? b = some o → (h1.push (kxs_mw "ValueError.__init__" x)).get? b = some o := fun b o z => Heap.get?_push_of_some _ (kk1 b o z)
  have hu : (h1.push (kxs_mw "ValueError.__init__" x)).get? h1.objs.size = some (kxs_mw "ValueError.__init__" x) := Heap.get?_push_size _ rfl
  rw [hst]
  refine kxs_callWith (i := "ValueError.__init__") (x := x) (by show (false || (backTo p3 (starEach [] _)).any (·.1)) = false; rfl) (evalArgs_plain (spliced_cons ?_))
  refine he _ _ _ kk2 fun z tk tk' => ?_
  refine spliced_nil ⟨hu, ?_⟩
  refine call_mw (X1.keeps (fun b o z => Heap.get?_push_of_some _ z) _ _ hC) (kk2 _ _ hx) hu (by show 1 ≤ sizeLine; decide) fun h' t1 kk3 e3 => ?_
  exact hq h' t1 _ (fun b o hb z => kk3 b o hb (kk2 b o z)) e3
end
/-! ### the stores; what __init__ leaves -/
def mapV (fs : List (Str × Value)) : Str → Option Value
  | y => match fs with
    | [] => none
    | p :: r => if y = p.1 then some p.2 else mapV r y
theorem kept_but {K : Frag} {h h' : Heap} {x : Addr} (X : K.In h) (hx : K.lookup x = none) (k : ∀ b o, b ≠ x → h.get? b = some o → h'.get? b = some o) : K.In h' := fun a o e =>
  k a o (fun z => by rw [z, hx] at e; cases e) (X a o e)
structure End (h h' : Heap) (x C : Addr) (fs : List (Str × Value)) : Prop where
  keep : ∀ b o, b ≠ x → h.get? b = some o → h'.get? b = some o
  ex : ∃ t1 dx, h'.get? x = some { cls := .ref C, dict := some dx, data := .fields #[.ref t1, .none, .none, .none, .bool false, .none] } ∧ h.objs.size ≤ dx ∧ dx ≠ x ∧ h'.Ns1 dx (mapV fs)
section
variable {prog : Program} {w : World} {A : Around} {E : Value → Shared → Prop} {R : Result → Shared → Prop} {K : Frag} {C fI cc cda x t0 : Addr} {qual : Str} {params : Arguments} {body : List Stmt} {scope : Scope} {m mg mb : Str → Option Value} {hp : Heap} {g : Array GenState} {d : Drawn} {t : Nat} {os : OsState} {env : Env}
/-- self.f = f, the first -/
theorem store1 (T : Tx prog K C fI cc cda qual params body scope) (X : K.In hp) {L : Addr} (eL : env.locals = L) (hn : hp.Ns L m) {f : Str} {v : Value} (hv : m f = some v) (hs : m "self" = some (.ref x)) (hx : hp.get? x = some (excO C t0)) (hk : env.scope.kind = .function) (kf : env.kindOf f = some .local) (ks : env.kindOf "self" = some .local) (hd : (f == ("__debug__" : Str)) = false) (no : findIn K (.ref C) f = some none)
    {q1 q2 q3 q4 : Pos} {Q : Flow → Shared → Prop} (hsw : swapsWith (.Name f q3) (some (.Attribute (.Name "self" q1) f q2)) q4.line env = pure false)
    (hq : ∀ h' tk' dx, (∀ b o, b ≠ x → hp.get? b = some o → h'.get? b = some o) → hp.objs.size ≤ dx → dx ≠ x → h'.get? x = some { cls := .ref C, dict := some dx, data := .fields #[.ref t0, .none, .none, .none, .bool false, .none] } → h'.Ns1 dx (mapV [(f, v)]) → Q .next ⟨h', g, d, tk', os⟩) :
    wpAny (model prog w) A (exec (.Assign [.Attribute (.Name "self" q1) f q2] (.Name f q3) q4) env) Q E ⟨hp, g, d, t, os⟩ := by
  obtain ⟨nm, q, N, bs, bm, sn, sub, ab, col, dd, k0, k1, k2, k3, k5, hC, hbm⟩ := T.cls
  have hcl := lookups_clsIn hC
  subst eL
  refine plainObj_wpAny_Assign_Attribute ?_ hsw
  refine ldE (s := ⟨hp, g, d, t, os⟩) hn hv hk kf hd (ldE (s := ⟨hp, g, d, t, os⟩) hn hs hk ks (by decide +kernel) ?_)
  refine set_plain X (ox := excO C t0) (od := none) ⟨hx, rfl, rfl, trivial⟩ T.sa ?_
  refine exc_osa X hx hcl (show refsVE (.ref C :: bm) = true from hbm) rfl no (fun h' tk' dx k dn dne hx' hn' => ?_)
  exact hq h' tk' dx k dn dne hx' (by
    have e : (fun y => if y = f then some v else none) = mapV [(f, v)] := by funext y; rfl
    rw [← e]; exact hn')
/-- .. a further one -/
theorem store2 (T : Tx prog K C fI cc cda qual params body scope) (X : K.In hp) {L : Addr} (eL : env.locals = L) (hn : hp.Ns L m) {f f1 : Str} {v v1 : Value} {dx : Addr} (hv : m f = some v) (hs : m "self" = some (.ref x)) (hx : hp.get? x = some { cls := .ref C, dict := some dx, data := .fields #[.ref t0, .none, .none, .none, .bool false, .none] }) (hns : hp.Ns1 dx (mapV [(f1, v1)])) (hk : env.scope.kind = .function) (kf : env.kindOf f = some .local) (ks : env.kindOf "self" = some .local) (hd : (f == ("__debug__" : Str)) = false) (no : findIn K (.ref C) f = some none)
    {q1 q2 q3 q4 : Pos} {Q : Flow → Shared → Prop} (hsw : swapsWith (.Name f q3) (some (.Attribute (.Name "self" q1) f q2)) q4.line env = pure false)
    (hq : ∀ h' tk', (∀ b o, b ≠ dx → hp.get? b = some o → h'.get? b = some o) → h'.Ns1 dx (mapV [(f, v), (f1, v1)]) → Q .next ⟨h', g, d, tk', os⟩) :
    wpAny (model prog w) A (exec (.Assign [.Attribute (.Name "self" q1) f q2] (.Name f q3) q4) env) Q E ⟨hp, g, d, t, os⟩ := by
  obtain ⟨nm, q, N, bs, bm, sn, sub, ab, col, dd, k0, k1, k2, k3, k5, hC, hbm⟩ := T.cls
  have hcl := lookups_clsIn hC
  subst eL
  have hw : Within (mapV [(f1, v1)]) [f1] := fun y hy => by
    by_cases e : y = f1
    · simp [e]
    · exact absurd (show mapV [(f1, v1)] y = none by show (if y = f1 then _ else none) = none; rw [if_neg e]) hy
  obtain ⟨oD, _, _, hoD, _, _⟩ := hns.count hw
  refine plainObj_wpAny_Assign_Attribute ?_ hsw
  refine ldE (s := ⟨hp, g, d, t, os⟩) hn hv hk kf hd (ldE (s := ⟨hp, g, d, t, os⟩) hn hs hk ks (by decide +kernel) ?_)
  refine set_plain X (ox := { cls := .ref C, dict := some dx, data := .fields #[.ref t0, .none, .none, .none, .bool false, .none] }) (od := some oD) ⟨hx, rfl, rfl, hoD⟩ T.sa ?_
  refine PySem.OEX.osa_old X hx hns hw (by simp) hcl (show refsVE (.ref C :: bm) = true from hbm) rfl no (fun h' tk' k hn' => ?_)
  exact hq h' tk' k (by
    have e : (fun y => if y = f then some v else mapV [(f1, v1)] y) = mapV [(f, v), (f1, v1)] := by funext y; rfl
    rw [← e]; exact hn')
end
/-! ### the bodies -/
def body1 (f z0 : Str) (k0 : Nat) (p0 p1 p2 p3 p4 p5 p6 p7 p8 q1 q2 q3 q4 : Pos) : List Stmt :=
  [.Expr (.Call (.Attribute (.Call (.Name "super" p0) [] [] p1) "__init__" p2) [.JoinedStr [.Constant (.str z0) k0 p5, .FormattedValue (.Name f p6) (-1) none p7] p8] [] p3) p4,
   .Assign [.Attribute (.Name "self" q1) f q2] (.Name f q3) q4]
def body2 (f1 f2 z0 z1 : Str) (k0 k1 : Nat) (p0 p1 p2 p3 p4 p5 p6 p7 p8 p9 p10 p11 q1 q2 q3 q4 r1 r2 r3 r4 : Pos) : List Stmt :=
  [.Expr (.Call (.Attribute (.Call (.Name "super" p0) [] [] p1) "__init__" p2) [.JoinedStr [.Constant (.str z0) k0 p5, .FormattedValue (.Name f1 p6) (-1) none p7, .Constant (.str z1) k1 p9, .FormattedValue (.Name f2 p10) (-1) none p11] p8] [] p3) p4,
   .Assign [.Attribute (.Name "self" q1) f1 q2] (.Name f1 q3) q4, .Assign [.Attribute (.Name "self" r1) f2 r2] (.Name f2 r3) r4]
section
variable {prog : Program} {w : World} {A : Around} {R : Result → Shared → Prop} {K : Frag} {C fI cc cda x t0 : Addr} {qual : Str} {params : Arguments} {scope : Scope} {mg mb : Str → Option Value} {hp : Heap} {g : Array GenState} {d : Drawn} {t : Nat} {os : OsState}
/-- the state around: the module's names, the built-ins -/
structure Ar (hp : Heap) (mg mb : Str → Option Value) : Prop where
  glob : hp.Ns mainGlobals mg
  sup : mg "super" = none
  blt : hp.Ns builtinsNs mb
  bsup : mb "super" = bootBuiltins "super"
  lim : hp.NoLimit
theorem boot_super : bootBuiltins "super" = some (.type "super") := by decide +kernel
theorem init1 {f z0 : Str} {k0 : Nat} {p0 p1 p2 p3 p4 p5 p6 p7 p8 q1 q2 q3 q4 : Pos} {v : Value} (T : Tx prog K C fI cc cda qual params (body1 f z0 k0 p0 p1 p2 p3 p4 p5 p6 p7 p8 q1 q2 q3 q4) scope) (S : Sc prog params scope) (no : findIn K (.ref C) f = some none) (kf : scope.names.lookup f = some .local) (nf : ¬ (("self" : Str) = f)) (hd : (f == ("__debug__" : Str)) = false) (hz : z0.length ≤ 1000)
    (hcell : ∀ y ∈ scope.names, y.2 ≠ .cell) (hco : scope.isCoroutine = false) (hgen : scope.isGenerator = false)
    (hbind : ∀ (kV doc pm : Value) (an : Option Addr) (ct : Value), bindArgs (ksFn "__init__" qual params (body1 f z0 k0 p0 p1 p2 p3 p4 p5 p6 p7 p8 q1 q2 q3 q4) scope .none kV doc pm an (.ref cda) ct cc) ⟨[.ref x, v], []⟩ = pure [(("self" : Str), .ref x), (f, v)])
    (hst : ∀ env : Env, starEach [.JoinedStr [.Constant (.str z0) k0 p5, .FormattedValue (.Name f p6) (-1) none p7] p8] env = (false, eval (.JoinedStr [.Constant (.str z0) k0 p5, .FormattedValue (.Name f p6) (-1) none p7] p8) env) :: starEach [] env)
    (hsw : ∀ L, swapsWith (.Call (.Attribute (.Call (.Name "super" p0) [] [] p1) "__init__" p2) [.JoinedStr [.Constant (.str z0) k0 p5, .FormattedValue (.Name f p6) (-1) none p7] p8] [] p3) none p4.line (ksEnv qual scope L fI (.ref cda) cc) = pure false)
    (hsw2 : ∀ L, swapsWith (.Name f q3) (some (.Attribute (.Name "self" q1) f q2)) q4.line (ksEnv qual scope L fI (.ref cda) cc) = pure false)
    {pl : Sem Bool} (hev : ∀ L, eval (.Call (.Attribute (.Call (.Name "super" p0) [] [] p1) "__init__" p2) [.JoinedStr [.Constant (.str z0) k0 p5, .FormattedValue (.Name f p6) (-1) none p7] p8] [] p3) (ksEnv qual scope L fI (.ref cda) cc) = (do
      let ov ← attributeBase (.Call (.Name "super" p0) [] [] p1) "__init__" (ksEnv qual scope L fI (.ref cda) cc) (eval (.Call (.Name "super" p0) [] [] p1) (ksEnv qual scope L fI (.ref cda) cc))
      standAt p2.atName
      let (fm, first) ← holding [ov] (getMethod ov "__init__" pl)
      callWith p3 fm first (backTo p3 (starEach [.JoinedStr [.Constant (.str z0) k0 p5, .FormattedValue (.Name f p6) (-1) none p7] p8] (ksEnv qual scope L fI (.ref cda) cc))) []))
    (hf : Fmt v) (X : K.In hp) (G : Ar hp mg mb) (hx : hp.get? x = some (excO C t0)) (hnx : K.lookup x = none) (hxC : x ≠ C) (hroom : A.depth < recursionLimit)
    (hq : ∀ h' tk', End hp h' x C [(f, v)] → R (.ok (.ret .none)) ⟨h', g, d, tk', os⟩) :
    codeAny (model prog w) A (.call (.ref fI) ⟨[.ref x, v], []⟩) R ⟨hp, g, d, t, os⟩ := by
  obtain ⟨oc, od, kV, doc, pm, an, ct, osl, hfn, hcd⟩ := T.fn
  refine ks_codeAny_call_defAt (s := ⟨hp, g, d, t, os⟩) (fd := ksFn "__init__" qual params (body1 f z0 k0 p0 p1 p2 p3 p4 p5 p6 p7 p8 q1 q2 q3 q4) scope .none kV doc pm an (.ref cda) ct cc) (body := body1 f z0 k0 p0 p1 p2 p3 p4 p5 p6 p7 p8 q1 q2 q3 q4) (binds := [(("self" : Str), .ref x), (f, v)]) hroom (X _ _ hfn) rfl G.lim (codeRec_of X hcd) rfl (BindsTo.of_eq (hbind kV doc pm an ct)) hcell (fun y hy => ?_) (fun h0 hns hk0 => ?_) hco hgen S.kind
  · rcases List.mem_cons.mp hy with rfl | hy
    · exact S.slf
    · rcases List.mem_cons.mp hy with rfl | hy
      · exact kf
      · cases hy
  have ms : (List.lookup ("self" : Str) ([(("self" : Str), Value.ref x), (f, v)].reverse)) = some (.ref x) := by
    show List.lookup ("self" : Str) [(f, v), (("self" : Str), Value.ref x)] = _
    have e : (("self" : Str) == f) = false := by simpa using nf
    simp [List.lookup, e]
  have mf : (List.lookup f ([(("self" : Str), Value.ref x), (f, v)].reverse)) = some v := by
    show List.lookup f [(f, v), (("self" : Str), Value.ref x)] = _
    simp [List.lookup]
  have lt : hp.objs.size ≠ x := Nat.ne_of_gt (Heap.lt_size hx)
  refine ks_wpAt_execs_cons ?_
  refine sup_stmt (m := fun y => List.lookup y ([(("self" : Str), Value.ref x), (f, v)].reverse)) T S (X.keeps hk0) (G.glob.keeps hk0) G.sup (G.blt.keeps hk0) G.bsup boot_super hns ms (hk0 _ _ hx) hxC (pl := pl) (fun hp' t' Q' kk hz' => ?_) (fun h1 t1 tk1 kk1 hx1 => ?_) (hst _) (hsw _) (hev _)
  · obtain ⟨oL, es, ep, hoL, r⟩ := hns
    exact fs1 (m := fun y => List.lookup y ([(("self" : Str), Value.ref x), (f, v)].reverse)) ⟨oL, es, ep, kk _ _ hoL, r⟩ mf S.kind kf hd hf hz hz'
  · have X1 : K.In h1 := kept_but (X.keeps hk0) hnx kk1
    have hn1 : h1.Ns hp.objs.size (fun y => List.lookup y ([(("self" : Str), Value.ref x), (f, v)].reverse)) := by
      obtain ⟨oL, es, ep, hoL, r⟩ := hns
      exact ⟨oL, es, ep, kk1 _ _ lt hoL, r⟩
    show PySem.wpAt _ _ _ (execs _ _) _ _ _
    refine wpAt_of_wpAny (wpAny_execs_cons ?_)
    refine store1 (env := ksEnv qual scope hp.objs.size fI (.ref cda) cc) (m := fun y => List.lookup y ([(("self" : Str), Value.ref x), (f, v)].reverse)) T X1 rfl hn1 mf ms hx1 S.kind kf S.slf hd no (hsw2 _) fun h2 tk2 dx kk2 dn dne hx2 hn2 => ?_
    refine wpAny_execs_nil ?_
    have z : hp.objs.size < h0.objs.size := hns.lt
    have z1 : hp.objs.size < h1.objs.size := hn1.lt
    exact hq h2 tk2 ⟨fun b o hb e => kk2 b o hb (kk1 b o hb (hk0 b o e)), t1, dx, hx2, Nat.le_trans (Nat.le_of_lt z1) dn, dne, hn2⟩
theorem init2 {f f2 z0 z1 : Str} {k0 k1 : Nat} {p0 p1 p2 p3 p4 p5 p6 p7 p8 p9 p10 p11 q1 q2 q3 q4 r1 r2 r3 r4 : Pos} {v v2 : Value} (T : Tx prog K C fI cc cda qual params (body2 f f2 z0 z1 k0 k1 p0 p1 p2 p3 p4 p5 p6 p7 p8 p9 p10 p11 q1 q2 q3 q4 r1 r2 r3 r4) scope) (S : Sc prog params scope) (no : findIn K (.ref C) f = some none) (no2 : findIn K (.ref C) f2 = some none) (kf : scope.names.lookup f = some .local) (kf2 : scope.names.lookup f2 = some .local) (nf : ¬ (("self" : Str) = f)) (nf2 : ¬ (("self" : Str) = f2)) (nff : ¬ (f = f2)) (hd : (f == ("__debug__" : Str)) = false) (hd2 : (f2 == ("__debug__" : Str)) = false) (hz : z0.length ≤ 1000) (hz1 : z1.length ≤ 1000)
    (hcell : ∀ y ∈ scope.names, y.2 ≠ .cell) (hco : scope.isCoroutine = false) (hgen : scope.isGenerator = false)
    (hbind : ∀ (kV doc pm : Value) (an : Option Addr) (ct : Value), bindArgs (ksFn "__init__" qual params (body2 f f2 z0 z1 k0 k1 p0 p1 p2 p3 p4 p5 p6 p7 p8 p9 p10 p11 q1 q2 q3 q4 r1 r2 r3 r4) scope .none kV doc pm an (.ref cda) ct cc) ⟨[.ref x, v, v2], []⟩ = pure [(("self" : Str), .ref x), (f, v), (f2, v2)])
    (hst : ∀ env : Env, starEach [.JoinedStr [.Constant (.str z0) k0 p5, .FormattedValue (.Name f p6) (-1) none p7, .Constant (.str z1) k1 p9, .FormattedValue (.Name f2 p10) (-1) none p11] p8] env = (false, eval (.JoinedStr [.Constant (.str z0) k0 p5, .FormattedValue (.Name f p6) (-1) none p7, .Constant (.str z1) k1 p9, .FormattedValue (.Name f2 p10) (-1) none p11] p8) env) :: starEach [] env)
    (hsw : ∀ L, swapsWith (.Call (.Attribute (.Call (.Name "super" p0) [] [] p1) "__init__" p2) [.JoinedStr [.Constant (.str z0) k0 p5, .FormattedValue (.Name f p6) (-1) none p7, .Constant (.str z1) k1 p9, .FormattedValue (.Name f2 p10) (-1) none p11] p8] [] p3) none p4.line (ksEnv qual scope L fI (.ref cda) cc) = pure false)
    (hsw2 : ∀ L, swapsWith (.Name f q3) (some (.Attribute (.Name "self" q1) f q2)) q4.line (ksEnv qual scope L fI (.ref cda) cc) = pure false)
    (hsw3 : ∀ L, swapsWith (.Name f2 r3) (some (.Attribute (.Name "self" r1) f2 r2)) r4.line (ksEnv qual scope L fI (.ref cda) cc) = pure false)
    {pl : Sem Bool} (hev : ∀ L, eval (.Call (.Attribute (.Call (.Name "super" p0) [] [] p1) "__init__" p2) [.JoinedStr [.Constant (.str z0) k0 p5, .FormattedValue (.Name f p6) (-1) none p7, .Constant (.str z1) k1 p9, .FormattedValue (.Name f2 p10) (-1) none p11] p8] [] p3) (ksEnv qual scope L fI (.ref cda) cc) = (do
      let ov ← attributeBase (.Call (.Name "super" p0) [] [] p1) "__init__" (ksEnv qual scope L fI (.ref cda) cc) (eval (.Call (.Name "super" p0) [] [] p1) (ksEnv qual scope L fI (.ref cda) cc))
      standAt p2.atName
      let (fm, first) ← holding [ov] (getMethod ov "__init__" pl)
      callWith p3 fm first (backTo p3 (starEach [.JoinedStr [.Constant (.str z0) k0 p5, .FormattedValue (.Name f p6) (-1) none p7, .Constant (.str z1) k1 p9, .FormattedValue (.Name f2 p10) (-1) none p11] p8] (ksEnv qual scope L fI (.ref cda) cc))) []))
    (hf : Fmt v) (hf2 : Fmt v2) (X : K.In hp) (G : Ar hp mg mb) (hx : hp.get? x = some (excO C t0)) (hnx : K.lookup x = none) (hxC : x ≠ C) (hroom : A.depth < recursionLimit)
    (hq : ∀ h' tk', End hp h' x C [(f2, v2), (f, v)] → R (.ok (.ret .none)) ⟨h', g, d, tk', os⟩) :
    codeAny (model prog w) A (.call (.ref fI) ⟨[.ref x, v, v2], []⟩) R ⟨hp, g, d, t, os⟩ := by
  obtain ⟨oc, od, kV, doc, pm, an, ct, osl, hfn, hcd⟩ := T.fn
  refine ks_codeAny_call_defAt (s := ⟨hp, g, d, t, os⟩) (fd := ksFn "__init__" qual params (body2 f f2 z0 z1 k0 k1 p0 p1 p2 p3 p4 p5 p6 p7 p8 p9 p10 p11 q1 q2 q3 q4 r1 r2 r3 r4) scope .none kV doc pm an (.ref cda) ct cc) (body := body2 f f2 z0 z1 k0 k1 p0 p1 p2 p3 p4 p5 p6 p7 p8 p9 p10 p11 q1 q2 q3 q4 r1 r2 r3 r4) (binds := [(("self" : Str), .ref x), (f, v), (f2, v2)]) hroom (X _ _ hfn) rfl G.lim (codeRec_of X hcd) rfl (BindsTo.of_eq (hbind kV doc pm an ct)) hcell (fun y hy => ?_) (fun h0 hns hk0 => ?_) hco hgen S.kind
  · rcases List.mem_cons.mp hy with rfl | hy
    · exact S.slf
    · rcases List.mem_cons.mp hy with rfl | hy
      · exact kf
      · rcases List.mem_cons.mp hy with rfl | hy
        · exact kf2
        · cases hy
  have ms : (List.lookup ("self" : Str) ([(("self" : Str), Value.ref x), (f, v), (f2, v2)].reverse)) = some (.ref x) := by
    show List.lookup ("self" : Str) [(f2, v2), (f, v), (("self" : Str), Value.ref x)] = _
    have e : (("self" : Str) == f) = false := by simpa using nf
    have e2 : (("self" : Str) == f2) = false := by simpa using nf2
    simp [List.lookup, e, e2]
  have mf : (List.lookup f ([(("self" : Str), Value.ref x), (f, v), (f2, v2)].reverse)) = some v := by
    show List.lookup f [(f2, v2), (f, v), (("self" : Str), Value.ref x)] = _
    have e : (f == f2) = false := by simpa using nff
    simp [List.lookup, e]
  have mf2 : (List.lookup f2 ([(("self" : Str), Value.ref x), (f, v), (f2, v2)].reverse)) = some v2 := by
    show List.lookup f2 [(f2, v2), (f, v), (("self" : Str), Value.ref x)] = _
    simp [List.lookup]
  have lt : hp.objs.size ≠ x := Nat.ne_of_gt (Heap.lt_size hx)
  refine ks_wpAt_execs_cons ?_
  refine sup_stmt (m := fun y => List.lookup y ([(("self" : Str), Value.ref x), (f, v), (f2, v2)].reverse)) T S (X.keeps hk0) (G.glob.keeps hk0) G.sup (G.blt.keeps hk0) G.bsup boot_super hns ms (hk0 _ _ hx) hxC (pl := pl) (fun hp' t' Q' kk hz' => ?_) (fun h1 t1 tk1 kk1 hx1 => ?_) (hst _) (hsw _) (hev _)
  · obtain ⟨oL, es, ep, hoL, r⟩ := hns
    exact fs2 (m := fun y => List.lookup y ([(("self" : Str), Value.ref x), (f, v), (f2, v2)].reverse)) ⟨oL, es, ep, kk _ _ hoL, r⟩ mf mf2 S.kind kf kf2 hd hd2 hf hf2 hz hz1 hz'
  · have X1 : K.In h1 := kept_but (X.keeps hk0) hnx kk1
    have hn1 : h1.Ns hp.objs.size (fun y => List.lookup y ([(("self" : Str), Value.ref x), (f, v), (f2, v2)].reverse)) := by
      obtain ⟨oL, es, ep, hoL, r⟩ := hns
      exact ⟨oL, es, ep, kk1 _ _ lt hoL, r⟩
    show PySem.wpAt _ _ _ (execs _ _) _ _ _
    refine wpAt_of_wpAny (wpAny_execs_cons ?_)
    refine store1 (env := ksEnv qual scope hp.objs.size fI (.ref cda) cc) (m := fun y => List.lookup y ([(("self" : Str), Value.ref x), (f, v), (f2, v2)].reverse)) T X1 rfl hn1 mf ms hx1 S.kind kf S.slf hd no (hsw2 _) fun h2 tk2 dx kk2 dn dne hx2 hn2 => ?_
    have z1 : hp.objs.size < h1.objs.size := hn1.lt
    have X2 : K.In h2 := kept_but X1 hnx kk2
    have nLd : hp.objs.size ≠ dx := Nat.ne_of_lt (Nat.lt_of_lt_of_le z1 dn)
    have hn2' : h2.Ns hp.objs.size (fun y => List.lookup y ([(("self" : Str), Value.ref x), (f, v), (f2, v2)].reverse)) := by
      obtain ⟨oL, es, ep, hoL, r⟩ := hn1
      exact ⟨oL, es, ep, kk2 _ _ lt hoL, r⟩
    show wpAny _ _ (execs _ _) _ _ _
    refine wpAny_execs_cons ?_
    refine store2 (env := ksEnv qual scope hp.objs.size fI (.ref cda) cc) (m := fun y => List.lookup y ([(("self" : Str), Value.ref x), (f, v), (f2, v2)].reverse)) T X2 rfl hn2' mf2 ms hx2 hn2 S.kind kf2 S.slf hd2 no2 (hsw3 _) fun h3 tk3 kk3 hn3 => ?_
    refine wpAny_execs_nil ?_
    have dbig : hp.objs.size ≤ dx := Nat.le_trans (Nat.le_of_lt z1) dn
    have nb : ∀ b o, hp.get? b = some o → b ≠ dx := fun b o e => Nat.ne_of_lt (Nat.lt_of_lt_of_le (Heap.lt_size e) dbig)
    exact hq h3 tk3 ⟨fun b o hb e => kk3 b o (nb b o e) (kk2 b o hb (kk1 b o hb (hk0 b o e))), t1, dx, kk3 _ _ (Ne.symm dne) hx2, dbig, dne, hn3⟩
end
/-! ### C(v, ..) -/
def InitOk (prog : Program) (w : World) (K : Frag) (C fI : Addr) (vs : List Value) (fs : List (Str × Value)) : Prop :=
  ∀ (A : Around) (R : Result → Shared → Prop) (hp : Heap) (g : Array GenState) (d : Drawn) (t : Nat) (os : OsState) (mg mb : Str → Option Value) (x t0 : Addr), K.In hp → Ar hp mg mb → hp.get? x = some (excO C t0) → K.lookup x = none → x ≠ C → A.depth < recursionLimit →
    (∀ h' tk', End hp h' x C fs → R (.ok (.ret .none)) ⟨h', g, d, tk', os⟩) → codeAny (model prog w) A (.call (.ref fI) ⟨.ref x :: vs, []⟩) R ⟨hp, g, d, t, os⟩
/-- a made exception -/
structure Made (h h' : Heap) (e C d : Addr) (fs : List (Str × Value)) : Prop where
  keep : ∀ b o, h.get? b = some o → h'.get? b = some o
  new : h.objs.size ≤ e
  obj : ∃ oe vs, h'.get? e = some oe ∧ oe.cls = .ref C ∧ oe.dict = some d ∧ oe.data = .fields vs ∧ vs[1]? = some .none
  dbig : h.objs.size ≤ d
  dne : d ≠ e
  ns : h'.Ns1 d (mapV fs)
/-- the class's facts that making and raising ask -/
structure Cl0 (K : Frag) (C fI : Addr) : Prop where
  cls : ∃ nm q N bs bm sn sub ab col dd k0 k1 k2 k3 k5, K.lookup C = some (excClassObj nm q C N bs bm true sn sub ab col dd k0 k1 k2 k3 k5 "ValueError.__new__") ∧ refsVE bm = true
  iC : findIn K (.ref C) "__init__" = some (some (.ref fI))
  tC : typeIn K (.ref fI) = some (.type "function")
  kC : keepIn K (.ref C) = true
  exC : subIn K (.ref C) (.type "BaseException") = some true
  tyC : typeIn K (.ref C) = some (.type "type")
theorem made {prog : Program} {w : World} {A : Around} {R : Result → Shared → Prop} {s : Shared} {K : Frag} {C fI : Addr} {vs : List Value} {fs : List (Str × Value)} {mg mb : Str → Option Value} (T : Cl0 K C fI) (I : InitOk prog w K C fI vs fs) (X : K.In s.heap) (G : Ar s.heap mg mb) (hv : vs.length ≤ sizeLine) (hroom : A.depth + 1 < recursionLimit)
    (hq : ∀ h' tk e d, Made s.heap h' e C d fs → R (.ok (.ret (.ref e))) { s with heap := h', toks := tk }) :
    codeAny (model prog w) A (.call (.ref C) ⟨vs, []⟩) R s := by
  obtain ⟨nm, q, N, bs, bm, sn, sub, ab, col, dd, k0, k1, k2, k3, k5, hC, hbm⟩ := T.cls
  obtain ⟨hp, g, dr, tk, os⟩ := s
  have k : ∀ b o, hp.get? b = some o → ((hp.push (kdv_tup vs)).push (excO C hp.objs.size)).get? b = some o := fun b o e => Heap.get?_push_of_some _ (Heap.get?_push_of_some _ e)
  have hget : ((hp.push (kdv_tup vs)).push (excO C hp.objs.size)).get? (hp.objs.size + 1) = some (excO C hp.objs.size) := by heap_get
  have hnx : K.lookup (hp.objs.size + 1) = none := by
    cases e : K.lookup (hp.objs.size + 1) with
    | none => rfl
    | some o =>
      have z : hp.get? (hp.objs.size + 1) = some o := X _ _ e
      exact absurd (Nat.lt_of_succ_lt (Heap.lt_size z)) (Nat.lt_irrefl _)
  have hxC : hp.objs.size + 1 ≠ C := fun z => by rw [z, hC] at hnx; cases hnx
  refine call_own F.excBase_ValueError (fun X => refsVE_contains X bm hbm) (X _ _ hC) (looks_findIn X T.iC) (fun self => bind_fn X self T.tC) hv ?_
  refine I _ _ _ g dr tk os mg mb _ _ (X.keeps k) ⟨G.glob.keeps k, G.sup, G.blt.keeps k, G.bsup, G.lim.keeps k⟩ hget hnx hxC ?_ fun h' tk' ⟨k', t1, dx, hx, dn, dne, hns⟩ => ?_
  · show A.depth + 1 < recursionLimit
    exact hroom
  · have old : ∀ b o, hp.get? b = some o → h'.get? b = some o := fun b o e => k' b o (Nat.ne_of_lt (Nat.lt_succ_of_lt (Heap.lt_size e))) (k b o e)
    have z : hp.objs.size + 1 + 1 ≤ dx := by
      first
        | (simpa only [Heap.size_push] using dn)
        | exact dn
        | (have q := dn; rw [Heap.size_push, Heap.size_push] at q; exact q)
    exact ⟨rfl, hq h' tk' (hp.objs.size + 1) dx ⟨old, Nat.le_succ _, ⟨_, _, hx, rfl, rfl, rfl, rfl⟩, Nat.le_trans (Nat.le_trans (Nat.le_succ _) (Nat.le_succ _)) z, dne, hns⟩⟩
end Exs
/-! ## the rule -/
/-- an own exception class named x, whose __init__ stores ns -/
structure ExcK (prog : Program) (w : World) (K : PySem.W.Frag) (mg : Str → Option Value) (x : Str) (ns : List Str) : Prop where
  gC : mg x = some (.ref (He.ga K x))
  sup : mg "super" = none
  cl : Exs.Cl0 K (He.ga K x) (He.ma K (He.ga K x) "__init__")
  ini : ∀ us : List Value, us.length = ns.length → (∀ u ∈ us, Exs.Fmt u) → Exs.InitOk prog w K (He.ga K x) (He.ma K (He.ga K x) "__init__") us (ns.zip us).reverse
def tMkE (C : Addr) (ns : List Str) (ta : TA) : L2.St → Hp → XK → Prop := fun σ H Q => ta σ H fun vs H1 => vs.length = ns.length ∧ vs.length ≤ 1000 ∧ (∀ v ∈ vs, Exs.FmtV v) ∧ ∀ d, H1 d = none → Q (.ref C) (some d) (upd H1 d (.xd (ns.zip vs).reverse))
theorem relO_map : ∀ {fs : List (Str × V)} {us : List (Str × Value)}, Paired (fun (p : Str × V) (q : Str × Value) => p.1 = q.1 ∧ RelV p.2 q.2) fs us → ∀ f, RelO (fs.lookup f) (Exs.mapV us f)
  | _, _, .nil, f => True.intro
  | (a, v) :: fs, (b, u) :: us, .cons r t, f => by
    obtain ⟨e, r⟩ := r
    have e : a = b := e
    subst e
    rw [lookup_put]
    show RelO _ (if f = a then some u else Exs.mapV us f)
    by_cases h : f = a
    · rw [if_pos h, if_pos h]; exact r
    · rw [if_neg h, if_neg h]; exact relO_map t f
theorem paired_snoc {α β : Type} {F : α → β → Prop} : ∀ {as : List α} {bs : List β} {a : α} {b : β}, Paired F as bs → F a b → Paired F (as ++ [a]) (bs ++ [b])
  | _, _, _, _, .nil, h => .cons h .nil
  | _, _, _, _, .cons r t, h => .cons r (paired_snoc t h)
theorem paired_rev {α β : Type} {F : α → β → Prop} : ∀ {as : List α} {bs : List β}, Paired F as bs → Paired F as.reverse bs.reverse
  | _, _, .nil => .nil
  | _, _, .cons r t => by
    rw [List.reverse_cons, List.reverse_cons]
    exact paired_snoc (paired_rev t) r
theorem paired_zip : ∀ {ns : List Str} {vs : List V} {us : List Value}, Vals vs us → Paired (fun (p : Str × V) (q : Str × Value) => p.1 = q.1 ∧ RelV p.2 q.2) (ns.zip vs) (ns.zip us)
  | [], _, _, _ => .nil
  | n :: ns, _, _, .nil => .nil
  | n :: ns, _, _, .cons r t => .cons ⟨rfl, r⟩ (paired_zip t)
theorem vals_fmt : ∀ {vs : List V} {us : List Value}, Vals vs us → (∀ v ∈ vs, Exs.FmtV v) → ∀ u ∈ us, Exs.Fmt u
  | _, _, .nil, _, u, hu => nomatch hu
  | v :: vs, u :: us, .cons r t, h, u', hu => by
    rcases List.mem_cons.mp hu with rfl | hu
    · exact (h v List.mem_cons_self).val r
    · exact vals_fmt t (fun v hv => h v (List.mem_cons_of_mem _ hv)) u' hu
theorem pmk_exs {X : Cx} {x : Str} {ns : List Str} {e : Expr} {es : List Expr} {ta : TA} {p pos : Pos} {k : Nat} (T : ExcK X.prog X.w X.K X.mg x ns) (hr : Room k X.A) (hg : Gl X x) (ha : PA X (e :: es) ta) (hdb : (x == ("__debug__" : Str)) = false := by decide)
    (he : starEach (e :: es) X.env = (false, eval e X.env) :: starEach es X.env := by rfl) (hpl : (backTo pos (starEach es X.env)).any (·.1) = false := by rfl) : PMk X (.Call (.Name x p) (e :: es) [] pos) (tMkE (He.ga X.K x) ns ta) := by
  intro pins s σ H Q I h
  refine wpAny_Call_Name_kw (ld_glob I hg T.gC ?_ hdb)
  refine PySem.W.callWith_K (h₀ := X.base) I.ok.mod.kin T.cl.kC (thn (ha.run pos pins s σ H _ I h) fun us s1 hh => ?_) he hpl
  obtain ⟨vs, H1, I1, r1, hl, hz, hf, q1⟩ := hh
  refine ⟨I1.kIn, ?_⟩
  show wpAny _ _ (call (.ref (He.ga X.K x)) us) _ _ _
  have hlim := I1.nolimit
  obtain ⟨mb, hb1, hb2⟩ := I1.mod.blt
  have G : Exs.Ar s1.heap X.mg mb := ⟨I1.mod.glob.keeps I1.bk, T.sup, hb1.keeps I1.bk, hb2 "super" (by decide), hlim⟩
  have hlu : us.length = vs.length := r1.length.symm
  have J0 := I1.kIn
  obtain ⟨hp, g, dr, tk, os⟩ := s1
  refine wpAny_call (Exs.made T.cl (T.ini us (by omega) (vals_fmt r1 hf)) J0 G (by rw [sizeLine_eq]; omega) (by have := hr.dp; omega) fun h' tk' e d M => ?_)
  show MkP X pins σ Q (.ref e) ⟨h', g, dr, tk', os⟩
  obtain ⟨oe, fv, hoe, hc, hd, hdat, h1⟩ := M.obj
  have hns := M.ns
  obtain ⟨G', g1, g2⟩ := restrict h' fun b => decide (b ≠ e)
  have gk : ∀ b, b ≠ e → G'.get? b = h'.get? b := fun b hb => g1 b (decide_eq_true hb)
  have ge : G'.get? e = none := g2 e (by simp)
  have old : ∀ b o, hp.get? b = some o → G'.get? b = some o := fun b o q => (gk b (Nat.ne_of_lt (Nat.lt_of_lt_of_le (Heap.lt_size q) M.new))).trans (M.keep b o q)
  have rel := relO_map (paired_rev (paired_zip (ns := ns) r1))
  have ob : ObjOk X.prog X.w (upd H1 d (.xd (ns.zip vs).reverse)) G' d (.xd (ns.zip vs).reverse) := ⟨_, hns.at (fun o q => (gk d M.dne).trans q), rel⟩
  have J : Inv X pins σ (upd H1 d (.xd (ns.zip vs).reverse)) ⟨G', g, dr, tk', os⟩ := I1.laid (t' := tk') old M.dbig ob
  refine ⟨e, oe, fv, ⟨G', g, dr, tk', os⟩, _, .ref _, some d, rfl, J, fun b o q => ?_, ge, hoe, ⟨hc, hd⟩, hdat, h1, ?_, rfl, I1.bare, raises_own T.cl.exC T.cl.tyC, q1 d (I1.hok.fresh M.dbig)⟩
  · by_cases hb : b = e
    · have q' : G'.get? b = some o := q
      rw [hb, ge] at q'; cases q'
    · exact (gk b hb).symm.trans q
  · rw [upd_ne (Ne.symm M.dne)]
    exact I1.hok.fresh M.new
end Cl

/-! ## ExR -/
namespace Cl
open PySem PySem.Spec PyProof.Rows L2
/-! ## an own exception over ValueError with super().__init__(f'..{len(f)}..') and self.f = list(f) -/
namespace Exs
open PySem.W PySem.Calls PySem.HandSPX
section
variable {prog : Program} {w : World} {A : Around} {E : Value → Shared → Prop} {s : Shared} {env : Env} {m mg mb : Str → Option Value}
/-- a built-in's name within the def -/
theorem ldB {x : Str} {pos : Pos} {v : Value} {Q : Value → Shared → Prop} {M : Model} (hk : env.scope.kind = .function) (hs : env.scope.names.lookup x = some .globalImplicit) (Gg : s.heap.Ns env.globals mg) (Gs : mg x = none) (Gb : s.heap.Ns env.builtins mb) (hv : mb x = some v) (hd : (x == ("__debug__" : Str)) = false) (h : Q v s) : wpAny M A (eval (.Name x pos) env) Q E s :=
  wpAny_Name (ks_loadName_global hk hs (loadGlobal_builtin (env := env) Gg Gs Gb hv h)) hd
/-- len(f) -/
theorem ev_len {f : Str} {p0 p1 p2 : Pos} {a : Addr} {its : Array Value} {Q : Value → Shared → Prop} (hn : s.heap.Ns env.locals m) (hv : m f = some (.ref a)) (hk : env.scope.kind = .function) (kf : env.kindOf f = some .local) (hd : (f == ("__debug__" : Str)) = false) (hs : env.scope.names.lookup ("len" : Str) = some .globalImplicit) (Gg : s.heap.Ns env.globals mg) (Gs : mg "len" = none) (Gb : s.heap.Ns env.builtins mb) (hb : mb "len" = some (.builtin "len"))
    (hl : s.heap.IsList a its) (hfit : (its.size : Int) < 2 ^ 63) (hst : starEach [.Name f p1] env = (false, eval (.Name f p1) env) :: starEach [] env)
    (h : ∀ tk tk', Q (.int its.size tk) { s with toks := tk' }) : wpAny (model prog w) A (eval (.Call (.Name "len" p0) [.Name f p1] [] p2) env) Q E s := by
  refine wpAny_Call_Name_kw (ldB hk hs Gg Gs Gb hb (by decide +kernel) ?_)
  rw [hst]
  refine Calls.callWith_builtin rfl (Calls.evalArgs_plain (Calls.spliced_cons (ldE hn hv hk kf hd ?_)))
  refine Calls.spliced_nil ?_
  exact Calls.call_len_list hl hfit (h _ _)
/-- list(f) -/
theorem ev_list {f : Str} {p0 p1 p2 : Pos} {a : Addr} {its : Array Value} {Q : Value → Shared → Prop} (hn : s.heap.Ns env.locals m) (hv : m f = some (.ref a)) (hk : env.scope.kind = .function) (kf : env.kindOf f = some .local) (hd : (f == ("__debug__" : Str)) = false) (hs : env.scope.names.lookup ("list" : Str) = some .globalImplicit) (Gg : s.heap.Ns env.globals mg) (Gs : mg "list" = none) (Gb : s.heap.Ns env.builtins mb) (hb : mb "list" = some (.type "list"))
    (hl : s.heap.IsList a its) (hfit : its.size ≤ sizeLine) (hst : starEach [.Name f p1] env = (false, eval (.Name f p1) env) :: starEach [] env) (hpl : (backTo p2 (starEach [] env)).any (·.1) = false)
    (h : ∀ h' c', (∀ b o', s.heap.get? b = some o' → h'.get? b = some o') → h'.get? s.heap.objs.size = some { cls := .type "list", dict := none, data := .seq its c', slots := #[] } → Q (.ref s.heap.objs.size) { s with heap := h' }) : wpAny (model prog w) A (eval (.Call (.Name "list" p0) [.Name f p1] [] p2) env) Q E s := by
  refine wpAny_Call_Name_kw (ldB hk hs Gg Gs Gb hb (by decide +kernel) ?_)
  refine PyProof.Rows.callWith_type1 ?_ hst hpl
  rw [hst]
  refine Calls.spliced_cons (ldE hn hv hk kf hd ?_)
  refine Calls.spliced_nil ?_
  obtain ⟨o, ho, hc, n, hd2⟩ := hl
  exact call_list_seq a (.inl rfl) ho hc hd2 h hfit
/-- f'text{len(f)}text' -/
theorem fsR {f z0 z1 : Str} {q0 q1 q2 p0 p1 p2 p3 : Pos} {k0 k1 : Nat} {a : Addr} {its : Array Value} {Q : Value → Shared → Prop} (hn : s.heap.Ns env.locals m) (hv : m f = some (.ref a)) (hk : env.scope.kind = .function) (kf : env.kindOf f = some .local) (hd : (f == ("__debug__" : Str)) = false) (hs : env.scope.names.lookup ("len" : Str) = some .globalImplicit) (Gg : ∀ t, ({ s with toks := t } : Shared).heap.Ns env.globals mg) (Gs : mg "len" = none) (Gb : ∀ t, ({ s with toks := t } : Shared).heap.Ns env.builtins mb) (hb : mb "len" = some (.builtin "len"))
    (hl : s.heap.IsList a its) (hfit : (its.size : Int) < 2 ^ 63) (hst : starEach [.Name f q1] env = (false, eval (.Name f q1) env) :: starEach [] env) (hz : z0.length ≤ 1000) (hz1 : z1.length ≤ 1000)
    (h : ∀ z tk tk', Q (.str z tk) { s with toks := tk' }) : wpAny (model prog w) A (eval (.JoinedStr [.Constant (.str z0) k0 p0, .FormattedValue (.Call (.Name "len" q0) [.Name f q1] [] q2) (-1) none p1, .Constant (.str z1) k1 p2] p3) env) Q E s := by
  refine wpAny_JoinedStr ?_
  have e0 : evalEach [.Constant (.str z0) k0 p0, .FormattedValue (.Call (.Name "len" q0) [.Name f q1] [] q2) (-1) none p1, .Constant (.str z1) k1 p2] env = [eval (.Constant (.str z0) k0 p0) env, eval (.FormattedValue (.Call (.Name "len" q0) [.Name f q1] [] q2) (-1) none p1) env, eval (.Constant (.str z1) k1 p2) env] := by first | rfl | simp [evalEach]
  rw [e0]
  have l0 : (Str.empty ++ z0).length ≤ 1000 := by
    have e1 : (Str.empty ++ z0).length = Str.empty.length + z0.length := Str.length_append _ _
    have e2 : Str.empty.length = 0 := rfl
    omega
  refine Calls.Constant_str ⟨z0, _, rfl, Nat.le_trans l0 (by decide), ?_⟩
  refine wpAny_FormattedValue_plain (ev_len (s := { s with toks := s.toks + 1 }) hn hv hk kf hd hs (Gg _) Gs (Gb _) hb hl hfit hst fun tk tk' => ?_)
  have hlog : ((its.size : Int)).natAbs.log2 < 1920 := by
    have h1 : ((its.size : Int)).natAbs < 2 ^ 63 := by omega
    have h2 : ((its.size : Int)).natAbs.log2 < 63 ∨ ((its.size : Int)).natAbs = 0 := by
      by_cases z : ((its.size : Int)).natAbs = 0
      · exact .inr z
      · exact .inl ((Nat.log2_lt z).mpr h1)
    rcases h2 with h2 | h2
    · omega
    · rw [h2]; decide
  refine wpAny_formatField_int hlog ?_
  have e3 := int_text_len_1921 hlog
  change (show Str from toString ((its.size : Int))).length ≤ 1921 at e3
  generalize (toString ((its.size : Int)) : Str) = z at *
  have l1 : (Str.empty ++ z0 ++ z).length ≤ 3000 := by
    have e1 : (Str.empty ++ z0 ++ z).length = (Str.empty ++ z0).length + z.length := Str.length_append _ _
    have e4 : z.length ≤ 1921 := e3
    omega
  have l2 : (Str.empty ++ z0 ++ z ++ z1).length ≤ 4000 := by
    have e1 : (Str.empty ++ z0 ++ z ++ z1).length = (Str.empty ++ z0 ++ z).length + z1.length := Str.length_append _ _
    omega
  refine ⟨z, _, rfl, Nat.le_trans l1 (by decide), ?_⟩
  exact Calls.Constant_str ⟨z1, _, rfl, Nat.le_trans l2 (by decide), Nat.le_trans l2 (by decide), h _ _ _⟩
end
section
variable {prog : Program} {w : World} {A : Around} {E : Value → Shared → Prop} {R : Result → Shared → Prop} {K : Frag} {C fI cc cda x t0 : Addr} {qual : Str} {params : Arguments} {body : List Stmt} {scope : Scope} {m mg mb : Str → Option Value} {hp : Heap} {g : Array GenState} {d : Drawn} {t : Nat} {os : OsState} {env : Env}
/-- what __init__ leaves: the list's copy, the dict -/
structure EndL (h h' : Heap) (x C : Addr) (f : Str) (its : Array Value) (p dx : Addr) : Prop where
  keep : ∀ b o, b ≠ x → h.get? b = some o → h'.get? b = some o
  ex : ∃ t1, h'.get? x = some { cls := .ref C, dict := some dx, data := .fields #[.ref t1, .none, .none, .none, .bool false, .none] }
  dbig : h.objs.size ≤ dx
  dne : dx ≠ x
  ns : h'.Ns1 dx (mapV [(f, .ref p)])
  pbig : h.objs.size ≤ p
  pne : p ≠ dx
  pnx : p ≠ x
  pl : ∃ c, h'.get? p = some { cls := .type "list", dict := none, data := .seq its c, slots := #[] }
structure ArL (hp : Heap) (mg mb : Str → Option Value) : Prop extends Ar hp mg mb where
  lenG : mg "len" = none
  lenB : mb "len" = some (.builtin "len")
  lstG : mg "list" = none
  lstB : mb "list" = some (.type "list")
/-- self.f = list(f) -/
theorem store1L (T : Tx prog K C fI cc cda qual params body scope) (X : K.In hp) {L : Addr} (eL : env.locals = L) (eG : env.globals = mainGlobals) (eB : env.builtins = builtinsNs) (Gg : hp.Ns mainGlobals mg) (Gs : mg "list" = none) (Gb : hp.Ns builtinsNs mb) (Gbl : mb "list" = some (.type "list")) (hn : hp.Ns L m) {f : Str} {a : Addr} {its : Array Value} (hv : m f = some (.ref a)) (hs : m "self" = some (.ref x)) (hx : hp.get? x = some (excO C t0)) (hk : env.scope.kind = .function) (kf : env.kindOf f = some .local) (ks : env.kindOf "self" = some .local) (kl : env.scope.names.lookup ("list" : Str) = some .globalImplicit) (hd : (f == ("__debug__" : Str)) = false) (no : findIn K (.ref C) f = some none)
    (hl : hp.IsList a its) (hfit : its.size ≤ sizeLine) {q1 q2 q4 r0 r1 r2 : Pos} {Q : Flow → Shared → Prop} (hst : starEach [.Name f r1] env = (false, eval (.Name f r1) env) :: starEach [] env) (hpl : (backTo r2 (starEach [] env)).any (·.1) = false) (hsw : swapsWith (.Call (.Name "list" r0) [.Name f r1] [] r2) (some (.Attribute (.Name "self" q1) f q2)) q4.line env = pure false)
    (hq : ∀ h' tk' p dx, EndL hp h' x C f its p dx → Q .next ⟨h', g, d, tk', os⟩) :
    wpAny (model prog w) A (exec (.Assign [.Attribute (.Name "self" q1) f q2] (.Call (.Name "list" r0) [.Name f r1] [] r2) q4) env) Q E ⟨hp, g, d, t, os⟩ := by
  obtain ⟨nm, q, N, bs, bm, sn, sub, ab, col, dd, k0, k1, k2, k3, k5, hC, hbm⟩ := T.cls
  have hcl := lookups_clsIn hC
  subst eL
  refine plainObj_wpAny_Assign_Attribute ?_ hsw
  refine ev_list (s := ⟨hp, g, d, t, os⟩) hn hv hk kf hd kl (by rw [eG]; exact Gg) Gs (by rw [eB]; exact Gb) Gbl hl hfit hst hpl fun h2 c2 kk2 hp2 => ?_
  have X2 : K.In h2 := X.keeps kk2
  refine ldE (s := ⟨h2, g, d, t, os⟩) (hn.keeps kk2) hs hk ks (by decide +kernel) ?_
  refine set_plain X2 (ox := excO C t0) (od := none) ⟨kk2 _ _ hx, rfl, rfl, trivial⟩ T.sa ?_
  refine exc_osa X2 (kk2 _ _ hx) hcl (show refsVE (.ref C :: bm) = true from hbm) rfl no (fun h' tk' dx k dn dne hx' hn' => ?_)
  have hpx : hp.objs.size ≠ x := Nat.ne_of_gt (Heap.lt_size hx)
  have hlt : hp.objs.size < h2.objs.size := Heap.lt_size hp2
  have hp2' : h2.get? hp.objs.size = some { cls := .type "list", dict := none, data := .seq its c2, slots := #[] } := hp2
  exact hq h' tk' hp.objs.size dx ⟨fun b o hb e => k b o hb (kk2 b o e), ⟨t0, hx'⟩, Nat.le_trans (Nat.le_of_lt hlt) dn, dne, by
    have e : (fun y => if y = f then some (Value.ref hp.objs.size) else none) = mapV [(f, Value.ref hp.objs.size)] := by funext y; rfl
    rw [← e]; exact hn', Nat.le_refl _, Nat.ne_of_lt (Nat.lt_of_lt_of_le hlt dn), hpx, ⟨c2, k _ _ hpx hp2'⟩⟩
theorem ns_but {h1 : Heap} {a : Addr} {mm : Str → Option Value} (hn : hp.Ns a mm) (hx : hp.get? x = some (excO C t0)) (kk : ∀ b o, b ≠ x → hp.get? b = some o → h1.get? b = some o) : h1.Ns a mm := by
  obtain ⟨oL, es, ep, hoL, hdt, r⟩ := hn
  refine ⟨oL, es, ep, kk _ _ (fun z => ?_) hoL, hdt, r⟩
  rw [z, hx] at hoL; cases hoL; cases hdt
def bodyL (f z0 z1 : Str) (k0 k1 : Nat) (p0 p1 p2 p3 p4 a0 a1 a2 a3 q0 q1 q2 r0 r1 r2 u1 u2 u4 : Pos) : List Stmt :=
  [.Expr (.Call (.Attribute (.Call (.Name "super" p0) [] [] p1) "__init__" p2) [.JoinedStr [.Constant (.str z0) k0 a0, .FormattedValue (.Call (.Name "len" q0) [.Name f q1] [] q2) (-1) none a1, .Constant (.str z1) k1 a2] a3] [] p3) p4,
   .Assign [.Attribute (.Name "self" u1) f u2] (.Call (.Name "list" r0) [.Name f r1] [] r2) u4]
theorem initL {f z0 z1 : Str} {k0 k1 : Nat} {p0 p1 p2 p3 p4 a0 a1 a2 a3 q0 q1 q2 r0 r1 r2 u1 u2 u4 : Pos} {a : Addr} {its : Array Value} (T : Tx prog K C fI cc cda qual params (bodyL f z0 z1 k0 k1 p0 p1 p2 p3 p4 a0 a1 a2 a3 q0 q1 q2 r0 r1 r2 u1 u2 u4) scope) (S : Sc prog params scope) (no : findIn K (.ref C) f = some none) (kf : scope.names.lookup f = some .local) (kn : scope.names.lookup ("len" : Str) = some .globalImplicit) (kl : scope.names.lookup ("list" : Str) = some .globalImplicit) (nf : ¬ (("self" : Str) = f)) (hd : (f == ("__debug__" : Str)) = false) (hz : z0.length ≤ 1000) (hz1 : z1.length ≤ 1000)
    (hcell : ∀ y ∈ scope.names, y.2 ≠ .cell) (hco : scope.isCoroutine = false) (hgen : scope.isGenerator = false)
    (hbind : ∀ (kV doc pm : Value) (an : Option Addr) (ct : Value), bindArgs (ksFn "__init__" qual params (bodyL f z0 z1 k0 k1 p0 p1 p2 p3 p4 a0 a1 a2 a3 q0 q1 q2 r0 r1 r2 u1 u2 u4) scope .none kV doc pm an (.ref cda) ct cc) ⟨[.ref x, .ref a], []⟩ = pure [(("self" : Str), .ref x), (f, .ref a)])
    (hst : ∀ env : Env, starEach [.JoinedStr [.Constant (.str z0) k0 a0, .FormattedValue (.Call (.Name "len" q0) [.Name f q1] [] q2) (-1) none a1, .Constant (.str z1) k1 a2] a3] env = (false, eval (.JoinedStr [.Constant (.str z0) k0 a0, .FormattedValue (.Call (.Name "len" q0) [.Name f q1] [] q2) (-1) none a1, .Constant (.str z1) k1 a2] a3) env) :: starEach [] env)
    (hst1 : ∀ env : Env, starEach [.Name f q1] env = (false, eval (.Name f q1) env) :: starEach [] env) (hst2 : ∀ env : Env, starEach [.Name f r1] env = (false, eval (.Name f r1) env) :: starEach [] env) (hpl : ∀ env : Env, (backTo r2 (starEach [] env)).any (·.1) = false)
    (hsw : ∀ L, swapsWith (.Call (.Attribute (.Call (.Name "super" p0) [] [] p1) "__init__" p2) [.JoinedStr [.Constant (.str z0) k0 a0, .FormattedValue (.Call (.Name "len" q0) [.Name f q1] [] q2) (-1) none a1, .Constant (.str z1) k1 a2] a3] [] p3) none p4.line (ksEnv qual scope L fI (.ref cda) cc) = pure false)
    (hsw2 : ∀ L, swapsWith (.Call (.Name "list" r0) [.Name f r1] [] r2) (some (.Attribute (.Name "self" u1) f u2)) u4.line (ksEnv qual scope L fI (.ref cda) cc) = pure false)
    {pl : Sem Bool} (hev : ∀ L, eval (.Call (.Attribute (.Call (.Name "super" p0) [] [] p1) "__init__" p2) [.JoinedStr [.Constant (.str z0) k0 a0, .FormattedValue (.Call (.Name "len" q0) [.Name f q1] [] q2) (-1) none a1, .Constant (.str z1) k1 a2] a3] [] p3) (ksEnv qual scope L fI (.ref cda) cc) = (do
      let ov ← attributeBase (.Call (.Name "super" p0) [] [] p1) "__init__" (ksEnv qual scope L fI (.ref cda) cc) (eval (.Call (.Name "super" p0) [] [] p1) (ksEnv qual scope L fI (.ref cda) cc))
      standAt p2.atName
      let (fm, first) ← holding [ov] (getMethod ov "__init__" pl)
      callWith p3 fm first (backTo p3 (starEach [.JoinedStr [.Constant (.str z0) k0 a0, .FormattedValue (.Call (.Name "len" q0) [.Name f q1] [] q2) (-1) none a1, .Constant (.str z1) k1 a2] a3] (ksEnv qual scope L fI (.ref cda) cc))) []))
    (X : K.In hp) (G : ArL hp mg mb) (hx : hp.get? x = some (excO C t0)) (hnx : K.lookup x = none) (hxC : x ≠ C) (hl : hp.IsList a its) (hfit : its.size ≤ sizeLine) (hroom : A.depth < recursionLimit)
    (hq : ∀ h' tk' p dx, EndL hp h' x C f its p dx → R (.ok (.ret .none)) ⟨h', g, d, tk', os⟩) :
    codeAny (model prog w) A (.call (.ref fI) ⟨[.ref x, .ref a], []⟩) R ⟨hp, g, d, t, os⟩ := by
  obtain ⟨oc, od, kV, doc, pm, an, ct, osl, hfn, hcd⟩ := T.fn
  refine ks_codeAny_call_defAt (s := ⟨hp, g, d, t, os⟩) (fd := ksFn "__init__" qual params (bodyL f z0 z1 k0 k1 p0 p1 p2 p3 p4 a0 a1 a2 a3 q0 q1 q2 r0 r1 r2 u1 u2 u4) scope .none kV doc pm an (.ref cda) ct cc) (body := bodyL f z0 z1 k0 k1 p0 p1 p2 p3 p4 a0 a1 a2 a3 q0 q1 q2 r0 r1 r2 u1 u2 u4) (binds := [(("self" : Str), .ref x), (f, .ref a)]) hroom (X _ _ hfn) rfl G.lim (codeRec_of X hcd) rfl (BindsTo.of_eq (hbind kV doc pm an ct)) hcell (fun y hy => ?_) (fun h0 hns hk0 => ?_) hco hgen S.kind
  · rcases List.mem_cons.mp hy with rfl | hy
    · exact S.slf
    · rcases List.mem_cons.mp hy with rfl | hy
      · exact kf
      · cases hy
  have ms : (List.lookup ("self" : Str) ([(("self" : Str), Value.ref x), (f, .ref a)].reverse)) = some (.ref x) := by
    show List.lookup ("self" : Str) [(f, .ref a), (("self" : Str), Value.ref x)] = _
    have e : (("self" : Str) == f) = false := by simpa using nf
    simp [List.lookup, e]
  have mf : (List.lookup f ([(("self" : Str), Value.ref x), (f, .ref a)].reverse)) = some (.ref a) := by
    show List.lookup f [(f, .ref a), (("self" : Str), Value.ref x)] = _
    simp [List.lookup]
  have lt : hp.objs.size ≠ x := Nat.ne_of_gt (Heap.lt_size hx)
  obtain ⟨oa, hoa, hca, na, hda⟩ := hl
  have hax : a ≠ x := fun z => by
    rw [z, hx] at hoa; cases hoa; cases hca
  have l63 := line63
  have l63' : (its.size : Int) < 2 ^ 63 := by omega
  refine ks_wpAt_execs_cons ?_
  refine sup_stmt (m := fun y => List.lookup y ([(("self" : Str), Value.ref x), (f, .ref a)].reverse)) T S (X.keeps hk0) (G.glob.keeps hk0) G.sup (G.blt.keeps hk0) G.bsup boot_super hns ms (hk0 _ _ hx) hxC (pl := pl) (fun hp' t' Q' kk hz' => ?_) (fun h1 t1 tk1 kk1 hx1 => ?_) (hst _) (hsw _) (hev _)
  · obtain ⟨oL, es, ep, hoL, r⟩ := hns
    exact fsR (m := fun y => List.lookup y ([(("self" : Str), Value.ref x), (f, .ref a)].reverse)) ⟨oL, es, ep, kk _ _ hoL, r⟩ mf S.kind kf hd kn (fun _ => (G.glob.keeps hk0).keeps kk) G.lenG (fun _ => (G.blt.keeps hk0).keeps kk) G.lenB ⟨oa, kk _ _ (hk0 _ _ hoa), hca, na, hda⟩ l63' (hst1 _) hz hz1 hz'
  · have X1 : K.In h1 := kept_but (X.keeps hk0) hnx kk1
    have kk : ∀ b o, b ≠ x → hp.get? b = some o → h1.get? b = some o := fun b o hb e => kk1 b o hb (hk0 b o e)
    have hn1 : h1.Ns hp.objs.size (fun y => List.lookup y ([(("self" : Str), Value.ref x), (f, .ref a)].reverse)) := by
      obtain ⟨oL, es, ep, hoL, r⟩ := hns
      exact ⟨oL, es, ep, kk1 _ _ lt hoL, r⟩
    show PySem.wpAt _ _ _ (execs _ _) _ _ _
    refine wpAt_of_wpAny (wpAny_execs_cons ?_)
    refine store1L (env := ksEnv qual scope hp.objs.size fI (.ref cda) cc) (m := fun y => List.lookup y ([(("self" : Str), Value.ref x), (f, .ref a)].reverse)) T X1 rfl rfl rfl (ns_but G.glob hx kk) G.lstG (ns_but G.blt hx kk) G.lstB hn1 mf ms hx1 S.kind kf S.slf kl hd no ⟨oa, kk _ _ hax hoa, hca, na, hda⟩ hfit (hst2 _) (hpl _) (hsw2 _) fun h2 tk2 p dx En => ?_
    refine wpAny_execs_nil ?_
    have z1 : hp.objs.size < h1.objs.size := hn1.lt
    exact hq h2 tk2 p dx ⟨fun b o hb e => En.keep b o hb (kk b o hb e), En.ex, Nat.le_trans (Nat.le_of_lt z1) En.dbig, En.dne, En.ns, Nat.le_trans (Nat.le_of_lt z1) En.pbig, En.pne, En.pnx, En.pl⟩
end
/-! ### C(xs) -/
def InitL (prog : Program) (w : World) (K : Frag) (C fI : Addr) (f : Str) : Prop :=
  ∀ (A : Around) (R : Result → Shared → Prop) (hp : Heap) (g : Array GenState) (d : Drawn) (t : Nat) (os : OsState) (mg mb : Str → Option Value) (x t0 a : Addr) (its : Array Value), K.In hp → ArL hp mg mb → hp.get? x = some (excO C t0) → K.lookup x = none → x ≠ C → hp.IsList a its → its.size ≤ sizeLine → A.depth < recursionLimit →
    (∀ h' tk' p dx, EndL hp h' x C f its p dx → R (.ok (.ret .none)) ⟨h', g, d, tk', os⟩) → codeAny (model prog w) A (.call (.ref fI) ⟨[.ref x, .ref a], []⟩) R ⟨hp, g, d, t, os⟩
structure MadeL (h h' : Heap) (e C d : Addr) (f : Str) (its : Array Value) (p : Addr) : Prop where
  keep : ∀ b o, h.get? b = some o → h'.get? b = some o
  new : h.objs.size ≤ e
  obj : ∃ oe vs, h'.get? e = some oe ∧ oe.cls = .ref C ∧ oe.dict = some d ∧ oe.data = .fields vs ∧ vs[1]? = some .none
  dbig : h.objs.size ≤ d
  dne : d ≠ e
  ns : h'.Ns1 d (mapV [(f, .ref p)])
  pbig : h.objs.size ≤ p
  pne : p ≠ d
  pnx : p ≠ e
  pl : ∃ c, h'.get? p = some { cls := .type "list", dict := none, data := .seq its c, slots := #[] }
theorem madeL {prog : Program} {w : World} {A : Around} {R : Result → Shared → Prop} {s : Shared} {K : Frag} {C fI a : Addr} {f : Str} {its : Array Value} {mg mb : Str → Option Value} (T : Cl0 K C fI) (I : InitL prog w K C fI f) (X : K.In s.heap) (G : ArL s.heap mg mb) (hl : s.heap.IsList a its) (hfit : its.size ≤ sizeLine) (hroom : A.depth + 1 < recursionLimit)
    (hq : ∀ h' tk e d p, MadeL s.heap h' e C d f its p → R (.ok (.ret (.ref e))) { s with heap := h', toks := tk }) :
    codeAny (model prog w) A (.call (.ref C) ⟨[.ref a], []⟩) R s := by
  obtain ⟨nm, q, N, bs, bm, sn, sub, ab, col, dd, k0, k1, k2, k3, k5, hC, hbm⟩ := T.cls
  obtain ⟨hp, g, dr, tk, os⟩ := s
  have k : ∀ b o, hp.get? b = some o → ((hp.push (kdv_tup [.ref a])).push (excO C hp.objs.size)).get? b = some o := fun b o e => Heap.get?_push_of_some _ (Heap.get?_push_of_some _ e)
  have hget : ((hp.push (kdv_tup [.ref a])).push (excO C hp.objs.size)).get? (hp.objs.size + 1) = some (excO C hp.objs.size) := by heap_get
  have hnx : K.lookup (hp.objs.size + 1) = none := by
    cases e : K.lookup (hp.objs.size + 1) with
    | none => rfl
    | some o =>
      have z : hp.get? (hp.objs.size + 1) = some o := X _ _ e
      exact absurd (Nat.lt_of_succ_lt (Heap.lt_size z)) (Nat.lt_irrefl _)
  have hxC : hp.objs.size + 1 ≠ C := fun z => by rw [z, hC] at hnx; cases hnx
  obtain ⟨oa, hoa, hla⟩ := hl
  refine call_own F.excBase_ValueError (fun X => refsVE_contains X bm hbm) (X _ _ hC) (looks_findIn X T.iC) (fun self => bind_fn X self T.tC) (by show 1 ≤ sizeLine; decide) ?_
  refine I _ _ _ g dr tk os mg mb _ _ a its (X.keeps k) ⟨⟨G.glob.keeps k, G.sup, G.blt.keeps k, G.bsup, G.lim.keeps k⟩, G.lenG, G.lenB, G.lstG, G.lstB⟩ hget hnx hxC ⟨oa, k _ _ hoa, hla⟩ hfit ?_ fun h' tk' p dx En => ?_
  · show A.depth + 1 < recursionLimit
    exact hroom
  · have old : ∀ b o, hp.get? b = some o → h'.get? b = some o := fun b o e => En.keep b o (Nat.ne_of_lt (Nat.lt_succ_of_lt (Heap.lt_size e))) (k b o e)
    have sz : ((hp.push (kdv_tup [.ref a])).push (excO C hp.objs.size)).objs.size = hp.objs.size + 1 + 1 := by rw [Heap.size_push, Heap.size_push]
    have z := En.dbig
    have z2 := En.pbig
    rw [sz] at z z2
    obtain ⟨t1, hx⟩ := En.ex
    exact ⟨rfl, hq h' tk' (hp.objs.size + 1) dx p ⟨old, Nat.le_succ _, ⟨_, _, hx, rfl, rfl, rfl, rfl⟩, Nat.le_trans (Nat.le_trans (Nat.le_succ _) (Nat.le_succ _)) z, En.dne, En.ns, Nat.le_trans (Nat.le_trans (Nat.le_succ _) (Nat.le_succ _)) z2, En.pne, En.pnx, En.pl⟩⟩
end Exs
/-! ## the rule -/
structure ExcKL (prog : Program) (w : World) (K : PySem.W.Frag) (mg : Str → Option Value) (x f : Str) : Prop where
  gC : mg x = some (.ref (He.ga K x))
  sup : mg "super" = none
  len : mg "len" = none
  lst : mg "list" = none
  cl : Exs.Cl0 K (He.ga K x) (He.ma K (He.ga K x) "__init__")
  ini : Exs.InitL prog w K (He.ga K x) (He.ma K (He.ga K x) "__init__") f
def tMkL (K : PySem.W.Frag) (C : Addr) (f : Str) (ta : TA) : L2.St → Hp → XK → Prop := fun σ H Q => ta σ H fun vs H1 => ∃ a xs, vs = [.ref a] ∧ SqL K H1 a xs ∧ ∀ p d, H1 p = none → H1 d = none → p ≠ d → Q (.ref C) (some d) (upd (upd H1 p (.lst xs)) d (.xd [(f, .ref p)]))
theorem pmk_exsL {X : Cx} {x f : Str} {e : Expr} {ta : TA} {p pos : Pos} {k : Nat} (T : ExcKL X.prog X.w X.K X.mg x f) (hr : Room k X.A) (hg : Gl X x) (ha : PA X [e] ta) (hdb : (x == ("__debug__" : Str)) = false := by decide)
    (he : starEach [e] X.env = (false, eval e X.env) :: starEach [] X.env := by rfl) (hpl : (backTo pos (starEach [] X.env)).any (·.1) = false := by rfl) : PMk X (.Call (.Name x p) [e] [] pos) (tMkL X.K (He.ga X.K x) f ta) := by
  intro pins s σ H Q I h
  refine wpAny_Call_Name_kw (ld_glob I hg T.gC ?_ hdb)
  refine PySem.W.callWith_K (h₀ := X.base) I.ok.mod.kin T.cl.kC (thn (ha.run pos pins s σ H _ I h) fun us s1 hh => ?_) he hpl
  obtain ⟨vs, H1, I1, r1, a, xs, rfl, hq0, q1⟩ := hh
  refine ⟨I1.kIn, ?_⟩
  show wpAny _ _ (call (.ref (He.ga X.K x)) us) _ _ _
  cases r1 with
  | cons r rr =>
    cases rr
    cases r
    obtain ⟨its, rv, hpl2, hz⟩ := I1.list hq0
    have hlen := rv.length
    have hlim := I1.nolimit
    obtain ⟨mb, hb1, hb2⟩ := I1.mod.blt
    have G : Exs.ArL s1.heap X.mg mb := ⟨⟨I1.mod.glob.keeps I1.bk, T.sup, hb1.keeps I1.bk, hb2 "super" (by decide), hlim⟩, T.len, (hb2 "len" (by decide)).trans (by decide +kernel), T.lst, (hb2 "list" (by decide)).trans (by decide +kernel)⟩
    have J0 := I1.kIn
    have hil := hpl2.isList
    have hfit : its.toArray.size ≤ sizeLine := by simp only [List.size_toArray]; omega
    obtain ⟨hp, g, dr, tk, os⟩ := s1
    refine wpAny_call (Exs.madeL T.cl T.ini J0 G hil hfit (by have := hr.dp; omega) fun h' tk' e d p M => ?_)
    show MkP X pins σ Q (.ref e) ⟨h', g, dr, tk', os⟩
    obtain ⟨oe, fv, hoe, hc, hd, hdat, h1⟩ := M.obj
    have hns := M.ns
    obtain ⟨c2, hpl3⟩ := M.pl
    obtain ⟨G1, g1, g2⟩ := restrict h' fun b => decide (b ≠ e ∧ b ≠ d)
    obtain ⟨G', g3, g4⟩ := restrict h' fun b => decide (b ≠ e)
    have gk1 : ∀ b, b ≠ e → b ≠ d → G1.get? b = h'.get? b := fun b hb hb2 => g1 b (decide_eq_true ⟨hb, hb2⟩)
    have gd1 : G1.get? d = none := g2 d (by simp)
    have ge1 : G1.get? e = none := g2 e (by simp)
    have gk : ∀ b, b ≠ e → G'.get? b = h'.get? b := fun b hb => g3 b (decide_eq_true hb)
    have ge : G'.get? e = none := g4 e (by simp)
    have old1 : ∀ b o, hp.get? b = some o → G1.get? b = some o := fun b o q => (gk1 b (Nat.ne_of_lt (Nat.lt_of_lt_of_le (Heap.lt_size q) M.new)) (Nat.ne_of_lt (Nat.lt_of_lt_of_le (Heap.lt_size q) M.dbig))).trans (M.keep b o q)
    have I2 : Inv X pins σ (upd H1 p (.lst xs)) ⟨G1, g, dr, tk', os⟩ := I1.laid (t' := tk') old1 M.pbig (show ObjOk X.prog X.w _ G1 _ (.lst xs) from ⟨hz, its, c2, rv, (gk1 p M.pnx M.pne).trans hpl3⟩)
    have fd : H1 d = none := I1.hok.fresh M.dbig
    have fp : H1 p = none := I1.hok.fresh M.pbig
    have fd2 : (upd H1 p (.lst xs)) d = none := by rw [upd_ne (Ne.symm M.pne)]; exact fd
    have ob : ObjOk X.prog X.w (upd (upd H1 p (.lst xs)) d (.xd [(f, .ref p)])) G' d (.xd [(f, .ref p)]) := ⟨_, hns.at (fun o q => (gk d M.dne).trans q), relO_map (.cons ⟨rfl, rfl⟩ .nil)⟩
    have J : Inv X pins σ (upd (upd H1 p (.lst xs)) d (.xd [(f, .ref p)])) ⟨G', g, dr, tk', os⟩ := I2.laidN (t' := tk') (fun b u q => by
      have hbe : b ≠ e := fun z => by
        have q' : G1.get? b = some u := q
        rw [z, ge1] at q'; cases q'
      have hbd : b ≠ d := fun z => by
        have q' : G1.get? b = some u := q
        rw [z, gd1] at q'; cases q'
      exact (gk b hbe).trans ((gk1 b hbe hbd).symm.trans q)) gd1 fd2 ob
    refine ⟨e, oe, fv, ⟨G', g, dr, tk', os⟩, _, .ref _, some d, rfl, J, fun b o q => ?_, ge, hoe, ⟨hc, hd⟩, hdat, h1, ?_, rfl, I1.bare, raises_own T.cl.exC T.cl.tyC, q1 p d fp fd M.pne⟩
    · by_cases hb : b = e
      · have q' : G'.get? b = some o := q
        rw [hb, ge] at q'; cases q'
      · exact (gk b hb).symm.trans q
    · rw [upd_ne (Ne.symm M.dne), upd_ne (Ne.symm M.pnx)]
      exact I1.hok.fresh M.new
end Cl

/-! ## Hk -/
namespace Cl
open PySem PySem.Spec PyProof.Rows L2
/-! ## the head's Hook, with own exceptions -/
namespace Hz
open PySem.W He
def refsZ (o : Obj) : List Addr := refsD o ++ (match o.data with
  | .func fd => fd.closure.map (·.2)
  | _ => [])
def growZ (g : Addr → Option Obj) (as : List Addr) : List Addr := (as ++ as.flatMap fun a => match g a with
  | some o => refsZ o
  | none => []).eraseDups
def asZ (g : Addr → Option Obj) : Nat → List Addr
  | 0 => [mainGlobals, cStatics]
  | n + 1 => growZ g (asZ g n)
/-- a function's text -/
abbrev FnB : Type := Option (Str × Str × Arguments × FuncBody × Scope × Addr × Addr × Value)
/-- a staticmethod, a classmethod, a property -/
inductive Wk where
  | st | cl | pr
def Wk.T : Wk → String
  | .st => "staticmethod"
  | .cl => "classmethod"
  | .pr => "property"
/-- an exception class of one's own: its name, its fields, its __init__'s statement; or a def m of a class that is wrapped -/
structure ExD where
  x : Str
  ns : List Str
  qual : Str
  st : Stmt
  m : Str := "__init__"
  wr : Option Wk := none
def ExD.ad (K : Frag) (e : ExD) : Addr := match e.wr with
  | none => ma K (ga K e.x) "__init__"
  | some k => He5.wf K (ga K e.x) k.T e.m
def fnB (K : Frag) (e : ExD) : FnB := match K.lookup (e.ad K) with
  | some ⟨_, _, .func fd, _⟩ => some (fd.name, fd.qualname, fd.params, fd.body, fd.scope, fd.globals, fd.builtins, fd.defaults)
  | _ => none
def ExD.val (e : ExD) : FnB := some (e.m, e.qual, defArgs e.st, .stmts (defBody e.st), defScope e.st, mainGlobals, builtinsNs, .none)
def shapeB (K : Frag) (C : Addr) : Bool := match K.lookup C with
  | some ⟨.type "type", _, .cls cd, sl⟩ => (match cd.mro, sl.toList with
    | .ref C' :: bm, [_, _, _, _, some (.builtin n), _] => C' == C && n == "ValueError.__new__" && !cd.hasDel && cd.hasDict && PySem.HandSPX.refsVE bm
    | _, _ => false)
  | _ => false
def cellB (K : Frag) (C cc : Addr) : Bool := match K.lookup cc with
  | some ⟨_, _, .cell (some (.ref D)), _⟩ => D == C
  | _ => false
def fileB (K : Frag) (file : Str) (cda : Addr) : Bool := match K.lookup cda with
  | some ⟨_, _, .fields vs, _⟩ => (match (vs[2]? : Option Value) with
    | some (Value.str f _) => file == f
    | _ => false)
  | _ => false
def closB (K : Frag) (file : Str) (C : Addr) (q : Str) : Bool := match K.lookup (ma K C "__init__") with
  | some ⟨_, _, .func fd, _⟩ => (match fd.closure, fd.code with
    | [(n, cc)], .ref cda => n == ("__class__" : Str) && (cellB K C cc && (fileB K file cda && codeIn K (.ref cda) q))
    | _, _ => false)
  | _ => false
def exB0 (file : Str) (K : Frag) (e : ExD) : Bool :=
  shapeB K (ga K e.x) && (eqO (findIn K (.ref (ga K e.x)) "__setattr__") (some (some (.builtin "object.__setattr__"))) && (eqO (findIn K (.ref (ga K e.x)) "__init__") (some (some (.ref (ma K (ga K e.x) "__init__")))) &&
  (decide (typeIn K (.ref (ma K (ga K e.x) "__init__")) = some (.type "function")) && (keepIn K (.ref (ga K e.x)) && (decide (subIn K (.ref (ga K e.x)) (.type "BaseException") = some true) && (decide (subIn K (.ref (ga K e.x)) (.type "ValueError") = some true) &&
  (decide (typeIn K (.ref (ga K e.x)) = some (.type "type")) && (eqO (ks_superIn K (ga K e.x) (ga K e.x) "__init__") (some (some (.builtin "ValueError.__init__"))) && (decide (mroIn K (ga K e.x) (.ref (ga K e.x)) = some true) && (eqO (nsIn K cStatics "thirdparty.any") (some none) &&
  (closB K file (ga K e.x) e.qual && (e.ns.all (fun f => eqO (findIn K (.ref (ga K e.x)) f) (some none)) && (eqO (nsIn K mainGlobals e.x) (some (some (.ref (ga K e.x)))) && (eqO (nsIn K mainGlobals "super") (some none) &&
  (eqO (findIn K (.ref (ga K e.x)) "__getattribute__") (some (some (.builtin "BaseException.__getattribute__"))) && (eqO (findIn K (.ref (ga K e.x)) "__getattr__") (some none) && hasDictIn K (ga K e.x)))))))))))))))))
/-- a wrapped def and what holds it -/
def wrF (K : Frag) (e : ExD) : Bool := keepIn K (.ref (e.ad K)) && (match K.lookup (e.ad K) with
  | some ⟨_, _, .func fd, _⟩ => codeIn K fd.code e.qual && (He.dflB K fd.defaults [] && (He.kwdB K fd.kwdefaults [] && fd.closure.isEmpty))
  | _ => false)
def wrB (K : Frag) (e : ExD) : Wk → Bool
  | .st => He5.wrapB K (ga K e.x) "staticmethod" "staticmethod.__get__" e.m && (readsIn K (ga K e.x) (.type "type") && eqO (specialIn K (.ref (ga K e.x)) "__getattribute__") (some (some (.builtin "type.__getattribute__"))))
  | .cl => He5.wrapB K (ga K e.x) "classmethod" "classmethod.__get__" e.m && (readsIn K (ga K e.x) (.type "type") && (eqO (specialIn K (.ref (ga K e.x)) "__getattribute__") (some (some (.builtin "type.__getattribute__"))) && fnIn K (e.ad K)))
  | .pr => eqO (findIn K (.ref (ga K e.x)) e.m) (some (some (.ref (ma K (ga K e.x) e.m)))) && (eqO (specialIn K (.ref (ma K (ga K e.x) e.m)) "__get__") (some (some (.builtin "property.__get__"))) && (decide (takesIn K (.ref (ma K (ga K e.x) e.m)) = some true) && (match recIn K (ma K (ga K e.x) e.m) "property" with
    | some (.ref _ :: _) => true
    | _ => false)))
def exB (file : Str) (K : Frag) (e : ExD) : Bool := match e.wr with
  | none => exB0 file K e
  | some k => wrF K e && wrB K e k
abbrev AlZ : Type := AlD × List FnB × Bool
def obsZ (file : Str) (fa : List Fa) (fn : List DefD) (fe : List ExD) (ex : Frag → Bool) (K : Frag) : AlZ := (obsD fa fn K, fe.map (fun e => fnB K e), (fe.all fun e => exB file K e) && ex K)
def valZ (fn : List DefD) (fe : List ExD) : AlZ := (valD fn, fe.map ExD.val, true)
def Says (file : Str) (fa : List Fa) (fn : List DefD) (fe : List ExD) (ex : Frag → Bool) (K : Frag) : Prop := obsZ file fa fn fe ex K = valZ fn fe
def obsG (file : Str) (n : Nat) (fa : List Fa) (fn : List DefD) (fe : List ExD) (ex : Frag → Bool) (g : Addr → Option Obj) : AlZ := obsZ file fa fn fe ex (frG g (asZ g n))
def hookZ (file : Str) (n : Nat) (fa : List Fa) (fn : List DefD) (fe : List ExD) (ex : Frag → Bool) : Hook where
  α := AlZ
  obs := fun s => obsG file n fa fn fe ex s.heap.get?
  val := fun _ => valZ fn fe
  says := fun _ h => ∃ K : Frag, K.In h ∧ Says file fa fn fe ex K
  of := fun _ _ e => ⟨_, frG_in, e⟩
  keeps := fun _ _ _ ⟨K, hK, c⟩ k => ⟨K, Frag.In.keeps hK k, c⟩
theorem obsG_eq {file : Str} {n : Nat} {fa : List Fa} {fn : List DefD} {fe : List ExD} {ex : Frag → Bool} {g : Addr → Option Obj} {s : Shared} (h : ∀ a, g a = s.heap.get? a) : obsG file n fa fn fe ex g = (hookZ file n fa fn fe ex).obs s := by
  have e : g = s.heap.get? := funext h
  rw [e] <;> rfl
section
variable {file : Str} {fa : List Fa} {fn : List DefD} {fe : List ExD} {ex : Frag → Bool} {K : Frag}
theorem Says.d (c : Says file fa fn fe ex K) : SaysD fa fn K := congrArg (fun z : AlZ => z.1) c
theorem Says.more (c : Says file fa fn fe ex K) : ex K = true := (ba (show ((fe.all fun e => exB file K e) && ex K) = true from congrArg (fun z : AlZ => z.2.2) c)).2
theorem Says.e (c : Says file fa fn fe ex K) (i : Nat) {e : ExD} (h : fe[i]? = some e := by rfl) : fnB K e = e.val ∧ exB file K e = true := by
  have c1 : fe.map (fun e => fnB K e) = fe.map ExD.val := congrArg (fun z : AlZ => z.2.1) c
  have c2 := (ba (show ((fe.all fun e => exB file K e) && ex K) = true from congrArg (fun z : AlZ => z.2.2) c)).1
  have e2 : (fe.map fun e => fnB K e)[i]? = (fe.map ExD.val)[i]? := by rw [c1]
  rw [List.getElem?_map, List.getElem?_map, h] at e2
  exact ⟨Option.some.inj e2, List.all_eq_true.mp c2 e (List.mem_of_getElem? h)⟩
theorem shape_of {C : Addr} (q : shapeB K C = true) : ∃ nm qn N bs bm sn sub ab col dd k0 k1 k2 k3 k5, K.lookup C = some (excClassObj nm qn C N bs bm true sn sub ab col dd k0 k1 k2 k3 k5 "ValueError.__new__") ∧ PySem.HandSPX.refsVE bm = true := by
  unfold shapeB at q
  split at q
  · rename_i dd cd sl ho
    split at q
    · rename_i C' bm k0 k1 k2 k3 n k5 hm hs
      simp only [Bool.and_eq_true, beq_iff_eq, Bool.not_eq_true'] at q
      obtain ⟨⟨⟨⟨rfl, rfl⟩, hdel⟩, hdi⟩, ht⟩ := q
      obtain ⟨nm, bs, mro, ns, qn, hd, sn, sub, ab, col, del⟩ := cd
      dsimp only at hm hdel hdi
      subst hm hdel hdi
      have hsl : sl = #[k0, k1, k2, k3, some (.builtin "ValueError.__new__"), k5] := by
        obtain ⟨l⟩ := sl
        simp only at hs
        rw [hs]
      subst hsl
      exact ⟨nm, qn, ns, bs, bm, sn, sub, ab, col, dd, k0, k1, k2, k3, k5, ho, ht⟩
    · cases q
  · cases q
theorem cell_of {C cc : Addr} (q : cellB K C cc = true) : ∃ (cl : Value) (dd : Option Addr) (sl : Array (Option Value)), K.lookup cc = some ⟨cl, dd, .cell (some (.ref C)), sl⟩ := by
  unfold cellB at q
  split at q
  · rename_i cl dd D sl ho
    have e : D = C := beq_iff_eq.mp q
    subst e
    exact ⟨_, _, _, ho⟩
  · cases q
theorem file_of {cda : Addr} {prog : Program} (q : fileB K (prog.main.file : Str) cda = true) : ∃ (cl : Value) (dd : Option Addr) (vs : Array Value) (sl : Array (Option Value)) (file : Str) (tf : Tok), K.lookup cda = some ⟨cl, dd, .fields vs, sl⟩ ∧ vs[2]? = some (.str file tf) ∧ ((prog.main.file : Str) == file) = true := by
  unfold fileB at q
  split at q
  · rename_i cl dd vs sl ho
    split at q
    · rename_i f tf hv
      exact ⟨_, _, _, _, f, tf, ho, hv, q⟩
    · cases q
  · cases q
/-- the facts of an exception's class -/
theorem tx_of {prog : Program} {e : ExD} (hw : e.wr = none := by rfl) (hm : e.m = "__init__" := by rfl) (h1 : fnB K e = e.val) (h2 : exB (prog.main.file : Str) K e = true) : ∃ cc cda, Exs.Tx prog K (ga K e.x) (ma K (ga K e.x) "__init__") cc cda e.qual (defArgs e.st) (defBody e.st) (defScope e.st) ∧ Exs.Cl0 K (ga K e.x) (ma K (ga K e.x) "__init__") ∧ (∀ f ∈ e.ns, findIn K (.ref (ga K e.x)) f = some none) ∧
    nsIn K mainGlobals e.x = some (some (.ref (ga K e.x))) ∧ nsIn K mainGlobals "super" = some none := by
  obtain ⟨ex, ens, eq_, est, em, ew⟩ := e
  dsimp only at hw hm
  subst hw hm
  change exB0 (prog.main.file : Str) K _ = true at h2
  unfold exB0 at h2
  dsimp only at h2 ⊢
  obtain ⟨a1, h2⟩ := ba h2; obtain ⟨a2, h2⟩ := ba h2; obtain ⟨a3, h2⟩ := ba h2; obtain ⟨a4, h2⟩ := ba h2; obtain ⟨a5, h2⟩ := ba h2; obtain ⟨a6, h2⟩ := ba h2; obtain ⟨a7, h2⟩ := ba h2; obtain ⟨a8, h2⟩ := ba h2
  obtain ⟨a9, h2⟩ := ba h2; obtain ⟨a10, h2⟩ := ba h2; obtain ⟨a11, h2⟩ := ba h2; obtain ⟨a12, h2⟩ := ba h2; obtain ⟨a13, h2⟩ := ba h2; obtain ⟨a14, h2⟩ := ba h2; obtain ⟨a15, h2⟩ := ba h2
  have hns : ∀ f ∈ ens, findIn K (.ref (ga K ex)) f = some none := fun f hf => eqO_ok (List.all_eq_true.mp a13 f hf)
  unfold closB at a12
  split at a12
  · rename_i oc od fd osl ho
    split at a12
    · rename_i n cc cda hcl hcode
      obtain ⟨b1, q1⟩ := ba a12; obtain ⟨b2, q2⟩ := ba q1; obtain ⟨b3, b4⟩ := ba q2
      have en : n = ("__class__" : Str) := beq_iff_eq.mp b1
      subst en
      have hfn : some (fd.name, fd.qualname, fd.params, fd.body, fd.scope, fd.globals, fd.builtins, fd.defaults) = ExD.val ⟨ex, ens, eq_, est, "__init__", none⟩ := by
        rw [← h1]
        unfold fnB
        show _ = (match K.lookup (ma K (ga K ex) "__init__") with
          | some ⟨_, _, .func fd, _⟩ => some (fd.name, fd.qualname, fd.params, fd.body, fd.scope, fd.globals, fd.builtins, fd.defaults)
          | _ => none)
        rw [ho]
      obtain ⟨name, qn, params, body, scope, globals, closure, dV, kV, doc, pm, an, code, ct, blt⟩ := fd
      dsimp only at hcl hcode hfn
      subst hcl hcode
      have hfn := Option.some.inj hfn
      injection hfn with i1 hfn
      injection hfn with i2 hfn
      injection hfn with i3 hfn
      injection hfn with i4 hfn
      injection hfn with i5 hfn
      injection hfn with i6 hfn
      injection hfn with i7 i8
      subst i1 i2 i3 i4 i5 i6 i7 i8
      have cls := shape_of a1
      refine ⟨cc, cda, ⟨cls, eqO_ok a2, eqO_ok a3, of_decide_eq_true a4, a5, of_decide_eq_true a6, of_decide_eq_true a7, of_decide_eq_true a8, eqO_ok a9, of_decide_eq_true a10, eqO_ok a11, ⟨_, _, _, _, _, _, _, _, ho, b4⟩, file_of b3, cell_of b2⟩,
        ⟨cls, eqO_ok a3, of_decide_eq_true a4, a5, of_decide_eq_true a6, of_decide_eq_true a8⟩, hns, eqO_ok a14, eqO_ok a15⟩
    · cases a12
  · cases a12
/-- the facts of a wrapped def -/
theorem wr_of {e : ExD} {k : Wk} (hw : e.wr = some k) (h1 : fnB K e = e.val) (h2 : exB file K e = true) : (∃ fd, L2.FunD K e.m e.qual (defArgs e.st) (defBody e.st) (defScope e.st) [] [] (e.ad K) fd) ∧ wrB K e k = true := by
  unfold exB at h2
  rw [hw] at h2
  obtain ⟨h2, h3⟩ := ba h2
  refine ⟨?_, h3⟩
  obtain ⟨kp, c2⟩ := ba h2
  unfold fnB at h1
  cases q : K.lookup (e.ad K) with
  | none =>
    rw [q] at c2
    cases c2
  | some o =>
    obtain ⟨oc, od, dt, osl⟩ := o
    rw [q] at c2 h1
    cases dt with
    | func fd =>
      obtain ⟨n1, n2, n3, n4, n5, n6, n7, n8, n9, n10, n11, n12, n13, n14, n15⟩ := fd
      have e2 : (some (n1, n2, n3, n4, n5, n6, n15, n8) : FnB) = some (e.m, e.qual, defArgs e.st, .stmts (defBody e.st), defScope e.st, mainGlobals, builtinsNs, .none) := h1
      simp only [Option.some.injEq, Prod.mk.injEq] at e2
      obtain ⟨g1, g2, g3, g4, g5, g6, g8, g9⟩ := e2
      subst g1 g2 g3 g4 g5 g6 g8
      have c3 : (codeIn K n13 e.qual && (He.dflB K n8 [] && (He.kwdB K n9 [] && n7.isEmpty))) = true := c2
      obtain ⟨k1, c4⟩ := ba c3
      obtain ⟨k3, c5⟩ := ba c4
      obtain ⟨k4, k5⟩ := ba c5
      have e7 : n7 = [] := List.isEmpty_iff.mp k5
      subst e7
      exact ⟨_, ⟨oc, od, n8, n9, n10, n11, n12, n13, n14, osl, rfl, q, k1, He.dflB_ok k3, He.kwdB_ok k4⟩, kp⟩
    | _ => cases c2
end
end Hz
end Cl

/-! ## Exc2 -/
namespace Cl
open PySem PySem.Spec PyProof.Rows L2
/-! ## several clauses, each 'except x as n' -/
abbrev Hc : Type := Value × Nat × (Addr → Value → Option Addr → TS)
def endN (D : Ends) (i : Nat) : Ends := { nx := fun σ' H' => D.nx (σ'.set i none) H', rt := D.rt, bk := fun σ' H' => D.bk (σ'.set i none) H', ct := fun σ' H' => D.ct (σ'.set i none) H' }
def wMA (K : PySem.W.Frag) (Wout : WX) (D : Ends) : List Hc → WX
  | [] => Wout
  | (c, i, ts) :: r => fun cls d σ H => ∃ b, PySem.W.exmOne K cls c = some b ∧ (b = true → ∀ a, H a = none → ts a cls d (endN D i) (σ.set i (some (.ref a))) H) ∧ (b = false → wMA K Wout D r cls d σ H)
inductive HdsA (X : Cx) : List ExceptHandler → List Hc → Prop
  | nil : HdsA X [] []
  | cons {x n : Str} {c : Value} {i : Nat} {ts : Addr → Value → Option Addr → TS} {b₀ : Stmt} {suite : List Stmt} {np pos' : Pos} {hds : List ExceptHandler} {l : List Hc} (hi : X.N[i]? = some n) (hln : X.env.kindOf n = some .local) (hc : Names X x c)
      (hsu : ∀ (a : Addr) (oe : Obj) (cls : Value) (d : Option Addr) (pn : List (Addr × Obj)), Zc cls d oe → (∃ vs, oe.data = .fields vs) → PSs (X.suite a ((a, oe) :: pn)) (b₀ :: suite) (ts a cls d)) (r : HdsA X hds l) :
      HdsA X (.ExceptHandler (some (.Name x np)) (some n) (b₀ :: suite) pos' :: hds) ((c, i, ts) :: l)
def tTryA (K : PySem.W.Frag) (tb : WX → TS) (Wout : WX) (l : List Hc) : TS := fun D σ H => tb (wMA K Wout D l) D σ H
section
variable {X : Cx} {body : List Stmt} {h₀ : ExceptHandler} {hds : List ExceptHandler} {l : List Hc} {pos : Pos} {tb : WX → TS} {Wout : WX}
/-- an exception a of the body, caught: it lies on the ground, and the state is one of ours -/
structure Air (X : Cx) (pins : List (Addr × Obj)) (σ : L2.St) (H : Hp) (a : Addr) (cls : Value) (d : Option Addr) (B : Heap) (sI s : Shared) : Prop where
  J : Inv X pins σ H sI
  nb : ∀ b o, sI.heap.get? b = some o → b ∉ frs X.stack → B.get? b = some o
  fl : HandSPX.FlyingZ B (X.env :: X.outer) a (Zc cls d) s.heap
  up : sI.heap.UpToSlots s.heap
  na : H a = none
  os : s.os = sI.os
  ag : AllBare s.gens
section
variable {pins : List (Addr × Obj)} {σ : L2.St} {H : Hp} {a : Addr} {cls : Value} {d : Option Addr} {B : Heap} {sI s : Shared} {D : Ends}
theorem Air.inv (h : Air X pins σ H a cls d B sI s) : Inv X pins σ H s := by
  have J := h.J.landed (s' := s) h.nb h.fl.1 h.up h.os h.ag
  exact J
theorem Air.obj (h : Air X pins σ H a cls d B sI s) (hf : X.env.frame = some X.env.locals) : ∃ oe vs, s.heap.get? a = some oe ∧ Zc cls d oe ∧ oe.data = .fields vs ∧ Inv (X.suite a ((a, oe) :: (X.pn ++ pins))) [] σ H s := by
  obtain ⟨oe, vs, ha, hz, hd⟩ := h.fl.there
  have out : a ∉ frs (X.env :: X.outer) := fun hm => by
    obtain ⟨_, o', e', q⟩ := h.fl.2.2.1.mem hm
    have e2 := ha.symm.trans e'
    cases e2
    exact q _ hd
  refine ⟨oe, vs, ha, hz, hd, h.inv.suite ha hd h.na (fun z => ?_) (fun hm => ?_)⟩
  · exact out (List.mem_filterMap.mpr ⟨X.env, List.mem_cons_self, by rw [hf, z]⟩)
  · obtain ⟨e, he, q⟩ := List.mem_filterMap.mp hm
    exact out (List.mem_filterMap.mpr ⟨e, List.mem_cons_of_mem _ he, q⟩)
/-- no clause is left -/
theorem Air.past (h : Air X pins σ H a cls d B sI s) (hs : X.stack = X.env :: X.outer) (hf : X.env.frame = some X.env.locals) (tk : Takes X Wout) (w : Wout cls d σ H) : wpAny (model X.prog X.w) X.A (handleBy (.ref a) X.env []) (SP X pins D) X.xe s := by
  refine wpAny_handleBy_nil ?_
  have fin : wpAny (model X.prog X.w) X.A (setFlight (.ref a) X.env.frame) (fun _ s4 => wpAny (model X.prog X.w) X.A (throw (.ref a) : Sem Flow) (SP X pins D) X.xe s4) X.xe s := by
    rw [hf]
    exact HandSPX.setFlight_upZ h.fl fun h4 held up4 => wpAny_throw (tk _ _ ⟨a, B, sI, pins, σ, H, cls, d, rfl, h.J, h.nb, h.up.trans up4, .inr (.inr (by rw [hs]; exact held)), h.na, h.os, h.ag, w⟩)
  obtain ⟨_, _, _, oe, vs, T, oT, ts', he, _, hd, h1, _⟩ := id h.fl
  unfold PySem.passOn
  refine wpAny_bind (wpAny_field he hd h1 ?_)
  rw [if_neg (show ¬ ((Value.ref T == Value.none) = true) from by simp)]
  first
    | exact wpAny_bind (wpAny_pure (wpAny_bind fin))
    | exact wpAny_bind fin
/-- one clause -/
theorem Air.clause {x n : Str} {c : Value} {i : Nat} {ts : Addr → Value → Option Addr → TS} {b₀ : Stmt} {suite : List Stmt} {np pos' : Pos} {b : Bool} (h : Air X pins σ H a cls d B sI s) (hf : X.env.frame = some X.env.locals) (hN : X.N.Nodup) (hi : X.N[i]? = some n) (hln : X.env.kindOf n = some .local) (hc : Names X x c)
    (hsu : ∀ (a : Addr) (oe : Obj) (cls : Value) (d : Option Addr) (pn : List (Addr × Obj)), Zc cls d oe → (∃ vs, oe.data = .fields vs) → PSs (X.suite a ((a, oe) :: pn)) (b₀ :: suite) (ts a cls d))
    (hb : PySem.W.exmOne X.K cls c = some b) (yes : b = true → ts a cls d (endN D i) (σ.set i (some (.ref a))) H) (no : b = false → wpAny (model X.prog X.w) X.A (handleBy (.ref a) X.env hds) (SP X pins D) X.xe s) :
    wpAny (model X.prog X.w) X.A (handleBy (.ref a) X.env (.ExceptHandler (some (.Name x np)) (some n) (b₀ :: suite) pos' :: hds)) (SP X pins D) X.xe s := by
  obtain ⟨oe, vs, ha, hz, hd, S⟩ := h.obj hf
  refine wpAny_handleBy_cons (codeAny_handlers_test ?_) (by intro q; cases q)
  have LT : PySem.W.Looks (model X.prog X.w) s.heap (typeOf (.ref a)) cls := fun A Q E s k q => wpAny_typeOf_ref (k _ _ ha) (by rw [hz.1]; exact q)
  have LM := PySem.W.exm_one (M := model X.prog X.w) h.inv.kIn LT hb
  have look : ∀ {Q : Value → Shared → Prop} {E : Value → Shared → Prop}, Q c s → wpAny (model X.prog X.w) (X.A.mark (some (.ref a))) (eval (.Name x np) X.env) Q E s := fun {Q E} q => by
    obtain ⟨hg, hdbg, hm | ⟨hm, hv, hnn⟩⟩ := hc
    · exact ld_glob (X := X.suite a ((a, oe) :: (X.pn ++ pins))) S hg hm q hdbg
    · exact ld_blt (X := X.suite a ((a, oe) :: (X.pn ++ pins))) S hg hm hv q hnn hdbg
  obtain ⟨hp, gs, dr, tk, os⟩ := s
  refine look (LM.here ?_)
  cases b with
  | false => exact no rfl
  | true =>
    refine codeAny_handlers_suite_as (HandSPX.lands_againZ h.fl fun h4 fl4 up4 => ?_)
    have h' : Air X pins σ H a cls d B sI ⟨h4, gs, dr, tk, os⟩ := ⟨h.J, h.nb, fl4, h.up.trans up4, h.na, h.os, h.ag⟩
    obtain ⟨oe4, vs4, he4, hz4, hd4, S4⟩ := h'.obj hf
    refine store_ok (X := X.suite a ((a, oe4) :: (X.pn ++ pins))) (v := .ref a) S4 hN hi (.inl hln) rfl (fun s5 S5 => ?_) (.inr hln)
    refine wpAny_mono ((hsu a oe4 cls d (X.pn ++ pins) hz4 ⟨_, hd4⟩).run [] s5 _ H _ S5 (yes rfl)) (fun f s6 hsp => ?_) (fun _ _ z => False.elim z)
    have out : ∀ {σ6 : L2.St} {H6 : Hp} {Q : Shared → Prop}, Inv (X.suite a ((a, oe4) :: (X.pn ++ pins))) [] σ6 H6 s6 → (∀ s7, Inv X pins (σ6.set i none) H6 s7 → Q s7) →
        wpAny (model X.prog X.w) X.A (do bindName X.env n .none; unbindBehindTheSuite X.env n pos') (fun _ s7 => Q s7) X.xe s6 := fun {σ6 H6 Q} S6 hq => gone_ok (S6.unsuite h.J.ok) hN hi hln hq
    cases f with
    | ret u => obtain ⟨v6, σ6, H6, S6, r6, q6⟩ := hsp; exact out S6 fun s7 J7 => ⟨_, _, _, J7, r6, q6⟩
    | next => obtain ⟨σ6, H6, S6, q6⟩ := hsp; exact out S6 fun s7 J7 => ⟨_, _, J7, q6⟩
    | brk => obtain ⟨σ6, H6, S6, q6⟩ := hsp; exact out S6 fun s7 J7 => ⟨_, _, J7, q6⟩
    | cont => obtain ⟨σ6, H6, S6, q6⟩ := hsp; exact out S6 fun s7 J7 => ⟨_, _, J7, q6⟩
theorem Air.all (h : Air X pins σ H a cls d B sI s) (hs : X.stack = X.env :: X.outer) (hf : X.env.frame = some X.env.locals) (hN : X.N.Nodup) (tk : Takes X Wout) {hds' : List ExceptHandler} {l' : List Hc} (hk : HdsA X hds' l') : wMA X.K Wout D l' cls d σ H →
    wpAny (model X.prog X.w) X.A (handleBy (.ref a) X.env hds') (SP X pins D) X.xe s := by
  induction hk with
  | nil => exact fun w => h.past hs hf tk w
  | cons hi hln hc hsu r ih =>
    intro ⟨b, hb, yes, no⟩
    exact h.clause hf hN hi hln hc hsu hb (fun e => yes e a h.na) (fun e => ih (no e))
end
theorem ps_try_ma (hs : X.stack = X.env :: X.outer) (hf : X.env.frame = some X.env.locals) (hN : X.N.Nodup) (tk : Takes X Wout)
    (hb : ∀ (W : WX) (pn : List (Addr × Obj)) (xe : Value → Shared → Prop), Takes (X.tr pn xe) W → PassesOwn (model X.prog X.w) X.A X.env xe → PSs (X.tr pn xe) body (tb W))
    (hh : HdsA X (h₀ :: hds) l) : PS X (.Try body (h₀ :: hds) [] [] pos) (tTryA X.K tb Wout l) := by
  refine ⟨fun pins s σ H D I h => wpAny_Try_except ?_⟩
  have ok := I.ok
  refine wpAny_mono ((hb (wMA X.K Wout D l) (X.pn ++ pins) (fun e s₁ => wpAny (model X.prog X.w) X.A (noteFrame e X.env) (fun _ s₂ => wpAny (model X.prog X.w) X.A (setFlight e none) (fun _ s₃ =>
    wpAny (model X.prog X.w) X.A (handleBy e X.env (h₀ :: hds)) (SP X pins D) X.xe s₃) X.xe s₂) X.xe s₁) (fun u s' xx => ?_) PassesOwn.looking).run [] s σ H D (I.toTry _) h) (fun f s1 hsp => ?_) (fun e s1 he => he)
  · obtain ⟨a, B, sI, pins', σ', H', cls, d, rfl, J', nb, up, sky, na, os, ag, w⟩ := xx
    have sky' : Sky B (X.env :: X.outer) a (Zc cls d) X.env.locals s'.heap := by rw [← hs]; exact sky
    show wpAny (model X.prog X.w) X.A (noteFrame (.ref a) X.env) _ _ _
    refine Sky.land Zc.steady (by rw [ok.frames, hs]) hf sky' fun h3 fl3 up3 => ?_
    exact Air.all (sI := sI) (B := B) (s := { s' with heap := h3 }) ⟨J'.ofTry ok, nb, fl3, up.trans up3, na, os, ag⟩ hs hf hN tk hh w
  · cases f with
    | ret u => obtain ⟨v, σ', H', J', r, q⟩ := hsp; exact ⟨v, σ', H', J'.ofTry ok, r, q⟩
    | next => obtain ⟨σ', H', J', q⟩ := hsp; exact wpAny_execs_nil ⟨σ', H', J'.ofTry ok, q⟩
    | brk => obtain ⟨σ', H', J', q⟩ := hsp; exact ⟨σ', H', J'.ofTry ok, q⟩
    | cont => obtain ⟨σ', H', J', q⟩ := hsp; exact ⟨σ', H', J'.ofTry ok, q⟩
end
/-- isinstance(e, c) in an except suite: e's class is D, with its fields -/
def rIsX (K : PySem.W.Frag) (D a : Addr) (cls : Value) (d : Option Addr) : List V → Hp → VK → Prop := fun xs H Q => ∃ (c : V) (cv : Value) (b : Bool) (dd : Addr) (fs : List (Str × V)), xs = [.ref a, c] ∧ cls = .ref D ∧ d = some dd ∧ H dd = some (.xd fs) ∧ (∀ u, RelV c u → u = cv) ∧ PySem.W.kitOne K (.ref D) cv = some b ∧ Q (.bl b) H
theorem call_isX {X : Cx} {a D : Addr} {oe : Obj} {cls : Value} {d : Option Addr} {pn : List (Addr × Obj)} (C : ExcC X.K D) (hz : Zc cls d oe) (hf : ∃ vs, oe.data = .fields vs) : CallR (X.suite a ((a, oe) :: pn)) (.builtin "isinstance") (rIsX X.K D a cls d) := by
  intro pins s σ H xs us Q I r h
  obtain ⟨c, cv, b, dd, fs, rfl, ecl, edd, hH, hcv, e, q⟩ := h
  subst ecl edd
  cases r with
  | cons rx rr =>
    cases rr with
    | cons rt rr =>
      cases rr
      cases rx
      have ec := hcv _ rt
      subst ec
      obtain ⟨hget, _⟩ := I.pin (a, oe) (List.mem_append.mpr (.inl List.mem_cons_self))
      obtain ⟨vs, hv⟩ := hf
      have hx : ObjOk X.prog X.w H s.heap dd (.xd fs) := I.hok dd _ hH
      obtain ⟨mA, hns, hr⟩ := hx
      obtain ⟨od, ho, hl⟩ := lookIn_ns hns
      have J : PySem.W.InstAt s.heap a oe D (some od) := ⟨hget, hz.1, by unfold PySem.W.notCls; rw [hv] <;> rfl, by rw [hz.2]; exact ho⟩
      exact PySem.W.kia_one (PySem.W.kitx_exc (by obtain ⟨cd, hc, _⟩ := PySem.W.any_some C.hd; rw [hc]; rfl) C.hg C.hk C.hs C.ha C.hn C.ht C.hm) I.kIn J e (fun z => nomatch z) fun tk => ⟨.bl b, H, I.kept (t' := tk) fun _ _ z => z, rfl, q⟩
/-- isinstance(e, c) in an except suite, whatever e's class is; with fields or without -/
def rIsD (K : PySem.W.Frag) (a : Addr) (cls : Value) (d : Option Addr) : List V → Hp → VK → Prop := fun xs H Q => ∃ (D : Addr) (c : V) (cv : Value) (b : Bool), ExcC K D ∧ xs = [.ref a, c] ∧ cls = .ref D ∧ ((∃ dd fs, d = some dd ∧ H dd = some (.xd fs)) ∨ d = none) ∧ (∀ u, RelV c u → u = cv) ∧ PySem.W.kitOne K (.ref D) cv = some b ∧ Q (.bl b) H
theorem call_isD {X : Cx} {a : Addr} {oe : Obj} {cls : Value} {d : Option Addr} {pn : List (Addr × Obj)} (hz : Zc cls d oe) (hf : ∃ vs, oe.data = .fields vs) : CallR (X.suite a ((a, oe) :: pn)) (.builtin "isinstance") (rIsD X.K a cls d) := by
  intro pins s σ H xs us Q I r h
  obtain ⟨D, c, cv, b, C, rfl, ecl, hd, hcv, e, q⟩ := h
  subst ecl
  rcases hd with ⟨dd, fs, rfl, hH⟩ | rfl
  · exact call_isX C hz hf pins s σ H _ us Q I r ⟨c, cv, b, dd, fs, rfl, rfl, rfl, hH, hcv, e, q⟩
  · exact call_isE C hz hf pins s σ H _ us Q I r ⟨c, cv, b, rfl, hcv, e, q⟩
/-- a global class as a value -/
theorem pgc {X : Cx} {x : Str} {pos : Pos} (hg : Gl X x) (h : X.mg x = some (.ref (He.ga X.K x))) (hd : (x == ("__debug__" : Str)) = false := by decide) : PE X (.Name x pos) (tC (.ref (He.ga X.K x))) := pe_glob hg h rfl hd
/-! ## facts of the head about exceptions -/
inductive Xf where
  | xc (x : Str)
  | kit (x y : Str) (b : Bool)
  | kitT (x : Str) (T : String) (b : Bool)
  | exm (x y : Str) (b : Bool)
  | noat (x f : Str)
  | isc (x : Str)
  | tupS (x : Str) (zs : List Str)
  | cvS (x f : Str) (zs : List Str)
  | dflE (p : Str × Option Str) (i : Nat)
  | exP (x : Str)
  | ops (x : Str)
  | opI (x : Str) (nm : String)
  | fnI (x m : Str)
def strV : Value → Option Str
  | .str z _ => some z
  | _ => none
def GTb (K : PySem.W.Frag) (x : Str) (zs : List Str) : Bool := match K.lookup (He.ga K x) with
  | some o => decide (o.cls = .type "tuple") && (o.dict.isNone && (match o.data with
    | .seq its n => decide (its.size ≤ sizeLine) && decide (its.toList.map strV = zs.map some)
    | _ => false))
  | none => false
def ATb (K : PySem.W.Frag) (a : Addr) (zs : List Str) : Bool := match K.lookup a with
  | some o => decide (o.cls = .type "tuple") && (o.dict.isNone && (match o.data with
    | .seq its n => decide (its.size ≤ sizeLine) && decide (its.toList.map strV = zs.map some)
    | _ => false))
  | none => false
def CVb (K : PySem.W.Frag) (x f : Str) (zs : List Str) : Bool := PySem.W.readsIn K (He.ga K x) (.type "type") && (He.eqO (PySem.W.specialIn K (.ref (He.ga K x)) "__getattribute__") (some (some (.builtin "type.__getattribute__"))) && (match PySem.W.findCls K (.ref (He.ga K x)) (.type "type") f with
  | some (.val (.ref a)) => ATb K a zs
  | _ => false))
def ETb (K : PySem.W.Frag) (a : Addr) : Bool := match K.lookup a with
  | some o => decide (o.cls = .type "tuple") && (match o.data with
    | .seq its n => its.isEmpty
    | _ => false)
  | none => false
def eqB (a b : Option Bool) : Bool := decide (a = b)
def refN : Option (Option Value) → Bool
  | some none => true
  | some (some (.ref _)) => true
  | _ => false
def Xf.ok (K : PySem.W.Frag) : Xf → Bool
  | .xc x => He.eqO (PySem.W.findIn K (.ref (He.ga K x)) "__getattribute__") (some (some (.builtin "BaseException.__getattribute__"))) && (He.eqO (PySem.W.findIn K (.ref (He.ga K x)) "__getattr__") (some none) && (eqB (PySem.W.subIn K (.ref (He.ga K x)) (.type "BaseException")) (some true) && (PySem.W.hasDictIn K (He.ga K x) &&
      (He.eqO (PySem.W.findIn K (.ref (He.ga K x)) "__class__") (some (some (.builtin "object.__class__"))) && (He.eqO (PySem.W.specialIn K (.builtin "object.__class__") "__get__") (some (some (.builtin "getset_descriptor.__get__"))) && (eqB (PySem.W.takesIn K (.builtin "object.__class__")) (some true) && eqB (PySem.W.mroIn K (He.ga K x) (.type "object")) (some true)))))))
  | .kit x y b => eqB (PySem.W.kitOne K (.ref (He.ga K x)) (.ref (He.ga K y))) (some b)
  | .kitT x T b => eqB (PySem.W.kitOne K (.ref (He.ga K x)) (.type T)) (some b)
  | .exm x y b => eqB (PySem.W.exmOne K (.ref (He.ga K x)) (.ref (He.ga K y))) (some b)
  | .noat x f => He.eqO (PySem.W.findIn K (.ref (He.ga K x)) f) (some none)
  | .isc x => He.eqO (PySem.W.findIn K (.ref (He.ga K x)) "__class__") (some (some (.builtin "object.__class__"))) && (He.eqO (PySem.W.specialIn K (.builtin "object.__class__") "__get__") (some (some (.builtin "getset_descriptor.__get__"))) && (eqB (PySem.W.takesIn K (.builtin "object.__class__")) (some true) && eqB (PySem.W.mroIn K (He.ga K x) (.type "object")) (some true)))
  | .tupS x zs => GTb K x zs
  | .cvS x f zs => CVb K x f zs
  | .dflE p i => ETb K (He.dflAt p i K)
  | .exP x => PySem.W.excIn K (He.ga K x) He.veBase "ValueError.__new__" && (PySem.W.keepIn K (.ref (He.ga K x)) && (eqB (PySem.W.subIn K (.ref (He.ga K x)) (.type "BaseException")) (some true) && decide (PySem.W.typeIn K (.ref (He.ga K x)) = some (.type "type"))))
  | .ops x => PySem.W.selfFirst K (He.ga K x) && PySem.W.noSeq K (He.ga K x)
  | .opI x nm => refN (PySem.W.findIn K (.ref (He.ga K x)) (dunderR nm)) && ((PySem.W.findIn K (.type "int") (PySem.dunder nm)).isSome && ((PySem.W.findIn K (.type "int") (dunderR nm)).isSome && (eqB (PySem.W.subIn K (.type "int") (.ref (He.ga K x))) (some false) && eqB (PySem.W.subIn K (.ref (He.ga K x)) (.type "int")) (some false))))
  | .fnI x m => PySem.W.fnIn K (He.ma K (He.ga K x) m)
def exOf (xf : List Xf) (K : PySem.W.Frag) : Bool := xf.all fun x => x.ok K
structure Fz (file : Str) (fe : List Hz.ExD) (xf : List Xf) (fa : List He.Fa) (fn : List He.DefD) (K : PySem.W.Frag) (mg : Str → Option Value) : Prop extends Fx fa fn K mg where
  more : Hz.Says file fa fn fe (exOf xf) K
theorem Fz.mk' {file : Str} {fe : List Hz.ExD} {xf : List Xf} {fa : List He.Fa} {fn : List He.DefD} {K : PySem.W.Frag} {h : Heap} {mg : Str → Option Value} (X : K.In h) (G : h.Ns mainGlobals mg) (c : Hz.Says file fa fn fe (exOf xf) K) : Fz file fe xf fa fn K mg := ⟨⟨c.d, h, X, G⟩, c⟩
section
variable {file : Str} {fe : List Hz.ExD} {xf : List Xf} {fa : List He.Fa} {fn : List He.DefD} {K : PySem.W.Frag} {mg : Str → Option Value}
theorem Fz.xf_ (c : Fz file fe xf fa fn K mg) {x : Xf} (i : Nat) (h : xf[i]? = some x) : x.ok K = true := List.all_eq_true.mp c.more.more x (List.mem_of_getElem? h)
theorem Fz.xc (c : Fz file fe xf fa fn K mg) (i : Nat) {x : Str} (h : xf[i]? = some (.xc x) := by rfl) : ExcC K (He.ga K x) := by
  have q := c.xf_ i h
  unfold Xf.ok at q
  obtain ⟨a1, q⟩ := Bool.and_eq_true_iff.mp q; obtain ⟨a2, q⟩ := Bool.and_eq_true_iff.mp q; obtain ⟨a3, q⟩ := Bool.and_eq_true_iff.mp q; obtain ⟨a4, q⟩ := Bool.and_eq_true_iff.mp q
  obtain ⟨a5, q⟩ := Bool.and_eq_true_iff.mp q; obtain ⟨a6, q⟩ := Bool.and_eq_true_iff.mp q; obtain ⟨a7, a8⟩ := Bool.and_eq_true_iff.mp q
  exact ⟨He.eqO_ok a1, He.eqO_ok a2, of_decide_eq_true a3, a4, He.eqO_ok a5, He.eqO_ok a6, of_decide_eq_true a7, of_decide_eq_true a8⟩
theorem Fz.xfc (c : Fz file fe xf fa fn K mg) (i : Nat) {x : Str} (h : xf[i]? = some (.xc x) := by rfl) : XfC K (He.ga K x) := let q := c.xc i h; ⟨q.hg, q.hk, q.hs, q.hd⟩
theorem Fz.kit (c : Fz file fe xf fa fn K mg) (i : Nat) {x y : Str} {b : Bool} (h : xf[i]? = some (.kit x y b) := by rfl) : PySem.W.kitOne K (.ref (He.ga K x)) (.ref (He.ga K y)) = some b := of_decide_eq_true (c.xf_ i h)
theorem Fz.kitT (c : Fz file fe xf fa fn K mg) (i : Nat) {x : Str} {T : String} {b : Bool} (h : xf[i]? = some (.kitT x T b) := by rfl) : PySem.W.kitOne K (.ref (He.ga K x)) (.type T) = some b := of_decide_eq_true (c.xf_ i h)
theorem Fz.exm (c : Fz file fe xf fa fn K mg) (i : Nat) {x y : Str} {b : Bool} (h : xf[i]? = some (.exm x y b) := by rfl) : PySem.W.exmOne K (.ref (He.ga K x)) (.ref (He.ga K y)) = some b := of_decide_eq_true (c.xf_ i h)
/-- an instance's class, as isinstance finds it -/
structure IsC (K : PySem.W.Frag) (C : Addr) : Prop where
  ha : PySem.W.findIn K (.ref C) "__class__" = some (some (.builtin "object.__class__"))
  hn : PySem.W.specialIn K (.builtin "object.__class__") "__get__" = some (some (.builtin "getset_descriptor.__get__"))
  ht : PySem.W.takesIn K (.builtin "object.__class__") = some true
  hm : PySem.W.mroIn K C (.type "object") = some true
theorem Fz.isc (c : Fz file fe xf fa fn K mg) (i : Nat) {x : Str} (h : xf[i]? = some (.isc x) := by rfl) : IsC K (He.ga K x) := by
  have q := c.xf_ i h
  unfold Xf.ok at q
  obtain ⟨a5, q⟩ := Bool.and_eq_true_iff.mp q; obtain ⟨a6, q⟩ := Bool.and_eq_true_iff.mp q; obtain ⟨a7, a8⟩ := Bool.and_eq_true_iff.mp q
  exact ⟨He.eqO_ok a5, He.eqO_ok a6, of_decide_eq_true a7, of_decide_eq_true a8⟩
def GTok (K : PySem.W.Frag) (x : Str) (zs : List Str) : Prop := ∃ (o : Obj) (its : Array Value) (n : Nat), K.lookup (He.ga K x) = some o ∧ o.cls = .type "tuple" ∧ o.dict = none ∧ o.data = .seq its n ∧ its.size ≤ sizeLine ∧ Vals (zs.map V.str) its.toList
theorem vals_str : ∀ {zs : List Str} {its : List Value}, its.map strV = zs.map some → Vals (zs.map V.str) its
  | [], [], _ => .nil
  | z :: zs, v :: its, h => by
    simp only [List.map_cons, List.cons.injEq] at h
    obtain ⟨h1, h2⟩ := h
    refine .cons ?_ (vals_str h2)
    cases v with
    | str y t => simp only [strV, Option.some.injEq] at h1; subst h1; exact ⟨t, rfl⟩
    | _ => simp [strV] at h1
  | [], _ :: _, h => by simp at h
  | _ :: _, [], h => by simp at h
theorem Fz.tupS (c : Fz file fe xf fa fn K mg) (i : Nat) {x : Str} {zs : List Str} (h : xf[i]? = some (.tupS x zs) := by rfl) : GTok K x zs := by
  have q := c.xf_ i h
  have q : GTb K x zs = true := q
  unfold GTb at q
  split at q
  · rename_i o e
    obtain ⟨a1, q⟩ := Bool.and_eq_true_iff.mp q
    obtain ⟨a2, q⟩ := Bool.and_eq_true_iff.mp q
    split at q
    · rename_i its n e2
      obtain ⟨a3, a4⟩ := Bool.and_eq_true_iff.mp q
      exact ⟨o, its, n, e, of_decide_eq_true a1, by simpa using a2, e2, of_decide_eq_true a3, vals_str (of_decide_eq_true a4)⟩
    · cases q
  · cases q
theorem Fz.cvS (c : Fz file fe xf fa fn K mg) (i : Nat) {x f : Str} {zs : List Str} (h : xf[i]? = some (.cvS x f zs) := by rfl) : CVb K x f zs = true := c.xf_ i h
theorem Fz.dflE (c : Fz file fe xf fa fn K mg) (i : Nat) {p : Str × Option Str} {j : Nat} (h : xf[i]? = some (.dflE p j) := by rfl) : ETb K (He.dflAt p j K) = true := c.xf_ i h
theorem Fz.exP (c : Fz file fe xf fa fn K mg) (i : Nat) {x : Str} (h : xf[i]? = some (.exP x) := by rfl) : PySem.W.excIn K (He.ga K x) He.veBase "ValueError.__new__" = true ∧ PySem.W.keepIn K (.ref (He.ga K x)) = true ∧ PySem.W.subIn K (.ref (He.ga K x)) (.type "BaseException") = some true ∧ PySem.W.typeIn K (.ref (He.ga K x)) = some (.type "type") := by
  have q := c.xf_ i h
  unfold Xf.ok at q
  obtain ⟨a1, q⟩ := Bool.and_eq_true_iff.mp q; obtain ⟨a2, q⟩ := Bool.and_eq_true_iff.mp q; obtain ⟨a3, a4⟩ := Bool.and_eq_true_iff.mp q
  exact ⟨a1, a2, of_decide_eq_true a3, of_decide_eq_true a4⟩
theorem Fz.ops (c : Fz file fe xf fa fn K mg) (i : Nat) {x : Str} (h : xf[i]? = some (.ops x) := by rfl) : PySem.W.selfFirst K (He.ga K x) = true ∧ PySem.W.noSeq K (He.ga K x) = true := by
  have q := c.xf_ i h
  unfold Xf.ok at q
  exact Bool.and_eq_true_iff.mp q
/-- facts for o op i, i an int -/
structure OpI (K : PySem.W.Frag) (C : Addr) (nm : String) : Prop where
  rc : ∃ rc, PySem.W.findIn K (.ref C) (dunderR nm) = some rc ∧ (rc = none ∨ ∃ g : Addr, rc = some (.ref g))
  fo : ∃ fo, PySem.W.findIn K (.type "int") (PySem.dunder nm) = some fo
  ro : ∃ ro, PySem.W.findIn K (.type "int") (dunderR nm) = some ro
  sub : PySem.W.subIn K (.type "int") (.ref C) = some false
  sub2 : PySem.W.subIn K (.ref C) (.type "int") = some false
theorem refN_of {x : Option (Option Value)} (h : refN x = true) : ∃ rc, x = some rc ∧ (rc = none ∨ ∃ g : Addr, rc = some (.ref g)) := by
  unfold refN at h
  split at h
  · exact ⟨_, rfl, .inl rfl⟩
  · exact ⟨_, rfl, .inr ⟨_, rfl⟩⟩
  · cases h
theorem Fz.opI (c : Fz file fe xf fa fn K mg) (i : Nat) {x : Str} {nm : String} (h : xf[i]? = some (.opI x nm) := by rfl) : OpI K (He.ga K x) nm := by
  have q := c.xf_ i h
  unfold Xf.ok at q
  obtain ⟨a1, q⟩ := Bool.and_eq_true_iff.mp q; obtain ⟨a2, q⟩ := Bool.and_eq_true_iff.mp q; obtain ⟨a3, q⟩ := Bool.and_eq_true_iff.mp q; obtain ⟨a4, a5⟩ := Bool.and_eq_true_iff.mp q
  exact ⟨refN_of a1, Option.isSome_iff_exists.mp a2, Option.isSome_iff_exists.mp a3, of_decide_eq_true a4, of_decide_eq_true a5⟩
theorem Fz.fnI (c : Fz file fe xf fa fn K mg) (i : Nat) {x m : Str} (h : xf[i]? = some (.fnI x m) := by rfl) : PySem.W.fnIn K (He.ma K (He.ga K x) m) = true := c.xf_ i h
theorem Fz.xnoat (c : Fz file fe xf fa fn K mg) (i : Nat) {x f : Str} (h : xf[i]? = some (.noat x f) := by rfl) : PySem.W.findIn K (.ref (He.ga K x)) f = some none := He.eqO_ok (c.xf_ i h)
end
/-- a call that may raise, at the wish W -/
theorem pcallS {X : Cx} {k : Nat} {ps : List Str} {sp : Sp} {W : WX} {x : Str} {p pos : Pos} {e : Expr} {es : List Expr} {t : TA} (F : FnX X.prog X.w X.K X.mg X.base (L2.CX X.prog X.w) k (x, none) ps sp) (hr : Room k X.A) (hg : Gl X x) (hm : X.mg x = some (.ref (He.ga X.K x))) (tk : Takes X W)
    (ha : PA X (e :: es) t) (hdb : (x == ("__debug__" : Str)) = false := by decide) (he : starEach (e :: es) X.env = (false, eval e X.env) :: starEach es X.env := by rfl) (hpl : (backTo pos (starEach es X.env)).any (·.1) = false := by rfl) :
    PE X (.Call (.Name x p) (e :: es) [] pos) (tCallS sp (WE W) t) := by
  obtain ⟨⟨fd, F, b⟩, kp⟩ := F
  exact pe_callS F hr hg hm kp b (fun σ => passAt tk σ) ha hdb he hpl
abbrev WF : WX := fun _ _ _ _ => False
abbrev W0 (E : XK) : WX := fun cls d _ H => E cls d H
def tRaise (t : L2.St → Hp → XK → Prop) (W : WX) : TS := fun _ σ H => t σ H fun cls d H' => W cls d σ H'
theorem praise {X : Cx} {W : WX} {e : Expr} {t : L2.St → Hp → XK → Prop} {pos : Pos} (hc : X.calm = true) (tk : Takes X W) (he : PMk X e t) : PS X (.Raise (some e) none pos) (tRaise t W) := ps_raise hc tk he
end Cl

/-! ## HeadE -/

namespace Cl.HeadE
open PySem PySem.Spec PyProof.Rows L2
def top (i : Nat) : Stmt := PySem.Challenge.pw_depotday_k73_rule_texts.main.body.getD i (.Pass ⟨0, 0, 0, 0⟩)
abbrev s_l_cell : Stmt := top 22
def d_l_cell : He.DefD := ⟨("_law_cell", none), "_law_cell", "_law_cell", defArgs s_l_cell, defBody s_l_cell, defScope s_l_cell, [], []⟩
abbrev s_l_pool : Stmt := top 23
def d_l_pool : He.DefD := ⟨("_law_pool", none), "_law_pool", "_law_pool", defArgs s_l_pool, defBody s_l_pool, defScope s_l_pool, [], []⟩
abbrev s_l_take : Stmt := top 24
def d_l_take : He.DefD := ⟨("_law_take", none), "_law_take", "_law_take", defArgs s_l_take, defBody s_l_take, defScope s_l_take, [], []⟩
abbrev s_Rule___init__ : Stmt := inClass (top 19) 1
def d_Rule___init__ : He.DefD := ⟨("Rule", some "__init__"), "__init__", "Rule.__init__", defArgs s_Rule___init__, defBody s_Rule___init__, defScope s_Rule___init__, [], []⟩
abbrev s_l_same : Stmt := top 25
def d_l_same : He.DefD := ⟨("_law_same", none), "_law_same", "_law_same", defArgs s_l_same, defBody s_l_same, defScope s_l_same, [], []⟩
abbrev s_l_written : Stmt := top 27
def d_l_written : He.DefD := ⟨("_law_written", none), "_law_written", "_law_written", defArgs s_l_written, defBody s_l_written, defScope s_l_written, [], []⟩
abbrev s_Rule___str__ : Stmt := inClass (top 19) 3
def d_Rule___str__ : He.DefD := ⟨("Rule", some "__str__"), "__str__", "Rule.__str__", defArgs s_Rule___str__, defBody s_Rule___str__, defScope s_Rule___str__, [], []⟩
abbrev s_l_is : Stmt := top 30
def d_l_is : He.DefD := ⟨("_law_is", none), "_law_is", "_law_is", defArgs s_l_is, defBody s_l_is, defScope s_l_is, [], []⟩
abbrev s_Rule_every : Stmt := inClass (top 19) 6
def e_Rule_every : Hz.ExD := { x := "Rule", ns := [], qual := "Rule.every", st := s_Rule_every, m := "every", wr := some .st }
abbrev s_l_row : Stmt := top 32
def d_l_row : He.DefD := ⟨("_law_row", none), "_law_row", "_law_row", defArgs s_l_row, defBody s_l_row, defScope s_l_row, [], []⟩
abbrev s_Rule___eq__ : Stmt := inClass (top 19) 2
def d_Rule___eq__ : He.DefD := ⟨("Rule", some "__eq__"), "__eq__", "Rule.__eq__", defArgs s_Rule___eq__, defBody s_Rule___eq__, defScope s_Rule___eq__, [], []⟩
abbrev s_Rule_parse : Stmt := inClass (top 19) 7
def e_Rule_parse : Hz.ExD := { x := "Rule", ns := [], qual := "Rule.parse", st := s_Rule_parse, m := "parse", wr := some .cl }
abbrev s_l_parsed : Stmt := top 29
def d_l_parsed : He.DefD := ⟨("_law_parsed", none), "_law_parsed", "_law_parsed", defArgs s_l_parsed, defBody s_l_parsed, defScope s_l_parsed, [], []⟩
abbrev s_l_reads : Stmt := top 31
def d_l_reads : He.DefD := ⟨("_law_reads", none), "_law_reads", "_law_reads", defArgs s_l_reads, defBody s_l_reads, defScope s_l_reads, [], []⟩
abbrev s_l_char : Stmt := top 26
def d_l_char : He.DefD := ⟨("_law_char", none), "_law_char", "_law_char", defArgs s_l_char, defBody s_l_char, defScope s_l_char, [], []⟩
abbrev s_l_text : Stmt := top 28
def d_l_text : He.DefD := ⟨("_law_text", none), "_law_text", "_law_text", defArgs s_l_text, defBody s_l_text, defScope s_l_text, [], []⟩
abbrev s_law : Stmt := top 33
def d_law : He.DefD := ⟨("law", none), "law", "law", defArgs s_law, defBody s_law, defScope s_law, [], []⟩
def fn_0 : List He.DefD := [d_l_cell, d_l_pool, d_l_take, d_Rule___init__, d_l_same, d_l_written, d_Rule___str__, d_l_is, d_l_row, d_Rule___eq__, d_l_parsed, d_l_reads, d_l_char, d_l_text, d_law]
def fn : List He.DefD := fn_0
def fa_0 : List He.Fa := [.free "len", .free "abs", .glo "_law_cell", .free "int", .glo "Rule", .glo "BadRule", .free "super", .cls "Rule", .noat "Rule" "send_word", .noat "Rule" "charge_word", .free "isinstance", .free "bool", .free "str", .free "list", .free "tuple", .free "range", .glo "_law_same", .meth "Rule" "__str__", .glo "_law_written", .mkr "Rule", .glo "_law_is", .glo "DepotError", .free "ValueError", .glo "BadCable", .glo "_law_parsed", .meth "Rule" "__eq__", .glo "_law_take", .glo "_law_char", .glo "_law_pool", .glo "_law_row"]
def fa_1 : List He.Fa := [.glo "_law_reads", .glo "_law_text", .glo "law"]
def fa : List He.Fa := fa_0 ++ fa_1
def e_BadRule : Hz.ExD := { x := "BadRule", ns := ["part"], qual := "BadRule.__init__", st := inClass (top 4) 0 }
def fe_0 : List Hz.ExD := [e_BadRule, e_Rule_every, e_Rule_parse]
def fe : List Hz.ExD := fe_0
def xf_0 : List Xf := [.cvS "Rule" "WORDS" ["first", "last", "fullest", "emptiest"], .isc "Rule", .kit "Rule" "Rule" true, .xc "BadRule", .noat "BadRule" "part", .kit "BadRule" "DepotError" true, .kitT "BadRule" "ValueError" true, .kit "BadRule" "BadCable" false, .exm "BadRule" "BadRule" true]
def xf : List Xf := xf_0
abbrev PP : Program := PySem.Challenge.pw_depotday_k73_rule_texts
def names_0 : List Str := ["__name__", "DepotError", "NoNews", "BadCable", "BadRule", "kept_last", "ordered_home", "next_pages", "comings", "news_list", "queue_after", "joined_queue", "can_run", "passed_counts", "keeps_patience", "not_full", "Rule", "picked", "_law_cell", "_law_pool", "_law_take", "_law_same", "_law_char", "_law_written", "_law_text", "_law_parsed", "_law_is", "_law_reads", "_law_row"]
def names : List Str := names_0
abbrev R : PySem.W.OpenRow := PySem.W.OpenLaw.row PySem.Challenge.rw_depotday_k73_rule_texts
abbrev hk : PySem.W.Hook := Hz.hookZ (PP.main.file : Str) 5 fa fn fe (exOf xf)
def ob (s : PySem.W.SharedT) : Hz.AlZ := Hz.obsG (PP.main.file : Str) 5 fa fn fe (exOf xf) (HandSHeadRun.getT s)
theorem ob_eq (s : PySem.W.SharedT) : ob s = hk.obs s.abs := Hz.obsG_eq (HandSHeadRun.getT_eq s)
theorem run (w : World) : HandSHeadRun.RunEq R (PySem.W.view R.prog [33]) hk ob 6000 names w := by
  intro os
  kernel_rfl

end Cl.HeadE

/-! ## EnumT -/
/-! enumerate(tuple), and enumerate of anything that begins -/
namespace Cl
open PySem PySem.Spec PyProof.Rows L2
namespace En
open PySem.Calls
theorem new1 {v : Value} {o : Obj} {H : Heap → Prop} (B : Begins v o H) :
    Meets (Builtin.«enumerate.__new__» ⟨[.type "enumerate", v], []⟩) (fun _ R s => H s.heap ∧
      R (.ok (.ret (.ref (s.heap.push o).objs.size))) { s with heap := (s.heap.push o).push { cls := .type "enumerate", data := .fields #[.none, .bool false, .ref s.heap.objs.size, rawInt 0, .none, .none] } }) :=
  .of_wp fun prog w A R s h => by
    obtain ⟨hp, g, d, tk, os⟩ := s
    obtain ⟨h1, h⟩ := h
    have hsub := sub_enumerate
    have it : ∀ {A' : Around} {E : Value → Shared → Prop} {Q : Value → Shared → Prop}, Q (.ref hp.objs.size) ⟨hp.push o, g, d, tk, os⟩ → wpAny (model prog w) A' (pyIter v) Q E ⟨hp, g, d, tk, os⟩ :=
      fun q => B.iter prog w _ _ ⟨hp, g, d, tk, os⟩ _ h1 q
    wp_walk using it
    refine wpAny_stack_any fun st => wpAny_pure ?_
    split
    · rename_i c _ _ _ _ _
      cases (c == Value.type "enumerate") <;> (wp_walk using it; exact ⟨_, rfl, h⟩)
    · wp_walk using it
      exact ⟨_, rfl, h⟩
theorem call1 {prog : Program} {w : World} {A : Around} {E : Value → Shared → Prop} {s : Shared} {v : Value} {o : Obj} {H : Heap → Prop} {Q : Value → Shared → Prop} (B : Begins v o H) (h1 : H s.heap)
    (h : ∀ h', IsEnum h' (s.heap.objs.size + 1) s.heap.objs.size 0 .none → h'.get? s.heap.objs.size = some o → h'.objs.size = s.heap.objs.size + 2 →
      (∀ b o, s.heap.get? b = some o → h'.get? b = some o) → Q (.ref (s.heap.objs.size + 1)) { s with heap := h' }) :
    wpAny (model prog w) A (call (.type "enumerate") [v]) Q E s := by
  refine callType_new F.called_enumerate (by decide) (F.typeCall_enumerate_1 _) (F.newCall_enumerate_1 _) (fun obj => F.args_object_init_2 obj _) F.entry_enumerate_new (new1 B) ⟨h1, ?_⟩
  have hz : (s.heap.push o).objs.size = s.heap.objs.size + 1 := Heap.size_push ..
  show _ ∧ _
  rw [hz]
  have he : IsEnum ((s.heap.push o).push { cls := .type "enumerate", data := .fields #[.none, .bool false, .ref s.heap.objs.size, rawInt 0, .none, .none] }) (s.heap.objs.size + 1) s.heap.objs.size 0 .none := by
    have q := Heap.get?_push_size (s.heap.push o) (o := { cls := .type "enumerate", data := .fields #[.none, .bool false, .ref s.heap.objs.size, rawInt 0, .none, .none] }) rfl
    rw [hz] at q; exact q
  exact ⟨⟨_, he, rfl⟩, h _ he (Heap.get?_push_of_some _ (Heap.get?_push_size _ B.free)) (by rw [Heap.size_push, hz]) fun b o x => Heap.get?_push_of_some _ (Heap.get?_push_of_some _ x)⟩
end En
def ItT (K : PySem.W.Frag) (a : Addr) : It :=
  ⟨fun i H => ∃ (xs : List V) (x : V), SqT K H a xs ∧ xs[i]? = some x, fun i H v H' => ∃ T x, v = .ref T ∧ H T = none ∧ H' = upd H T (.tup [.int (i : Nat), x]) ∧ ∀ xs, SqT K H a xs → xs[i]? = some x, fun i H => ∃ xs : List V, SqT K H a xs ∧ xs.length ≤ i⟩
theorem turn_enumT {P : Program} {w : World} {K : PySem.W.Frag} {elts : List Expr} {kk : Nat} {tpos : Pos} (a e it : Addr) (hea : e ≠ a) (hia : a ≠ it) :
    Turn P w K (.Tuple elts kk tpos) (ItT K a) [e, it] e (fun i h => (∃ old, IsEnum h e it ((i : Nat) : Int) old) ∧ h.IsTupleIter it a i ∧ e ≠ it) where
  mem := by simp
  obj := fun i h st b hb => by
    obtain ⟨⟨old, he⟩, ⟨o, ho, hc, hd⟩, _⟩ := st
    rcases (by simpa using hb : b = e ∨ b = it) with z | z
    · rw [z]; exact ⟨_, he, fun v q => nomatch q⟩
    · rw [z]; exact ⟨o, ho, fun v q => by rw [hd] at q; cases q⟩
  keep := fun i h h' st k => let ⟨⟨old, he⟩, hi, hne⟩ := st; ⟨⟨old, k e (by simp) _ he⟩, hi.at fun o q => k it (by simp) o q, hne⟩
  item := by
    intro X hP hw hK hc i pins s σ H E I hf st hg
    subst hP hw hK
    obtain ⟨⟨old, he⟩, hit, hne⟩ := st
    obtain ⟨xs, x, hq, hx⟩ := hg
    obtain ⟨its, rv, p, hz⟩ := I.tuple hq
    obtain ⟨u, hu, ru⟩ := rv.get hx
    have hel : e < s.heap.objs.size := Heap.lt_size he
    have hlt : i < its.toArray.size := by
      have q := (List.getElem?_eq_some_iff.mp hu).1
      simpa using q
    have DD := Draws.tuple (prog := X.prog) (w := X.w) (A := X.A.in1) (by exact I.ok.hd hc) it a hia its.toArray
    refine wpAny_pyNext_enum_itemD DD he ⟨hit, p⟩ hlt hne (by simp [hne, hea]) fun u' h' tk hu' ho hit' hT hsz hk => ?_
    have eu : u' = u := by
      have z : its[i]? = some u' := by simpa using hu'
      rw [hu] at z; exact (Option.some.inj z).symm
    subst eu
    refine ⟨_, rfl, wpAny_letOwnedTupleGo_enum (s := { s with heap := h', toks := tk + 1 }) ho fun h'' he' sb => ?_⟩
    have hT2 : h''.get? s.heap.objs.size = some { cls := .type "tuple", data := .seq #[.int i tk, u'] } := (sb.2 _ (Nat.ne_of_gt hel)).trans hT
    have new : ObjOk X.prog X.w (upd H s.heap.objs.size (.tup [.int (i : Nat), x])) h'' s.heap.objs.size (.tup [.int (i : Nat), x]) :=
      ⟨by show 2 ≤ sizeLine; decide, [.int i tk, u'], .cons ⟨_, rfl⟩ (.cons ru .nil), ⟨_, hT2, rfl, _, rfl⟩⟩
    have I1 : Inv X pins σ (upd H s.heap.objs.size (.tup [.int (i : Nat), x])) { s with heap := h'', toks := tk + 1 } :=
      I.turnedNew (ch := [e, it]) (fun b ob hb q => (sb.2 b (fun z => hb (by simp [z]))).trans (hk b ob (fun z => hb (by simp [z])) (fun z => hb (by simp [z])) q)) hf (Nat.le_refl _) new
    refine ⟨.ref s.heap.objs.size, _, I1, rfl, ⟨_, x, rfl, I.hok.fresh (Nat.le_refl _), rfl, fun ys hy => by rw [I.tuple_inj hy hq]; exact hx⟩, ⟨⟨u', ?_⟩, hit'.1.at fun o q => (sb.2 it (Ne.symm hne)).trans q, hne⟩, fun b hb => ?_⟩
    · have e1 : ((i + 1 : Nat) : Int) = (i : Int) + 1 := by omega
      rw [e1]; exact he'
    · obtain ⟨o1, q1, _⟩ := hit
      have hb' : b < s.heap.objs.size := by
        rcases (by simpa using hb : b = e ∨ b = it) with z | z
        · rw [z]; exact hel
        · rw [z]; exact Heap.lt_size q1
      rw [upd_ne (Nat.ne_of_lt hb')]
      exact (hf b hb).1
  done := by
    intro X hP hw hK hc i pins s σ H E I hf st hg
    subst hP hw hK
    obtain ⟨⟨old, he⟩, hit, hne⟩ := st
    obtain ⟨xs, hq, hx⟩ := hg
    obtain ⟨its, rv, p, hz⟩ := I.tuple hq
    obtain ⟨f0, f1, f2, f3, f4, f5⟩ := hf it (by simp)
    have hl := rv.length
    have hh : X.A.in1.handled = none := I.ok.hd hc
    have DD : Draws X.prog X.w X.A.in1 it [it, a] i (fun i v => its.toArray[i]? = some v) (fun j h => (h.IsTupleIter it a j ∧ h.IsTuple a its.toArray) ∧ j = i) :=
      ⟨fun _ _ st => let ⟨o, ho, _⟩ := st.1.1; ⟨o, ho⟩, fun _ _ _ st hk => ⟨⟨st.1.1.at fun o e => hk it (by simp) o e, st.1.2.at fun o e => hk a (by simp) o e⟩, st.2⟩,
        fun j s Q E hj st hQ => absurd st.2 (Nat.ne_of_lt hj),
        fun s Q E st hE => wpAny_nextOf_tuple_end hh st.1.1 st.1.2 (by simp; omega) hE⟩
    exact wpAny_pyNext_enum_endD DD he ⟨⟨hit, p⟩, rfl⟩ fun h' eb => ⟨rfl, I.turned (t' := s.toks) (fun b o hb q => eb b o hb q) f0 f1 f3 f4 f5⟩
  self := fun A i s Q E st h => let ⟨⟨_, he⟩, _⟩ := st; wpAny_pyIter_enum he h
def iEnumT (K : PySem.W.Frag) (ta : TA) : TI := fun σ H R => ta σ H fun vs H1 => ∃ a xs, vs = [.ref a] ∧ SqT K H1 a xs ∧ R (ItT K a) H1
theorem pi_enumT {X : Cx} {e : Expr} {ta : TA} {p pos tpos : Pos} {elts : List Expr} {kk : Nat} (hg : Gl X "enumerate") (hm : X.mg "enumerate" = none) (ha : PA X [e] ta) (hs : starEach [e] X.env = [(false, eval e X.env)] := by rfl) :
    PI X (.Tuple elts kk tpos) (.Call (.Name "enumerate" p) [e] [] pos) (iEnumT X.K ta) := by
  refine ⟨fun pins s σ H R I h => ?_⟩
  refine Call_ (ld_blt I hg hm boot_enumerate (PyProof.Rows.callWith_type1 (thn (ha.run pos pins s σ H _ I h) fun us s1 ⟨vs, H1, I1, r1, a, xs, ex, hq, q⟩ => ?_) hs rfl))
  subst ex
  cases r1 with
  | cons r rr =>
    cases rr
    cases r
    obtain ⟨its, rv, p', hz⟩ := I1.tuple hq
    have hal : a < s1.heap.objs.size := by obtain ⟨o, ho, _⟩ := id p'; exact Heap.lt_size ho
    refine En.call1 (begins_tuple a its.toArray) p' fun h' he hit hsz hk => wpAny_pyIter_enum he ?_
    have I2 : Inv X pins σ H1 { s1 with heap := h' } := I1.kept (t' := s1.toks) hk
    refine ⟨s1.heap.objs.size + 1, [s1.heap.objs.size + 1, s1.heap.objs.size], _, _, H1, rfl, I2, turn_enumT a (s1.heap.objs.size + 1) s1.heap.objs.size (Nat.ne_of_gt (Nat.lt_succ_of_lt hal)) (Nat.ne_of_lt hal), ⟨⟨.none, he⟩, ⟨_, hit, rfl, rfl⟩, Nat.succ_ne_self _⟩, fun b hb => ?_, q⟩
    have hle : s1.heap.objs.size ≤ b := by
      rcases (by simpa using hb : b = s1.heap.objs.size + 1 ∨ b = s1.heap.objs.size) with z | z
      · rw [z]; exact Nat.le_succ _
      · rw [z]; exact Nat.le_refl _
    exact I1.fpOk hle (I1.hok.fresh hle)
end Cl

/-! ## Lib4 -/
namespace Cl
open PySem PySem.Spec PyProof.Rows L2
theorem t_yesIf {σ : L2.St} {H : Hp} {A B : Hp → Prop} (h : A H) : tYes σ H (fun b H3 => if b = true then A H3 else B H3) := by
  show if true = true then A H else B H
  rw [if_pos rfl]; exact h
/-! ## comprehensions whose blocks change the heap -/
section
variable {K : PySem.W.Frag} {σ : L2.St} {H : Hp} {Q : VK} {j : Nat} {tt : TT} {te : TE} {vs : List Nat} {tl : TE} {ta : TA}
theorem e_lcRW {n : Int} (h : Args ta σ H [.int n]) (hn : 0 ≤ n ∧ n ≤ 1000000) (W : Addr → Nat → Hp → Prop) (h0 : ∀ Dl, H Dl = none → W Dl 0 (upd H Dl (.lst []))) (hw : ∀ x, wipe ((wipe σ vs).set j (some x)) vs = wipe σ vs)
    (hs : ∀ Dl (i : Nat) H', H Dl = none → (i : Int) < n → W Dl i H' → tt ((wipe σ vs).set j (some (.int (i : Nat)))) H' fun b H3 => if b = true then te ((wipe σ vs).set j (some (.int (i : Nat)))) H3 fun y H4 => ∃ acc, H4 Dl = some (.lst acc) ∧ acc.length < sizeLine ∧ W Dl (i + 1) (upd H4 Dl (.lst (acc ++ [y]))) else W Dl (i + 1) H3)
    (q : ∀ Dl H', H Dl = none → W Dl n.toNat H' → Q (.ref Dl) H') : tLc (iRng1 ta) (gName j) tt te vs σ H Q :=
  h _ ⟨n, rfl, by omega, by omega, fun Dl hD => lc_range (lo := 0) (n := n.toNat) (W Dl) (h0 Dl hD) (fun i H' hi p => by
    have e0 : (0 : Int) + (i : Int) = (i : Int) := Int.zero_add _
    rw [e0]
    exact ⟨hw _, hs Dl i H' hD (by omega) p⟩) (fun H' p => q Dl H' hD p)⟩
theorem e_lcLW {a : Addr} {xs : List V} (h : Val tl σ H (.ref a)) (hx : SqL K H a xs) (W : Addr → Nat → Hp → Prop) (h0 : ∀ Dl, H Dl = none → W Dl 0 (upd H Dl (.lst []))) (hl : ∀ Dl i H', H Dl = none → i ≤ xs.length → W Dl i H' → SqL K H' a xs) (hw : ∀ x, wipe ((wipe σ vs).set j (some x)) vs = wipe σ vs)
    (hs : ∀ Dl (i : Nat) x H', H Dl = none → xs[i]? = some x → W Dl i H' → tt ((wipe σ vs).set j (some x)) H' fun b H3 => if b = true then te ((wipe σ vs).set j (some x)) H3 fun y H4 => ∃ acc, H4 Dl = some (.lst acc) ∧ acc.length < sizeLine ∧ W Dl (i + 1) (upd H4 Dl (.lst (acc ++ [y]))) else W Dl (i + 1) H3)
    (q : ∀ Dl H', H Dl = none → W Dl xs.length H' → Q (.ref Dl) H') : tLc (iList K tl) (gName j) tt te vs σ H Q :=
  h _ ⟨a, rfl, ⟨xs, hx⟩, fun Dl hD => lc_list (K := K) (a := a) (xs := xs) (W Dl) (h0 Dl hD) (fun i H' hi p => hl Dl i H' hD hi p) (fun i x H' hi p => ⟨hw x, hs Dl i x H' hD hi p⟩) (fun H' p => q Dl H' hD p)⟩
theorem walk_enumT {a : Addr} {xs : List V} : Walk (ItT K a) xs.length (fun H => SqT K H a xs) (YPair (fun i => some (.int (i : Nat))) (fun i => xs[i]?)) := by
  refine ⟨fun i _ hi q => ⟨xs, xs[i], q, by simp [hi]⟩, fun _ q => ⟨xs, q, Nat.le_refl _⟩, fun i H v H' _ q y => ?_⟩
  obtain ⟨T, x, h1, h2, h3, h4⟩ := y
  exact ⟨T, .int (i : Nat), x, h1, h2, h3, rfl, h4 xs q⟩
theorem e_lcEW {a : Addr} {xs : List V} {i1 i2 : Nat} (h : Args ta σ H [.ref a]) (hx : SqT K H a xs) (W : Addr → Nat → Hp → Prop) (h0 : ∀ Dl, H Dl = none → W Dl 0 (upd H Dl (.lst []))) (hl : ∀ Dl i H', H Dl = none → i ≤ xs.length → W Dl i H' → SqT K H' a xs) (hw : ∀ x y, wipe (((wipe σ vs).set i1 (some x)).set i2 (some y)) vs = wipe σ vs)
    (hs : ∀ Dl (i : Nat) x H' t, H Dl = none → xs[i]? = some x → W Dl i H' → H' t = none → tt (((wipe σ vs).set i1 (some (.int (i : Nat)))).set i2 (some x)) (upd H' t (.tup [.int (i : Nat), x])) fun b H3 => if b = true then te (((wipe σ vs).set i1 (some (.int (i : Nat)))).set i2 (some x)) H3 fun y H4 => ∃ acc, H4 Dl = some (.lst acc) ∧ acc.length < sizeLine ∧ W Dl (i + 1) (upd H4 Dl (.lst (acc ++ [y]))) else W Dl (i + 1) H3)
    (q : ∀ Dl H', H Dl = none → W Dl xs.length H' → Q (.ref Dl) H') : tLc (iEnumT K ta) (gTup K 2 (gCons (gName i1) (gCons (gName i2) gNil))) tt te vs σ H Q :=
  h _ ⟨a, xs, rfl, hx, fun Dl hD => lc_it (walk_enumT (K := K) (a := a) (xs := xs)) (W Dl) (h0 Dl hD) (fun i H' hi p => hl Dl i H' hD hi p) (fun i x H' H'' hi p y => by
    obtain ⟨t, u, v, ex, ht, eH, e1, e2⟩ := y
    have eu : V.int ((i : Nat) : Int) = u := Option.some.inj e1
    subst ex eH eu
    exact ⟨t, _, rfl, SqT.of upd_same, rfl, _, _, rfl, _, _, rfl, rfl, hw _ _, hs Dl i v H' t hD e2 p ht⟩) (fun H' p => q Dl H' hD p)⟩
end
theorem v_lenS {K : PySem.W.Frag} {σ : L2.St} {H : Hp} {ts : TA} {p : Addr} {xs : List V} (h : Args ts σ H [.ref p]) (hl : SqL K H p xs ∨ SqT K H p xs) : Val (tCB (rLen K) ts) σ H (.int xs.length) := v_cb h fun _ q => ⟨p, xs, rfl, hl, q⟩
/-! ## a for over a new list -/
section
variable {K : PySem.W.Frag} {σ : L2.St} {H : Hp} {D : Ends} {tb r : TS} {j : Nat}
theorem s_seq {t : TS} (h : t { D with nx := r D } σ H) : tSeq t r D σ H := h
/-- the loop, once the list is there -/
def ForL (K : PySem.W.Frag) (a : Addr) (j : Nat) (tb : TS) : TS := tFor (fun _ H R => R (Itl K a) H) (gName j) tb
theorem s_for_any {tl : TE} (h : tl σ H fun v H1 => ∃ a, v = .ref a ∧ (∃ xs, SqL K H1 a xs) ∧ ForL K a j tb D σ H1) : tFor (iList K tl) (gName j) tb D σ H := h
theorem s_for_lst {ts : TA} {xs : List V} (h : Args ts σ H xs) (hz : xs.length ≤ sizeLine) (q : ∀ l, H l = none → ForL K l j tb D σ (upd H l (.lst xs))) : tFor (iList K (tLst ts)) (gName j) tb D σ H :=
  h _ ⟨hz, fun l hl => ⟨l, rfl, ⟨xs, SqL.of upd_same⟩, q l hl⟩⟩
theorem s_forLi {a : Addr} {xs : List V} (hx : SqL K H a xs) (Pv : Nat → L2.St → Hp → Prop) (h0 : Pv 0 σ H) (hl : ∀ i σ' H', i ≤ xs.length → Pv i σ' H' → SqL K H' a xs)
    (hs : ∀ i x σ' H', xs[i]? = some x → Pv i σ' H' → tb { D with nx := Pv (i + 1), ct := Pv (i + 1), bk := D.nx } (σ'.set j (some x)) H') (hd : ∀ σ' H', Pv xs.length σ' H' → D.nx σ' H') : ForL K a j tb D σ H := for_list Pv h0 hl hs hd
end
/-! ## exceptions -/
section
variable {K : PySem.W.Frag} {σ : L2.St} {H : Hp} {Q : VK} {D : Ends} {r : TS} {sp : Sp} {ts : TA} {vs : List V} {i : Nat} {te : TE} {E : XK}
theorem q_tryC {Wout : WX} {l : List Hc} (h : Args ts σ H vs) (q : sp vs H (fun v H2 => r D (σ.set i (some v)) H2) (fun cls d H' => wMA K Wout { D with nx := r D } l cls d σ H')) :
    tSeq (tTryA K (fun W => tAsg (tCallS sp (WE W) ts) (gName i)) Wout l) r D σ H := h _ q
theorem q_callS {W : WX} (h : Args ts σ H vs) (q : sp vs H (fun v H2 => r D σ H2) (WE W σ)) : tSeq (tDrop (tCallS sp (WE W) ts)) r D σ H := h _ q
theorem g_callS {W : WX} (h : ts σ H fun vs H1 => sp vs H1 Q (WE W σ)) : tCallS sp (WE W) ts σ H Q := h
theorem w_hit {c : Value} {j : Nat} {t : Addr → Value → Option Addr → TS} {l : List Hc} {Wout : WX} {cls : Value} {d : Option Addr} (hb : PySem.W.exmOne K cls c = some true) (h : ∀ a, H a = none → t a cls d (endN D j) (σ.set j (some (.ref a))) H) : wMA K Wout D ((c, j, t) :: l) cls d σ H := ⟨true, hb, fun _ => h, (fun z => by cases z)⟩
theorem w_miss {c : Value} {j : Nat} {t : Addr → Value → Option Addr → TS} {l : List Hc} {Wout : WX} {cls : Value} {d : Option Addr} (hb : PySem.W.exmOne K cls c = some false) (h : wMA K Wout D l cls d σ H) : wMA K Wout D ((c, j, t) :: l) cls d σ H := ⟨false, hb, (fun z => by cases z), fun _ => h⟩
theorem v_xf {a C dd : Addr} {fs : List (Str × V)} {f : Str} {v : V} (h : Val te σ H (.ref a)) (hd : H dd = some (.xd fs)) (hl : fs.lookup f = some v) : Val (tXf a (.ref C) (some dd) C f te) σ H v := fun Q q => h _ ⟨rfl, rfl, dd, fs, v, rfl, hd, hl, q⟩
theorem v_isX {a C c dd : Addr} {fs : List (Str × V)} {b : Bool} (h : Args ts σ H [.ref a, .ref c]) (hd : H dd = some (.xd fs)) (hk : PySem.W.kitOne K (.ref C) (.ref c) = some b) : Val (tCB (rIsX K C a (.ref C) (some dd)) ts) σ H (.bl b) := v_cb h fun _ q => ⟨_, _, b, dd, fs, rfl, rfl, rfl, hd, fun u hu => hu, hk, q⟩
theorem v_isXT {a C dd : Addr} {fs : List (Str × V)} {T : String} {b : Bool} (h : Args ts σ H [.ref a, .ty T]) (hd : H dd = some (.xd fs)) (hk : PySem.W.kitOne K (.ref C) (.type T) = some b) : Val (tCB (rIsX K C a (.ref C) (some dd)) ts) σ H (.bl b) := v_cb h fun _ q => ⟨_, _, b, dd, fs, rfl, rfl, rfl, hd, fun u hu => hu, hk, q⟩
/-- raise x(v) -/
theorem g_raise1 {W : WX} {C : Addr} {f : Str} {v : V} (h : Args ts σ H [v]) (hf : Exs.FmtV v) (q : ∀ d, H d = none → W (.ref C) (some d) σ (upd H d (.xd [(f, v)]))) : tRaise (tMkE C [f] ts) W D σ H := h _ ⟨rfl, by show 1 ≤ 1000; decide, fun u hu => by
    have e : u = v := by simpa using hu
    rw [e]; exact hf, fun d hd => q d hd⟩
theorem g_raise2 {W : WX} {C : Addr} {f g : Str} {v w : V} (h : Args ts σ H [v, w]) (hf : Exs.FmtV v) (hg : Exs.FmtV w) (q : ∀ d, H d = none → W (.ref C) (some d) σ (upd H d (.xd [(g, w), (f, v)]))) : tRaise (tMkE C [f, g] ts) W D σ H := h _ ⟨rfl, by show 2 ≤ 1000; decide, fun u hu => by
    have e : u = v ∨ u = w := by simpa using hu
    rcases e with e | e
    · rw [e]; exact hf
    · rw [e]; exact hg, fun d hd => q d hd⟩
theorem fmt_int {i : Int} (h : -4611686018427387904 < i ∧ i < 4611686018427387904) : Exs.FmtV (.int i) := by
  show i.natAbs.log2 < 1920
  have e : (2 : Nat) ^ 62 = 4611686018427387904 := by decide
  have h2 : i.natAbs < 2 ^ 62 := by omega
  have h3 := PySem.Flt.log2_lt_of (k := 62) (by decide) h2
  omega
end
end Cl

/-! ## Lib5 -/
namespace Cl
open PySem PySem.Spec PyProof.Rows L2
/-! ## isinstance(e, (C, D, ..)) in an except suite -/
def rIsXs (K : PySem.W.Frag) (D a : Addr) (cls : Value) (d : Option Addr) : List V → Hp → VK → Prop := fun xs H Q => ∃ (tp : Addr) (cs : List V) (cvs : List Value) (b : Bool) (dd : Addr) (fs : List (Str × V)), xs = [.ref a, .ref tp] ∧ cls = .ref D ∧ d = some dd ∧ H dd = some (.xd fs) ∧ H tp = some (.tup cs) ∧ (∀ us, Vals cs us → us = cvs) ∧ PySem.W.kitAny K (.ref D) cvs = some b ∧ Q (.bl b) H
theorem call_isXs {X : Cx} {a D : Addr} {oe : Obj} {cls : Value} {d : Option Addr} {pn : List (Addr × Obj)} (C : ExcC X.K D) (hz : Zc cls d oe) (hf : ∃ vs, oe.data = .fields vs) : CallR (X.suite a ((a, oe) :: pn)) (.builtin "isinstance") (rIsXs X.K D a cls d) := by
  intro pins s σ H xs us Q I r h
  obtain ⟨tp, cs, cvs, b, dd, fs, rfl, ecl, edd, hH, hT, hcv, e, q⟩ := h
  subst ecl edd
  cases r with
  | cons rx rr =>
    cases rr with
    | cons rt rr =>
      cases rr
      cases rx
      cases rt
      obtain ⟨hget, _⟩ := I.pin (a, oe) (List.mem_append.mpr (.inl List.mem_cons_self))
      obtain ⟨vs, hv⟩ := hf
      have hx : ObjOk X.prog X.w H s.heap dd (.xd fs) := I.hok dd _ hH
      obtain ⟨mA, hns, hr⟩ := hx
      obtain ⟨od, ho, hl⟩ := lookIn_ns hns
      have J : PySem.W.InstAt s.heap a oe D (some od) := ⟨hget, hz.1, by unfold PySem.W.notCls; rw [hv] <;> rfl, by rw [hz.2]; exact ho⟩
      have hsq : SqT X.K H tp cs := SqT.of hT
      obtain ⟨its, rv, ⟨⟨c0, d0, da0, sl0⟩, ho2, hc2, n2, hd2⟩, _⟩ := I.tuple hsq
      simp only at hc2 hd2
      subst hc2 hd2
      have ev := hcv _ rv
      subst ev
      exact PySem.W.kia_tup (PySem.W.kitx_exc (by obtain ⟨cd, hc, _⟩ := PySem.W.any_some C.hd; rw [hc]; rfl) C.hg C.hk C.hs C.ha C.hn C.ht C.hm) I.kIn J ho2 e (fun z => nomatch z) fun tk => ⟨.bl b, H, I.kept (t' := tk) fun _ _ z => z, rfl, q⟩
/-! ## xs.count(x), any data -/
def rCntD (K : PySem.W.Frag) : V → List V → Hp → VK → Prop := fun x xs H Q => ∃ (p : Addr) (vs : List V) (ds : List PyData) (y : V) (d : PyData), x = .ref p ∧ xs = [y] ∧ SqL K H p vs ∧ DpAll K H vs ds ∧ Dp K H y d ∧ PyData.plainAll ds = true ∧ d.plain = true ∧ d.depth ≤ 60 ∧ Q (.int ((ds.countP fun z => PyData.eqv z d : Nat) : Int)) H
theorem mt_lcountD {X : Cx} (hu : X.A.units + 64 < cLine) : MtR X "list.count" (rCntD X.K) := by
  intro pins s σ H x xs v us Q I rx rxs h
  obtain ⟨p, vs, ds, y, d, rfl, rfl, hs, hds, hd, p1, p2, p3, q⟩ := h
  cases rx
  obtain ⟨u, rfl, ru⟩ := rxs.one
  obtain ⟨its, rv, ⟨o, n, ho, hc, hdn, hd2⟩, hlen⟩ := I.list hs
  obtain ⟨as, r1⟩ := Dp.readsAll I ds vs its hds rv
  obtain ⟨bs, r2⟩ := Dp.reads I d y u hd ru
  exact PySem.SeqAt.count_list_data (vs := its.toArray) ⟨o, ho, hc, n, hd2⟩ (by simpa using r1) r2 p1 p2 (by omega) ⟨.int _, H, I.tok _, ⟨s.toks, rfl⟩, q⟩
/-! ## try: .. except X: .. -/
def tTryO (K : PySem.W.Frag) (c : Value) (tb : WX → TS) (Wout : WX) (ts : Addr → Value → Option Addr → TS) : TS := fun D σ H => tb (wOnly K c ts Wout D) D σ H
end Cl

/-! ## Lib6 -/
namespace Cl
open PySem PySem.Spec PyProof.Rows L2
/-! ## methods and makings that may raise, at the slots -/
def tMethX (C : Addr) (m : Str) (sp : Sp) (E : L2.St → XK) (ta : TE) (t : TA) : TE := fun σ H Q => ta σ H fun x H1 => ∃ a dx fs, x = .ref a ∧ H1 a = some (.ins C dx fs) ∧ fs.lookup m = none ∧ t σ H1 fun vs H2 => sp (x :: vs) H2 Q (E σ)
def tMakeX (C : Addr) (sp : Sp) (E : L2.St → XK) (t : TA) : TE := fun σ H Q => t σ H fun vs H1 => ∀ x dx, H1 x = none → H1 dx = none → dx ≠ x → sp (.ref x :: vs) (upd (upd H1 dx (.own x)) x (.ins C dx [])) (fun v H2 => v = .non ∧ Q (.ref x) H2) (E σ)
section
variable {X : Cx} {k : Nat} {ps : List Str} {sp : Sp} {W : WX} {x m : Str} {p pos apos : Pos} {e o : Expr} {es : List Expr} {ta : TE} {t : TA}
theorem pmethX {pl : Sem Bool} {C : Str} (ho : PE X o ta) (c : Cls X.K (He.ga X.K C)) (hm : Meth X.K (He.ga X.K C) m (He.ma X.K (He.ga X.K C) m)) (F : FnX X.prog X.w X.K X.mg X.base (L2.CX X.prog X.w) k (C, some m) ps sp) (hr : Room k X.A) (tk : Takes X W) (ha : PA X (e :: es) t)
    (h1 : starEach (e :: es) X.env = (false, eval e X.env) :: starEach es X.env := by rfl) (h2 : (backTo pos (starEach es X.env)).any (·.1) = false := by rfl)
    (h3 : eval (.Call (.Attribute o m apos) (e :: es) [] pos) X.env = (do let ov ← eval o X.env; standAt apos.atName; let (f, q) ← holding [ov] (getMethod ov m pl); callWith pos f q (backTo pos (starEach (e :: es) X.env)) (backToKw pos (keywordEach [] X.env))) := by rfl) :
    PE X (.Call (.Attribute o m apos) (e :: es) [] pos) (tMethX (He.ga X.K C) m sp (WE W) ta t) := by
  obtain ⟨⟨fd, F, b⟩, kp⟩ := F
  refine ⟨fun pins s σ H Q I h => ?_⟩
  refine PySem.W.methodCall_KW (pl := pl) (thn (ho.run pins s σ H _ I h) fun u s1 ⟨x, H1, I1, rx, a, dx, fs, ex, ea, l, q⟩ => ?_) h3
  subst ex
  obtain rfl : u = Value.ref a := rx
  refine getmeth_ok I1 ea c hm l (PySem.W.callWith_K (first := [.ref a]) (h₀ := X.base) I.ok.mod.kin hm.kp (thn (ha.run pos pins s1 σ H1 _ I1 q) fun us s2 ⟨vs, H2, I2, r, q2⟩ => ⟨I2.kIn, ?_⟩) h1 h2)
  exact run_fnS (E := WE W) (us := .ref a :: us) (vs := .ref a :: vs) F hr b (passAt tk σ) I2 (.cons rfl r) q2
theorem pmethX0 {pl : Sem Bool} {C : Str} (ho : PE X o ta) (c : Cls X.K (He.ga X.K C)) (hm : Meth X.K (He.ga X.K C) m (He.ma X.K (He.ga X.K C) m)) (F : FnX X.prog X.w X.K X.mg X.base (L2.CX X.prog X.w) k (C, some m) ps sp) (hr : Room k X.A) (tk : Takes X W)
    (h3 : eval (.Call (.Attribute o m apos) [] [] pos) X.env = (do let ov ← eval o X.env; standAt apos.atName; let (f, q) ← holding [ov] (getMethod ov m pl); callWith pos f q (backTo pos (starEach [] X.env)) (backToKw pos (keywordEach [] X.env))) := by rfl) :
    PE X (.Call (.Attribute o m apos) [] [] pos) (tMethX (He.ga X.K C) m sp (WE W) ta tNil) := by
  obtain ⟨⟨fd, F, b⟩, kp⟩ := F
  refine ⟨fun pins s σ H Q I h => ?_⟩
  refine PySem.W.methodCall_KW (pl := pl) (thn (ho.run pins s σ H _ I h) fun u s1 ⟨x, H1, I1, rx, a, dx, fs, ex, ea, l, q⟩ => ?_) h3
  subst ex
  obtain rfl : u = Value.ref a := rx
  exact getmeth_ok I1 ea c hm l (PySem.W.callWith_K0 (first := [.ref a]) I1.kIn hm.kp (run_fnS (E := WE W) (us := [.ref a]) (vs := [.ref a]) F hr b (passAt tk σ) I1 (.cons rfl .nil) q))
theorem run_makeX {pins : List (Addr × Obj)} {σ : L2.St} {H : Hp} {s : Shared} {Q : VK} {us : List Value} {vs : List V} {C f : Addr} {fd : FuncData} (M : Mk X.K C f) (F : FnOk X.prog X.w X.K X.mg X.base (L2.CX X.prog X.w) k f fd ps sp) (hr : Room (k + 1) X.A) (hb : Binds X.K fd ps [])
    (tk : Takes X W) (I : Inv X pins σ H s) (r : Vals vs us) (h : ∀ x dx, H x = none → H dx = none → dx ≠ x → sp (.ref x :: vs) (upd (upd H dx (.own x)) x (.ins C dx [])) (fun v H2 => v = .non ∧ Q (.ref x) H2) (WE W σ)) :
    wpAny (model X.prog X.w) X.A (call (.ref C) us) (EP X pins σ Q) X.xe s := by
  have q0 := h (s.heap.objs.size + 1) s.heap.objs.size (I.hok.fresh (Nat.le_succ _)) (I.hok.fresh (Nat.le_refl _)) (Nat.ne_of_lt (Nat.lt_succ_self _))
  have J := Inv.made (C := C) I
  have r2 : Vals (V.ref (s.heap.objs.size + 1) :: vs) (Value.ref (s.heap.objs.size + 1) :: us) := .cons rfl r
  have hl : (Value.ref (s.heap.objs.size + 1) :: us).length = ps.length := by
    rw [← r2.length]; exact F.len _ _ _ _ q0
  have bb := hb { s with heap := _ } (Value.ref (s.heap.objs.size + 1) :: us) J.kIn (by rw [List.append_nil]; exact hl)
  rw [List.append_nil] at bb
  refine wpAny_call (make_map (f := f) I.kIn M.makes M.init (beq_iff_eq.mp M.fn) (codeAny_mono (F.run _ X.stack _ _ ⟨Value.ref (s.heap.objs.size + 1) :: us, []⟩ (Value.ref (s.heap.objs.size + 1) :: us) _ _ (WE W σ) (hr.make C us []) (J.env0.make C us []) bb r2 q0) fun z s' hq => ?_))
  cases z with
  | error e => exact passAt tk σ pins _ _ e s' J hq
  | ok fl =>
    cases fl with
    | ret u =>
      obtain ⟨v, H', I3, rv, ev, q3⟩ := J.after hq
      subst ev
      exact ⟨rv, ⟨V.ref (s.heap.objs.size + 1), H', I3, rfl, q3⟩⟩
    | next => exact hq.elim
    | brk => exact hq.elim
    | cont => exact hq.elim
theorem pmakeX (M : Mk X.K (He.ga X.K x) (He.ma X.K (He.ga X.K x) "__init__")) (F : FnX X.prog X.w X.K X.mg X.base (L2.CX X.prog X.w) k (x, some "__init__") ps sp) (hr : Room (k + 1) X.A) (hg : Gl X x) (hm : X.mg x = some (.ref (He.ga X.K x))) (tk : Takes X W)
    (ha : PA X (e :: es) t) (hdb : (x == ("__debug__" : Str)) = false := by decide) (h1 : starEach (e :: es) X.env = (false, eval e X.env) :: starEach es X.env := by rfl) (h2 : (backTo pos (starEach es X.env)).any (·.1) = false := by rfl) :
    PE X (.Call (.Name x p) (e :: es) [] pos) (tMakeX (He.ga X.K x) sp (WE W) t) := by
  obtain ⟨⟨fd, F, b⟩, kp⟩ := F
  refine ⟨fun pins s σ H Q I h => wpAny_Call_Name_kw (ld_glob I hg hm ?_ hdb)⟩
  exact PySem.W.callWith_K (h₀ := X.base) I.ok.mod.kin M.kp (thn (ha.run pos pins s σ H _ I h) fun us s1 ⟨vs, H1, I1, r, q⟩ => ⟨I1.kIn, run_makeX M F hr b tk I1 r q⟩) h1 h2
end
end Cl

/-! ## Fun -/
namespace Cl
open PySem PySem.Spec PyProof.Rows L2
/-! ## data, stores, worlds: a reading by values -/
inductive Da where
  | non | bl (b : Bool) | int (i : Int) | str (s : Str)
  | tup (ds : List Da) | lst (ds : List Da) | frl (ns : List Int)
  | obj (C : Str) (ns : List Str) (ds : List Da) | dic (ks : List Key) (ds : List Da) | cell (n : Nat)
abbrev Sto := List Da
structure Wd where
  H : Hp
  m : List Addr
  ow : Addr → Prop
  x : Addr
def Wd.fz (w : Wd) (a : Addr) : Prop := a ∉ w.m ∧ ¬ w.ow a
def KT (K : PySem.W.Frag) (a : Addr) (xs : List V) : Prop := ∃ (o : Obj) (its : Array Value) (n : Nat), K.lookup a = some o ∧ o.cls = .type "tuple" ∧ o.data = .seq its n ∧ its.size ≤ sizeLine ∧ Vals xs its.toList
def KL (K : PySem.W.Frag) (a : Addr) (xs : List V) : Prop := ∃ (o : Obj) (its : Array Value) (n : Nat), K.lookup a = some o ∧ o.cls = .type "list" ∧ o.dict = none ∧ o.data = .seq its n ∧ its.size ≤ sizeLine ∧ Vals xs its.toList
def FzL (K : PySem.W.Frag) (w : Wd) (a : Addr) (xs : List V) : Prop := (Rd w.H a (.lst xs) ∧ w.fz a) ∨ KL K a xs
def FzT (K : PySem.W.Frag) (w : Wd) (a : Addr) (xs : List V) : Prop := (Rd w.H a (.tup xs) ∧ w.fz a) ∨ KT K a xs
mutual
inductive Rep (K : PySem.W.Frag) (w : Wd) : Da → V → Prop
  | non : Rep K w .non .non
  | bl (b : Bool) : Rep K w (.bl b) (.bl b)
  | int (i : Int) : Rep K w (.int i) (.int i)
  | str (s : Str) : Rep K w (.str s) (.str s)
  | tup {a : Addr} {vs : List V} {ds : List Da} : FzT K w a vs → Reps K w ds vs → Rep K w (.tup ds) (.ref a)
  | lst {a : Addr} {vs : List V} {ds : List Da} : w.H a = some (.lst vs) → w.fz a → Reps K w ds vs → Rep K w (.lst ds) (.ref a)
  | frl {a : Addr} {ns : List Int} : FzL K w a (ns.map V.int) → Rep K w (.frl ns) (.ref a)
  | obj {a dx : Addr} {C : Str} {fs : List (Str × V)} {ns : List Str} {ds : List Da} : w.H a = some (.ins (He.ga K C) dx fs) → w.fz a → fs.map (·.1) = ns → Reps K w ds (fs.map (·.2)) → Rep K w (.obj C ns ds) (.ref a)
  | dic {a : Addr} {kvs : List (Key × V)} {ks : List Key} {ds : List Da} : w.H a = some (.dK kvs) → w.fz a → kvs.map (·.1) = ks → Reps K w ds (kvs.map (·.2)) → Rep K w (.dic ks ds) (.ref a)
  | cell {a : Addr} {n : Nat} : w.m[n]? = some a → Rep K w (.cell n) (.ref a)
inductive Reps (K : PySem.W.Frag) (w : Wd) : List Da → List V → Prop
  | nil : Reps K w [] []
  | cons {d : Da} {v : V} {ds : List Da} {vs : List V} : Rep K w d v → Reps K w ds vs → Reps K w (d :: ds) (v :: vs)
end
def ConR (K : PySem.W.Frag) (w : Wd) (a : Addr) : Da → Prop
  | .lst ds => ∃ vs, w.H a = some (.lst vs) ∧ Reps K w ds vs
  | .obj C ns ds => ∃ dx fs, w.H a = some (.ins (He.ga K C) dx fs) ∧ fs.map (·.1) = ns ∧ Reps K w ds (fs.map (·.2))
  | .dic ks ds => ∃ kvs, w.H a = some (.dK kvs) ∧ kvs.map (·.1) = ks ∧ Reps K w ds (kvs.map (·.2))
  | _ => False
structure Le (w w' : Wd) : Prop where
  pre : w.m <+: w'.m
  kp : ∀ a o, w.H a = some o → a ∉ w.m → w'.H a = some o ∧ a ∉ w'.m ∧ (w'.ow a ↔ w.ow a)
theorem Le.refl (w : Wd) : Le w w := ⟨List.prefix_refl _, fun _ _ e n => ⟨e, n, Iff.rfl⟩⟩
theorem Le.trans {w w' w'' : Wd} (a : Le w w') (b : Le w' w'') : Le w w'' := ⟨a.pre.trans b.pre, fun c o e n => by
  obtain ⟨e1, n1, i1⟩ := a.kp c o e n
  obtain ⟨e2, n2, i2⟩ := b.kp c o e1 n1
  exact ⟨e2, n2, i2.trans i1⟩⟩
section
variable {K : PySem.W.Frag} {w w' : Wd}
theorem Le.fz (L : Le w w') {a : Addr} {o : HO} (e : w.H a = some o) (f : w.fz a) : w'.H a = some o ∧ w'.fz a := by
  obtain ⟨e1, n1, i1⟩ := L.kp a o e f.1
  exact ⟨e1, n1, fun z => f.2 (i1.mp z)⟩
theorem Le.rd (L : Le w w') {a : Addr} {o : HO} (e : Rd w.H a o) (f : w.fz a) : Rd w'.H a o ∧ w'.fz a := by
  rcases e with e | ⟨u, e⟩
  · exact ⟨.inl (L.fz e f).1, (L.fz e f).2⟩
  · exact ⟨.inr ⟨u, (L.fz e f).1⟩, (L.fz e f).2⟩
/-- what frozen things need of a later world -/
structure Lf (w w' : Wd) : Prop where
  pre : w.m <+: w'.m
  kp : ∀ a o, w.H a = some o → w.fz a → w'.H a = some o ∧ w'.fz a
theorem Le.lf (L : Le w w') : Lf w w' := ⟨L.pre, fun _ _ e f => L.fz e f⟩
theorem Lf.rd (L : Lf w w') {a : Addr} {o : HO} (e : Rd w.H a o) (f : w.fz a) : Rd w'.H a o ∧ w'.fz a := by
  rcases e with e | ⟨u, e⟩
  · exact ⟨.inl (L.kp _ _ e f).1, (L.kp _ _ e f).2⟩
  · exact ⟨.inr ⟨u, (L.kp _ _ e f).1⟩, (L.kp _ _ e f).2⟩
theorem pre_at {xs ys : List Addr} (h : xs <+: ys) {n : Nat} {a : Addr} (e : xs[n]? = some a) : ys[n]? = some a := by
  obtain ⟨t, rfl⟩ := h
  have := (List.getElem?_eq_some_iff.mp e).1
  rw [List.getElem?_append_left this]; exact e
theorem Rep.lf (L : Lf w w') {d : Da} {v : V} (h : Rep K w d v) : Rep K w' d v := by
  refine @Rep.rec K w (fun d v _ => Rep K w' d v) (fun ds vs _ => Reps K w' ds vs) .non .bl .int .str ?_ ?_ ?_ ?_ ?_ ?_ .nil (fun _ _ a b => .cons a b) d v h
  · intro a vs ds f _ r
    refine .tup ?_ r
    rcases f with ⟨e, f⟩ | f
    · exact .inl ⟨(L.rd e f).1, (L.rd e f).2⟩
    · exact .inr f
  · intro a vs ds e f _ r
    exact .lst (L.kp _ _ e f).1 (L.kp _ _ e f).2 r
  · intro a ns f
    refine .frl ?_
    rcases f with ⟨e, f⟩ | f
    · exact .inl ⟨(L.rd e f).1, (L.rd e f).2⟩
    · exact .inr f
  · intro a dx C fs ns ds e f en _ r
    exact .obj (L.kp _ _ e f).1 (L.kp _ _ e f).2 en r
  · intro a kvs ks ds e f en _ r
    exact .dic (L.kp _ _ e f).1 (L.kp _ _ e f).2 en r
  · intro a n e
    exact .cell (pre_at L.pre e)
theorem Reps.lf (L : Lf w w') : ∀ {ds : List Da} {vs : List V}, Reps K w ds vs → Reps K w' ds vs
  | _, _, .nil => .nil
  | _, _, .cons a b => .cons (a.lf L) (Reps.lf L b)
theorem Rep.le (L : Le w w') {d : Da} {v : V} (h : Rep K w d v) : Rep K w' d v := h.lf L.lf
theorem Reps.le (L : Le w w') {ds : List Da} {vs : List V} (h : Reps K w ds vs) : Reps K w' ds vs := h.lf L.lf
theorem ConR.lf (L : Lf w w') {a : Addr} (ha : ∀ o, w.H a = some o → w'.H a = some o) {d : Da} (h : ConR K w a d) : ConR K w' a d := by
  cases d with
  | lst ds => obtain ⟨vs, e, r⟩ := h; exact ⟨vs, ha _ e, r.lf L⟩
  | obj C ns ds => obtain ⟨dx, fs, e, en, r⟩ := h; exact ⟨dx, fs, ha _ e, en, r.lf L⟩
  | dic ks ds => obtain ⟨kvs, e, en, r⟩ := h; exact ⟨kvs, ha _ e, en, r.lf L⟩
  | _ => exact h.elim
theorem ConR.some {a : Addr} {d : Da} (h : ConR K w a d) : ∃ o, w.H a = some o := by
  cases d with
  | lst ds => obtain ⟨vs, e, r⟩ := h; exact ⟨_, e⟩
  | obj C ns ds => obtain ⟨dx, fs, e, en, r⟩ := h; exact ⟨_, e⟩
  | dic ks ds => obtain ⟨kvs, e, en, r⟩ := h; exact ⟨_, e⟩
  | _ => exact h.elim
theorem ConR.le (L : Le w w') {a : Addr} (ha : a ∉ w.m) {d : Da} (h : ConR K w a d) : ConR K w' a d := h.lf L.lf fun o e => (L.kp a o e ha).1
theorem ConR.rep {a : Addr} {d : Da} (h : ConR K w a d) (f : w.fz a) : Rep K w d (.ref a) := by
  cases d with
  | lst ds => obtain ⟨vs, e, r⟩ := h; exact .lst e f r
  | obj C ns ds => obtain ⟨dx, fs, e, en, r⟩ := h; exact .obj e f en r
  | dic ks ds => obtain ⟨kvs, e, en, r⟩ := h; exact .dic e f en r
  | _ => exact h.elim
theorem Reps.length : ∀ {ds : List Da} {vs : List V}, Reps K w ds vs → vs.length = ds.length
  | _, _, .nil => rfl
  | _, _, .cons _ r => by simp [Reps.length r]
theorem Reps.at : ∀ {ds : List Da} {vs : List V}, Reps K w ds vs → ∀ {i : Nat} {d : Da}, ds[i]? = some d → ∃ v, vs[i]? = some v ∧ Rep K w d v
  | _, _, .nil, i, d, e => by simp at e
  | _, _, .cons h r, 0, d, e => by simp at e; subst e; exact ⟨_, rfl, h⟩
  | _, _, .cons h r, i + 1, d, e => by simpa using Reps.at r (i := i) (by simpa using e)
theorem Reps.at' : ∀ {ds : List Da} {vs : List V}, Reps K w ds vs → ∀ {i : Nat} {v : V}, vs[i]? = some v → ∃ d, ds[i]? = some d ∧ Rep K w d v
  | _, _, .nil, i, d, e => by simp at e
  | _, _, .cons h r, 0, d, e => by simp at e; subst e; exact ⟨_, rfl, h⟩
  | _, _, .cons h r, i + 1, d, e => by simpa using Reps.at' r (i := i) (by simpa using e)
theorem Reps.app : ∀ {ds es : List Da} {vs us : List V}, Reps K w ds vs → Reps K w es us → Reps K w (ds ++ es) (vs ++ us)
  | _, _, _, _, .nil, h => h
  | _, _, _, _, .cons a r, h => .cons a (Reps.app r h)
theorem Reps.take : ∀ {ds : List Da} {vs : List V} (n : Nat), Reps K w ds vs → Reps K w (ds.take n) (vs.take n)
  | _, _, 0, _ => by simpa using Reps.nil
  | _, _, n + 1, .nil => by simpa using Reps.nil
  | _, _, n + 1, .cons a r => .cons a (Reps.take n r)
theorem Reps.drop : ∀ {ds : List Da} {vs : List V} (n : Nat), Reps K w ds vs → Reps K w (ds.drop n) (vs.drop n)
  | _, _, 0, h => h
  | _, _, n + 1, .nil => by simpa using Reps.nil
  | _, _, n + 1, .cons a r => Reps.drop n r
theorem Reps.set {x : Da} {u : V} (hx : Rep K w x u) : ∀ {ds : List Da} {vs : List V} (n : Nat), Reps K w ds vs → Reps K w (ds.set n x) (vs.set n u)
  | _, _, _, .nil => .nil
  | _, _, 0, .cons a r => .cons hx r
  | _, _, n + 1, .cons a r => .cons a (Reps.set hx n r)
theorem Reps.rev : ∀ {ds : List Da} {vs : List V}, Reps K w ds vs → Reps K w ds.reverse vs.reverse
  | _, _, .nil => .nil
  | _, _, .cons a r => by rw [List.reverse_cons, List.reverse_cons]; exact (Reps.rev r).app (.cons a .nil)
theorem Reps.ints (ns : List Int) : Reps K w (ns.map Da.int) (ns.map V.int) := by
  induction ns with
  | nil => exact .nil
  | cons n ns ih => exact .cons (.int n) ih
end
/-! ## stores -/
structure StoR (K : PySem.W.Frag) (w : Wd) (S : Sto) : Prop where
  len : w.m.length = S.length
  nd : w.m.Nodup
  at_ : ∀ (n : Nat) a d, w.m[n]? = some a → S[n]? = some d → ConR K w a d
  own : ∀ a, w.ow a → w.H a ≠ none
  sep : ∀ a ∈ w.m, ¬ w.ow a
section
variable {K : PySem.W.Frag} {w w' wf : Wd} {S S' : Sto}
theorem StoR.mem (s : StoR K w S) {a : Addr} (h : a ∈ w.m) : ∃ o, w.H a = some o := by
  obtain ⟨n, hn, e⟩ := List.getElem_of_mem h
  have hs : n < S.length := by rw [← s.len]; exact hn
  exact (s.at_ n a S[n] (by rw [List.getElem?_eq_getElem hn, e]) (List.getElem?_eq_getElem hs)).some
theorem Le.none (L : Le w w') (s : StoR K w' S) {a : Addr} (h : w'.H a = none) : w.H a = none := by
  cases e : w.H a with
  | none => rfl
  | some o =>
    by_cases ha : a ∈ w.m
    · obtain ⟨o', e'⟩ := s.mem (L.pre.subset ha)
      rw [h] at e'; cases e'
    · rw [(L.kp a o e ha).1] at h; cases h
theorem StoR.fresh (s : StoR K w S) {a : Addr} (h : w.H a = none) : a ∉ w.m ∧ ¬ w.ow a := ⟨fun z => (by obtain ⟨o, e⟩ := s.mem z; rw [h] at e; cases e), fun z => s.own a z h⟩
/-- a new object at p, ours (b) or frozen -/
def Wd.new (w : Wd) (p : Addr) (o : HO) (b : Prop) : Wd := { H := upd w.H p o, m := w.m, ow := fun a => (a = p ∧ b) ∨ (a ≠ p ∧ w.ow a), x := w.x }
theorem le_new {p : Addr} {o : HO} {b : Prop} (h : w.H p = none) : Le w (w.new p o b) := ⟨List.prefix_refl _, fun a u e n => by
  have ne : a ≠ p := fun z => by rw [z, h] at e; cases e
  refine ⟨by show upd w.H p o a = some u; rw [upd_ne ne]; exact e, n, ?_⟩
  show ((a = p ∧ b) ∨ (a ≠ p ∧ w.ow a)) ↔ w.ow a
  exact ⟨fun z => z.elim (fun z => absurd z.1 ne) (·.2), fun z => .inr ⟨ne, z⟩⟩⟩
theorem StoR.new (s : StoR K w S) {p : Addr} {o : HO} {b : Prop} (h : w.H p = none) : StoR K (w.new p o b) S := by
  have L : Le w (w.new p o b) := le_new h
  refine ⟨s.len, s.nd, fun n a d e1 e2 => ?_, fun a ha => ?_, fun a ha => ?_⟩
  · have c := s.at_ n a d e1 e2
    refine c.lf L.lf fun u eu => ?_
    have ne : a ≠ p := fun z => by rw [z, h] at eu; cases eu
    show upd w.H p o a = some u
    rw [upd_ne ne]; exact eu
  · show upd w.H p o a ≠ none
    rcases ha with ⟨rfl, _⟩ | ⟨ne, ha⟩
    · rw [upd_same]; simp
    · rw [upd_ne ne]; exact s.own a ha
  · have hm : a ∈ w.m := ha
    have ne : a ≠ p := fun z => (s.fresh h).1 (z ▸ hm)
    exact fun z => z.elim (fun z => ne z.1) (fun z => s.sep a hm z.2)
/-- all that came since w becomes frozen -/
def Wd.frz (w w' : Wd) : Wd := { H := w'.H, m := w'.m, ow := fun a => w'.ow a ∧ w.H a ≠ none, x := w.x }
theorem lf_frz : Lf w' (w.frz w') := ⟨List.prefix_refl _, fun _ _ e f => ⟨e, f.1, fun z => f.2 z.1⟩⟩
theorem Le.frz (L : Le w w') : Le w (w.frz w') := ⟨L.pre, fun a o e n => by
  obtain ⟨e1, n1, i1⟩ := L.kp a o e n
  exact ⟨e1, n1, ⟨fun z => i1.mp z.1, fun z => ⟨i1.mpr z, by rw [e]; simp⟩⟩⟩⟩
theorem StoR.frz (s : StoR K w' S) : StoR K (w.frz w') S := ⟨s.len, s.nd, fun n a d e1 e2 => (s.at_ n a d e1 e2).lf lf_frz fun _ e => e, fun a z => s.own a z.1, fun a ha z => s.sep a ha z.1⟩
end
/-! ## results and slots -/
inductive Rv where
  | v (d : Da) | fr (d : Da) | bo (d : Da)
inductive Sx where
  | v (d : Da) | own (d : Da) (s : Bool) | exn
abbrev Env := List (Option Sx)
structure Exn where
  C : Str
  ns : List Str
  ds : List Da
def OwnR (K : PySem.W.Frag) (w0 w : Wd) (d : Da) (x : V) : Prop := ∃ a, x = .ref a ∧ w0.H a = none ∧ ConR K w a d ∧ w.ow a ∧ a ∉ w.m
def RepR (K : PySem.W.Frag) (wf w w' : Wd) : Rv → V → Prop
  | .v d, x => Rep K w' d x
  | .fr d, x => OwnR K w w' d x
  | .bo d, x => OwnR K wf w' d x
def RepRs (K : PySem.W.Frag) (wf w w' : Wd) : List Rv → List V → Prop
  | [], [] => True
  | r :: rs, x :: xs => RepR K wf w w' r x ∧ RepRs K wf w w' rs xs
  | _, _ => False
def SlR (K : PySem.W.Frag) (wf w : Wd) : Sx → V → Prop
  | .v d, x => Rep K w d x
  | .own d s, x => OwnR K wf w d x ∧ (s = true → x = .ref wf.x)
  | .exn, _ => True
def XdR (K : PySem.W.Frag) (w : Wd) (dd : Option Addr) (e : Exn) : Prop := (∃ d fs, dd = some d ∧ w.H d = some (.xd fs) ∧ w.fz d ∧ fs.map (·.1) = e.ns ∧ Reps K w e.ds (fs.map (·.2))) ∨ (dd = none ∧ e.ns = [])
def RepX (K : PySem.W.Frag) (w : Wd) (e : Exn) (c : Value) (dd : Option Addr) : Prop := c = .ref (He.ga K e.C) ∧ XdR K w dd e
/-- what a raising way is to reach; the exception that is handled here: its object, its dict -/
structure Cw where
  W : WX
  ex : Option (Addr × Option Addr × Exn) := none
structure Sim (K : PySem.W.Frag) (W : Cw) (wf w : Wd) (S : Sto) (σd : Env) (σv : L2.St) : Prop where
  le : Le wf w
  st : StoR K w S
  ln : σd.length = σv.length
  sl : ∀ (i : Nat) x, σd[i]? = some (some x) → ∃ v, σv[i]? = some (some v) ∧ SlR K wf w x v
  dj : ∀ (i j : Nat) d e s s' a, i ≠ j → σd[i]? = some (some (.own d s)) → σd[j]? = some (some (.own e s')) → σv[i]? = some (some (.ref a)) → σv[j]? ≠ some (some (.ref a))
  cx : ∀ a d e, W.ex = some (a, d, e) → XdR K w d e ∧ ∀ i : Nat, σd[i]? = some (some .exn) → σv[i]? = some (some (.ref a))
theorem XdR.lf {K : PySem.W.Frag} {w w' : Wd} {d : Option Addr} {e : Exn} (h : XdR K w d e) (L : Lf w w') : XdR K w' d e := by
  rcases h with ⟨d, fs, h0, h1, h2, h3, h4⟩ | h
  · exact .inl ⟨d, fs, h0, (L.kp _ _ h1 h2).1, (L.kp _ _ h1 h2).2, h3, h4.lf L⟩
  · exact .inr h
section
variable {K : PySem.W.Frag} {W : Cw} {wf w w0 w1 w2 w' : Wd} {S S' : Sto} {σd : Env} {σv : L2.St} {d : Da} {x : V} {r : Rv}
theorem OwnR.le (h : OwnR K w0 w d x) (L : Le w w') : OwnR K w0 w' d x := by
  obtain ⟨a, e, n, c, o, m⟩ := h
  obtain ⟨u, eu⟩ := c.some
  obtain ⟨e1, n1, i1⟩ := L.kp a u eu m
  exact ⟨a, e, n, c.le L m, i1.mpr o, n1⟩
theorem OwnR.back (h : OwnR K w1 w d x) (L : Le w0 w1) (s : StoR K w1 S) : OwnR K w0 w d x := by
  obtain ⟨a, e, n, c, o, m⟩ := h
  exact ⟨a, e, L.none s n, c, o, m⟩
theorem RepR.le (h : RepR K wf w w1 r x) (L : Le w1 w2) : RepR K wf w w2 r x := by
  cases r with
  | v d => exact Rep.le L h
  | fr d => exact OwnR.le h L
  | bo d => exact OwnR.le h L
theorem RepR.back (h : RepR K wf w1 w2 r x) (L : Le w w1) (s : StoR K w1 S) : RepR K wf w w2 r x := by
  cases r with
  | v d => exact h
  | fr d => exact OwnR.back h L s
  | bo d => exact h
theorem RepRs.le (L : Le w1 w2) : ∀ {rs : List Rv} {xs : List V}, RepRs K wf w w1 rs xs → RepRs K wf w w2 rs xs
  | [], [], _ => True.intro
  | r :: rs, x :: xs, h => ⟨h.1.le L, RepRs.le L h.2⟩
  | [], _ :: _, h => h.elim
  | _ :: _, [], h => h.elim
theorem RepRs.back (L : Le w w1) (s : StoR K w1 S) : ∀ {rs : List Rv} {xs : List V}, RepRs K wf w1 w2 rs xs → RepRs K wf w w2 rs xs
  | [], [], _ => True.intro
  | r :: rs, x :: xs, h => ⟨h.1.back L s, RepRs.back L s h.2⟩
  | [], _ :: _, h => h.elim
  | _ :: _, [], h => h.elim
theorem SlR.le {y : Sx} (h : SlR K wf w y x) (L : Le w w') : SlR K wf w' y x := by
  cases y with
  | v d => exact Rep.le L h
  | own d s => exact ⟨OwnR.le h.1 L, h.2⟩
  | exn => exact True.intro
theorem Sim.step (s : Sim K W wf w S σd σv) (L : Le w w') (st : StoR K w' S') : Sim K W wf w' S' σd σv := ⟨s.le.trans L, st, s.ln, fun i x e => by
  obtain ⟨v, e1, r⟩ := s.sl i x e
  exact ⟨v, e1, r.le L⟩, s.dj, fun a d e h => ⟨(s.cx a d e h).1.lf L.lf, (s.cx a d e h).2⟩⟩
def Rv.toD : Rv → Option Da
  | .v d => some d
  | .fr d => some d
  | .bo _ => none
def toDs : List Rv → Option (List Da)
  | [] => some []
  | r :: rs => match r.toD, toDs rs with
    | some d, some ds => some (d :: ds)
    | _, _ => none
theorem OwnR.frz (h : OwnR K w w' d x) : Rep K (w.frz w') d x := by
  obtain ⟨a, rfl, n, c, o, m⟩ := h
  exact (c.lf lf_frz fun _ e => e).rep ⟨m, fun z => z.2 n⟩
theorem RepR.frz (h : RepR K wf w w' r x) (e : r.toD = some d) : Rep K (w.frz w') d x := by
  cases r with
  | v d' => cases e; exact Rep.lf lf_frz h
  | fr d' => cases e; exact OwnR.frz h
  | bo d' => cases e
theorem RepRs.frz : ∀ {rs : List Rv} {xs : List V} {ds : List Da}, RepRs K wf w w' rs xs → toDs rs = some ds → Reps K (w.frz w') ds xs
  | [], [], ds, _, e => by cases e; exact .nil
  | r :: rs, x :: xs, ds, h, e => by
    unfold toDs at e
    cases e1 : r.toD with
    | none => rw [e1] at e; cases e
    | some d =>
      cases e2 : toDs rs with
      | none => rw [e1, e2] at e; cases e
      | some es =>
        rw [e1, e2] at e; cases e
        exact .cons (h.1.frz e1) (RepRs.frz h.2 e2)
  | [], _ :: _, _, h, _ => h.elim
  | _ :: _, [], _, h, _ => h.elim
end
/-! ## evaluations -/
inductive Ev (α : Type) where
  | ok (a : α) (S : Sto) | ex (e : Exn) (S : Sto) | bad
def Ev.bd {α β : Type} : Ev α → (α → Sto → Ev β) → Ev β
  | .ok a S, f => f a S
  | .ex e S, _ => .ex e S
  | .bad, _ => .bad
abbrev FE := Env → Sto → Ev Rv
abbrev FA := Env → Sto → Ev (List Rv)
abbrev FT := Env → Sto → Ev Bool
abbrev FI := Env → Sto → Ev (List Da)
abbrev Fn := List Da → Sto → Ev Rv
inductive So where
  | nx (σ : Env) (S : Sto) | rt (r : Rv) (S : Sto) | bk (σ : Env) (S : Sto) | ct (σ : Env) (S : Sto) | ex (e : Exn) (σ : Env) (S : Sto) | bad
abbrev FS := Env → Sto → So
abbrev FG := Da → Env → Option Env
def Po {α : Type} (P : α → Sto → Prop) (X : Exn → Sto → Prop) : Ev α → Prop
  | .ok a S => P a S
  | .ex e S => X e S
  | .bad => False
theorem Lf.refl (w : Wd) : Lf w w := (Le.refl w).lf
theorem Lf.trans {w w' w'' : Wd} (a : Lf w w') (b : Lf w' w'') : Lf w w'' := ⟨a.pre.trans b.pre, fun c o e n => by
  obtain ⟨e1, n1⟩ := a.kp c o e n
  exact b.kp c o e1 n1⟩
section
variable (K : PySem.W.Frag) (W : Cw)
def XP (w : Wd) (σv : L2.St) : Exn → Sto → Prop := fun e S' => ∀ w' c dd, Le w w' → StoR K w' S' → RepX K w' e c dd → W.W c dd σv w'.H
abbrev PostE (wf w : Wd) (σv : L2.St) (Q : VK) : Ev Rv → Prop := Po (fun r S' => ∀ w' v, Le w w' → StoR K w' S' → RepR K wf w w' r v → Q v w'.H) (XP K W w σv)
abbrev PostA (wf w : Wd) (σv : L2.St) (Q : List V → Hp → Prop) : Ev (List Rv) → Prop := Po (fun rs S' => ∀ w' vs, Le w w' → StoR K w' S' → RepRs K wf w w' rs vs → Q vs w'.H) (XP K W w σv)
abbrev PostT (w : Wd) (σv : L2.St) (Q : Bool → Hp → Prop) : Ev Bool → Prop := Po (fun b S' => ∀ w', Le w w' → StoR K w' S' → Q b w'.H) (XP K W w σv)
abbrev PostO (w : Wd) (σv : L2.St) (Q : Option Int → Hp → Prop) : Ev (Option Int) → Prop := Po (fun b S' => ∀ w', Le w w' → StoR K w' S' → Q b w'.H) (XP K W w σv)
def PostS (wf w0 : Wd) (D : Ends) : So → Prop
  | .nx σd S => ∀ w σv, Lf w0 w → Sim K W wf w S σd σv → D.nx σv w.H
  | .bk σd S => ∀ w σv, Lf w0 w → Sim K W wf w S σd σv → D.bk σv w.H
  | .ct σd S => ∀ w σv, Lf w0 w → Sim K W wf w S σd σv → D.ct σv w.H
  | .rt r S => ∀ w v, Le wf w → StoR K w S → RepR K wf wf w r v → D.rt v w.H
  | .ex e σd S => ∀ w σv c dd, Lf w0 w → Sim K W wf w S σd σv → RepX K w e c dd → W.W c dd σv w.H
  | .bad => False
def SndE (te : TE) (fe : FE) : Prop := ∀ wf w S σd σv Q, Sim K W wf w S σd σv → PostE K W wf w σv Q (fe σd S) → te σv w.H Q
def SndA (ta : TA) (fa : FA) : Prop := ∀ wf w S σd σv Q, Sim K W wf w S σd σv → PostA K W wf w σv Q (fa σd S) → ta σv w.H Q
def SndT (tt : TT) (ft : FT) : Prop := ∀ wf w S σd σv Q, Sim K W wf w S σd σv → PostT K W w σv Q (ft σd S) → tt σv w.H Q
def SndO (tt : TO) (fo : Env → Sto → Ev (Option Int)) : Prop := ∀ wf w S σd σv Q, Sim K W wf w S σd σv → PostO K W w σv Q (fo σd S) → tt σv w.H Q
def SndS (t : TS) (f : FS) : Prop := ∀ wf w S σd σv D, Sim K W wf w S σd σv → PostS K W wf w D (f σd S) → t D σv w.H
end
section
variable {K : PySem.W.Frag} {W : Cw} {wf w w0 : Wd} {S : Sto} {σd : Env} {σv : L2.St} {β : Type} {P : β → Sto → Prop}
theorem XP.mono {e : Exn} (L : Le w0 w) (h : XP K W w0 σv e S) : XP K W w σv e S := fun w' c dd L' st R => h w' c dd (L.trans L') st R
theorem SndE.run {ta : TE} {fa : FE} {Q : VK} (ha : SndE K W ta fa) (L0 : Le w0 w) (s : Sim K W wf w S σd σv) {k : Rv → Sto → Ev β} (h : Po P (XP K W w0 σv) ((fa σd S).bd k))
    (hk : ∀ r S1 w1 v, Le w w1 → StoR K w1 S1 → RepR K wf w w1 r v → Po P (XP K W w0 σv) (k r S1) → Q v w1.H) : ta σv w.H Q := by
  refine ha wf w S σd σv Q s ?_
  revert h
  cases fa σd S with
  | ok r S1 => exact fun h w1 v L st R => hk r S1 w1 v L st R h
  | ex e S1 => exact fun h => XP.mono L0 h
  | bad => exact fun h => h
theorem SndA.run {ta : TA} {fa : FA} {Q : List V → Hp → Prop} (ha : SndA K W ta fa) (L0 : Le w0 w) (s : Sim K W wf w S σd σv) {k : List Rv → Sto → Ev β} (h : Po P (XP K W w0 σv) ((fa σd S).bd k))
    (hk : ∀ r S1 w1 v, Le w w1 → StoR K w1 S1 → RepRs K wf w w1 r v → Po P (XP K W w0 σv) (k r S1) → Q v w1.H) : ta σv w.H Q := by
  refine ha wf w S σd σv Q s ?_
  revert h
  cases fa σd S with
  | ok r S1 => exact fun h w1 v L st R => hk r S1 w1 v L st R h
  | ex e S1 => exact fun h => XP.mono L0 h
  | bad => exact fun h => h
theorem SndT.run {ta : TT} {fa : FT} {Q : Bool → Hp → Prop} (ha : SndT K W ta fa) (L0 : Le w0 w) (s : Sim K W wf w S σd σv) {k : Bool → Sto → Ev β} (h : Po P (XP K W w0 σv) ((fa σd S).bd k))
    (hk : ∀ r S1 w1, Le w w1 → StoR K w1 S1 → Po P (XP K W w0 σv) (k r S1) → Q r w1.H) : ta σv w.H Q := by
  refine ha wf w S σd σv Q s ?_
  revert h
  cases fa σd S with
  | ok r S1 => exact fun h w1 L st => hk r S1 w1 L st h
  | ex e S1 => exact fun h => XP.mono L0 h
  | bad => exact fun h => h
theorem SndO.run {ta : TO} {fa : Env → Sto → Ev (Option Int)} {Q : Option Int → Hp → Prop} (ha : SndO K W ta fa) (L0 : Le w0 w) (s : Sim K W wf w S σd σv) {k : Option Int → Sto → Ev β} (h : Po P (XP K W w0 σv) ((fa σd S).bd k))
    (hk : ∀ r S1 w1, Le w w1 → StoR K w1 S1 → Po P (XP K W w0 σv) (k r S1) → Q r w1.H) : ta σv w.H Q := by
  refine ha wf w S σd σv Q s ?_
  revert h
  cases fa σd S with
  | ok r S1 => exact fun h w1 L st => hk r S1 w1 L st h
  | ex e S1 => exact fun h => XP.mono L0 h
  | bad => exact fun h => h
end
end Cl

/-! ## Fun2 -/
namespace Cl
open PySem PySem.Spec PyProof.Rows L2
/-! ## expressions -/
section
variable {K : PySem.W.Frag} {W : Cw}
def fVar (i : Nat) : FE := fun σ S => match σ[i]? with
  | some (some (.v d)) => .ok (.v d) S
  | some (some (.own d _)) => .ok (.bo d) S
  | _ => .bad
theorem snd_var {i : Nat} : SndE K W (tVar i) (fVar i) := by
  intro wf w S σd σv Q s h
  unfold fVar at h
  split at h
  · rename_i d e
    obtain ⟨v, e1, r⟩ := s.sl i _ e
    exact ⟨v, e1, h w v (Le.refl _) s.st r⟩
  · rename_i d _ e
    obtain ⟨v, e1, r⟩ := s.sl i _ e
    exact ⟨v, e1, h w v (Le.refl _) s.st r.1⟩
  · exact h.elim
def fC (d : Da) : FE := fun _ S => .ok (.v d) S
theorem snd_c {d : Da} {v : V} (hr : ∀ w, Rep K w d v) : SndE K W (tC v) (fC d) := fun wf w S σd σv Q s h => h w v (Le.refl _) s.st (hr w)
/-- what can be read at a result -/
def Rv.rd : Rv → Sto → Da
  | .v (.cell n), S => S.getD n .non
  | .v d, _ => d
  | .fr d, _ => d
  | .bo d, _ => d
def Da.sv : Da → Option V
  | .non => some .non
  | .bl b => some (.bl b)
  | .int i => some (.int i)
  | .str s => some (.str s)
  | _ => none
def svs : List Da → Option (List V)
  | [] => some []
  | d :: ds => match d.sv, svs ds with
    | some x, some xs => some (x :: xs)
    | _, _ => none
section
variable {wf w w0 : Wd} {S : Sto} {r : Rv} {x : V}
theorem rep_sv {d : Da} {v u : V} (h : Rep K w d v) (e : d.sv = some u) : v = u := by
  cases h <;> first | (cases e; rfl) | cases e
theorem reps_svs : ∀ {ds : List Da} {vs us : List V}, Reps K w ds vs → svs ds = some us → vs = us
  | _, _, us, .nil, e => by cases e; rfl
  | _, _, us, .cons h r, e => by
    rename_i d v ds vs
    unfold svs at e
    cases e1 : d.sv with
    | none => rw [e1] at e; cases e
    | some u =>
      cases e2 : svs ds with
      | none => rw [e1, e2] at e; cases e
      | some us' =>
        rw [e1, e2] at e; cases e
        rw [rep_sv h e1, reps_svs r e2]
theorem cell_at (st : StoR K w S) {n : Nat} {a : Addr} (h : w.m[n]? = some a) {d : Da} (hn : d ≠ .non) (e : S.getD n .non = d) : ConR K w a d := by
  rw [List.getD_eq_getElem?_getD] at e
  cases e2 : S[n]? with
  | none => rw [e2] at e; exact absurd e.symm hn
  | some c => rw [e2] at e; exact st.at_ n a d h (by rw [e2]; exact congrArg some e)
theorem conOf (st : StoR K w S) (h : RepR K wf w0 w r x) {d : Da} (e : r.rd S = d) (hd : match d with | .lst _ => True | .obj _ _ _ => True | .dic _ _ => True | _ => False) : ∃ a, x = .ref a ∧ ConR K w a d := by
  cases r with
  | v d' =>
    cases d' with
    | cell n =>
      cases h with
      | cell hm => exact ⟨_, rfl, cell_at st hm (by rintro rfl; exact hd) e⟩
    | lst ds => cases e; cases h with | lst e f r => exact ⟨_, rfl, _, e, r⟩
    | obj C ns ds => cases e; cases h with | obj e f en r => exact ⟨_, rfl, _, _, e, en, r⟩
    | dic ks ds => cases e; cases h with | dic e f en r => exact ⟨_, rfl, _, e, en, r⟩
    | _ => cases e; exact hd.elim
  | fr d' => cases e; obtain ⟨a, e, _, c, _⟩ := h; exact ⟨a, e, c⟩
  | bo d' => cases e; obtain ⟨a, e, _, c, _⟩ := h; exact ⟨a, e, c⟩
theorem lstOf (st : StoR K w S) (h : RepR K wf w0 w r x) {ds : List Da} (e : r.rd S = .lst ds) : ∃ a vs, x = .ref a ∧ w.H a = some (.lst vs) ∧ Reps K w ds vs := by
  obtain ⟨a, e1, vs, h1, h2⟩ := conOf st h e True.intro
  exact ⟨a, vs, e1, h1, h2⟩
theorem objOf (st : StoR K w S) (h : RepR K wf w0 w r x) {C : Str} {ns : List Str} {ds : List Da} (e : r.rd S = .obj C ns ds) : ∃ a dx fs, x = .ref a ∧ w.H a = some (.ins (He.ga K C) dx fs) ∧ fs.map (·.1) = ns ∧ Reps K w ds (fs.map (·.2)) := by
  obtain ⟨a, e1, dx, fs, h1, h2⟩ := conOf st h e True.intro
  exact ⟨a, dx, fs, e1, h1, h2⟩
theorem dicOf (st : StoR K w S) (h : RepR K wf w0 w r x) {ks : List Key} {ds : List Da} (e : r.rd S = .dic ks ds) : ∃ a kvs, x = .ref a ∧ w.H a = some (.dK kvs) ∧ kvs.map (·.1) = ks ∧ Reps K w ds (kvs.map (·.2)) := by
  obtain ⟨a, e1, kvs, h1, h2⟩ := conOf st h e True.intro
  exact ⟨a, kvs, e1, h1, h2⟩
theorem FzT.sq {a : Addr} {vs : List V} (h : FzT K w a vs) : SqT K w.H a vs := h.elim (fun h => .inl h.1) .inr
theorem FzL.sq {a : Addr} {vs : List V} (h : FzL K w a vs) : SqL K w.H a vs := h.elim (fun h => .inl h.1) .inr
theorem tup_never (st : StoR K w S) {n : Nat} {a : Addr} (h : w.m[n]? = some a) {ds : List Da} (e : S.getD n .non = .tup ds) : False := cell_at st h (by intro z; cases z) e
theorem tupOf (st : StoR K w S) (h : RepR K wf w0 w r x) {ds : List Da} (e : r.rd S = .tup ds) : ∃ a vs, x = .ref a ∧ FzT K w a vs ∧ Reps K w ds vs := by
  cases r with
  | v d' =>
    cases d' with
    | cell n => cases h with | cell hm => exact (tup_never st hm e).elim
    | tup ds => cases e; cases h with | tup f r => exact ⟨_, _, rfl, f, r⟩
    | _ => cases e
  | fr d' => cases e; obtain ⟨a, e, _, c, _⟩ := h; exact c.elim
  | bo d' => cases e; obtain ⟨a, e, _, c, _⟩ := h; exact c.elim
theorem frlOf (st : StoR K w S) (h : RepR K wf w0 w r x) {ns : List Int} (e : r.rd S = .frl ns) : ∃ a, x = .ref a ∧ SqL K w.H a (ns.map V.int) := by
  cases r with
  | v d' =>
    cases d' with
    | cell n => cases h with | cell hm => exact (cell_at st hm (by intro z; cases z) e : False).elim
    | frl ns => cases e; cases h with | frl e => exact ⟨_, rfl, e.sq⟩
    | _ => cases e
  | fr d' => cases e; obtain ⟨a, e, _, c, _⟩ := h; exact c.elim
  | bo d' => cases e; obtain ⟨a, e, _, c, _⟩ := h; exact c.elim
end
/-! ### operations -/
abbrev FO2 := Rv → Rv → Sto → Ev Rv
variable (K W) in
def OpS (r : R2) (o : FO2) : Prop := ∀ {wf w w2 : Wd} {S : Sto} {σd : Env} {σv : L2.St} {r1 r2 : Rv} {v1 v2 : V} {Q : VK}, Sim K W wf w2 S σd σv → Le w w2 → RepR K wf w w2 r1 v1 → RepR K wf w w2 r2 v2 → PostE K W wf w σv Q (o r1 r2 S) → r v1 v2 w2.H Q
def fOp (o : FO2) (fa fb : FE) : FE := fun σ S => (fa σ S).bd fun r1 S1 => (fb σ S1).bd fun r2 S2 => o r1 r2 S2
theorem snd_op {r : R2} {o : FO2} {ta tb : TE} {fa fb : FE} (ho : OpS K W r o) (ha : SndE K W ta fa) (hb : SndE K W tb fb) : SndE K W (tOp r ta tb) (fOp o fa fb) := by
  intro wf w S σd σv Q s h
  refine ha.run (Le.refl w) s h fun r1 S1 w1 v1 L1 st1 R1 h1 => hb.run L1 (s.step L1 st1) h1 fun r2 S2 w2 v2 L2 st2 R2 h2 => ?_
  exact ho (s.step (L1.trans L2) st2) (L1.trans L2) (R1.le L2) (R2.back L1 st1) h2
def oI0 (g : Int → Int → Da) : FO2
  | .v (.int a), .v (.int b), S => .ok (.v (g a b)) S
  | _, _, _ => .bad
theorem op_I0 {g : Int → Int → Da} {gv : Int → Int → V} (hg : ∀ w a b, Rep K w (g a b) (gv a b)) : OpS K W (rI0 gv) (oI0 g) := by
  intro wf w w2 S σd σv r1 r2 v1 v2 Q s L R1 R2 h
  unfold oI0 at h
  split at h
  · cases R1; cases R2
    exact ⟨_, _, rfl, rfl, h w2 _ L s.st (hg _ _ _)⟩
  · exact h.elim
def oI (C : Int → Int → Bool) (g : Int → Int → Da) : FO2
  | .v (.int a), .v (.int b), S => if C a b = true then .ok (.v (g a b)) S else .bad
  | _, _, _ => .bad
theorem op_I {C : Int → Int → Bool} {P : Int → Int → Prop} {g : Int → Int → Da} {gv : Int → Int → V} (hc : ∀ a b, C a b = true → P a b) (hg : ∀ w a b, Rep K w (g a b) (gv a b)) : OpS K W (rI P gv) (oI C g) := by
  intro wf w w2 S σd σv r1 r2 v1 v2 Q s L R1 R2 h
  unfold oI at h
  split at h
  · rename_i a b
    by_cases e : C a b = true
    · rw [if_pos e] at h
      cases R1; cases R2
      exact ⟨_, _, rfl, rfl, hc _ _ e, h w2 _ L s.st (hg _ _ _)⟩
    · rw [if_neg e] at h; exact h.elim
  · exact h.elim
abbrev xAdd : FO2 := oI0 fun a b => .int (a + b)
abbrev xSub : FO2 := oI0 fun a b => .int (a - b)
abbrev xLt : FO2 := oI0 fun a b => .bl (decide (a < b))
abbrev xLe : FO2 := oI0 fun a b => .bl (decide (a ≤ b))
abbrev xGt : FO2 := oI0 fun a b => .bl (decide (b < a))
abbrev xGe : FO2 := oI0 fun a b => .bl (decide (b ≤ a))
def cMul (a b : Int) : Bool := decide ((-18446744073709551616 < a ∧ a < 18446744073709551616) ∨ (-18446744073709551616 < b ∧ b < 18446744073709551616))
def cDiv (_ b : Int) : Bool := decide (0 < b ∧ b < 4611686018427387904)
def cMod (_ b : Int) : Bool := decide (0 < b)
def cPow (a b : Int) : Bool := decide (0 ≤ b ∧ b ≤ 1000000 ∧ a.natAbs < 18446744073709551616)
abbrev xMul : FO2 := oI cMul fun a b => .int (a * b)
abbrev xDiv : FO2 := oI cDiv fun a b => .int (a / b)
abbrev xMod : FO2 := oI cMod fun a b => .int (a % b)
abbrev xPow : FO2 := oI cPow fun a b => .int (a ^ b.toNat)
theorem sAdd : OpS K W oAdd xAdd := op_I0 fun _ _ _ => .int _
theorem sSub : OpS K W oSub xSub := op_I0 fun _ _ _ => .int _
theorem sLt : OpS K W oLt xLt := op_I0 fun _ _ _ => .bl _
theorem sLe : OpS K W oLe xLe := op_I0 fun _ _ _ => .bl _
theorem sGt : OpS K W oGt xGt := op_I0 fun _ _ _ => .bl _
theorem sGe : OpS K W oGe xGe := op_I0 fun _ _ _ => .bl _
theorem sMul : OpS K W oMul xMul := op_I (fun a b h => by unfold cMul at h; have := of_decide_eq_true h; show (-(2 ^ 64) < a ∧ a < 2 ^ 64) ∨ (-(2 ^ 64) < b ∧ b < 2 ^ 64); omega) fun _ _ _ => .int _
theorem sDiv : OpS K W oDiv xDiv := op_I (fun a b h => by unfold cDiv at h; have h2 := of_decide_eq_true h; exact h2) fun _ _ _ => .int _
theorem sMod : OpS K W oMod xMod := op_I (fun a b h => by unfold cMod at h; exact of_decide_eq_true h) fun _ _ _ => .int _
theorem pow64 : (2 : Nat) ^ 64 = 18446744073709551616 := by decide
theorem sPow : OpS K W oPow xPow := op_I (fun a b h => by
  unfold cPow at h
  have h2 := of_decide_eq_true h
  refine ⟨h2.1, h2.2.1, ?_⟩
  rw [pow64]; exact h2.2.2) fun _ _ _ => .int _
/-- == of scalars -/
def xEq (neg : Bool) : FO2
  | .v d, .v e, S => match d.sv, e.sv with
    | some x, some y => if scal x y = true then .ok (.v (.bl (if neg then !decide (x = y) else decide (x = y)))) S else .bad
    | _, _ => .bad
  | _, _, _ => .bad
theorem eq_core {wf w w2 : Wd} {S : Sto} {σv : L2.St} {neg : Bool} {r1 r2 : Rv} {v1 v2 : V} {Q : VK} (st : StoR K w2 S) (L : Le w w2) (R1 : RepR K wf w w2 r1 v1) (R2 : RepR K wf w w2 r2 v2) (h : PostE K W wf w σv Q (xEq neg r1 r2 S)) :
    scal v1 v2 = true ∧ Q (.bl (if neg then !decide (v1 = v2) else decide (v1 = v2))) w2.H := by
  unfold xEq at h
  split at h
  · rename_i d e
    cases e1 : d.sv with
    | none => rw [e1] at h; exact h.elim
    | some x =>
      cases e2 : e.sv with
      | none => rw [e1, e2] at h; exact h.elim
      | some y =>
        rw [e1, e2] at h
        have x1 : v1 = x := rep_sv R1 e1
        have x2 : v2 = y := rep_sv R2 e2
        subst x1 x2
        by_cases hs : scal v1 v2 = true
        · simp only [hs, if_true] at h
          exact ⟨hs, h w2 _ L st (.bl _)⟩
        · simp only [hs] at h; exact h.elim
  · exact h.elim
theorem sEq : OpS K W rEq (xEq false) := fun s L R1 R2 h => eq_core s.st L R1 R2 h
theorem sNe : OpS K W rNe (xEq true) := fun s L R1 R2 h => eq_core s.st L R1 R2 h
def Rv.isN : Rv → Option Bool
  | .v .non => some true
  | _ => some false
def xIsN (neg : Bool) : FO2 := fun r1 r2 S => match r1.isN, r2 with
  | some b, .v .non => .ok (.v (.bl (if neg then !b else b))) S
  | _, _ => .bad
theorem isN_dec {wf w w2 : Wd} {r : Rv} {v : V} {b : Bool} (R : RepR K wf w w2 r v) (e : r.isN = some b) : decide (v = .non) = b := by
  cases r with
  | v d => cases R <;> cases e <;> rfl
  | fr d => cases e; obtain ⟨a, rfl, _⟩ := R; rfl
  | bo d => cases e; obtain ⟨a, rfl, _⟩ := R; rfl
theorem isN_core {wf w w2 : Wd} {S : Sto} {σv : L2.St} {neg : Bool} {r1 r2 : Rv} {v1 v2 : V} {Q : VK} (st : StoR K w2 S) (L : Le w w2) (R1 : RepR K wf w w2 r1 v1) (R2 : RepR K wf w w2 r2 v2) (h : PostE K W wf w σv Q (xIsN neg r1 r2 S)) :
    v2 = .non ∧ Q (.bl (if neg then !decide (v1 = .non) else decide (v1 = .non))) w2.H := by
  unfold xIsN at h
  split at h
  · rename_i e
    cases R2
    rw [isN_dec R1 e]
    exact ⟨rfl, h w2 _ L st (.bl _)⟩
  · exact h.elim
theorem sIsN : OpS K W rIsN (xIsN false) := fun s L R1 R2 h => isN_core s.st L R1 R2 h
theorem sNotN : OpS K W rNotN (xIsN true) := fun s L R1 R2 h => isN_core s.st L R1 R2 h
/-! ### items -/
theorem reps_atI {w : Wd} {ds : List Da} {vs : List V} (h : Reps K w ds vs) {i : Int} {d : Da} (e : atI ds i = some d) : ∃ v, atI vs i = some v ∧ Rep K w d v := by
  unfold atI at e ⊢
  rw [h.length]
  cases e1 : ixN ds.length i with
  | none => rw [e1] at e; cases e
  | some j => rw [e1] at e; exact h.at e
/-- the items of a sequence -/
def Da.items : Da → Option (List Da)
  | .lst ds => some ds
  | .tup ds => some ds
  | .frl ns => some (ns.map .int)
  | _ => none
def xIx (l t : Bool) : FO2 := fun r1 r2 S => match r1.rd S, r2 with
  | .lst ds, .v (.int i) => match l, atI ds i with
    | true, some d => .ok (.v d) S
    | _, _ => .bad
  | .frl ns, .v (.int i) => match l, atI ns i with
    | true, some n => .ok (.v (.int n)) S
    | _, _ => .bad
  | .tup ds, .v (.int i) => match t, atI ds i with
    | true, some d => .ok (.v d) S
    | _, _ => .bad
  | _, _ => .bad
theorem atI_map {α β : Type} {f : α → β} {xs : List α} {i : Int} {x : α} (e : atI xs i = some x) : atI (xs.map f) i = some (f x) := by
  unfold atI at e ⊢
  rw [List.length_map]
  cases e1 : ixN xs.length i with
  | none => rw [e1] at e; cases e
  | some j => rw [e1] at e; show (xs.map f)[j]? = _; rw [List.getElem?_map, show xs[j]? = some x from e]; rfl
theorem ix_core {wf w w2 : Wd} {S : Sto} {σd : Env} {σv : L2.St} {l t : Bool} {r1 r2 : Rv} {v1 v2 : V} {Q : VK} (s : Sim K W wf w2 S σd σv) (L : Le w w2) (R1 : RepR K wf w w2 r1 v1) (R2 : RepR K wf w w2 r2 v2) (h : PostE K W wf w σv Q (xIx l t r1 r2 S)) :
    (l = true ∧ rIxL K v1 v2 w2.H Q) ∨ (t = true ∧ rIxT K v1 v2 w2.H Q) := by
  unfold xIx at h
  split at h
  · rename_i ds i e
    obtain ⟨a, vs, rfl, h1, h2⟩ := lstOf s.st R1 e
    split at h
    · rename_i d e2
      obtain ⟨v, h3, h4⟩ := reps_atI h2 e2
      cases R2
      exact .inl ⟨rfl, a, vs, _, v, rfl, rfl, SqL.of h1, h3, h w2 v L s.st h4⟩
    · exact h.elim
  · rename_i ns i e
    obtain ⟨a, rfl, h1⟩ := frlOf s.st R1 e
    split at h
    · rename_i n e2
      cases R2
      exact .inl ⟨rfl, a, _, _, _, rfl, rfl, h1, atI_map e2, h w2 _ L s.st (.int _)⟩
    · exact h.elim
  · rename_i ds i e
    obtain ⟨a, vs, rfl, h1, h2⟩ := tupOf s.st R1 e
    split at h
    · rename_i d e2
      obtain ⟨v, h3, h4⟩ := reps_atI h2 e2
      cases R2
      exact .inr ⟨rfl, a, vs, _, v, rfl, rfl, h1.sq, h3, h w2 v L s.st h4⟩
    · exact h.elim
  · exact h.elim
theorem sIxL : OpS K W (rIxL K) (xIx true false) := fun s L R1 R2 h => (ix_core s L R1 R2 h).elim (·.2) fun z => by cases z.1
theorem sIxT : OpS K W (rIxT K) (xIx false true) := fun s L R1 R2 h => (ix_core s L R1 R2 h).elim (fun z => by cases z.1) (·.2)
theorem sIx : OpS K W (rIx K) (xIx true true) := fun s L R1 R2 h => (ix_core s L R1 R2 h).elim (fun z => .inl z.2) fun z => .inr (.inl z.2)
def xIxS : FO2
  | .v (.str z), .v (.int i), S => match atI z.cps.toList i with
    | some c => if z.length ≤ 1000000 then .ok (.v (.str ⟨#[c]⟩)) S else .bad
    | none => .bad
  | _, _, _ => .bad
theorem sz_le {n : Nat} (h : n ≤ 1000000) : n ≤ sizeLine := Nat.le_of_lt (sz_lt h)
theorem sIxS : OpS K W rIxS xIxS := by
  intro wf w w2 S σd σv r1 r2 v1 v2 Q s L R1 R2 h
  unfold xIxS at h
  split at h
  · split at h
    · rename_i z i _ c e
      by_cases hz : z.length ≤ 1000000
      · rw [if_pos hz] at h
        cases R1; cases R2
        exact ⟨z, i, c, rfl, rfl, sz_le hz, e, h w2 _ L s.st (.str _)⟩
      · rw [if_neg hz] at h; exact h.elim
    · exact h.elim
  · exact h.elim
/-- texts: + -/
def xAddS : FO2
  | .v (.str a), .v (.str b), S => if a.length + b.length ≤ 1000000 then .ok (.v (.str (a ++ b))) S else .bad
  | _, _, _ => .bad
def rAddStr : R2 := fun x y H Q => ∃ i j, x = .str i ∧ y = .str j ∧ i.length + j.length ≤ sizeLine ∧ Q (.str (i ++ j)) H
theorem sAddS : OpS K W rAddStr xAddS := by
  intro wf w w2 S σd σv r1 r2 v1 v2 Q s L R1 R2 h
  unfold xAddS at h
  split at h
  · rename_i a b
    by_cases hz : a.length + b.length ≤ 1000000
    · rw [if_pos hz] at h
      cases R1; cases R2
      exact ⟨a, b, rfl, rfl, sz_le hz, h w2 _ L s.st (.str _)⟩
    · rw [if_neg hz] at h; exact h.elim
  · exact h.elim
/-- c in z, one sign -/
def xInS (neg : Bool) : FO2
  | .v (.str a), .v (.str b), S => match a.cps.toList with
    | [c] => .ok (.v (.bl (if neg then !decide (c ∈ b.cps.toList) else decide (c ∈ b.cps.toList)))) S
    | _ => .bad
  | _, _, _ => .bad
theorem inS_core {wf w w2 : Wd} {S : Sto} {σv : L2.St} {neg : Bool} {r1 r2 : Rv} {v1 v2 : V} {Q : VK} (st : StoR K w2 S) (L : Le w w2) (R1 : RepR K wf w w2 r1 v1) (R2 : RepR K wf w w2 r2 v2) (h : PostE K W wf w σv Q (xInS neg r1 r2 S)) :
    ∃ (c : Nat) (z : Str), v1 = .str ⟨#[c]⟩ ∧ v2 = .str z ∧ Q (.bl (if neg then !decide (c ∈ z.cps.toList) else decide (c ∈ z.cps.toList))) w2.H := by
  unfold xInS at h
  split at h
  · rename_i a b
    split at h
    · rename_i c e
      cases R1; cases R2
      refine ⟨c, b, ?_, rfl, h w2 _ L st (.bl _)⟩
      obtain ⟨cps⟩ := a
      have e2 : cps = #[c] := by rw [← Array.toArray_toList (xs := cps)]; rw [show cps.toList = [c] from e]
      rw [e2]
    · exact h.elim
  · exact h.elim
theorem sInS : OpS K W rInS (xInS false) := fun s L R1 R2 h => inS_core s.st L R1 R2 h
theorem sNotInS : OpS K W rNotInS (xInS true) := fun s L R1 R2 h => inS_core s.st L R1 R2 h
/-- x in xs: flat -/
def xIn (neg : Bool) : FO2 := fun r1 r2 S => match r1, r2.rd S with
  | .v d, .lst ds => match d.sv, svs ds with
    | some x, some xs => if flatV x && xs.all flatV then .ok (.v (.bl (if neg then !inV x xs else inV x xs))) S else .bad
    | _, _ => .bad
  | .v d, .tup ds => match d.sv, svs ds with
    | some x, some xs => if flatV x && xs.all flatV then .ok (.v (.bl (if neg then !inV x xs else inV x xs))) S else .bad
    | _, _ => .bad
  | _, _ => .bad
theorem sIn {neg : Bool} : OpS K W (rIn K neg) (xIn neg) := by
  intro wf w w2 S σd σv r1 r2 v1 v2 Q s L R1 R2 h
  unfold xIn at h
  split at h
  · rename_i d ds e
    obtain ⟨a, vs, rfl, h1, h2⟩ := lstOf s.st R2 e
    split at h
    · rename_i x xs e1 e2
      have x1 : v1 = x := rep_sv R1 e1
      have x2 : vs = xs := reps_svs h2 e2
      subst x1 x2
      by_cases hf : (flatV v1 && vs.all flatV) = true
      · rw [if_pos hf] at h
        have hf' := hf
        simp only [Bool.and_eq_true] at hf'
        exact ⟨a, vs, rfl, .inl (SqL.of h1), hf'.1, hf'.2, h w2 _ L s.st (.bl _)⟩
      · rw [if_neg hf] at h; exact h.elim
    · exact h.elim
  · rename_i d ds e
    obtain ⟨a, vs, rfl, h1, h2⟩ := tupOf s.st R2 e
    split at h
    · rename_i x xs e1 e2
      have x1 : v1 = x := rep_sv R1 e1
      have x2 : vs = xs := reps_svs h2 e2
      subst x1 x2
      by_cases hf : (flatV v1 && vs.all flatV) = true
      · rw [if_pos hf] at h
        have hf' := hf
        simp only [Bool.and_eq_true] at hf'
        exact ⟨a, vs, rfl, .inr h1.sq, hf'.1, hf'.2, h w2 _ L s.st (.bl _)⟩
      · rw [if_neg hf] at h; exact h.elim
    · exact h.elim
  · exact h.elim
end
end Cl

/-! ## Fun3 -/
namespace Cl
open PySem PySem.Spec PyProof.Rows L2
section
variable {K : PySem.W.Frag} {W : Cw}
/-! ### truth of values, and, or, if -/
def Rv.bool : Rv → Option Bool
  | .v (.bl b) => some b
  | _ => none
theorem bool_of {wf w w2 : Wd} {r : Rv} {v : V} {b : Bool} (R : RepR K wf w w2 r v) (e : r.bool = some b) : v = .bl b := by
  cases r with
  | v d => cases R <;> cases e <;> rfl
  | fr d => cases e
  | bo d => cases e
def onB {α : Type} (r : Rv) (f : Bool → Ev α) : Ev α := match r.bool with
  | some b => f b
  | none => .bad
theorem onB_of {α : Type} {wf w w2 : Wd} {r : Rv} {v : V} {f : Bool → Ev α} {P : α → Sto → Prop} {X : Exn → Sto → Prop} (R : RepR K wf w w2 r v) (h : Po P X (onB r f)) : ∃ b, v = .bl b ∧ Po P X (f b) := by
  unfold onB at h
  cases e : r.bool with
  | none => rw [e] at h; exact h.elim
  | some b => rw [e] at h; exact ⟨b, bool_of R e, h⟩
def fNotV (fa : FE) : FE := fun σ S => (fa σ S).bd fun r S1 => onB r fun b => .ok (.v (.bl (!b))) S1
theorem snd_notV {ta : TE} {fa : FE} (ha : SndE K W ta fa) : SndE K W (tNotV ta) (fNotV fa) := by
  intro wf w S σd σv Q s h
  refine ha.run (Le.refl w) s h fun r1 S1 w1 v1 L1 st1 R1 h1 => ?_
  obtain ⟨b, rfl, h2⟩ := onB_of R1 h1
  exact ⟨b, rfl, h2 w1 _ L1 st1 (.bl _)⟩
def fAndV (fa fb : FE) : FE := fun σ S => (fa σ S).bd fun r S1 => onB r fun b => if b = true then fb σ S1 else .ok (.v (.bl false)) S1
theorem PostE.shift {wf w w1 : Wd} {S1 : Sto} {σv : L2.St} {Q : VK} {e : Ev Rv} (L : Le w w1) (st : StoR K w1 S1) (h : PostE K W wf w σv Q e) : PostE K W wf w1 σv Q e := by
  cases e with
  | ok r S' => exact fun w' v L' st' R => h w' v (L.trans L') st' (R.back L st)
  | ex e S' => exact XP.mono L h
  | bad => exact h
theorem PostT.shift {w w1 : Wd} {σv : L2.St} {Q : Bool → Hp → Prop} {e : Ev Bool} (L : Le w w1) (h : PostT K W w σv Q e) : PostT K W w1 σv Q e := by
  cases e with
  | ok r S' => exact fun w' L' st' => h w' (L.trans L') st'
  | ex e S' => exact XP.mono L h
  | bad => exact h
theorem snd_andV {ta tb : TE} {fa fb : FE} (ha : SndE K W ta fa) (hb : SndE K W tb fb) : SndE K W (tAndV ta tb) (fAndV fa fb) := by
  intro wf w S σd σv Q s h
  refine ha.run (Le.refl w) s h fun r1 S1 w1 v1 L1 st1 R1 h1 => ?_
  obtain ⟨b, rfl, h2⟩ := onB_of R1 h1
  refine ⟨b, rfl, ?_⟩
  cases b with
  | true => exact iteT (hb wf w1 S1 σd σv Q (s.step L1 st1) (PostE.shift L1 st1 (by simpa using h2)))
  | false => exact iteF (by simp only [Bool.false_eq_true, if_false] at h2; exact h2 w1 _ L1 st1 (.bl _))
def fOrV (fa fb : FE) : FE := fun σ S => (fa σ S).bd fun r S1 => onB r fun b => if b = true then .ok (.v (.bl true)) S1 else fb σ S1
theorem snd_orV {ta tb : TE} {fa fb : FE} (ha : SndE K W ta fa) (hb : SndE K W tb fb) : SndE K W (tOrV ta tb) (fOrV fa fb) := by
  intro wf w S σd σv Q s h
  refine ha.run (Le.refl w) s h fun r1 S1 w1 v1 L1 st1 R1 h1 => ?_
  obtain ⟨b, rfl, h2⟩ := onB_of R1 h1
  refine ⟨b, rfl, ?_⟩
  cases b with
  | true => exact iteT (by simp only [if_true] at h2; exact h2 w1 _ L1 st1 (.bl _))
  | false => exact iteF (hb wf w1 S1 σd σv Q (s.step L1 st1) (PostE.shift L1 st1 (by simpa using h2)))
def fIf (ft : FT) (fa fb : FE) : FE := fun σ S => (ft σ S).bd fun b S1 => if b = true then fa σ S1 else fb σ S1
theorem snd_if {tt : TT} {ft : FT} {ta tb : TE} {fa fb : FE} (ht : SndT K W tt ft) (ha : SndE K W ta fa) (hb : SndE K W tb fb) : SndE K W (tIf tt ta tb) (fIf ft fa fb) := by
  intro wf w S σd σv Q s h
  refine ht.run (Le.refl w) s h fun b S1 w1 L1 st1 h1 => ?_
  cases b with
  | true => exact iteT (ha wf w1 S1 σd σv Q (s.step L1 st1) (PostE.shift L1 st1 (by simpa using h1)))
  | false => exact iteF (hb wf w1 S1 σd σv Q (s.step L1 st1) (PostE.shift L1 st1 (by simpa using h1)))
/-! ### chains -/
def fChain (o o' : FO2) (fa fb fc : FE) : FE := fun σ S => (fa σ S).bd fun r1 S1 => (fb σ S1).bd fun r2 S2 => (o r1 r2 S2).bd fun z S3 => onB z fun k => if k = true then (fc σ S3).bd fun r3 S4 => o' r2 r3 S4 else .ok (.v (.bl false)) S3
/-- comparisons of ints -/
def isCmp (r : R2) (o : FO2) : Prop := ∃ p : Int → Int → Bool, r = rI0 (fun i j => .bl (p i j)) ∧ o = oI0 fun i j => .bl (p i j)
theorem cLt : isCmp oLt xLt := ⟨_, rfl, rfl⟩
theorem cLe : isCmp oLe xLe := ⟨_, rfl, rfl⟩
theorem cGt : isCmp oGt xGt := ⟨_, rfl, rfl⟩
theorem cGe : isCmp oGe xGe := ⟨_, rfl, rfl⟩
theorem cmp_run {β : Type} {p : Int → Int → Bool} {wf wa wb w2 : Wd} {S : Sto} {r1 r2 : Rv} {v1 v2 : V} {P : β → Sto → Prop} {X : Exn → Sto → Prop} {k : Rv → Sto → Ev β} (R1 : RepR K wf wa w2 r1 v1) (R2 : RepR K wf wb w2 r2 v2) (h : Po P X ((oI0 (fun i j => .bl (p i j)) r1 r2 S).bd k)) :
    ∃ i j, v1 = .int i ∧ v2 = .int j ∧ Po P X (k (.v (.bl (p i j))) S) := by
  unfold oI0 at h
  split at h
  · cases R1; cases R2; exact ⟨_, _, rfl, rfl, h⟩
  · exact h.elim
theorem snd_chain {r r' : R2} {o o' : FO2} {ta tb tc : TE} {fa fb fc : FE} (ho : isCmp r o) (ho' : OpS K W r' o') (ha : SndE K W ta fa) (hb : SndE K W tb fb) (hc : SndE K W tc fc) : SndE K W (tChain r r' ta tb tc) (fChain o o' fa fb fc) := by
  obtain ⟨p, rfl, rfl⟩ := ho
  intro wf w S σd σv Q s h
  refine ha.run (Le.refl w) s h fun r1 S1 w1 v1 L1 st1 R1 h1 => hb.run L1 (s.step L1 st1) h1 fun r2 S2 w2 v2 L2 st2 R2 h2 => ?_
  obtain ⟨i, j, rfl, rfl, h3⟩ := cmp_run (R1.le L2) R2 h2
  refine ⟨i, j, rfl, rfl, p i j, rfl, ?_⟩
  have h4 : Po _ _ (if p i j = true then (fc σd S2).bd fun r3 S4 => o' r2 r3 S4 else .ok (.v (.bl false)) S2) := h3
  cases hp : p i j with
  | true =>
    rw [hp, if_pos rfl] at h4
    exact iteT (hc.run (L1.trans L2) (s.step (L1.trans L2) st2) h4 fun r3 S3 w3 v3 L3 st3 R3 h5 => ho' (s.step ((L1.trans L2).trans L3) st3) ((L1.trans L2).trans L3) ((R2.back L1 st1).le L3) (R3.back (L1.trans L2) st2) h5)
  | false =>
    rw [hp, if_neg (by simp)] at h4
    exact iteF (h4 w2 _ (L1.trans L2) st2 (.bl _))
def fChain3 (o o' o'' : FO2) (fa fb fc fd : FE) : FE := fun σ S => (fa σ S).bd fun r1 S1 => (fb σ S1).bd fun r2 S2 => (o r1 r2 S2).bd fun z S3 => onB z fun k => if k = true then (fc σ S3).bd fun r3 S4 => (o' r2 r3 S4).bd fun z' S5 => onB z' fun k' => if k' = true then (fd σ S5).bd fun r4 S6 => o'' r3 r4 S6 else .ok (.v (.bl false)) S5 else .ok (.v (.bl false)) S3
theorem snd_chain3 {r r' r'' : R2} {o o' o'' : FO2} {ta tb tc td : TE} {fa fb fc fd : FE} (ho : isCmp r o) (ho' : isCmp r' o') (ho'' : OpS K W r'' o'') (ha : SndE K W ta fa) (hb : SndE K W tb fb) (hc : SndE K W tc fc) (hd : SndE K W td fd) : SndE K W (tChain3 r r' r'' ta tb tc td) (fChain3 o o' o'' fa fb fc fd) := by
  obtain ⟨p, rfl, rfl⟩ := ho
  obtain ⟨p', rfl, rfl⟩ := ho'
  intro wf w S σd σv Q s h
  refine ha.run (Le.refl w) s h fun r1 S1 w1 v1 L1 st1 R1 h1 => hb.run L1 (s.step L1 st1) h1 fun r2 S2 w2 v2 L2 st2 R2 h2 => ?_
  obtain ⟨i, j, rfl, rfl, h3⟩ := cmp_run (R1.le L2) R2 h2
  refine ⟨i, j, rfl, rfl, p i j, rfl, ?_⟩
  have L02 := L1.trans L2
  have h4 : Po _ _ (if p i j = true then (fc σd S2).bd fun r3 S4 => (oI0 (fun i j => .bl (p' i j)) r2 r3 S4).bd fun z' S5 => onB z' fun k' => if k' = true then (fd σd S5).bd fun r4 S6 => o'' r3 r4 S6 else .ok (.v (.bl false)) S5 else .ok (.v (.bl false)) S2) := h3
  cases hp : p i j with
  | true =>
    rw [hp, if_pos rfl] at h4
    refine iteT (hc.run L02 (s.step L02 st2) h4 fun r3 S3 w3 v3 L3 st3 R3 h5 => ?_)
    obtain ⟨j', k, e1, rfl, h6⟩ := cmp_run (R2.le L3) R3 h5
    cases e1
    refine ⟨j, k, rfl, rfl, p' j k, rfl, ?_⟩
    have L03 := L02.trans L3
    have h7 : Po _ _ (if p' j k = true then (fd σd S3).bd fun r4 S6 => o'' r3 r4 S6 else .ok (.v (.bl false)) S3) := h6
    cases hp' : p' j k with
    | true =>
      rw [hp', if_pos rfl] at h7
      exact iteT (hd.run L03 (s.step L03 st3) h7 fun r4 S4 w4 v4 L4 st4 R4 h8 => ho'' (s.step (L03.trans L4) st4) (L03.trans L4) ((R3.back L02 st2).le L4) (R4.back L03 st3) h8)
    | false =>
      rw [hp', if_neg (by simp)] at h7
      exact iteF (h7 w3 _ L03 st3 (.bl _))
  | false =>
    rw [hp, if_neg (by simp)] at h4
    exact iteF (h4 w2 _ L02 st2 (.bl _))
/-! ### argument lists -/
def fNil : FA := fun _ S => .ok [] S
def fCons (fe : FE) (fa : FA) : FA := fun σ S => (fe σ S).bd fun r S1 => (fa σ S1).bd fun rs S2 => .ok (r :: rs) S2
theorem snd_nil : SndA K W tNil fNil := fun wf w S σd σv Q s h => h w _ (Le.refl _) s.st True.intro
theorem snd_cons {te : TE} {fe : FE} {ta : TA} {fa : FA} (he : SndE K W te fe) (ha : SndA K W ta fa) : SndA K W (tCons te ta) (fCons fe fa) := by
  intro wf w S σd σv Q s h
  refine he.run (Le.refl w) s h fun r1 S1 w1 v1 L1 st1 R1 h1 => ha.run L1 (s.step L1 st1) h1 fun r2 S2 w2 v2 L2 st2 R2 h2 => ?_
  exact h2 w2 _ (L1.trans L2) st2 ⟨R1.le L2, R2.back L1 st1⟩
/-! ### new objects -/
theorem RepRs.length {wf w w' : Wd} : ∀ {rs : List Rv} {vs : List V}, RepRs K wf w w' rs vs → vs.length = rs.length
  | [], [], _ => rfl
  | r :: rs, v :: vs, h => by simp [RepRs.length h.2]
  | [], _ :: _, h => h.elim
  | _ :: _, [], h => h.elim
theorem rep_newT {w : Wd} {S : Sto} (st : StoR K w S) {p : Addr} {ds : List Da} {vs : List V} (hp : w.H p = none) (r : Reps K w ds vs) : Rep K (w.new p (.tup vs) False) (.tup ds) (.ref p) := by
  have f := st.fresh hp
  refine .tup (.inl ⟨.inl upd_same, f.1, fun z => z.elim (·.2) fun z => z.1 rfl⟩) (r.le (le_new hp))
theorem own_newL {w0 w : Wd} {S : Sto} (st : StoR K w S) {p : Addr} {ds : List Da} {vs : List V} (h0 : w0.H p = none) (hp : w.H p = none) (r : Reps K w ds vs) : OwnR K w0 (w.new p (.lst vs) True) (.lst ds) (.ref p) :=
  ⟨p, rfl, h0, ⟨vs, upd_same, r.le (le_new hp)⟩, .inl ⟨rfl, True.intro⟩, (st.fresh hp).1⟩
theorem toDs_len : ∀ {rs : List Rv} {ds : List Da}, toDs rs = some ds → ds.length = rs.length
  | [], _, e => by cases e; rfl
  | r :: rs, ds, e => by
    unfold toDs at e
    split at e
    · rename_i e2; cases e; simp [toDs_len e2]
    · cases e
def onDs {α : Type} (rs : List Rv) (f : List Da → Ev α) : Ev α := match toDs rs with
  | some ds => f ds
  | none => .bad
theorem onDs_of {α : Type} {rs : List Rv} {f : List Da → Ev α} {P : α → Sto → Prop} {X : Exn → Sto → Prop} (h : Po P X (onDs rs f)) : ∃ ds, toDs rs = some ds ∧ Po P X (f ds) := by
  unfold onDs at h
  cases e : toDs rs with
  | none => rw [e] at h; exact h.elim
  | some ds => rw [e] at h; exact ⟨ds, rfl, h⟩
def onD {α : Type} (r : Rv) (f : Da → Ev α) : Ev α := match r.toD with
  | some d => f d
  | none => .bad
theorem onD_of {α : Type} {r : Rv} {f : Da → Ev α} {P : α → Sto → Prop} {X : Exn → Sto → Prop} (h : Po P X (onD r f)) : ∃ d, r.toD = some d ∧ Po P X (f d) := by
  unfold onD at h
  cases e : r.toD with
  | none => rw [e] at h; exact h.elim
  | some d => rw [e] at h; exact ⟨d, rfl, h⟩
def fTup (fa : FA) : FE := fun σ S => (fa σ S).bd fun rs S1 => onDs rs fun ds => if ds.length ≤ 1000000 then .ok (.v (.tup ds)) S1 else .bad
theorem Po.ite {α : Type} {P : α → Sto → Prop} {X : Exn → Sto → Prop} {c : Prop} [Decidable c] {e : Ev α} (h : Po P X (if c then e else .bad)) : c ∧ Po P X e := by
  by_cases hc : c
  · rw [if_pos hc] at h; exact ⟨hc, h⟩
  · rw [if_neg hc] at h; exact h.elim
theorem snd_tup {ta : TA} {fa : FA} (ha : SndA K W ta fa) : SndE K W (tTup ta) (fTup fa) := by
  intro wf w S σd σv Q s h
  refine ha.run (Le.refl w) s h fun rs S1 w1 vs L1 st1 R1 h1 => ?_
  obtain ⟨ds, e, h2⟩ := onDs_of h1
  obtain ⟨hz, h3⟩ := h2.ite
  have R := R1.frz e
  have st : StoR K (w.frz w1) S1 := st1.frz
  refine ⟨by rw [R.length]; exact sz_le hz, fun p hp => ?_⟩
  exact h3 ((w.frz w1).new p (.tup vs) False) _ (L1.frz.trans (le_new hp)) (st.new hp) (rep_newT st hp R)
def fLst (fa : FA) : FE := fun σ S => (fa σ S).bd fun rs S1 => onDs rs fun ds => if ds.length ≤ 1000000 then .ok (.fr (.lst ds)) S1 else .bad
theorem snd_lst {ta : TA} {fa : FA} (ha : SndA K W ta fa) : SndE K W (tLst ta) (fLst fa) := by
  intro wf w S σd σv Q s h
  refine ha.run (Le.refl w) s h fun rs S1 w1 vs L1 st1 R1 h1 => ?_
  obtain ⟨ds, e, h2⟩ := onDs_of h1
  obtain ⟨hz, h3⟩ := h2.ite
  have R := R1.frz e
  have st : StoR K (w.frz w1) S1 := st1.frz
  refine ⟨by rw [R.length]; exact sz_le hz, fun p hp => ?_⟩
  exact h3 ((w.frz w1).new p (.lst vs) True) _ (L1.frz.trans (le_new hp)) (st.new hp) (own_newL st (L1.none st1 hp) hp R)
/-- a list becomes a cell -/
def fCell (fe : FE) : FE := fun σ S => (fe σ S).bd fun r S1 => match r with
  | .fr d => .ok (.v (.cell S1.length)) (S1 ++ [d])
  | _ => .bad
def Wd.cellAt (w : Wd) (a : Addr) : Wd := { H := w.H, m := w.m ++ [a], ow := fun b => w.ow b ∧ b ≠ a, x := w.x }
theorem lf_cell {w : Wd} {a : Addr} (ho : w.ow a) : Lf w (w.cellAt a) := by
  refine ⟨⟨[a], rfl⟩, fun b o e f => ⟨e, fun z => ?_, fun z => f.2 z.1⟩⟩
  rcases List.mem_append.mp z with z | z
  · exact f.1 z
  · have e2 : b = a := by simpa using z
    rw [e2] at f; exact f.2 ho
theorem snd_cell {te : TE} {fe : FE} (he : SndE K W te fe) : SndE K W te (fCell fe) := by
  intro wf w S σd σv Q s h
  refine he.run (Le.refl w) s h fun r S1 w1 v L1 st1 R1 h1 => ?_
  cases r with
  | v d => exact h1.elim
  | bo d => exact h1.elim
  | fr d =>
    obtain ⟨a, rfl, n, c, o, m⟩ := R1
    have lf := lf_cell o
    refine h1 (w1.cellAt a) _ ⟨L1.pre.trans ⟨[a], rfl⟩, fun b u e nb => ?_⟩ ⟨?_, ?_, fun k b d' e1 e2 => ?_, fun b hb => st1.own b hb.1, fun b hb z => ?_⟩ (.cell ?_)
    · obtain ⟨e1, n1, i1⟩ := L1.kp b u e nb
      have ne : b ≠ a := fun z => by rw [z, n] at e; cases e
      refine ⟨e1, fun z => ?_, ⟨fun z => i1.mp z.1, fun z => ⟨i1.mpr z, ne⟩⟩⟩
      rcases List.mem_append.mp z with z | z
      · exact n1 z
      · exact ne (by simpa using z)
    · show (w1.m ++ [a]).length = (S1 ++ [d]).length
      simp [st1.len]
    · show (w1.m ++ [a]).Nodup
      rw [List.nodup_append]
      exact ⟨st1.nd, by simp, fun x hx y hy z => m (by have e : y = a := by simpa using hy
                                                       rw [← e, ← z]; exact hx)⟩
    · have e1' : (w1.m ++ [a])[k]? = some b := e1
      by_cases hk : k < w1.m.length
      · rw [List.getElem?_append_left hk] at e1'
        rw [List.getElem?_append_left (by rw [← st1.len]; exact hk)] at e2
        exact (st1.at_ k b d' e1' e2).lf lf fun _ e => e
      · rw [List.getElem?_append_right (by omega)] at e1'
        rw [List.getElem?_append_right (by have := st1.len; omega), ← st1.len] at e2
        cases hk0 : k - w1.m.length with
        | zero =>
          rw [hk0] at e1' e2
          cases e1'; cases e2
          exact c.lf lf fun _ e => e
        | succ j => rw [hk0] at e1'; simp at e1'
    · rcases List.mem_append.mp (show b ∈ w1.m ++ [a] from hb) with y | y
      · exact st1.sep b y z.1
      · exact z.2 (by simpa using y)
    · show (w1.m ++ [a])[S1.length]? = some a
      rw [← st1.len]; simp
/-! ### + of lists and tuples -/
def xCat : FO2 := fun r1 r2 S => match r1.rd S, r2.rd S with
  | .lst ds, .lst es => if ds.length + es.length ≤ 1000000 then .ok (.fr (.lst (ds ++ es))) S else .bad
  | _, _ => .bad
theorem sCat : OpS K W rCat xCat := by
  intro wf w w2 S σd σv r1 r2 v1 v2 Q s L R1 R2 h
  unfold xCat at h
  split at h
  · rename_i ds es e1 e2
    obtain ⟨a, vs, rfl, h1, h2⟩ := lstOf s.st R1 e1
    obtain ⟨b, us, rfl, g1, g2⟩ := lstOf s.st R2 e2
    obtain ⟨hz, h3⟩ := h.ite
    refine ⟨a, b, vs, us, rfl, rfl, h1, g1, by rw [h2.length, g2.length]; exact sz_le hz, fun p hp => ?_⟩
    exact h3 (w2.new p (.lst (vs ++ us)) True) _ (L.trans (le_new hp)) (s.st.new hp) (own_newL s.st (L.none s.st hp) hp (h2.app g2))
  · exact h.elim
def xCatT : FO2 := fun r1 r2 S => match r1.rd S, r2.rd S with
  | .tup (d :: ds), .tup es => if (d :: ds).length + es.length ≤ 1000000 then .ok (.v (.tup ((d :: ds) ++ es))) S else .bad
  | _, _ => .bad
theorem sCatT : OpS K W (rCatT K) xCatT := by
  intro wf w w2 S σd σv r1 r2 v1 v2 Q s L R1 R2 h
  unfold xCatT at h
  split at h
  · rename_i d ds es e1 e2
    obtain ⟨a, vs, rfl, h1, h2⟩ := tupOf s.st R1 e1
    obtain ⟨b, us, rfl, g1, g2⟩ := tupOf s.st R2 e2
    obtain ⟨hz, h3⟩ := h.ite
    refine ⟨a, b, vs, us, rfl, rfl, h1.sq, g1.sq, (fun z => by subst z; cases h2), by rw [h2.length, g2.length]; exact sz_le hz, fun z => ?_, fun _ p hp => ?_⟩
    · subst z
      cases g2
      rw [List.append_nil] at h3
      exact h3 w2 _ L s.st (.tup h1 h2)
    · exact h3 (w2.new p (.tup (vs ++ us)) False) _ (L.trans (le_new hp)) (s.st.new hp) (rep_newT s.st hp (h2.app g2))
  · exact h.elim
def repN {α : Type} (ds : List α) : Nat → List α
  | 0 => []
  | n + 1 => ds ++ repN ds n
end
end Cl

/-! ## Fun4 -/
namespace Cl
open PySem PySem.Spec PyProof.Rows L2
/-! ### data -/
mutual
def Da.py : Da → Option PyData
  | .non => some .none
  | .bl b => some (.bool b)
  | .int i => some (.int i)
  | .str s => some (.str s)
  | .lst ds => match pys ds with
    | some ps => some (.list ps)
    | none => none
  | .tup ds => match pys ds with
    | some ps => some (.tuple ps)
    | none => none
  | .frl ns => some (.list (ns.map .int))
  | _ => none
def pys : List Da → Option (List PyData)
  | [] => some []
  | d :: ds => match d.py, pys ds with
    | some p, some ps => some (p :: ps)
    | _, _ => none
end
section
variable {K : PySem.W.Frag} {W : Cw}
theorem dp_ints {H : Hp} (ns : List Int) : DpAll K H (ns.map V.int) (ns.map .int) := by
  induction ns with
  | nil => exact .nil
  | cons n ns ih => exact .cons (.int n) ih
theorem dp_of {w : Wd} {d : Da} {v : V} {p : PyData} (h : Rep K w d v) (e : d.py = some p) : Dp K w.H v p := by
  revert p
  refine @Rep.rec K w (fun d v _ => ∀ {p}, d.py = some p → Dp K w.H v p) (fun ds vs _ => ∀ {ps}, pys ds = some ps → DpAll K w.H vs ps) ?_ ?_ ?_ ?_ ?_ ?_ ?_ ?_ ?_ ?_ ?_ ?_ d v h
  · intro p e; simp [Da.py] at e; subst e; exact .non
  · intro b p e; simp [Da.py] at e; subst e; exact .bl b
  · intro b p e; simp [Da.py] at e; subst e; exact .int b
  · intro b p e; simp [Da.py] at e; subst e; exact .str b
  · intro a vs ds f _ ih p e
    simp only [Da.py] at e
    split at e
    · rename_i e2; cases e; exact .tup f.sq (ih e2)
    · cases e
  · intro a vs ds e1 f _ ih p e
    simp only [Da.py] at e
    split at e
    · rename_i e2; cases e; exact .lst (SqL.of e1) (ih e2)
    · cases e
  · intro a ns e1 p e
    simp only [Da.py] at e
    cases e
    exact .lst e1.sq (dp_ints ns)
  · intro a dx C fs ns ds _ _ _ _ _ p e; simp [Da.py] at e
  · intro a kvs ks ds _ _ _ _ _ p e; simp [Da.py] at e
  · intro a n _ p e; simp [Da.py] at e
  · intro ps e; simp [pys] at e; subst e; exact .nil
  · intro d v ds vs _ _ i1 i2 ps e
    simp only [pys] at e
    split at e
    · rename_i e1 e2; cases e; exact .cons (i1 e1) (i2 e2)
    · cases e
theorem dps_of {w : Wd} : ∀ {ds : List Da} {vs : List V} {ps : List PyData}, Reps K w ds vs → pys ds = some ps → DpAll K w.H vs ps
  | _, _, ps, .nil, e => by simp [pys] at e; subst e; exact .nil
  | _, _, ps, .cons h r, e => by
    simp only [pys] at e
    split at e
    · rename_i e1 e2; cases e; exact .cons (dp_of h e1) (dps_of r e2)
    · cases e
def Rv.py (r : Rv) (S : Sto) : Option PyData := (r.rd S).py
theorem cellGet {w : Wd} {S : Sto} (st : StoR K w S) {n : Nat} {a : Addr} (hm : w.m[n]? = some a) (x : Da) : ConR K w a (S.getD n x) := by
  obtain ⟨hl, _⟩ := List.getElem?_eq_some_iff.mp hm
  have hl2 : n < S.length := by rw [← st.len]; exact hl
  refine st.at_ n _ _ hm ?_
  rw [List.getD_eq_getElem?_getD, List.getElem?_eq_getElem hl2]; rfl
/-- a result: data, or an object -/
theorem rd_cases {wf w0 w : Wd} {S : Sto} {r : Rv} {v : V} (st : StoR K w S) (R : RepR K wf w0 w r v) : Rep K w (r.rd S) v ∨ ∃ a, v = .ref a ∧ ConR K w a (r.rd S) := by
  cases r with
  | v d =>
    cases d with
    | cell n => cases R with | cell hm => exact .inr ⟨_, rfl, cellGet st hm _⟩
    | _ => exact .inl R
  | fr d => obtain ⟨a, e, _, c, _⟩ := R; exact .inr ⟨a, e, c⟩
  | bo d => obtain ⟨a, e, _, c, _⟩ := R; exact .inr ⟨a, e, c⟩
theorem con_dp {w : Wd} {a : Addr} {d : Da} {p : PyData} (c : ConR K w a d) (e : d.py = some p) : Dp K w.H (.ref a) p := by
  cases d with
  | lst ds =>
    obtain ⟨vs, h1, h2⟩ := c
    simp only [Da.py] at e
    split at e
    · rename_i e2; cases e; exact .lst (SqL.of h1) (dps_of h2 e2)
    · cases e
  | obj C ns ds => simp [Da.py] at e
  | dic ks ds => simp [Da.py] at e
  | _ => exact c.elim
theorem dpR_of {wf w0 w : Wd} {S : Sto} {r : Rv} {v : V} {p : PyData} (st : StoR K w S) (R : RepR K wf w0 w r v) (e : (r.rd S).py = some p) : Dp K w.H v p := by
  rcases rd_cases st R with h | ⟨a, rfl, c⟩
  · exact dp_of h e
  · exact con_dp c e
def xEqD (neg : Bool) : FO2 := fun r1 r2 S => match (r1.rd S).py, (r2.rd S).py with
  | some p, some q => if SeqAt.shaped p && SeqAt.shaped q then .ok (.v (.bl (if neg then !PyData.eqv p q else PyData.eqv p q))) S else .bad
  | _, _ => .bad
theorem eqD_core {wf w w2 : Wd} {S : Sto} {σv : L2.St} {neg : Bool} {r1 r2 : Rv} {v1 v2 : V} {Q : VK} (st : StoR K w2 S) (L : Le w w2) (R1 : RepR K wf w w2 r1 v1) (R2 : RepR K wf w w2 r2 v2) (h : PostE K W wf w σv Q (xEqD neg r1 r2 S)) :
    ∃ d e, Dp K w2.H v1 d ∧ Dp K w2.H v2 e ∧ SeqAt.shaped d = true ∧ SeqAt.shaped e = true ∧ Q (.bl (if neg then !PyData.eqv d e else PyData.eqv d e)) w2.H := by
  unfold xEqD at h
  split at h
  · rename_i p q e1 e2
    obtain ⟨hc, h2⟩ := h.ite
    simp only [Bool.and_eq_true] at hc
    exact ⟨p, q, dpR_of st R1 e1, dpR_of st R2 e2, hc.1, hc.2, h2 w2 _ L st (.bl _)⟩
  · exact h.elim
theorem sEqD : OpS K W (rEqD K) (xEqD false) := fun s L R1 R2 h => eqD_core s.st L R1 R2 h
theorem sNeD : OpS K W (rNeD K) (xEqD true) := fun s L R1 R2 h => eqD_core s.st L R1 R2 h
/-! ### slices -/
def cutG {α : Type} (xs : List α) (lo hi : Option Int) : List α := (xs.drop (HT.sIx xs.length 0 lo)).take (HT.sIx xs.length xs.length hi - HT.sIx xs.length 0 lo)
theorem reps_cut {w : Wd} {ds : List Da} {vs : List V} (h : Reps K w ds vs) (lo hi : Option Int) : Reps K w (cutG ds lo hi) (cutV vs lo hi) := by
  unfold cutG cutV
  rw [h.length]
  exact (h.drop _).take _
def fNoP : Env → Sto → Ev (Option Int) := fun _ S => .ok none S
def fPart (fe : FE) : Env → Sto → Ev (Option Int) := fun σ S => (fe σ S).bd fun r S1 => match r with
  | .v (.int i) => .ok (some i) S1
  | _ => .bad
theorem snd_noP : SndO K W tNoPart fNoP := fun wf w S σd σv Q s h => h w (Le.refl _) s.st
theorem snd_part {te : TE} {fe : FE} (he : SndE K W te fe) : SndO K W (tPart te) (fPart fe) := by
  intro wf w S σd σv Q s h
  refine he.run (Le.refl w) s h fun r S1 w1 v L1 st1 R1 h1 => ?_
  revert h1
  split
  · intro h1; cases R1; exact ⟨_, rfl, h1 w1 L1 st1⟩
  · intro h1; exact h1.elim
abbrev FSl := Rv → Option Int → Option Int → Sto → Ev Rv
variable (K W) in
def SlS (r : V → Option Int → Option Int → Hp → VK → Prop) (o : FSl) : Prop := ∀ {wf w w2 : Wd} {S : Sto} {σd : Env} {σv : L2.St} {r1 : Rv} {lo hi : Option Int} {v1 : V} {Q : VK}, Sim K W wf w2 S σd σv → Le w w2 → RepR K wf w w2 r1 v1 → PostE K W wf w σv Q (o r1 lo hi S) → r v1 lo hi w2.H Q
def fSl (o : FSl) (fe : FE) (fl fh : Env → Sto → Ev (Option Int)) : FE := fun σ S => (fe σ S).bd fun r S1 => (fl σ S1).bd fun lo S2 => (fh σ S2).bd fun hi S3 => o r lo hi S3
theorem snd_sl {r : V → Option Int → Option Int → Hp → VK → Prop} {o : FSl} {te : TE} {fe : FE} {tl th : TO} {fl fh : Env → Sto → Ev (Option Int)} (ho : SlS K W r o) (he : SndE K W te fe) (hl : SndO K W tl fl) (hh : SndO K W th fh) : SndE K W (tSl r te tl th) (fSl o fe fl fh) := by
  intro wf w S σd σv Q s h
  refine he.run (Le.refl w) s h fun r1 S1 w1 v1 L1 st1 R1 h1 => hl.run L1 (s.step L1 st1) h1 fun lo S2 w2 L2 st2 h2 => hh.run (L1.trans L2) (s.step (L1.trans L2) st2) h2 fun hi S3 w3 L3 st3 h3 => ?_
  exact ho (s.step ((L1.trans L2).trans L3) st3) ((L1.trans L2).trans L3) (R1.le (L2.trans L3)) h3
def xSlL : FSl := fun r lo hi S => match r.rd S with
  | .lst ds => .ok (.fr (.lst (cutG ds lo hi))) S
  | _ => .bad
theorem sSlL : SlS K W (rSlL K) xSlL := by
  intro wf w w2 S σd σv r1 lo hi v1 Q s L R1 h
  unfold xSlL at h
  split at h
  · rename_i ds e
    obtain ⟨a, vs, rfl, h1, h2⟩ := lstOf s.st R1 e
    exact ⟨a, vs, rfl, SqL.of h1, fun p hp => h (w2.new p (.lst (cutV vs lo hi)) True) _ (L.trans (le_new hp)) (s.st.new hp) (own_newL s.st (L.none s.st hp) hp (reps_cut h2 lo hi))⟩
  · exact h.elim
def xSlT : FSl := fun r lo hi S => match r.rd S with
  | .tup ds => if (HT.sIx ds.length 0 lo = 0 ∧ HT.sIx ds.length ds.length hi = ds.length) then .bad else .ok (.v (.tup (cutG ds lo hi))) S
  | _ => .bad
theorem sSlT : SlS K W (rSlT K) xSlT := by
  intro wf w w2 S σd σv r1 lo hi v1 Q s L R1 h
  unfold xSlT at h
  split at h
  · rename_i ds e
    obtain ⟨a, vs, rfl, h1, h2⟩ := tupOf s.st R1 e
    by_cases hc : HT.sIx ds.length 0 lo = 0 ∧ HT.sIx ds.length ds.length hi = ds.length
    · rw [if_pos hc] at h; exact h.elim
    · rw [if_neg hc] at h
      exact ⟨a, vs, rfl, h1.sq, by rw [h2.length]; exact hc, fun p hp => h (w2.new p (.tup (cutV vs lo hi)) False) _ (L.trans (le_new hp)) (s.st.new hp) (rep_newT s.st hp (reps_cut h2 lo hi))⟩
  · exact h.elim
def xSlS : FSl := fun r lo hi S => match r with
  | .v (.str z) => if z.length ≤ 1000000 then .ok (.v (.str (cutS z lo hi))) S else .bad
  | _ => .bad
theorem sSlS : SlS K W rSlS xSlS := by
  intro wf w w2 S σd σv r1 lo hi v1 Q s L R1 h
  unfold xSlS at h
  split at h
  · obtain ⟨hz, h2⟩ := h.ite
    cases R1
    exact ⟨_, rfl, sz_le hz, h2 w2 _ L s.st (.str _)⟩
  · exact h.elim
def fRev (fe : FE) : FE := fun σ S => (fe σ S).bd fun r S1 => match r.rd S1 with
  | .lst ds => .ok (.fr (.lst ds.reverse)) S1
  | _ => .bad
theorem snd_rev {te : TE} {fe : FE} (he : SndE K W te fe) : SndE K W (tRevL K te) (fRev fe) := by
  intro wf w S σd σv Q s h
  refine he.run (Le.refl w) s h fun r S1 w1 v L1 st1 R1 h1 => ?_
  revert h1
  split
  · rename_i ds e
    intro h1
    obtain ⟨a, vs, rfl, g1, g2⟩ := lstOf st1 R1 e
    exact ⟨a, vs, rfl, SqL.of g1, fun p hp => h1 (w1.new p (.lst vs.reverse) True) _ (L1.trans (le_new hp)) (st1.new hp) (own_newL st1 (L1.none st1 hp) hp g2.rev)⟩
  · intro h1; exact h1.elim
/-! ### fields -/
def getF (ns : List Str) (ds : List Da) (f : Str) : Option Da := (ns.zip ds).lookup f
theorem getF_of {w : Wd} : ∀ {fs : List (Str × V)} {ns : List Str} {ds : List Da} {f : Str} {d : Da}, fs.map (·.1) = ns → Reps K w ds (fs.map (·.2)) → getF ns ds f = some d → ∃ v, fs.lookup f = some v ∧ Rep K w d v
  | [], ns, ds, f, d, e1, r, e => by cases e1; cases e
  | (g, v) :: fs, ns, ds, f, d, e1, r, e => by
    subst e1
    cases r with
    | cons h r =>
      unfold getF at e
      simp only [List.map_cons, List.zip_cons_cons, List.lookup_cons] at e ⊢
      by_cases hg : f = g
      · subst hg; simp at e ⊢; subst e; exact h
      · have hb : (f == g) = false := beq_eq_false_iff_ne.mpr hg
        rw [hb] at e ⊢
        exact getF_of (ns := fs.map (·.1)) rfl r (show getF (fs.map (·.1)) _ f = some d from e)
def fFld (C f : Str) (fe : FE) : FE := fun σ S => (fe σ S).bd fun r S1 => match r.rd S1 with
  | .obj C' ns ds => match getF ns ds f with
    | some d => if C' = C then .ok (.v d) S1 else .bad
    | none => .bad
  | _ => .bad
theorem snd_fld {C f : Str} {te : TE} {fe : FE} (hc : Cls K (He.ga K C)) (hn : NoAttr K (He.ga K C) f) (he : SndE K W te fe) : SndE K W (tFld K te f) (fFld C f fe) := by
  intro wf w S σd σv Q s h
  refine he.run (Le.refl w) s h fun r S1 w1 v L1 st1 R1 h1 => ?_
  revert h1
  split
  · rename_i C' ns ds e
    split
    · rename_i d e2
      intro h1
      obtain ⟨hC, h2⟩ := h1.ite
      subst hC
      obtain ⟨a, dx, fs, rfl, g1, g2, g3⟩ := objOf st1 R1 e
      obtain ⟨v, g4, g5⟩ := getF_of g2 g3 e2
      exact ⟨a, _, dx, fs, v, rfl, g1, hc, hn, g4, h2 w1 v L1 st1 g5⟩
    · intro h1; exact h1.elim
  · intro h1; exact h1.elim
/-! ### builtins over argument lists -/
abbrev FB := List Rv → Sto → Ev Rv
variable (K W) in
def CbS (r : List V → Hp → VK → Prop) (b : FB) : Prop := ∀ {wf w w2 : Wd} {S : Sto} {σd : Env} {σv : L2.St} {rs : List Rv} {vs : List V} {Q : VK}, Sim K W wf w2 S σd σv → Le w w2 → RepRs K wf w w2 rs vs → PostE K W wf w σv Q (b rs S) → r vs w2.H Q
def fCB (b : FB) (fa : FA) : FE := fun σ S => (fa σ S).bd fun rs S1 => b rs S1
theorem snd_cb {r : List V → Hp → VK → Prop} {b : FB} {ta : TA} {fa : FA} (hb : CbS K W r b) (ha : SndA K W ta fa) : SndE K W (tCB r ta) (fCB b fa) := by
  intro wf w S σd σv Q s h
  exact ha.run (Le.refl w) s h fun rs S1 w1 vs L1 st1 R1 h1 => hb (s.step L1 st1) L1 R1 h1
theorem RepRs.one {wf w w' : Wd} {r : Rv} {vs : List V} (h : RepRs K wf w w' [r] vs) : ∃ v, vs = [v] ∧ RepR K wf w w' r v := by
  match vs, h with
  | [v], h => exact ⟨v, rfl, h.1⟩
  | [], h => exact h.elim
  | _ :: _ :: _, h => exact h.2.elim
theorem RepRs.two {wf w w' : Wd} {r q : Rv} {vs : List V} (h : RepRs K wf w w' [r, q] vs) : ∃ v u, vs = [v, u] ∧ RepR K wf w w' r v ∧ RepR K wf w w' q u := by
  match vs, h with
  | [v, u], h => exact ⟨v, u, rfl, h.1, h.2.1⟩
  | [], h => exact h.elim
  | [_], h => exact h.2.elim
  | _ :: _ :: _ :: _, h => exact h.2.2.elim
def bLen : FB
  | [r], S => match r.rd S with
    | .lst ds => .ok (.v (.int ds.length)) S
    | .tup ds => .ok (.v (.int ds.length)) S
    | .frl ns => .ok (.v (.int ns.length)) S
    | _ => .bad
  | _, _ => .bad
theorem sLen : CbS K W (rLen K) bLen := by
  intro wf w w2 S σd σv rs vs Q s L R h
  unfold bLen at h
  split at h
  · obtain ⟨v, rfl, R1⟩ := R.one
    split at h
    · rename_i ds e
      obtain ⟨a, us, rfl, g1, g2⟩ := lstOf s.st R1 e
      refine ⟨a, us, rfl, .inl (SqL.of g1), ?_⟩
      rw [g2.length]; exact h w2 _ L s.st (.int _)
    · rename_i ds e
      obtain ⟨a, us, rfl, g1, g2⟩ := tupOf s.st R1 e
      refine ⟨a, us, rfl, .inr g1.sq, ?_⟩
      rw [g2.length]; exact h w2 _ L s.st (.int _)
    · rename_i ds e
      obtain ⟨a, rfl, g1⟩ := frlOf s.st R1 e
      refine ⟨a, _, rfl, .inl g1, ?_⟩
      rw [List.length_map]; exact h w2 _ L s.st (.int _)
    · exact h.elim
  · exact h.elim
def qLenS : List V → Hp → VK → Prop := fun xs H Q => ∃ z, xs = [.str z] ∧ z.length ≤ sizeLine ∧ Q (.int z.length) H
theorem cl_lenS {X : Cx} : CallR X (.builtin "len") qLenS := call_len_str
def bLenS : FB
  | [.v (.str z)], S => if z.length ≤ 1000000 then .ok (.v (.int z.length)) S else .bad
  | _, _ => .bad
theorem sLenS : CbS K W qLenS bLenS := by
  intro wf w w2 S σd σv rs vs Q s L R h
  unfold bLenS at h
  split at h
  · obtain ⟨v, rfl, R1⟩ := R.one
    obtain ⟨hz, h2⟩ := h.ite
    cases R1
    exact ⟨_, rfl, sz_le hz, h2 w2 _ L s.st (.int _)⟩
  · exact h.elim
def bI1 (g : Int → Da) : FB
  | [.v (.int i)], S => .ok (.v (g i)) S
  | _, _ => .bad
abbrev bAbs : FB := bI1 fun i => .int (if i < 0 then -i else i)
theorem sAbs : CbS K W rAbs bAbs := by
  intro wf w w2 S σd σv rs vs Q s L R h
  unfold bAbs bI1 at h
  split at h
  · obtain ⟨v, rfl, R1⟩ := R.one
    cases R1
    exact ⟨_, rfl, h w2 _ L s.st (.int _)⟩
  · exact h.elim
def bI2 (g : Int → Int → Da) : FB
  | [.v (.int i), .v (.int j)], S => .ok (.v (g i j)) S
  | _, _ => .bad
abbrev bMax2 : FB := bI2 fun i j => .int (if j > i then j else i)
abbrev bMin2 : FB := bI2 fun i j => .int (if j < i then j else i)
theorem sMax2 : CbS K W rMax2 bMax2 := by
  intro wf w w2 S σd σv rs vs Q s L R h
  unfold bMax2 bI2 at h
  split at h
  · obtain ⟨v, u, rfl, R1, R2⟩ := R.two
    cases R1; cases R2
    exact ⟨_, _, rfl, h w2 _ L s.st (.int _)⟩
  · exact h.elim
theorem sMin2 : CbS K W rMin2 bMin2 := by
  intro wf w w2 S σd σv rs vs Q s L R h
  unfold bMin2 bI2 at h
  split at h
  · obtain ⟨v, u, rfl, R1, R2⟩ := R.two
    cases R1; cases R2
    exact ⟨_, _, rfl, h w2 _ L s.st (.int _)⟩
  · exact h.elim
def bInt1 : FB
  | [.v (.int i)], S => .ok (.v (.int i)) S
  | [.v (.bl b)], S => .ok (.v (.int (if b then 1 else 0))) S
  | _, _ => .bad
theorem sInt1 : CbS K W rInt1 bInt1 := by
  intro wf w w2 S σd σv rs vs Q s L R h
  unfold bInt1 at h
  split at h
  · obtain ⟨v, rfl, R1⟩ := R.one
    cases R1
    exact .inl ⟨_, rfl, h w2 _ L s.st (.int _)⟩
  · obtain ⟨v, rfl, R1⟩ := R.one
    cases R1
    exact .inr ⟨_, rfl, h w2 _ L s.st (.int _)⟩
  · exact h.elim
def bBool1 : FB
  | [.v (.int i)], S => .ok (.v (.bl (i != 0))) S
  | [.v (.bl b)], S => .ok (.v (.bl b)) S
  | _, _ => .bad
theorem sBool1 : CbS K W rBool1 bBool1 := by
  intro wf w w2 S σd σv rs vs Q s L R h
  unfold bBool1 at h
  split at h
  · obtain ⟨v, rfl, R1⟩ := R.one
    cases R1
    exact .inl ⟨_, rfl, h w2 _ L s.st (.bl _)⟩
  · obtain ⟨v, rfl, R1⟩ := R.one
    cases R1
    exact .inr ⟨_, rfl, h w2 _ L s.st (.bl _)⟩
  · exact h.elim
def bList : FB
  | [r], S => match r.rd S with
    | .lst ds => .ok (.fr (.lst ds)) S
    | .tup ds => .ok (.fr (.lst ds)) S
    | _ => .bad
  | _, _ => .bad
theorem sList : CbS K W (rListOf K) bList := by
  intro wf w w2 S σd σv rs vs Q s L R h
  unfold bList at h
  split at h
  · obtain ⟨v, rfl, R1⟩ := R.one
    split at h
    · rename_i ds e
      obtain ⟨a, us, rfl, g1, g2⟩ := lstOf s.st R1 e
      exact ⟨a, us, rfl, .inl (SqL.of g1), fun p hp => h (w2.new p (.lst us) True) _ (L.trans (le_new hp)) (s.st.new hp) (own_newL s.st (L.none s.st hp) hp g2)⟩
    · rename_i ds e
      obtain ⟨a, us, rfl, g1, g2⟩ := tupOf s.st R1 e
      exact ⟨a, us, rfl, .inr g1.sq, fun p hp => h (w2.new p (.lst us) True) _ (L.trans (le_new hp)) (s.st.new hp) (own_newL s.st (L.none s.st hp) hp g2)⟩
    · exact h.elim
  · exact h.elim
def bTup : FB
  | [r], S => match r.rd S with
    | .lst ds => .ok (.v (.tup ds)) S
    | .tup ds => .ok (.v (.tup ds)) S
    | _ => .bad
  | _, _ => .bad
theorem sTup : CbS K W (rTupOf K) bTup := by
  intro wf w w2 S σd σv rs vs Q s L R h
  unfold bTup at h
  split at h
  · obtain ⟨v, rfl, R1⟩ := R.one
    split at h
    · rename_i ds e
      obtain ⟨a, us, rfl, g1, g2⟩ := lstOf s.st R1 e
      exact ⟨a, us, rfl, .inl ⟨SqL.of g1, fun p hp => h (w2.new p (.tup us) False) _ (L.trans (le_new hp)) (s.st.new hp) (rep_newT s.st hp g2)⟩⟩
    · rename_i ds e
      obtain ⟨a, us, rfl, g1, g2⟩ := tupOf s.st R1 e
      exact ⟨a, us, rfl, .inr ⟨g1.sq, h w2 _ L s.st (.tup g1 g2)⟩⟩
    · exact h.elim
  · exact h.elim
/-- list(range(n)) -/
def rgD (n : Int) : List Da := (List.range n.toNat).map fun i => Da.int (i : Nat)
def fLstRg (fe : FE) : FE := fun σ S => (fe σ S).bd fun r S1 => match r with
  | .v (.int n) => if 0 ≤ n ∧ n ≤ 1000000 then .ok (.fr (.lst (rgD n))) S1 else .bad
  | _ => .bad
theorem reps_rg {w : Wd} : ∀ l : List Nat, Reps K w (l.map fun i => Da.int (i : Nat)) (l.map fun i => V.int (i : Nat))
  | [] => .nil
  | a :: l => .cons (.int _) (reps_rg l)
theorem snd_lstRg {te : TE} {fe : FE} (he : SndE K W te fe) : SndE K W (tLstRg (tRg1 te)) (fLstRg fe) := by
  intro wf w S σd σv Q s h
  refine he.run (Le.refl w) s h fun r S1 w1 v L1 st1 R1 h1 => ?_
  revert h1
  split
  · rename_i n
    intro h1
    obtain ⟨hz, h2⟩ := h1.ite
    cases R1
    refine ⟨n, rfl, RgOk.of_le (by decide) (by omega) (by decide) hz.1, fun p hp => ?_⟩
    have e : rgV 0 n = (List.range n.toNat).map fun i => V.int (i : Nat) := by unfold rgV; simp
    rw [e]
    exact h2 (w1.new p _ True) _ (L1.trans (le_new hp)) (st1.new hp) (own_newL st1 (L1.none st1 hp) hp (reps_rg _))
  · intro h1; exact h1.elim
/-! ### isinstance of a built-in type -/
def Da.tyN : Da → Option String
  | .non => some "NoneType"
  | .bl _ => some "bool"
  | .int _ => some "int"
  | .str _ => some "str"
  | .lst _ => some "list"
  | .frl _ => some "list"
  | .tup _ => some "tuple"
  | .dic _ _ => some "dict"
  | _ => none
theorem ty_of {wf w0 w : Wd} {S : Sto} {r : Rv} {v : V} {A : String} (st : StoR K w S) (R : RepR K wf w0 w r v) (e : (r.rd S).tyN = some A) : TyX K w.H v (.type A) := by
  rcases rd_cases st R with h | ⟨a, rfl, c⟩
  · revert h e
    generalize r.rd S = d
    intro e h
    cases h with
    | non => cases e; exact .base .non
    | bl b => cases e; exact .base (.bl _)
    | int i => cases e; exact .base (.int _)
    | str z => cases e; exact .base (.str _)
      | tup h1 _ =>
      cases e
      rcases h1 with ⟨h1 | ⟨o, h1⟩, _⟩ | ⟨o, its, n, h1, h2, _⟩
      · exact .base (.tup h1)
      · exact .fTuple h1
      · exact .kTuple h1 h2
    | lst h1 _ _ => cases e; exact .base (.lst h1)
    | frl h1 =>
      cases e
      rcases h1 with ⟨h1 | ⟨o, h1⟩, _⟩ | ⟨o, its, n, h1, h2, _⟩
      · exact .base (.lst h1)
      · exact .base (.frz h1)
      · exact .kList h1 h2
    | obj _ _ _ _ => cases e
    | dic h1 _ _ _ => cases e; exact .base (.dK h1)
    | cell _ => cases e
  · revert e c
    generalize r.rd S = d
    intro e c
    cases d with
    | lst ds => obtain ⟨vs, h1, _⟩ := c; cases e; exact .base (.lst h1)
    | obj C ns ds => cases e
    | dic ks ds => obtain ⟨kvs, h1, _⟩ := c; cases e; exact .base (.dK h1)
    | _ => exact c.elim
def fIsi (T : String) (fe : FE) : FE := fun σ S => (fe σ S).bd fun r S1 => match (r.rd S1).tyN with
  | some A => match kitB A T with
    | some b => .ok (.v (.bl b)) S1
    | none => .bad
  | none => .bad
theorem snd_isi {T : String} {te : TE} {fe : FE} (he : SndE K W te fe) : SndE K W (tCB (rIsi K) (tCons te (tCons (tC (.ty T)) tNil))) (fIsi T fe) := by
  intro wf w S σd σv Q s h
  refine he.run (Le.refl w) s h fun r S1 w1 v L1 st1 R1 h1 => ?_
  revert h1
  split
  · rename_i A e
    split
    · rename_i b e2
      intro h1
      exact ⟨v, .ty T, .type A, .type T, b, rfl, .ty T, ty_of st1 R1 e, kit_ty e2, h1 w1 _ L1 st1 (.bl _)⟩
    · intro h1; exact h1.elim
  · intro h1; exact h1.elim
/-! ### tests -/
def fTest (fe : FE) : FT := fun σ S => (fe σ S).bd fun r S1 => onB r fun b => .ok b S1
theorem snd_test {te : TE} {fe : FE} (he : SndE K W te fe) : SndT K W (tTest te) (fTest fe) := by
  intro wf w S σd σv Q s h
  refine he.run (Le.refl w) s h fun r S1 w1 v L1 st1 R1 h1 => ?_
  obtain ⟨b, rfl, h2⟩ := onB_of R1 h1
  exact ⟨b, rfl, h2 w1 L1 st1⟩
theorem snd_B {te : TE} {fe : FE} (he : SndE K W te fe) : SndT K W (tB te) (fTest fe) := snd_test he
def Da.tru : Da → Option Bool
  | .non => some false
  | .bl b => some b
  | .int i => some (i != 0)
  | .str z => if z.length ≤ 1000000 then some ((z.length : Int) != 0) else none
  | .lst ds => some (!ds.isEmpty)
  | .tup ds => some (!ds.isEmpty)
  | .dic ks _ => some (!ks.isEmpty)
  | _ => none
def fTru (fe : FE) : FT := fun σ S => (fe σ S).bd fun r S1 => match (r.rd S1).tru with
  | some b => .ok b S1
  | none => .bad
theorem tru_rep {w : Wd} {d : Da} {v : V} {b : Bool} (h : Rep K w d v) (e : d.tru = some b) : TruV K v w.H b := by
  cases h with
  | non => cases e; rfl
  | bl b => cases e; rfl
  | int i => cases e; rfl
  | str z =>
    have e' : (if z.length ≤ 1000000 then some ((z.length : Int) != 0) else none) = some b := e
    by_cases hz : z.length ≤ 1000000
    · rw [if_pos hz] at e'; cases e'; exact ⟨sz_le hz, rfl⟩
    · rw [if_neg hz] at e'; cases e'
  | tup h1 r => cases e; exact .inr (.inl ⟨_, h1.sq, by cases r <;> rfl⟩)
  | lst h1 _ r => cases e; exact .inl ⟨_, SqL.of h1, by cases r <;> rfl⟩
  | frl h1 => cases e
  | obj _ _ _ _ => cases e
  | dic h1 _ h2 _ => cases e; exact .inr (.inr ⟨_, h1, by subst h2; rename_i kvs _ _ _; cases kvs <;> rfl⟩)
  | cell _ => cases e
theorem tru_con {w : Wd} {d : Da} {a : Addr} {b : Bool} (c : ConR K w a d) (e : d.tru = some b) : TruV K (.ref a) w.H b := by
  cases d with
  | lst ds => obtain ⟨vs, h1, h2⟩ := c; cases e; exact .inl ⟨vs, SqL.of h1, by cases h2 <;> rfl⟩
  | obj C ns ds => cases e
  | dic ks ds => obtain ⟨kvs, h1, h2, h3⟩ := c; cases e; exact .inr (.inr ⟨kvs, h1, by subst h2; cases kvs <;> rfl⟩)
  | _ => exact c.elim
theorem snd_tru {te : TE} {fe : FE} (he : SndE K W te fe) : SndT K W (tTru K te) (fTru fe) := by
  intro wf w S σd σv Q s h
  refine he.run (Le.refl w) s h fun r S1 w1 v L1 st1 R1 h1 => ?_
  revert h1
  split
  · rename_i b e
    intro h1
    refine ⟨b, ?_, h1 w1 L1 st1⟩
    rcases rd_cases st1 R1 with h | ⟨a, rfl, c⟩
    · exact tru_rep h e
    · exact tru_con c e
  · intro h1; exact h1.elim
def fAnd (f g : FT) : FT := fun σ S => (f σ S).bd fun b S1 => if b = true then g σ S1 else .ok false S1
def fOr (f g : FT) : FT := fun σ S => (f σ S).bd fun b S1 => if b = true then .ok true S1 else g σ S1
def fNot (f : FT) : FT := fun σ S => (f σ S).bd fun b S1 => .ok (!b) S1
def fYes : FT := fun _ S => .ok true S
theorem snd_yes : SndT K W tYes fYes := fun wf w S σd σv Q s h => h w (Le.refl _) s.st
theorem snd_and {t u : TT} {f g : FT} (h1 : SndT K W t f) (h2 : SndT K W u g) : SndT K W (tAnd t u) (fAnd f g) := by
  intro wf w S σd σv Q s h
  refine h1.run (Le.refl w) s h fun b S1 w1 L1 st1 k => ?_
  cases b with
  | true => exact iteT (h2 wf w1 S1 σd σv Q (s.step L1 st1) (PostT.shift L1 (by simpa using k)))
  | false => exact iteF (by simp only [Bool.false_eq_true, if_false] at k; exact k w1 L1 st1)
theorem snd_or {t u : TT} {f g : FT} (h1 : SndT K W t f) (h2 : SndT K W u g) : SndT K W (tOr t u) (fOr f g) := by
  intro wf w S σd σv Q s h
  refine h1.run (Le.refl w) s h fun b S1 w1 L1 st1 k => ?_
  cases b with
  | true => exact iteT (by simp only [if_true] at k; exact k w1 L1 st1)
  | false => exact iteF (h2 wf w1 S1 σd σv Q (s.step L1 st1) (PostT.shift L1 (by simpa using k)))
theorem snd_not {t : TT} {f : FT} (h1 : SndT K W t f) : SndT K W (tNot t) (fNot f) := by
  intro wf w S σd σv Q s h
  exact h1.run (Le.refl w) s h fun b S1 w1 L1 st1 k => k w1 L1 st1
/-! ### calls -/
variable (K) in
def spOf (f : Fn) : Sp := fun vs H Q E => ∃ w S ds, w.H = H ∧ StoR K w S ∧ Reps K w ds vs ∧
  Po (fun r S' => ∀ w' v, Le w w' → StoR K w' S' → RepR K w w w' r v → Q v w'.H) (fun e S' => ∀ w' c dd, Le w w' → StoR K w' S' → RepX K w' e c dd → E c dd w'.H) (f ds S)
def Ev.noX {α : Type} : Ev α → Ev α
  | .ok a S => .ok a S
  | _ => .bad
def fCall (f : Fn) (fa : FA) : FE := fun σ S => (fa σ S).bd fun rs S1 => onDs rs fun ds => (f ds S1).noX
def fCallS (f : Fn) (fa : FA) : FE := fun σ S => (fa σ S).bd fun rs S1 => onDs rs fun ds => f ds S1
theorem RepR.called {wf w w1 w' : Wd} {S1 : Sto} {r : Rv} {v : V} (L0 : Le wf w) (L : Le w w1) (st : StoR K w1 S1) (h : RepR K (w.frz w1) (w.frz w1) w' r v) : RepR K wf w w' r v := by
  cases r with
  | v d => exact h
  | fr d => obtain ⟨a, e, n, c⟩ := h; exact ⟨a, e, L.none st n, c⟩
  | bo d => obtain ⟨a, e, n, c⟩ := h; exact ⟨a, e, (L0.trans L).none st n, c⟩
theorem snd_callS {f : Fn} {ta : TA} {fa : FA} (ha : SndA K W ta fa) : SndE K W (tCallS (spOf K f) (WE W.W) ta) (fCallS f fa) := by
  intro wf w S σd σv Q s h
  refine ha.run (Le.refl w) s h fun rs S1 w1 vs L1 st1 R1 h1 => ?_
  obtain ⟨ds, e, h2⟩ := onDs_of h1
  refine ⟨w.frz w1, S1, ds, rfl, st1.frz, R1.frz e, ?_⟩
  revert h2
  cases f ds S1 with
  | ok r S2 => exact fun h2 w' v L st R => h2 w' v (L1.frz.trans L) st (RepR.called s.le L1 st1 R)
  | ex e S2 => exact fun h2 w' c dd L st R => h2 w' c dd (L1.frz.trans L) st R
  | bad => exact fun h2 => h2
theorem snd_call {f : Fn} {ta : TA} {fa : FA} {E : XK} (ha : SndA K W ta fa) : SndE K W (tCall (spOf K f) [] E ta) (fCall f fa) := by
  intro wf w S σd σv Q s h
  refine ha.run (Le.refl w) s h fun rs S1 w1 vs L1 st1 R1 h1 => ?_
  obtain ⟨ds, e, h2⟩ := onDs_of h1
  refine ⟨w.frz w1, S1, ds, rfl, st1.frz, by rw [List.append_nil]; exact R1.frz e, ?_⟩
  revert h2
  cases f ds S1 with
  | ok r S2 => exact fun h2 w' v L st R => h2 w' v (L1.frz.trans L) st (RepR.called s.le L1 st1 R)
  | ex e S2 => exact fun h2 => h2.elim
  | bad => exact fun h2 => h2
/-- o.m(..), o of the class C -/
def fMeth (C m : Str) (f : Fn) (fo : FE) (fa : FA) : FE := fun σ S => (fo σ S).bd fun r S1 => match r.rd S1 with
  | .obj C' ns _ => if C' = C ∧ m ∉ ns then (fa σ S1).bd fun rs S2 => onDs (r :: rs) fun ds => (f ds S2).noX else .bad
  | _ => .bad
theorem lookup_no {fs : List (Str × V)} {m : Str} (h : m ∉ fs.map (·.1)) : fs.lookup m = none := by
  induction fs with
  | nil => rfl
  | cons p fs ih =>
    simp only [List.map_cons, List.mem_cons, not_or] at h
    have hb : (m == p.1) = false := beq_eq_false_iff_ne.mpr h.1
    rw [List.lookup_cons, hb]
    exact ih h.2
theorem snd_meth {C m : Str} {f : Fn} {to : TE} {fo : FE} {ta : TA} {fa : FA} {E : XK} (ho : SndE K W to fo) (ha : SndA K W ta fa) : SndE K W (tMeth (He.ga K C) m (spOf K f) [] E to ta) (fMeth C m f fo fa) := by
  intro wf w S σd σv Q s h
  refine ho.run (Le.refl w) s h fun r S1 w1 v L1 st1 R1 h1 => ?_
  revert h1
  split
  · rename_i C' ns ds' e
    intro h1
    obtain ⟨⟨hC, hm⟩, h2⟩ := h1.ite
    subst hC
    obtain ⟨a, dx, fs, rfl, g1, g2, g3⟩ := objOf st1 R1 e
    refine ⟨a, dx, fs, rfl, g1, lookup_no (by rw [g2]; exact hm), ha.run L1 (s.step L1 st1) h2 fun rs S2 w2 vs L2 st2 R2 h3 => ?_⟩
    obtain ⟨ds, e2, h4⟩ := onDs_of h3
    have L02 := L1.trans L2
    refine ⟨w.frz w2, S2, ds, rfl, st2.frz, ?_, ?_⟩
    · rw [List.append_nil]
      exact RepRs.frz (rs := r :: rs) (xs := .ref a :: vs) ⟨R1.le L2, R2.back L1 st1⟩ e2
    · revert h4
      cases f ds S2 with
      | ok r S2 => exact fun h2 w' v L st R => h2 w' v (L02.frz.trans L) st (RepR.called s.le L02 st2 R)
      | ex e S2 => exact fun h2 => h2.elim
      | bad => exact fun h2 => h2
  · intro h1; exact h1.elim
/-- C(..) -/
abbrev FIn := List Da → Sto → Ev Da
variable (K) in
def spIn (C : Str) (f : FIn) : Sp := fun vs H Q E => ∃ w S ds x dx us, vs = .ref x :: us ∧ H = upd (upd w.H dx (.own x)) x (.ins (He.ga K C) dx []) ∧ w.H x = none ∧ w.H dx = none ∧ dx ≠ x ∧ StoR K w S ∧ Reps K w ds us ∧
  Po (fun d S' => ∀ w', Le w w' → StoR K w' S' → OwnR K w w' d (.ref x) → Q .non w'.H) (fun e S' => ∀ w' c dd, Le w w' → StoR K w' S' → RepX K w' e c dd → E c dd w'.H) (f ds S)
def fMake (f : FIn) (fa : FA) : FE := fun σ S => (fa σ S).bd fun rs S1 => onDs rs fun ds => (f ds S1).noX.bd fun d S2 => .ok (.fr d) S2
theorem snd_make {C : Str} {f : FIn} {ta : TA} {fa : FA} {E : XK} (ha : SndA K W ta fa) : SndE K W (tMake (He.ga K C) (spIn K C f) [] E ta) (fMake f fa) := by
  intro wf w S σd σv Q s h
  refine ha.run (Le.refl w) s h fun rs S1 w1 vs L1 st1 R1 h1 => ?_
  obtain ⟨ds, e, h2⟩ := onDs_of h1
  intro x dx hx hdx hne
  refine ⟨w.frz w1, S1, ds, x, dx, vs, by rw [List.append_nil], rfl, hx, hdx, hne, st1.frz, R1.frz e, ?_⟩
  revert h2
  cases f ds S1 with
  | ok d S2 =>
    intro h2 w' L st ⟨a, e1, n, c⟩
    refine ⟨rfl, h2 w' _ (L1.frz.trans L) st ⟨a, e1, L1.none st1 n, c⟩⟩
  | ex e S2 => exact fun h2 => h2.elim
  | bad => exact fun h2 => h2
end
end Cl

/-! ## Fun5 -/
namespace Cl
open PySem PySem.Spec PyProof.Rows L2
section
variable {K : PySem.W.Frag} {W : Cw} {wf w w1 w2 : Wd} {S S1 : Sto} {σd : Env} {σv : L2.St} {D : Ends}
/-! ## slots -/
theorem Sim.upd (s : Sim K W wf w S σd σv) {i : Nat} {y : Option Sx} {u : Option V} (hy : ∀ x, y = some x → ∃ v, u = some v ∧ SlR K wf w x v)
    (hd : ∀ d b a, y = some (.own d b) → u = some (.ref a) → ∀ (j : Nat) e b', j ≠ i → σd[j]? = some (some (.own e b')) → σv[j]? ≠ some (some (.ref a))) (hx : y ≠ some .exn) : Sim K W wf w S (σd.set i y) (σv.set i u) := by
  have ln := s.ln
  refine ⟨s.le, s.st, by simp [ln], fun j x e => ?_, fun j k d e b b' a hne e1 e2 e3 e4 => ?_, fun a d e h => ⟨(s.cx a d e h).1, fun j ej => ?_⟩⟩
  · by_cases hj : i = j
    · subst hj
      by_cases hl : i < σd.length
      · rw [List.getElem?_set_self hl] at e
        obtain ⟨v, e1, r⟩ := hy x (Option.some.inj e)
        exact ⟨v, by rw [List.getElem?_set_self (by omega), e1], r⟩
      · rw [List.getElem?_eq_none (by simp; omega)] at e; cases e
    · rw [List.getElem?_set_ne hj] at e ⊢
      exact s.sl j x e
  · by_cases hj : i = j
    · subst hj
      rw [List.getElem?_set_ne hne] at e2 e4
      by_cases hl : i < σd.length
      · rw [List.getElem?_set_self hl] at e1
        rw [List.getElem?_set_self (by omega)] at e3
        exact hd d b a (Option.some.inj e1) (Option.some.inj e3) k e b' (fun z => hne z.symm) e2 e4
      · rw [List.getElem?_eq_none (by simp; omega)] at e1; cases e1
    · rw [List.getElem?_set_ne hj] at e1 e3
      by_cases hk : i = k
      · subst hk
        by_cases hl : i < σd.length
        · rw [List.getElem?_set_self hl] at e2
          rw [List.getElem?_set_self (by omega)] at e4
          exact hd e b' a (Option.some.inj e2) (Option.some.inj e4) j d b hne e1 e3
        · rw [List.getElem?_eq_none (by simp; omega)] at e2; cases e2
      · rw [List.getElem?_set_ne hk] at e2 e4
        exact s.dj j k d e b b' a hne e1 e2 e3 e4
  · by_cases hj : i = j
    · subst hj
      by_cases hl : i < σd.length
      · rw [List.getElem?_set_self hl] at ej; exact absurd (Option.some.inj ej) hx
      · rw [List.getElem?_eq_none (by simp; omega)] at ej; cases ej
    · rw [List.getElem?_set_ne hj] at ej ⊢
      exact (s.cx a d e h).2 j ej
theorem Sim.setV (s : Sim K W wf w S σd σv) {i : Nat} {d : Da} {v : V} (r : Rep K w d v) : Sim K W wf w S (σd.set i (some (.v d))) (σv.set i (some v)) :=
  s.upd (fun x e => by cases e; exact ⟨v, rfl, r⟩) (fun d b a e => by cases e) (by intro z; cases z)
theorem Sim.setN (s : Sim K W wf w S σd σv) {i : Nat} {u : Option V} : Sim K W wf w S (σd.set i none) (σv.set i u) :=
  s.upd (fun x e => by cases e) (fun d b a e => by cases e) (by intro z; cases z)
theorem Sim.setO (s0 : Sim K W wf w S σd σv) (L : Le w w1) (st : StoR K w1 S1) {i : Nat} {d : Da} {v : V} (o : OwnR K w w1 d v) : Sim K W wf w1 S1 (σd.set i (some (.own d false))) (σv.set i (some v)) := by
  have s1 := s0.step L st
  obtain ⟨a, rfl, n, c, ow, nm⟩ := o
  refine s1.upd (fun x e => by cases e; exact ⟨_, rfl, ⟨a, rfl, s0.le.none s0.st n, c, ow, nm⟩, fun z => by cases z⟩) (fun d' b a' e eu j e' b' hj ej ev => ?_) (by intro z; cases z)
  cases eu
  obtain ⟨v, e1, ⟨a2, e2, _, c2, _⟩, _⟩ := s0.sl j _ ej
  rw [ev] at e1; cases e1; cases e2
  obtain ⟨o, eo⟩ := c2.some
  rw [n] at eo; cases eo
/-- the object of a slot changes in place -/
theorem own_put {a : Addr} {o : HO} (ow : w.ow a) : Lf w { w with H := upd w.H a o } := ⟨List.prefix_refl _, fun b u e f => by
  have ne : b ≠ a := fun z => by rw [z] at f; exact f.2 ow
  exact ⟨by show L2.upd w.H a o b = some u; rw [upd_ne ne]; exact e, f⟩⟩
theorem sto_put (st : StoR K w S) {a : Addr} {o : HO} (ow : w.ow a) : StoR K { w with H := upd w.H a o } S := by
  refine ⟨st.len, st.nd, fun n b d e1 e2 => ?_, fun b hb => ?_, st.sep⟩
  · have ne : b ≠ a := fun z => st.sep b (List.mem_of_getElem? e1) (z ▸ ow)
    refine (st.at_ n b d e1 e2).lf (own_put ow) fun u e => ?_
    show L2.upd w.H a o b = some u
    rw [upd_ne ne]; exact e
  · show L2.upd w.H a o b ≠ none
    by_cases ne : b = a
    · rw [ne, upd_same]; simp
    · rw [upd_ne ne]; exact st.own b hb
theorem Sim.put (s : Sim K W wf w S σd σv) {i : Nat} {d d' : Da} {b : Bool} {a : Addr} {o : HO} (e : σd[i]? = some (some (.own d b))) (ev : σv[i]? = some (some (.ref a)))
    (hc : ConR K { w with H := L2.upd w.H a o } a d') : Sim K W wf { w with H := L2.upd w.H a o } S (σd.set i (some (.own d' b))) σv := by
  obtain ⟨v, e1, ⟨a2, e2, n, c, ow, nm⟩, hx⟩ := s.sl i _ e
  rw [ev] at e1; cases e1; cases e2
  have lf := own_put (o := o) ow
  have hself : ∀ (j : Nat) (x : Option Sx), (σd.set i (some (.own d' b)))[j]? = some x → (j = i ∧ x = some (.own d' b)) ∨ (j ≠ i ∧ σd[j]? = some x) := fun j x ej => by
    by_cases hj : i = j
    · subst hj
      have hl := (List.getElem?_eq_some_iff.mp e).1
      rw [List.getElem?_set_self hl] at ej
      exact .inl ⟨rfl, (Option.some.inj ej).symm⟩
    · rw [List.getElem?_set_ne hj] at ej
      exact .inr ⟨fun z => hj z.symm, ej⟩
  refine ⟨⟨s.le.pre, fun c' u ec nc => ?_⟩, sto_put s.st ow, by simp [s.ln], fun j x ej => ?_, fun j k d1 d2 b1 b2 a' hne e1 e2 e3 e4 => ?_, fun a' d1 e' h => ⟨(s.cx a' d1 e' h).1.lf lf, fun j ej => ?_⟩⟩
  · obtain ⟨h1, h2, h3⟩ := s.le.kp c' u ec nc
    have ne : c' ≠ a := fun z => by rw [z, n] at ec; cases ec
    exact ⟨by show L2.upd w.H a o c' = some u; rw [upd_ne ne]; exact h1, h2, h3⟩
  · rcases hself j _ ej with ⟨rfl, ex⟩ | ⟨hj, ej⟩
    · cases ex
      exact ⟨_, ev, ⟨a, rfl, n, hc, ow, nm⟩, hx⟩
    · obtain ⟨v, h1, h2⟩ := s.sl j x ej
      refine ⟨v, h1, ?_⟩
      cases x with
      | v d1 => exact Rep.lf lf h2
      | exn => exact True.intro
      | own d1 b1 =>
        obtain ⟨⟨a3, h3, h4, h5, h6, h7⟩, h8⟩ := h2
        subst h3
        refine ⟨⟨a3, rfl, h4, h5.lf lf fun u eu => ?_, h6, h7⟩, h8⟩
        have ne : a3 ≠ a := fun z => s.dj i j d d1 b b1 a (fun z => hj z.symm) e ej ev (by rw [← z]; exact h1)
        show L2.upd w.H a o a3 = some u
        rw [upd_ne ne]; exact eu
  · have f1 : ∃ d0, σd[j]? = some (some (.own d0 b1)) := by
      rcases hself j _ e1 with ⟨rfl, ex⟩ | ⟨_, ej⟩
      · cases ex; exact ⟨_, e⟩
      · exact ⟨_, ej⟩
    have f2 : ∃ d0, σd[k]? = some (some (.own d0 b2)) := by
      rcases hself k _ e2 with ⟨rfl, ex⟩ | ⟨_, ej⟩
      · cases ex; exact ⟨_, e⟩
      · exact ⟨_, ej⟩
    obtain ⟨d3, g1⟩ := f1
    obtain ⟨d4, g2⟩ := f2
    exact s.dj j k _ _ _ _ a' hne g1 g2 e3 e4
  · rcases hself j _ ej with ⟨_, ex⟩ | ⟨_, ej⟩
    · cases ex
    · exact (s.cx a' d1 e' h).2 j ej
/-! ## statements -/
def Ev.so {α : Type} (e : Ev α) (σ : Env) (f : α → Sto → So) : So := match e with
  | .ok a S => f a S
  | .ex x S => .ex x σ S
  | .bad => .bad
theorem SndE.runS {ta : TE} {fa : FE} {Q : VK} (ha : SndE K W ta fa) {w0 : Wd} (L0 : Lf w0 w) (s : Sim K W wf w S σd σv) {k : Rv → Sto → So} (h : PostS K W wf w0 D ((fa σd S).so σd k))
    (hk : ∀ r S1 w1 v, Le w w1 → StoR K w1 S1 → RepR K wf w w1 r v → PostS K W wf w0 D (k r S1) → Q v w1.H) : ta σv w.H Q := by
  refine ha wf w S σd σv Q s ?_
  revert h
  cases fa σd S with
  | ok r S1 => exact fun h w1 v L st R => hk r S1 w1 v L st R h
  | ex e S1 => exact fun h w1 c dd L st R => h w1 σv c dd (L0.trans L.lf) (s.step L st) R
  | bad => exact fun h => h
theorem SndA.runS {ta : TA} {fa : FA} {Q : List V → Hp → Prop} (ha : SndA K W ta fa) {w0 : Wd} (L0 : Lf w0 w) (s : Sim K W wf w S σd σv) {k : List Rv → Sto → So} (h : PostS K W wf w0 D ((fa σd S).so σd k))
    (hk : ∀ r S1 w1 v, Le w w1 → StoR K w1 S1 → RepRs K wf w w1 r v → PostS K W wf w0 D (k r S1) → Q v w1.H) : ta σv w.H Q := by
  refine ha wf w S σd σv Q s ?_
  revert h
  cases fa σd S with
  | ok r S1 => exact fun h w1 v L st R => hk r S1 w1 v L st R h
  | ex e S1 => exact fun h w1 c dd L st R => h w1 σv c dd (L0.trans L.lf) (s.step L st) R
  | bad => exact fun h => h
theorem SndT.runS {ta : TT} {fa : FT} {Q : Bool → Hp → Prop} (ha : SndT K W ta fa) {w0 : Wd} (L0 : Lf w0 w) (s : Sim K W wf w S σd σv) {k : Bool → Sto → So} (h : PostS K W wf w0 D ((fa σd S).so σd k))
    (hk : ∀ r S1 w1, Le w w1 → StoR K w1 S1 → PostS K W wf w0 D (k r S1) → Q r w1.H) : ta σv w.H Q := by
  refine ha wf w S σd σv Q s ?_
  revert h
  cases fa σd S with
  | ok r S1 => exact fun h w1 L st => hk r S1 w1 L st h
  | ex e S1 => exact fun h w1 c dd L st R => h w1 σv c dd (L0.trans L.lf) (s.step L st) R
  | bad => exact fun h => h
theorem PostS.shift {o : So} (L : Lf w w1) (h : PostS K W wf w D o) : PostS K W wf w1 D o := by
  cases o with
  | nx σ S => exact fun w2 σv L2 s => h w2 σv (L.trans L2) s
  | bk σ S => exact fun w2 σv L2 s => h w2 σv (L.trans L2) s
  | ct σ S => exact fun w2 σv L2 s => h w2 σv (L.trans L2) s
  | rt r S => exact h
  | ex e σ S => exact fun w2 σv c dd L2 s => h w2 σv c dd (L.trans L2) s
  | bad => exact h
def fNext : FS := fun σ S => .nx σ S
def fBreak : FS := fun σ S => .bk σ S
def fCont : FS := fun σ S => .ct σ S
def fNever : FS := fun _ _ => .bad
theorem snd_next : SndS K W tNext fNext := fun wf w S σd σv D s h => h w σv (Lf.refl _) s
theorem snd_break : SndS K W tBreak fBreak := fun wf w S σd σv D s h => h w σv (Lf.refl _) s
theorem snd_cont : SndS K W tCont fCont := fun wf w S σd σv D s h => h w σv (Lf.refl _) s
theorem snd_never : SndS K W tNever fNever := fun wf w S σd σv D s h => h
def fSeq (f g : FS) : FS := fun σ S => match f σ S with
  | .nx σ1 S1 => g σ1 S1
  | o => o
theorem snd_seq {t u : TS} {f g : FS} (h1 : SndS K W t f) (h2 : SndS K W u g) : SndS K W (tSeq t u) (fSeq f g) := by
  intro wf w S σd σv D s h
  refine h1 wf w S σd σv _ s ?_
  unfold fSeq at h
  revert h
  cases f σd S with
  | nx σ1 S1 => exact fun h w1 σv1 L1 s1 => h2 wf w1 S1 σ1 σv1 D s1 (h.shift L1)
  | bk σ S => exact fun h => h
  | ct σ S => exact fun h => h
  | rt r S => exact fun h => h
  | ex e σ S => exact fun h => h
  | bad => exact fun h => h
def Rv.out : Rv → Rv
  | .bo d => .fr d
  | r => r
theorem RepR.out (L : Le wf w) (st : StoR K w S) (R : RepR K wf w w1 r x) : RepR K wf wf w1 (Rv.out r) x := by
  cases r with
  | v d => exact R
  | fr d => exact OwnR.back R L st
  | bo d => exact R
def fRet (fe : FE) : FS := fun σ S => (fe σ S).so σ fun r S1 => .rt r.out S1
theorem snd_ret {te : TE} {fe : FE} (he : SndE K W te fe) : SndS K W (tRet te) (fRet fe) := by
  intro wf w S σd σv D s h
  exact he.runS (Lf.refl w) s h fun r S1 w1 v L1 st1 R1 h1 => h1 w1 v (s.le.trans L1) st1 (R1.out s.le s.st)
def fRetN : FS := fun σ S => .rt (.v .non) S
theorem snd_retN : SndS K W tRetN fRetN := fun wf w S σd σv D s h => h w _ s.le s.st .non
def fDrop (fe : FE) : FS := fun σ S => (fe σ S).so σ fun _ S1 => .nx σ S1
theorem snd_drop {te : TE} {fe : FE} (he : SndE K W te fe) : SndS K W (tDrop te) (fDrop fe) := by
  intro wf w S σd σv D s h
  exact he.runS (Lf.refl w) s h fun r S1 w1 v L1 st1 R1 h1 => h1 w1 σv L1.lf (s.step L1 st1)
def fIfS (ft : FT) (f g : FS) : FS := fun σ S => (ft σ S).so σ fun b S1 => if b = true then f σ S1 else g σ S1
theorem snd_ifS {tt : TT} {ft : FT} {t u : TS} {f g : FS} (ht : SndT K W tt ft) (h1 : SndS K W t f) (h2 : SndS K W u g) : SndS K W (tIfS tt t u) (fIfS ft f g) := by
  intro wf w S σd σv D s h
  refine ht.runS (Lf.refl w) s h fun b S1 w1 L1 st1 k => ?_
  cases b with
  | true => exact iteT (h1 wf w1 S1 σd σv D (s.step L1 st1) (PostS.shift L1.lf (by simpa using k)))
  | false => exact iteF (h2 wf w1 S1 σd σv D (s.step L1 st1) (PostS.shift L1.lf (by simpa using k)))
/-- x = e: a new object becomes the slot's own -/
def fSet (i : Nat) (fe : FE) : FS := fun σ S => (fe σ S).so σ fun r S1 => match r with
  | .v d => .nx (σ.set i (some (.v d))) S1
  | .fr d => .nx (σ.set i (some (.own d false))) S1
  | .bo _ => .bad
theorem snd_set {i : Nat} {te : TE} {fe : FE} (he : SndE K W te fe) : SndS K W (tAsg te (gName i)) (fSet i fe) := by
  intro wf w S σd σv D s h
  refine he.runS (Lf.refl w) s h fun r S1 w1 v L1 st1 R1 h1 => ?_
  cases r with
  | v d => exact h1 w1 _ L1.lf ((s.step L1 st1).setV R1)
  | fr d => exact h1 w1 _ L1.lf (s.setO L1 st1 R1)
  | bo d => exact h1.elim
/-- x = e, frozen -/
def fSetD (i : Nat) (fe : FE) : FS := fun σ S => (fe σ S).so σ fun r S1 => match r.toD with
  | some d => .nx (σ.set i (some (.v d))) S1
  | none => .bad
theorem snd_setD {i : Nat} {te : TE} {fe : FE} (he : SndE K W te fe) : SndS K W (tAsg te (gName i)) (fSetD i fe) := by
  intro wf w S σd σv D s h
  refine he.runS (Lf.refl w) s h fun r S1 w1 v L1 st1 R1 h1 => ?_
  revert h1
  split
  · rename_i d e
    intro h1
    exact h1 (w.frz w1) _ L1.frz.lf ((s.step L1.frz st1.frz).setV (R1.frz e))
  · intro h1; exact h1.elim
/-! ### targets -/
variable (K) in
def SndG (W : Cw) (g : TG) (fg : FG) (js : List Nat) : Prop := ∀ wf w S σd σv d x Q, Sim K W wf w S σd σv → Rep K w d x →
  (∃ σ1, fg d σd = some σ1 ∧ ∀ σv1, Sim K W wf w S σ1 σv1 → (∀ k, k ∉ js → σv1[k]? = σv[k]?) → σv1.length = σv.length → Q σv1 w.H) → g x σv w.H Q
variable (K) in
def SndGs (W : Cw) (g : TGs) (fg : List Da → Env → Option Env) (js : List Nat) : Prop := ∀ wf w S σd σv ds xs Q, Sim K W wf w S σd σv → Reps K w ds xs →
  (∃ σ1, fg ds σd = some σ1 ∧ ∀ σv1, Sim K W wf w S σ1 σv1 → (∀ k, k ∉ js → σv1[k]? = σv[k]?) → σv1.length = σv.length → Q σv1 w.H) → g xs σv w.H Q
def fgName (i : Nat) : FG := fun d σ => some (σ.set i (some (.v d)))
theorem snd_gName {i : Nat} : SndG K W (gName i) (fgName i) [i] := fun wf w S σd σv d x Q s r ⟨σ1, e, h⟩ => by
  cases e
  exact h _ (s.setV r) (fun k hk => by rw [List.getElem?_set_ne (by simpa using fun z => hk (by simp [z]))]) (by simp)
def fgNil : List Da → Env → Option Env
  | [], σ => some σ
  | _, _ => none
def fgCons (f : FG) (g : List Da → Env → Option Env) : List Da → Env → Option Env
  | d :: ds, σ => match f d σ with
    | some σ1 => g ds σ1
    | none => none
  | [], _ => none
theorem snd_gNil : SndGs K W gNil fgNil [] := by
  intro wf w S σd σv ds xs Q s r ⟨σ1, e, h⟩
  cases r with
  | nil => cases e; exact ⟨rfl, h _ s (fun _ _ => rfl) rfl⟩
  | cons a b => cases e
theorem snd_gCons {g : TG} {fg : FG} {gs : TGs} {fgs : List Da → Env → Option Env} {js ks : List Nat} (h1 : SndG K W g fg js) (h2 : SndGs K W gs fgs ks) : SndGs K W (gCons g gs) (fgCons fg fgs) (js ++ ks) := by
  intro wf w S σd σv ds xs Q s r ⟨σ2, e, h⟩
  cases r with
  | nil => cases e
  | cons a b =>
    rename_i d v ds vs
    simp only [fgCons] at e
    cases e0 : fg d σd with
    | none => rw [e0] at e; cases e
    | some σ1 =>
      rw [e0] at e
      refine ⟨v, vs, rfl, h1 wf w S σd σv d v _ s a ⟨σ1, e0, fun σv1 s1 e1 l1 => ?_⟩⟩
      exact h2 wf w S σ1 σv1 ds vs _ s1 b ⟨σ2, e, fun σv2 s2 e2 l2 => h σv2 s2 (fun k hk => by rw [e2 k (fun z => hk (by simp [z])), e1 k (fun z => hk (by simp [z]))]) (l2.trans l1)⟩
def fgTup (n : Nat) (f : List Da → Env → Option Env) : FG := fun d σ => match d with
  | .tup ds => if ds.length = n then f ds σ else none
  | _ => none
theorem snd_gTup {n : Nat} {gs : TGs} {fgs : List Da → Env → Option Env} {js : List Nat} (h1 : SndGs K W gs fgs js) : SndG K W (gTup K n gs) (fgTup n fgs) js := by
  intro wf w S σd σv d x Q s r ⟨σ1, e, h⟩
  cases d with
  | tup ds =>
    cases r with
    | tup f rs =>
      rename_i a vs
      simp only [fgTup] at e
      by_cases hl : ds.length = n
      · rw [if_pos hl] at e
        exact ⟨a, vs, rfl, f.sq, by rw [rs.length]; exact hl, h1 wf w S σd σv ds vs Q s rs ⟨σ1, e, h⟩⟩
      · rw [if_neg hl] at e; cases e
  | _ => cases e
def fAsg (fe : FE) (fg : FG) : FS := fun σ S => (fe σ S).so σ fun r S1 => match r.toD with
  | some d => match fg d σ with
    | some σ1 => .nx σ1 S1
    | none => .bad
  | none => .bad
theorem snd_asg {te : TE} {fe : FE} {g : TG} {fg : FG} {js : List Nat} (he : SndE K W te fe) (hg : SndG K W g fg js) : SndS K W (tAsg te g) (fAsg fe fg) := by
  intro wf w S σd σv D s h
  refine he.runS (Lf.refl w) s h fun r S1 w1 v L1 st1 R1 h1 => ?_
  revert h1
  split
  · rename_i d e
    split
    · rename_i σ1 e1
      intro h1
      exact hg wf (w.frz w1) S1 σd σv d v _ (s.step L1.frz st1.frz) (R1.frz e) ⟨σ1, e1, fun σv1 s1 _ _ => h1 (w.frz w1) σv1 L1.frz.lf s1⟩
    · intro h1; exact h1.elim
  · intro h1; exact h1.elim
def fPar (i j : Nat) (fa : FA) : FS := fun σ S => (fa σ S).so σ fun rs S1 => match rs with
  | [.v d, .v e] => .nx ((σ.set i (some (.v d))).set j (some (.v e))) S1
  | _ => .bad
theorem snd_par {i j : Nat} {ta : TA} {fa : FA} (ha : SndA K W ta fa) : SndS K W (tPar i j ta) (fPar i j fa) := by
  intro wf w S σd σv D s h
  refine ha.runS (Lf.refl w) s h fun rs S1 w1 vs L1 st1 R1 h1 => ?_
  revert h1
  split
  · intro h1
    obtain ⟨v, u, rfl, R2, R3⟩ := R1.two
    exact ⟨v, u, rfl, h1 w1 _ L1.lf (((s.step L1 st1).setV R2).setV R3)⟩
  · intro h1; exact h1.elim
/-! ### changes in place -/
def fFrz (i : Nat) (f : FS) : FS := fun σ S => match σ[i]? with
  | some (some (.own d false)) => f (σ.set i (some (.v d))) S
  | some (some (.v _)) => f σ S
  | _ => .bad
theorem snd_frz {i : Nat} {t : TS} {f : FS} (h1 : SndS K W t f) : SndS K W t (fFrz i f) := by
  intro wf w S σd σv D s h
  unfold fFrz at h
  split at h
  · rename_i d e
    obtain ⟨v, ev, ⟨a, rfl, n, c, ow, nm⟩, _⟩ := s.sl i _ e
    have lf : Lf w { w with ow := fun b => w.ow b ∧ b ≠ a } := ⟨List.prefix_refl _, fun b u eb f => ⟨eb, f.1, fun z => f.2 z.1⟩⟩
    have s1 : Sim K W wf { w with ow := fun b => w.ow b ∧ b ≠ a } S (σd.set i (some (.v d))) σv := by
      refine ⟨⟨s.le.pre, fun b u eb nb => ?_⟩, ⟨s.st.len, s.st.nd, fun n b d e1 e2 => (s.st.at_ n b d e1 e2).lf lf fun _ z => z, fun b hb => s.st.own b hb.1, fun b hb z => s.st.sep b hb z.1⟩, by simp [s.ln], fun j x ej => ?_, fun j k d1 d2 b1 b2 a' hne e1 e2 e3 e4 => ?_, fun a' d1 e' h => ⟨(s.cx a' d1 e' h).1.lf lf, fun j ej => ?_⟩⟩
      · obtain ⟨g1, g2, g3⟩ := s.le.kp b u eb nb
        exact ⟨g1, g2, ⟨fun z => g3.mp z.1, fun z => ⟨g3.mpr z, fun y => by rw [y, n] at eb; cases eb⟩⟩⟩
      · by_cases hj : i = j
        · subst hj
          rw [List.getElem?_set_self (List.getElem?_eq_some_iff.mp e).1] at ej
          cases ej
          exact ⟨_, ev, (c.lf lf fun _ z => z).rep ⟨nm, fun z => z.2 rfl⟩⟩
        · rw [List.getElem?_set_ne hj] at ej
          obtain ⟨v, g1, g2⟩ := s.sl j x ej
          refine ⟨v, g1, ?_⟩
          cases x with
          | v d1 => exact Rep.lf lf g2
          | exn => exact True.intro
          | own d1 b1 =>
            obtain ⟨⟨a3, h3, h4, h5, h6, h7⟩, h8⟩ := g2
            subst h3
            exact ⟨⟨a3, rfl, h4, h5.lf lf fun _ z => z, ⟨h6, fun z => s.dj i j d d1 _ b1 a hj e ej ev (by rw [← z]; exact g1)⟩, h7⟩, h8⟩
      · by_cases hj : i = j
        · subst hj
          rw [List.getElem?_set_self (List.getElem?_eq_some_iff.mp e).1] at e1; cases e1
        · by_cases hk : i = k
          · subst hk
            rw [List.getElem?_set_self (List.getElem?_eq_some_iff.mp e).1] at e2; cases e2
          · rw [List.getElem?_set_ne hj] at e1
            rw [List.getElem?_set_ne hk] at e2
            exact s.dj j k _ _ _ _ a' hne e1 e2 e3 e4
      · by_cases hj : i = j
        · subst hj
          rw [List.getElem?_set_self (List.getElem?_eq_some_iff.mp e).1] at ej; cases ej
        · rw [List.getElem?_set_ne hj] at ej
          exact (s.cx a' d1 e' h).2 j ej
    exact h1 wf { w with ow := fun b => w.ow b ∧ b ≠ a } S _ σv D s1 (h.shift lf)
  · exact h1 wf w S σd σv D s h
  · exact h.elim
end
end Cl

/-! ## Fun6 -/
namespace Cl
open PySem PySem.Spec PyProof.Rows L2
section
variable {K : PySem.W.Frag} {W : Cw} {wf w w1 w2 : Wd} {S S1 : Sto} {σd : Env} {σv : L2.St} {D : Ends}
theorem lf_putC {n : Nat} {a : Addr} {o : HO} (hm : w.m[n]? = some a) : Lf w { w with H := upd w.H a o } := ⟨List.prefix_refl _, fun b u e f => by
  have ne : b ≠ a := fun z => f.1 (z ▸ List.mem_of_getElem? hm)
  exact ⟨by show upd w.H a o b = some u; rw [upd_ne ne]; exact e, f⟩⟩
theorem Sim.putC (s : Sim K W wf w S σd σv) {n : Nat} {a : Addr} {o : HO} {d' : Da} (hm : w.m[n]? = some a) (hc : ConR K { w with H := L2.upd w.H a o } a d') : Sim K W wf { w with H := L2.upd w.H a o } (S.set n d') σd σv := by
  have lf := lf_putC (o := o) hm
  have hmem := List.mem_of_getElem? hm
  refine ⟨⟨s.le.pre, fun c' u ec nc => ?_⟩, ⟨by simp [s.st.len], s.st.nd, fun k b d e1 e2 => ?_, fun b hb => ?_, s.st.sep⟩, s.ln, fun j x ej => ?_, s.dj, fun a' d1 e' h => ⟨(s.cx a' d1 e' h).1.lf lf, (s.cx a' d1 e' h).2⟩⟩
  · obtain ⟨h1, h2, h3⟩ := s.le.kp c' u ec nc
    have ne : c' ≠ a := fun z => h2 (z ▸ hmem)
    exact ⟨by show L2.upd w.H a o c' = some u; rw [upd_ne ne]; exact h1, h2, h3⟩
  · by_cases hk : n = k
    · subst hk
      have e1' : w.m[n]? = some b := e1
      rw [hm] at e1'; cases e1'
      by_cases hl : n < S.length
      · rw [List.getElem?_set_self hl] at e2; cases e2; exact hc
      · rw [List.getElem?_eq_none (by simp; omega)] at e2; cases e2
    · rw [List.getElem?_set_ne hk] at e2
      have e1' : w.m[k]? = some b := e1
      have ne : b ≠ a := fun z => by
        rw [z, ← hm] at e1'
        exact hk ((List.getElem?_inj (List.getElem?_eq_some_iff.mp hm).1 s.st.nd).mp e1'.symm)
      refine (s.st.at_ k b d e1' e2).lf lf fun u e => ?_
      show L2.upd w.H a o b = some u
      rw [upd_ne ne]; exact e
  · show L2.upd w.H a o b ≠ none
    by_cases ne : b = a
    · rw [ne, upd_same]; simp
    · rw [upd_ne ne]; exact s.st.own b hb
  · obtain ⟨v, h1, h2⟩ := s.sl j x ej
    refine ⟨v, h1, ?_⟩
    cases x with
    | v d1 => exact Rep.lf lf h2
    | exn => exact True.intro
    | own d1 b1 =>
      obtain ⟨⟨a3, h3, h4, h5, h6, h7⟩, h8⟩ := h2
      subst h3
      refine ⟨⟨a3, rfl, h4, h5.lf lf fun u eu => ?_, h6, h7⟩, h8⟩
      have ne : a3 ≠ a := fun z => h7 (z ▸ hmem)
      show L2.upd w.H a o a3 = some u
      rw [upd_ne ne]; exact eu
/-! ### xs.append(e) -/
def fAppS (i : Nat) (fe : FE) : FS := fun σ S => match σ[i]? with
  | some (some (.own (.lst ds) b)) => (fe σ S).so σ fun r S1 => match r.toD with
    | some d => if ds.length < 1000000 then .nx (σ.set i (some (.own (.lst (ds ++ [d])) b))) S1 else .bad
    | none => .bad
  | some (some (.v (.cell n))) => match S[n]? with
    | some (.lst _) => (fe σ S).so σ fun r S1 => match r.toD, S1[n]? with
      | some d, some (.lst ds) => if ds.length < 1000000 then .nx σ (S1.set n (.lst (ds ++ [d]))) else .bad
      | _, _ => .bad
    | _ => .bad
  | _ => .bad
theorem PostS.ite {c : Prop} [Decidable c] {o : So} {w0 : Wd} (h : PostS K W wf w0 D (if c then o else .bad)) : c ∧ PostS K W wf w0 D o := by
  by_cases hc : c
  · rw [if_pos hc] at h; exact ⟨hc, h⟩
  · rw [if_neg hc] at h; exact h.elim
theorem snd_appS {i : Nat} {te : TE} {fe : FE} (he : SndE K W te fe) : SndS K W (tDrop (tBM K "list" rAppend (tVar i) (tCons te tNil))) (fAppS i fe) := by
  intro wf w S σd σv D s h
  unfold fAppS at h
  split at h
  · rename_i ds b e
    obtain ⟨v, ev, ⟨a, rfl, n, ⟨vs, g1, g2⟩, ow, nm⟩, _⟩ := s.sl i _ e
    refine ⟨_, ev, .inl ⟨rfl, vs, SqL.of g1⟩, he.runS (Lf.refl w) s h fun r S1 w1 v L1 st1 R1 h1 => ?_⟩
    revert h1
    split
    · rename_i d ed
      intro h1
      obtain ⟨hz, h2⟩ := h1.ite
      have hw : (w.frz w1).H a = some (.lst vs) := (L1.kp a _ g1 nm).1
      have how : (w.frz w1).ow a := ⟨(L1.kp a _ g1 nm).2.2.mpr ow, by rw [g1]; simp⟩
      refine ⟨a, vs, v, rfl, rfl, hw, sz_lt (by rw [g2.length]; omega), ?_⟩
      refine h2 { w.frz w1 with H := L2.upd (w.frz w1).H a (.lst (vs ++ [v])) } σv (L1.frz.lf.trans (own_put how)) ?_
      exact (s.step L1.frz st1.frz).put e ev ⟨vs ++ [v], upd_same, ((g2.le L1.frz).app (.cons (R1.frz ed) .nil)).lf (own_put how)⟩
    · intro h1; exact h1.elim
  · rename_i n e
    obtain ⟨v, ev, hr⟩ := s.sl i _ e
    have hr' : Rep K w (.cell n) v := hr
    cases hr' with
    | cell hm =>
      rename_i a
      split at h
      · rename_i ds0 hS
        obtain ⟨vs0, g0, _⟩ := s.st.at_ n a _ hm hS
        refine ⟨_, ev, .inl ⟨rfl, vs0, SqL.of g0⟩, he.runS (Lf.refl w) s h fun r S1 w1 v L1 st1 R1 h1 => ?_⟩
        revert h1
        split
        · rename_i d ds ed eS
          intro h1
          obtain ⟨hz, h2⟩ := h1.ite
          have hm1 : (w.frz w1).m[n]? = some a := pre_at L1.pre hm
          have st2 : StoR K (w.frz w1) S1 := st1.frz
          obtain ⟨vs, g1, g2⟩ := st2.at_ n a _ hm1 eS
          refine ⟨a, vs, v, rfl, rfl, g1, sz_lt (by rw [g2.length]; omega), ?_⟩
          refine h2 { w.frz w1 with H := L2.upd (w.frz w1).H a (.lst (vs ++ [v])) } σv (L1.frz.lf.trans (lf_putC hm1)) ?_
          exact (s.step L1.frz st2).putC hm1 ⟨vs ++ [v], upd_same, (g2.app (.cons (R1.frz ed) .nil)).lf (lf_putC hm1)⟩
        · intro h1; exact h1.elim
      · exact h.elim
  · exact h.elim
/-! ### xs[i] = e -/
def fSetI (i : Nat) (fe fi : FE) : FS := fun σ S => match σ[i]? with
  | some (some (.own (.lst ds) b)) => (fe σ S).so σ fun r S1 => (fi σ S1).so σ fun q S2 => match q, r.toD with
    | .v (.int k), some d => match ixN ds.length k with
      | some j => .nx (σ.set i (some (.own (.lst (ds.set j d)) b))) S2
      | none => .bad
    | _, _ => .bad
  | some (some (.v (.cell n))) => (fe σ S).so σ fun r S1 => (fi σ S1).so σ fun q S2 => match q, r.toD, S2[n]? with
    | .v (.int k), some d, some (.lst ds) => match ixN ds.length k with
      | some j => .nx σ (S2.set n (.lst (ds.set j d)))
      | none => .bad
    | _, _, _ => .bad
  | _ => .bad
theorem snd_setI {i : Nat} {te ti : TE} {fe fi : FE} (he : SndE K W te fe) (hi : SndE K W ti fi) : SndS K W (tAsg te (gSub (tVar i) ti rSetL)) (fSetI i fe fi) := by
  intro wf w S σd σv D s h
  unfold fSetI at h
  split at h
  · rename_i ds b e
    obtain ⟨v0, ev, ⟨a, rfl, n, ⟨vs, g1, g2⟩, ow, nm⟩, _⟩ := s.sl i _ e
    refine he.runS (Lf.refl w) s h fun r S1 w1 v L1 st1 R1 h1 => ⟨_, ev, hi.runS L1.lf (s.step L1 st1) h1 fun q S2 w2 u L2 st2 R2 h2 => ?_⟩
    revert h2
    split
    · rename_i k d ed
      split
      · rename_i j ej
        intro h2
        have L := L1.trans L2
        cases R2
        have hw : (w.frz w2).H a = some (.lst vs) := (L.kp a _ g1 nm).1
        have how : (w.frz w2).ow a := ⟨(L.kp a _ g1 nm).2.2.mpr ow, by rw [g1]; simp⟩
        refine ⟨a, vs, k, j, rfl, rfl, hw, by rw [g2.length]; exact ej, ?_⟩
        refine h2 { w.frz w2 with H := upd (w.frz w2).H a (.lst (vs.set j v)) } σv (L.frz.lf.trans (own_put how)) ?_
        exact (s.step L.frz st2.frz).put e ev ⟨vs.set j v, upd_same, ((g2.le L.frz).set ((R1.le L2).frz ed) j).lf (own_put how)⟩
      · intro h2; exact h2.elim
    · intro h2; exact h2.elim
  · rename_i n e
    obtain ⟨v0, ev, hr⟩ := s.sl i _ e
    have hr' : Rep K w (.cell n) v0 := hr
    cases hr' with
    | cell hm =>
      rename_i a
      refine he.runS (Lf.refl w) s h fun r S1 w1 v L1 st1 R1 h1 => ⟨_, ev, hi.runS L1.lf (s.step L1 st1) h1 fun q S2 w2 u L2 st2 R2 h2 => ?_⟩
      revert h2
      split
      · rename_i k d ds ed eS
        split
        · rename_i j ej
          intro h2
          have L := L1.trans L2
          cases R2
          have hm1 : (w.frz w2).m[n]? = some a := pre_at L.pre hm
          have st3 : StoR K (w.frz w2) S2 := st2.frz
          obtain ⟨vs, g1, g2⟩ := st3.at_ n a _ hm1 eS
          refine ⟨a, vs, k, j, rfl, rfl, g1, by rw [g2.length]; exact ej, ?_⟩
          refine h2 { w.frz w2 with H := upd (w.frz w2).H a (.lst (vs.set j v)) } σv (L.frz.lf.trans (lf_putC hm1)) ?_
          exact (s.step L.frz st3).putC hm1 ⟨vs.set j v, upd_same, (g2.set ((R1.le L2).frz ed) j).lf (lf_putC hm1)⟩
        · intro h2; exact h2.elim
      · intro h2; exact h2.elim
  · exact h.elim
/-! ### o.f = e -/
def putN : List Str → List Da → Str → Da → List Str × List Da
  | [], _, f, d => ([f], [d])
  | n :: ns, [], f, d => (n :: ns, [])
  | n :: ns, x :: xs, f, d => if n = f then (n :: ns, d :: xs) else (n :: (putN ns xs f d).1, x :: (putN ns xs f d).2)
theorem putN_of {y : V} {f : Str} {d : Da} (hr : Rep K w d y) : ∀ {fs : List (Str × V)} {ns : List Str} {ds : List Da}, fs.map (·.1) = ns → Reps K w ds (fs.map (·.2)) → (putF f y fs).map (·.1) = (putN ns ds f d).1 ∧ Reps K w (putN ns ds f d).2 ((putF f y fs).map (·.2))
  | [], ns, ds, e, r => by subst e; cases r; exact ⟨rfl, .cons hr .nil⟩
  | (g, v) :: fs, ns, ds, e, r => by
    subst e
    cases r with
    | cons h r =>
      rename_i d0 ds
      by_cases hg : g = f
      · simp only [List.map_cons, putF, putN, if_pos hg]
        exact ⟨by simp, .cons hr r⟩
      · simp only [List.map_cons, putF, putN, if_neg hg]
        obtain ⟨h1, h2⟩ := putN_of hr (fs := fs) (ns := fs.map (·.1)) (ds := ds) rfl r
        exact ⟨by rw [h1], .cons h h2⟩
def fSFld (i : Nat) (C f : Str) (fe : FE) : FS := fun σ S => (fe σ S).so σ fun r S1 => match σ[i]?, r.toD with
  | some (some (.own (.obj C' ns ds) b)), some d => if C' = C ∧ ns.length < 1000 then .nx (σ.set i (some (.own (.obj C (putN ns ds f d).1 (putN ns ds f d).2) b))) S1 else .bad
  | some (some (.v (.cell n))), some d => match S1[n]? with
    | some (.obj C' ns ds) => if C' = C ∧ ns.length < 1000 then .nx σ (S1.set n (.obj C (putN ns ds f d).1 (putN ns ds f d).2)) else .bad
    | _ => .bad
  | _, _ => .bad
theorem snd_sFld {i : Nat} {C f : Str} {te : TE} {fe : FE} (hc : Cls K (He.ga K C)) (hn : NoAttr K (He.ga K C) f) (he : SndE K W te fe) : SndS K W (sFld K (tVar i) te f) (fSFld i C f fe) := by
  intro wf w S σd σv D s h
  refine he.runS (Lf.refl w) s h fun r S1 w1 v L1 st1 R1 h1 => ?_
  have s1 := s.step L1.frz st1.frz
  revert h1
  split
  · rename_i C' ns ds b d e ed
    intro h1
    obtain ⟨⟨rfl, hz⟩, h2⟩ := h1.ite
    obtain ⟨v0, ev, ⟨a, rfl, n, ⟨dx, fs, g1, g2, g3⟩, ow, nm⟩, _⟩ := s1.sl i _ e
    obtain ⟨q1, q2⟩ := putN_of (f := f) (R1.frz ed) g2 g3
    refine ⟨_, ev, a, _, dx, fs, rfl, g1, hc, hn, by rw [← List.length_map (f := (·.1)), g2]; exact hz, ?_⟩
    refine h2 { w.frz w1 with H := L2.upd (w.frz w1).H a (.ins (He.ga K C') dx (putF f v fs)) } σv (L1.frz.lf.trans (own_put ow)) ?_
    exact s1.put e ev ⟨dx, putF f v fs, upd_same, q1, q2.lf (own_put ow)⟩
  · rename_i n d e ed
    split
    · rename_i C' ns ds eS
      intro h1
      obtain ⟨⟨rfl, hz⟩, h2⟩ := h1.ite
      obtain ⟨v0, ev, hr⟩ := s1.sl i _ e
      have hr' : Rep K (w.frz w1) (.cell n) v0 := hr
      cases hr' with
      | cell hm =>
        rename_i a
        obtain ⟨dx, fs, g1, g2, g3⟩ := s1.st.at_ n a _ hm eS
        obtain ⟨q1, q2⟩ := putN_of (f := f) (R1.frz ed) g2 g3
        refine ⟨_, ev, a, _, dx, fs, rfl, g1, hc, hn, by rw [← List.length_map (f := (·.1)), g2]; exact hz, ?_⟩
        refine h2 { w.frz w1 with H := L2.upd (w.frz w1).H a (.ins (He.ga K C') dx (putF f v fs)) } σv (L1.frz.lf.trans (lf_putC hm)) ?_
        exact s1.putC hm ⟨dx, putF f v fs, upd_same, q1, q2.lf (lf_putC hm)⟩
    · intro h1; exact h1.elim
  · intro h1; exact h1.elim
/-! ### what a loop walks over -/
variable (K) in
def IterOk (Rl : Wd → Wd → Prop) (w1 : Wd) (J : It) (items : List Da) : Prop := ∃ G Y, Walk J items.length G Y ∧ (∀ w2 S2, Rl w1 w2 → StoR K w2 S2 → G w2.H) ∧
  ∀ (i : Nat) w2 S2 x H', i < items.length → Rl w1 w2 → StoR K w2 S2 → Y i w2.H x H' → ∃ w3 d, w3.H = H' ∧ items[i]? = some d ∧ Le w2 w3 ∧ StoR K w3 S2 ∧ Rep K w3 d x
variable (K W) in
def SndI (Rl : Wd → Wd → Prop) (wi : TI) (fi : FI) : Prop := ∀ wf w S σd σv R, Sim K W wf w S σd σv → Po (fun items S' => ∀ w' J, Le w w' → StoR K w' S' → IterOk K Rl w' J items → R J w'.H) (XP K W w σv) (fi σd S) → wi σv w.H R
theorem IterOk.weak {Rl Rm : Wd → Wd → Prop} (hr : ∀ w w', Rm w w' → Rl w w') {J : It} {items : List Da} (h : IterOk K Rl w J items) : IterOk K Rm w J items := by
  obtain ⟨G, Y, h1, h2, h3⟩ := h
  exact ⟨G, Y, h1, fun w2 S2 L => h2 w2 S2 (hr _ _ L), fun i w2 S2 x H' hi L => h3 i w2 S2 x H' hi (hr _ _ L)⟩
theorem SndI.le {wi : TI} {fi : FI} (h : SndI K W Lf wi fi) : SndI K W Le wi fi := by
  intro wf w S σd σv R s hp
  refine h wf w S σd σv R s ?_
  revert hp
  cases fi σd S with
  | ok a S' => exact fun hp w' J L st it => hp w' J L st (it.weak fun _ _ l => l.lf)
  | ex e S' => exact fun hp => hp
  | bad => exact fun hp => hp
theorem iter_list {a : Addr} {vs : List V} {ds : List Da} {Rl : Wd → Wd → Prop} (hr : Reps K w ds vs) (h1 : ∀ w2, Rl w w2 → SqL K w2.H a vs) (h2 : ∀ w2, Rl w w2 → Lf w w2) : IterOk K Rl w (Itl K a) ds :=
  ⟨_, _, by rw [← hr.length]; exact walk_list (K := K) (a := a) (xs := vs), fun w2 S2 L st => h1 w2 L, fun i w2 S2 x H' hi L st y => by
    obtain ⟨e, ex⟩ := y
    obtain ⟨d, e1, r⟩ := hr.at' ex
    exact ⟨w2, d, e.symm, e1, Le.refl _, st, r.lf (h2 w2 L)⟩⟩
theorem iter_tup {a : Addr} {vs : List V} {ds : List Da} {Rl : Wd → Wd → Prop} (hr : Reps K w ds vs) (h1 : ∀ w2, Rl w w2 → SqT K w2.H a vs) (h2 : ∀ w2, Rl w w2 → Lf w w2) : IterOk K Rl w (Itt K a) ds :=
  ⟨_, _, by rw [← hr.length]; exact walk_tup (K := K) (a := a) (xs := vs), fun w2 S2 L st => h1 w2 L, fun i w2 S2 x H' hi L st y => by
    obtain ⟨e, ex⟩ := y
    obtain ⟨d, e1, r⟩ := hr.at' ex
    exact ⟨w2, d, e.symm, e1, Le.refl _, st, r.lf (h2 w2 L)⟩⟩
def fiL (fe : FE) : FI := fun σ S => (fe σ S).bd fun r S1 => match r.toD with
  | some (.lst ds) => .ok ds S1
  | _ => .bad
theorem snd_iL {te : TE} {fe : FE} (he : SndE K W te fe) : SndI K W Lf (iList K te) (fiL fe) := by
  intro wf w S σd σv R s h
  refine he.run (Le.refl w) s h fun r S1 w1 v L1 st1 R1 h1 => ?_
  revert h1
  split
  · rename_i ds e
    intro h1
    have r := R1.frz e
    cases r with
    | lst g1 f g2 =>
      rename_i a vs
      exact ⟨a, rfl, ⟨vs, SqL.of g1⟩, h1 (w.frz w1) _ L1.frz st1.frz (iter_list g2 (fun w2 L => SqL.of (L.kp _ _ g1 f).1) fun w2 L => L)⟩
  · intro h1; exact h1.elim
/-- in a comprehension also over a list of a slot's own -/
def fiB (fe : FE) : FI := fun σ S => (fe σ S).bd fun r S1 => match r with
  | .v (.lst ds) => .ok ds S1
  | .fr (.lst ds) => .ok ds S1
  | .bo (.lst ds) => .ok ds S1
  | _ => .bad
theorem own_iter {w0 : Wd} {ds : List Da} {v : V} (h : OwnR K w0 w (.lst ds) v) : ∃ a vs, v = .ref a ∧ SqL K w.H a vs ∧ IterOk K Le w (Itl K a) ds := by
  obtain ⟨a, e, n, ⟨vs, g1, g2⟩, ow, nm⟩ := h
  exact ⟨a, vs, e, SqL.of g1, iter_list g2 (fun w2 L => SqL.of (L.kp _ _ g1 nm).1) fun w2 L => L.lf⟩
theorem snd_iB {te : TE} {fe : FE} (he : SndE K W te fe) : SndI K W Le (iList K te) (fiB fe) := by
  intro wf w S σd σv R s h
  refine he.run (Le.refl w) s h fun r S1 w1 v L1 st1 R1 h1 => ?_
  revert h1
  split
  · intro h1
    have r : Rep K w1 _ v := R1
    cases r with
    | lst g1 f g2 => exact ⟨_, rfl, ⟨_, SqL.of g1⟩, h1 w1 _ L1 st1 (iter_list g2 (fun w2 L => SqL.of (L.lf.kp _ _ g1 f).1) fun w2 L => L.lf)⟩
  · intro h1
    obtain ⟨a, vs, e, g1, g2⟩ := own_iter R1
    exact ⟨a, e, ⟨vs, g1⟩, h1 w1 _ L1 st1 g2⟩
  · intro h1
    obtain ⟨a, vs, e, g1, g2⟩ := own_iter R1
    exact ⟨a, e, ⟨vs, g1⟩, h1 w1 _ L1 st1 g2⟩
  · intro h1; exact h1.elim
def fiT (fe : FE) : FI := fun σ S => (fe σ S).bd fun r S1 => match r with
  | .v (.tup ds) => .ok ds S1
  | _ => .bad
theorem FzT.lf {w' : Wd} (L : Lf w w') {a : Addr} {vs : List V} (h : FzT K w a vs) : FzT K w' a vs := h.elim (fun h => .inl (L.rd h.1 h.2)) .inr
theorem snd_iT {te : TE} {fe : FE} (he : SndE K W te fe) : SndI K W Lf (iTup K te) (fiT fe) := by
  intro wf w S σd σv R s h
  refine he.run (Le.refl w) s h fun r S1 w1 v L1 st1 R1 h1 => ?_
  revert h1
  split
  · intro h1
    have r : Rep K w1 _ v := R1
    cases r with
    | tup f g2 => exact ⟨_, rfl, ⟨_, f.sq⟩, h1 w1 _ L1 st1 (iter_tup g2 (fun w2 L => (f.lf L).sq) fun w2 L => L)⟩
  · intro h1; exact h1.elim
def rgD2 (i j : Int) : List Da := (List.range (j - i).toNat).map fun k => Da.int (i + (k : Nat))
def fiR1 (fa : FA) : FI := fun σ S => (fa σ S).bd fun rs S1 => match rs with
  | [.v (.int j)] => if -4611686018427387904 ≤ j ∧ j < 4611686018427387904 then .ok (rgD j) S1 else .bad
  | _ => .bad
def fiR2 (fa : FA) : FI := fun σ S => (fa σ S).bd fun rs S1 => match rs with
  | [.v (.int i), .v (.int j)] => if (-4611686018427387904 ≤ i ∧ i < 4611686018427387904) ∧ -4611686018427387904 ≤ j ∧ j < 4611686018427387904 then .ok (rgD2 i j) S1 else .bad
  | _ => .bad
theorem iter_range {Rl : Wd → Wd → Prop} (lo : Int) (n : Nat) : IterOk K Rl w (Itr lo n) ((List.range n).map fun k => Da.int (lo + (k : Nat))) :=
  ⟨_, _, by rw [List.length_map, List.length_range]; exact walk_range, fun _ _ _ _ => True.intro, fun i w2 S2 x H' hi L st y => by
    obtain ⟨e, ex⟩ := y
    rw [List.length_map, List.length_range] at hi
    exact ⟨w2, _, e.symm, by rw [List.getElem?_map, List.getElem?_range hi]; rfl, Le.refl _, st, by rw [ex]; exact .int _⟩⟩
theorem snd_iR1 {ta : TA} {fa : FA} (ha : SndA K W ta fa) : SndI K W Lf (iRng1 ta) (fiR1 fa) := by
  intro wf w S σd σv R s h
  refine ha.run (Le.refl w) s h fun rs S1 w1 vs L1 st1 R1 h1 => ?_
  revert h1
  split
  · rename_i j
    intro h1
    obtain ⟨hz, h2⟩ := h1.ite
    obtain ⟨v, rfl, R2⟩ := R1.one
    cases R2
    refine ⟨j, rfl, by omega, by omega, h2 w1 _ L1 st1 ?_⟩
    have e : rgD j = (List.range j.toNat).map fun k => Da.int (0 + (k : Nat)) := by unfold rgD; simp
    rw [e]; exact iter_range 0 j.toNat
  · intro h1; exact h1.elim
theorem snd_iR2 {ta : TA} {fa : FA} (ha : SndA K W ta fa) : SndI K W Lf (iRng2 ta) (fiR2 fa) := by
  intro wf w S σd σv R s h
  refine ha.run (Le.refl w) s h fun rs S1 w1 vs L1 st1 R1 h1 => ?_
  revert h1
  split
  · rename_i i j
    intro h1
    obtain ⟨hz, h2⟩ := h1.ite
    obtain ⟨v, u, rfl, R2, R3⟩ := R1.two
    cases R2; cases R3
    exact ⟨i, j, rfl, by omega, h2 w1 _ L1 st1 (iter_range i (j - i).toNat)⟩
  · intro h1; exact h1.elim
def chD (z : Str) : List Da := z.cps.toList.map fun c => Da.str ⟨#[c]⟩
def fiS (fe : FE) : FI := fun σ S => (fe σ S).bd fun r S1 => match r with
  | .v (.str z) => .ok (chD z) S1
  | _ => .bad
theorem snd_iS {te : TE} {fe : FE} (he : SndE K W te fe) : SndI K W Lf (iStr te) (fiS fe) := by
  intro wf w S σd σv R s h
  refine he.run (Le.refl w) s h fun r S1 w1 v L1 st1 R1 h1 => ?_
  revert h1
  split
  · rename_i z
    intro h1
    cases R1
    refine ⟨z, rfl, h1 w1 _ L1 st1 ⟨_, _, by unfold chD; rw [List.length_map, Array.length_toList]; exact walk_str, fun _ _ _ _ => True.intro, fun i w2 S2 x H' hi L st y => ?_⟩⟩
    obtain ⟨e, c, ec, ex⟩ := y
    exact ⟨w2, _, e.symm, by unfold chD; rw [List.getElem?_map, Array.getElem?_toList, ec]; rfl, Le.refl _, st, by rw [ex]; exact .str _⟩
  · intro h1; exact h1.elim
/-- enumerate -/
def enD : Nat → List Da → List Da
  | _, [] => []
  | n, d :: ds => .tup [.int (n : Nat), d] :: enD (n + 1) ds
theorem enD_len : ∀ (n : Nat) (ds : List Da), (enD n ds).length = ds.length
  | _, [] => rfl
  | n, d :: ds => by simp [enD, enD_len (n + 1) ds]
theorem enD_at : ∀ (n : Nat) (ds : List Da) (i : Nat) (d : Da), ds[i]? = some d → (enD n ds)[i]? = some (.tup [.int ((n + i : Nat) : Int), d])
  | n, [], i, d, e => by simp at e
  | n, x :: ds, 0, d, e => by simp at e; subst e; rfl
  | n, x :: ds, i + 1, d, e => by
    have := enD_at (n + 1) ds i d (by simpa using e)
    simp only [enD, List.getElem?_cons_succ, this]
    congr 5
    omega
theorem pair_yield {Y : Nat → Hp → V → Hp → Prop} {i : Nat} {w2 : Wd} {S2 : Sto} {x : V} {H' : Hp} {f g : Nat → Option V} {d e : Da} (st : StoR K w2 S2) (y : YPair f g i w2.H x H') (hf : ∀ u, f i = some u → Rep K w2 d u) (hg : ∀ u, g i = some u → Rep K w2 e u) : ∃ w3, w3.H = H' ∧ Le w2 w3 ∧ StoR K w3 S2 ∧ Rep K w3 (.tup [d, e]) x := by
  obtain ⟨t, u, v, rfl, ht, rfl, e1, e2⟩ := y
  exact ⟨w2.new t (.tup [u, v]) False, rfl, le_new ht, st.new ht, rep_newT st ht (.cons (hf u e1) (.cons (hg v e2) .nil))⟩
def fiE (fa : FA) : FI := fun σ S => (fa σ S).bd fun rs S1 => onDs rs fun ds => match ds with
  | [.lst ds] => .ok (enD 0 ds) S1
  | _ => .bad
theorem snd_iE {ta : TA} {fa : FA} (ha : SndA K W ta fa) : SndI K W Lf (iEnum K ta) (fiE fa) := by
  intro wf w S σd σv R s h
  refine ha.run (Le.refl w) s h fun rs S1 w1 vs L1 st1 R1 h1 => ?_
  obtain ⟨ds', e, h2⟩ := onDs_of h1
  have r := R1.frz e
  revert h2
  split
  · rename_i ds
    intro h2
    cases r with
    | cons r1 r2 =>
      cases r2
      cases r1 with
      | lst g1 f g2 =>
        rename_i a us
        refine ⟨a, us, rfl, SqL.of g1, h2 (w.frz w1) _ L1.frz st1.frz ⟨_, _, by rw [enD_len, ← g2.length]; exact walk_enum (K := K) (a := a) (xs := us), fun w2 S2 L st => SqL.of (L.kp _ _ g1 f).1, fun i w2 S2 x H' hi L st y => ?_⟩⟩
        rw [enD_len] at hi
        have hi2 : i < us.length := by rw [g2.length]; exact hi
        obtain ⟨d, e1, r⟩ := g2.at' (List.getElem?_eq_getElem hi2)
        obtain ⟨w3, q1, q2, q3, q4⟩ := pair_yield (Y := fun _ _ _ _ => True) (d := .int (i : Nat)) (e := d) st y (fun u eu => by cases eu; exact .int _) (fun u eu => by rw [List.getElem?_eq_getElem hi2] at eu; cases eu; exact r.lf L)
        have := enD_at 0 ds i d e1
        rw [Nat.zero_add] at this
        exact ⟨w3, _, q1, this, q2, q3, q4⟩
  · intro h2; exact h2.elim
def fiET (fa : FA) : FI := fun σ S => (fa σ S).bd fun rs S1 => onDs rs fun ds => match ds with
  | [.tup ds] => .ok (enD 0 ds) S1
  | _ => .bad
theorem snd_iET {ta : TA} {fa : FA} (ha : SndA K W ta fa) : SndI K W Lf (iEnumT K ta) (fiET fa) := by
  intro wf w S σd σv R s h
  refine ha.run (Le.refl w) s h fun rs S1 w1 vs L1 st1 R1 h1 => ?_
  obtain ⟨ds', e, h2⟩ := onDs_of h1
  have r := R1.frz e
  revert h2
  split
  · rename_i ds
    intro h2
    cases r with
    | cons r1 r2 =>
      cases r2
      cases r1 with
      | tup f g2 =>
        rename_i a us
        refine ⟨a, us, rfl, f.sq, h2 (w.frz w1) _ L1.frz st1.frz ⟨_, _, by rw [enD_len, ← g2.length]; exact walk_enumT (K := K) (a := a) (xs := us), fun w2 S2 L st => (f.lf L).sq, fun i w2 S2 x H' hi L st y => ?_⟩⟩
        rw [enD_len] at hi
        have hi2 : i < us.length := by rw [g2.length]; exact hi
        obtain ⟨d, e1, r⟩ := g2.at' (List.getElem?_eq_getElem hi2)
        obtain ⟨w3, q1, q2, q3, q4⟩ := pair_yield (Y := fun _ _ _ _ => True) (d := .int (i : Nat)) (e := d) st y (fun u eu => by cases eu; exact .int _) (fun u eu => by rw [List.getElem?_eq_getElem hi2] at eu; cases eu; exact r.lf L)
        have := enD_at 0 ds i d e1
        rw [Nat.zero_add] at this
        exact ⟨w3, _, q1, this, q2, q3, q4⟩
  · intro h2; exact h2.elim
def zpD : List Da → List Da → List Da
  | d :: ds, e :: es => .tup [d, e] :: zpD ds es
  | _, _ => []
theorem zpD_len : ∀ (ds es : List Da), (zpD ds es).length = min ds.length es.length
  | [], _ => by simp [zpD]
  | _ :: _, [] => by simp [zpD]
  | d :: ds, e :: es => by simp [zpD, zpD_len ds es]
theorem zpD_at : ∀ (ds es : List Da) (i : Nat) (d e : Da), ds[i]? = some d → es[i]? = some e → (zpD ds es)[i]? = some (.tup [d, e])
  | [], _, i, d, e, h, _ => by simp at h
  | _ :: _, [], i, d, e, _, h => by simp at h
  | x :: ds, y :: es, 0, d, e, h1, h2 => by simp at h1 h2; subst h1 h2; rfl
  | x :: ds, y :: es, i + 1, d, e, h1, h2 => by simpa [zpD] using zpD_at ds es i d e (by simpa using h1) (by simpa using h2)
def fiZ (fa : FA) : FI := fun σ S => (fa σ S).bd fun rs S1 => onDs rs fun ds => match ds with
  | [.lst ds, .lst es] => .ok (zpD ds es) S1
  | _ => .bad
theorem snd_iZ {ta : TA} {fa : FA} (ha : SndA K W ta fa) : SndI K W Lf (iZip K ta) (fiZ fa) := by
  intro wf w S σd σv R s h
  refine ha.run (Le.refl w) s h fun rs S1 w1 vs L1 st1 R1 h1 => ?_
  obtain ⟨ds', e, h2⟩ := onDs_of h1
  have r := R1.frz e
  revert h2
  split
  · rename_i ds es
    intro h2
    cases r with
    | cons r1 r2 =>
      cases r2 with
      | cons r2 r3 =>
        cases r3
        cases r1 with
        | lst g1 f g2 =>
          rename_i a us
          cases r2 with
          | lst k1 kf k2 =>
            rename_i b ws
            refine ⟨a, b, us, ws, rfl, SqL.of g1, SqL.of k1, h2 (w.frz w1) _ L1.frz st1.frz ⟨_, _, walk_zip (K := K) (a := a) (b := b) (xs := us) (ys := ws) (by rw [zpD_len, g2.length, k2.length]), fun w2 S2 L st => ⟨SqL.of (L.kp _ _ g1 f).1, SqL.of (L.kp _ _ k1 kf).1⟩, fun i w2 S2 x H' hi L st y => ?_⟩⟩
            rw [zpD_len] at hi
            have h1 : i < us.length := by rw [g2.length]; omega
            have h2 : i < ws.length := by rw [k2.length]; omega
            obtain ⟨d, e1, r⟩ := g2.at' (List.getElem?_eq_getElem h1)
            obtain ⟨d', e1', r'⟩ := k2.at' (List.getElem?_eq_getElem h2)
            obtain ⟨w3, q1, q2, q3, q4⟩ := pair_yield (Y := fun _ _ _ _ => True) (d := d) (e := d') st y (fun u eu => by rw [List.getElem?_eq_getElem h1] at eu; cases eu; exact r.lf L) (fun u eu => by rw [List.getElem?_eq_getElem h2] at eu; cases eu; exact r'.lf L)
            exact ⟨w3, _, q1, zpD_at ds es i d d' e1 e1', q2, q3, q4⟩
  · intro h2; exact h2.elim
end
end Cl

/-! ## Fun7 -/
namespace Cl
open PySem PySem.Spec PyProof.Rows L2
section
variable {K : PySem.W.Frag} {W : Cw} {wf w w1 w2 : Wd} {S S1 : Sto} {σd : Env} {σv : L2.St} {D : Ends}
/-! ## for, while -/
def foldFor (fg : FG) (fb : FS) : List Da → Env → Sto → So
  | [], σ, S => .nx σ S
  | d :: ds, σ, S => match fg d σ with
    | none => .bad
    | some σ1 => match fb σ1 S with
      | .nx σ2 S2 => foldFor fg fb ds σ2 S2
      | .ct σ2 S2 => foldFor fg fb ds σ2 S2
      | .bk σ2 S2 => .nx σ2 S2
      | .rt r S2 => .rt r S2
      | .ex e σ2 S2 => .ex e σ2 S2
      | .bad => .bad
def fFor (fi : FI) (fg : FG) (fb : FS) : FS := fun σ S => (fi σ S).so σ fun items S1 => foldFor fg fb items σ S1
theorem snd_for {wi : TI} {fi : FI} {g : TG} {fg : FG} {js : List Nat} {tb : TS} {fb : FS} (hi : SndI K W Lf wi fi) (hg : SndG K W g fg js) (hb : SndS K W tb fb) : SndS K W (tFor wi g tb) (fFor fi fg fb) := by
  intro wf w S σd σv D s h
  refine hi wf w S σd σv _ s ?_
  unfold fFor at h
  revert h
  cases fi σd S with
  | ex e S1 => exact fun h w1 c dd L st R => h w1 σv c dd L.lf (s.step L st) R
  | bad => exact fun h => h
  | ok items S1 =>
    intro h w1 J L1 st1 it
    obtain ⟨G, Y, wk, hG, hY⟩ := it
    refine for_it wk (fun i σ' H' => ∃ w' S' σd', w'.H = H' ∧ Lf w1 w' ∧ Sim K W wf w' S' σd' σ' ∧ PostS K W wf w D (foldFor fg fb (items.drop i) σd' S')) ⟨w1, S1, σd, rfl, Lf.refl _, s.step L1 st1, h⟩ ?_ ?_ ?_
    · rintro i σ' H' hi ⟨w', S', σd', rfl, L, s', hp⟩
      exact hG w' S' L s'.st
    · rintro i x σ' H' H'' hi ⟨w', S', σd', rfl, L, s', hp⟩ y
      obtain ⟨w3, d, rfl, ed, L3, st3, r3⟩ := hY i w' S' x H'' hi L s'.st y
      have e : items.drop i = d :: items.drop (i + 1) := by
        rw [List.drop_eq_getElem_cons hi]
        rw [List.getElem?_eq_getElem hi] at ed
        cases ed; rfl
      rw [e] at hp
      have hp' : PostS K W wf w D (match fg d σd' with
        | none => .bad
        | some σ1 => match fb σ1 S' with
          | .nx σ2 S2 => foldFor fg fb (items.drop (i + 1)) σ2 S2
          | .ct σ2 S2 => foldFor fg fb (items.drop (i + 1)) σ2 S2
          | .bk σ2 S2 => .nx σ2 S2
          | .rt r S2 => .rt r S2
          | .ex e σ2 S2 => .ex e σ2 S2
          | .bad => .bad) := hp
      cases e1 : fg d σd' with
      | none => rw [e1] at hp'; exact hp'.elim
      | some σ1 =>
        rw [e1] at hp'
        refine hg wf w3 S' σd' σ' d x _ (s'.step L3 st3) r3 ⟨σ1, e1, fun σv1 s1 _ _ => hb wf w3 S' σ1 σv1 _ s1 ?_⟩
        have L13 : Lf w1 w3 := L.trans L3.lf
        have L03 : Lf w w3 := L1.lf.trans L13
        revert hp'
        show PostS K W wf w D (match fb σ1 S' with
          | .nx σ2 S2 => foldFor fg fb (items.drop (i + 1)) σ2 S2
          | .ct σ2 S2 => foldFor fg fb (items.drop (i + 1)) σ2 S2
          | .bk σ2 S2 => .nx σ2 S2
          | .rt r S2 => .rt r S2
          | .ex e σ2 S2 => .ex e σ2 S2
          | .bad => .bad) → _
        cases fb σ1 S' with
        | nx σ2 S2 => exact fun hp w4 σv4 L4 s4 => ⟨w4, S2, σ2, rfl, L13.trans L4, s4, hp⟩
        | ct σ2 S2 => exact fun hp w4 σv4 L4 s4 => ⟨w4, S2, σ2, rfl, L13.trans L4, s4, hp⟩
        | bk σ2 S2 => exact fun hp w4 σv4 L4 s4 => hp w4 σv4 (L03.trans L4) s4
        | rt r S2 => exact fun hp => hp
        | ex e σ2 S2 => exact fun hp w4 σv4 c dd L4 s4 R => hp w4 σv4 c dd (L03.trans L4) s4 R
        | bad => exact fun hp => hp
    · rintro σ' H' ⟨w', S', σd', rfl, L, s', hp⟩
      rw [List.drop_length] at hp
      exact hp w' σ' (L1.lf.trans L) s'
def foldWh (fc : FT) (fb : FS) : Nat → Env → Sto → So
  | 0, _, _ => .bad
  | n + 1, σ, S => (fc σ S).so σ fun b S1 => if b = true then (match fb σ S1 with
      | .nx σ2 S2 => foldWh fc fb n σ2 S2
      | .ct σ2 S2 => foldWh fc fb n σ2 S2
      | .bk σ2 S2 => .nx σ2 S2
      | .rt r S2 => .rt r S2
      | .ex e σ2 S2 => .ex e σ2 S2
      | .bad => .bad) else .nx σ S1
/-- some number of turns is enough -/
theorem snd_while {tc : TT} {fc : FT} {tb : TS} {fb : FS} (n : Nat) (hc : SndT K W tc fc) (hb : SndS K W tb fb) : SndS K W (tWhile tc tb) (foldWh fc fb n) := by
  intro wf w S σd σv D s h
  refine ⟨fun m σ' H' => ∃ w' S' σd', w'.H = H' ∧ Lf w w' ∧ Sim K W wf w' S' σd' σ' ∧ PostS K W wf w D (foldWh fc fb m σd' S'), ⟨n, w, S, σd, rfl, Lf.refl _, s, h⟩, ?_⟩
  rintro m σ' H' ⟨w', S', σd', rfl, L, s', hp⟩
  cases m with
  | zero => exact hp.elim
  | succ m =>
    refine hc.runS L s' hp fun b S2 w2 L2 st2 h2 => ?_
    cases b with
    | true =>
      refine iteT ⟨fun σ'' H'' => ∃ w'' S'' σd'', w''.H = H'' ∧ Lf w w'' ∧ Sim K W wf w'' S'' σd'' σ'' ∧ PostS K W wf w D (foldWh fc fb m σd'' S''), fun σ'' H'' hq => ⟨m, Nat.lt_succ_self m, hq⟩, hb wf w2 S2 σd' σ' _ (s'.step L2 st2) ?_⟩
      have L02 : Lf w w2 := L.trans L2.lf
      simp only [if_true] at h2
      revert h2
      cases fb σd' S2 with
      | nx σ2 S2 => exact fun hp w4 σv4 L4 s4 => ⟨w4, S2, σ2, rfl, L02.trans L4, s4, hp⟩
      | ct σ2 S2 => exact fun hp w4 σv4 L4 s4 => ⟨w4, S2, σ2, rfl, L02.trans L4, s4, hp⟩
      | bk σ2 S2 => exact fun hp w4 σv4 L4 s4 => hp w4 σv4 (L02.trans L4) s4
      | rt r S2 => exact fun hp => hp
      | ex e σ2 S2 => exact fun hp w4 σv4 c dd L4 s4 R => hp w4 σv4 c dd (L02.trans L4) s4 R
      | bad => exact fun hp => hp
    | false =>
      simp only [Bool.false_eq_true, if_false] at h2
      exact iteF (h2 w2 σ' (L.trans L2.lf) (s'.step L2 st2))
/-! ## comprehensions -/
def wipeD (σ : Env) : List Nat → Env
  | [] => σ
  | v :: vs => (wipeD σ vs).set v none
theorem Sim.wipe (s : Sim K W wf w S σd σv) : ∀ vs : List Nat, Sim K W wf w S (wipeD σd vs) (L2.wipe σv vs)
  | [] => s
  | v :: vs => (Sim.wipe s vs).setN
theorem wipe_at (σ : L2.St) : ∀ (vs : List Nat) (k : Nat), (wipe σ vs)[k]? = if k ∈ vs ∧ k < σ.length then some none else σ[k]?
  | [], k => by simp [wipe]
  | v :: vs, k => by
    unfold wipe
    rw [List.getElem?_set]
    by_cases h : v = k
    · subst h
      rw [if_pos rfl, wipe_length]
      by_cases hl : v < σ.length
      · simp [hl]
      · simp [hl]
    · rw [if_neg h, wipe_at σ vs k]
      have : k ≠ v := fun z => h z.symm
      simp [this]
theorem wipe_same {σ σ2 : L2.St} {vs js : List Nat} (h : ∀ k, k ∉ js → σ2[k]? = (wipe σ vs)[k]?) (hl : σ2.length = (wipe σ vs).length) (hj : ∀ j ∈ js, j ∈ vs) : wipe σ2 vs = wipe σ vs := by
  rw [wipe_length] at hl
  apply List.ext_getElem?
  intro k
  rw [wipe_at, wipe_at, hl]
  by_cases hk : k ∈ vs
  · by_cases hl2 : k < σ.length
    · simp [hk, hl2]
    · have h1 : σ2[k]? = none := List.getElem?_eq_none (by omega)
      have h2 : σ[k]? = none := List.getElem?_eq_none (by omega)
      simp [hl2, h1, h2]
  · have hkj : k ∉ js := fun z => hk (hj k z)
    simp only [hk, false_and, if_false]
    rw [h k hkj, wipe_at]
    simp [hk]
def foldLc (fg : FG) (ft : FT) (fe : FE) (σ : Env) : List Da → List Da → Sto → Ev (List Da)
  | [], acc, S => .ok acc S
  | d :: ds, acc, S => match fg d σ with
    | none => .bad
    | some σ1 => (ft σ1 S).noX.bd fun b S1 => if b = true then (fe σ1 S1).noX.bd fun r S2 => onD r fun y => if acc.length < 1000000 then foldLc fg ft fe σ ds (acc ++ [y]) S2 else .bad else foldLc fg ft fe σ ds acc S1
def fLc (fi : FI) (fg : FG) (ft : FT) (fe : FE) (vs : List Nat) : FE := fun σ S => (fi σ S).bd fun items S1 => (foldLc fg ft fe (wipeD σ vs) items [] S1).bd fun acc S2 => .ok (.fr (.lst acc)) S2
theorem le_put {w0 : Wd} (L : Le w0 w) {a : Addr} {o : HO} (h : w0.H a = none) : Le w0 { w with H := upd w.H a o } := ⟨L.pre, fun b u e n => by
  have ne : b ≠ a := fun z => by rw [z, h] at e; cases e
  obtain ⟨h1, h2, h3⟩ := L.kp b u e n
  exact ⟨by show upd w.H a o b = some u; rw [upd_ne ne]; exact h1, h2, h3⟩⟩
theorem snd_lc {wi : TI} {fi : FI} {g : TG} {fg : FG} {js vs : List Nat} {tt : TT} {ft : FT} {te : TE} {fe : FE} (hi : SndI K W Le wi fi) (hg : SndG K W g fg js) (hj : ∀ j ∈ js, j ∈ vs) (ht : SndT K W tt ft) (he : SndE K W te fe) : SndE K W (tLc wi g tt te vs) (fLc fi fg ft fe vs) := by
  intro wf w S σd σv Q s h
  refine hi wf w S σd σv _ s ?_
  unfold fLc at h
  revert h
  cases fi σd S with
  | ex e S1 => exact fun h => h
  | bad => exact fun h => h
  | ok items S1 =>
    intro h w1 J L1 st1 it Dl hD
    obtain ⟨G, Y, wk, hG, hY⟩ := it
    have h' : PostE K W wf w σv Q ((foldLc fg ft fe (wipeD σd vs) items [] S1).bd fun acc S2 => .ok (.fr (.lst acc)) S2) := h
    refine lc_it wk (fun i H' => ∃ w' S' acc us, w'.H = H' ∧ Le w1 w' ∧ StoR K w' S' ∧ w'.H Dl = some (.lst us) ∧ Reps K w' acc us ∧ w'.ow Dl ∧ Dl ∉ w'.m ∧ PostE K W wf w σv Q ((foldLc fg ft fe (wipeD σd vs) (items.drop i) acc S').bd fun acc S2 => .ok (.fr (.lst acc)) S2)) ?_ ?_ ?_ ?_
    · exact ⟨w1.new Dl (.lst []) True, S1, [], [], rfl, le_new hD, st1.new hD, upd_same, .nil, .inl ⟨rfl, True.intro⟩, (st1.fresh hD).1, h'⟩
    · rintro i H' hi ⟨w', S', acc, us, rfl, L, st, _⟩
      exact hG w' S' L st
    · rintro i x H' H'' hi ⟨w', S', acc, us, rfl, L, st, hl, hr, ho, hm, hp⟩ y
      obtain ⟨w3, d, rfl, ed, L3, st3, r3⟩ := hY i w' S' x H'' hi L st y
      have e : items.drop i = d :: items.drop (i + 1) := by
        rw [List.drop_eq_getElem_cons hi]
        rw [List.getElem?_eq_getElem hi] at ed
        cases ed; rfl
      rw [e] at hp
      simp only [foldLc] at hp
      have L13 := L.trans L3
      obtain ⟨k1, k2, k3⟩ := L3.kp Dl _ hl hm
      cases e1 : fg d (wipeD σd vs) with
      | none => rw [e1] at hp; exact hp.elim
      | some σ1 =>
        rw [e1] at hp
        refine hg wf w3 S' (wipeD σd vs) (wipe σv vs) d x _ ((s.step (L1.trans L13) st3).wipe vs) r3 ⟨σ1, e1, fun σv1 s1 e2 l2 => ⟨wipe_same e2 l2 hj, ht wf w3 S' σ1 σv1 _ s1 ?_⟩⟩
        have hp0 : PostE K W wf w σv Q (Ev.bd ((ft σ1 S').noX.bd fun b S1 => if b = true then (fe σ1 S1).noX.bd fun r S2 => onD r fun y => if acc.length < 1000000 then foldLc fg ft fe (wipeD σd vs) (items.drop (i + 1)) (acc ++ [y]) S2 else .bad else foldLc fg ft fe (wipeD σd vs) (items.drop (i + 1)) acc S1) fun acc S2 => .ok (.fr (.lst acc)) S2) := hp
        clear hp
        revert hp0
        cases ft σ1 S' with
        | ex e S4 => exact fun hp => False.elim hp
        | bad => exact fun hp => hp
        | ok b S4 =>
          intro hp w4 L4 st4
          obtain ⟨m1, m2, m3⟩ := L4.kp Dl _ k1 k2
          have L14 := L13.trans L4
          cases b with
          | false => exact iteF ⟨w4, S4, acc, us, rfl, L14, st4, m1, hr.le (L3.trans L4), m3.mpr (k3.mpr ho), m2, hp⟩
          | true =>
            refine iteT (he wf w4 S4 σ1 σv1 _ (s1.step L4 st4) ?_)
            have hp' : PostE K W wf w σv Q (Ev.bd ((fe σ1 S4).noX.bd fun r S2 => onD r fun y => if acc.length < 1000000 then foldLc fg ft fe (wipeD σd vs) (items.drop (i + 1)) (acc ++ [y]) S2 else .bad) fun acc S2 => .ok (.fr (.lst acc)) S2) := hp
            revert hp'
            cases fe σ1 S4 with
            | ex e S5 => exact fun hp => False.elim hp
            | bad => exact fun hp => hp
            | ok r S5 =>
              intro hp w5 v5 L5 st5 R5
              have hp2 : PostE K W wf w σv Q (Ev.bd (onD r fun y => if acc.length < 1000000 then foldLc fg ft fe (wipeD σd vs) (items.drop (i + 1)) (acc ++ [y]) S5 else .bad) fun acc S2 => .ok (.fr (.lst acc)) S2) := hp
              unfold onD at hp2
              cases ey : r.toD with
              | none => rw [ey] at hp2; exact hp2.elim
              | some y =>
                rw [ey] at hp2
                by_cases hz : acc.length < 1000000
                · simp only [hz, if_true] at hp2
                  obtain ⟨n1, n2, n3⟩ := L5.kp Dl _ m1 m2
                  have how : (w4.frz w5).ow Dl := ⟨n3.mpr (m3.mpr (k3.mpr ho)), by rw [m1]; simp⟩
                  refine ⟨us, n1, sz_lt (by rw [hr.length]; omega), { w4.frz w5 with H := upd w5.H Dl (.lst (us ++ [v5])) }, S5, acc ++ [y], us ++ [v5], rfl, le_put (w := w4.frz w5) (L14.trans L5.frz) hD, sto_put (w := w4.frz w5) st5.frz how, upd_same, ?_, how, n2, hp2⟩
                  exact (((hr.le (L3.trans L4)).le L5.frz).app (.cons (R5.frz ey) .nil)).lf (own_put (w := w4.frz w5) how)
                · simp only [hz, if_false] at hp2
                  exact hp2.elim
    · rintro H' ⟨w', S', acc, us, rfl, L, st, hl, hr, ho, hm, hp⟩
      rw [List.drop_length] at hp
      exact hp w' _ (L1.trans L) st ⟨Dl, rfl, L1.none st1 hD, ⟨us, hl, hr⟩, ho, hm⟩
/-! ## exceptions -/
def Da.fmt : Da → Bool
  | .str y => decide (y.length ≤ 1000)
  | .int i => decide (i.natAbs.log2 < 1920)
  | _ => false
theorem fmt_of {d : Da} {v : V} (h : Rep K w d v) (e : d.fmt = true) : Exs.FmtV v := by
  cases h with
  | int i => exact (of_decide_eq_true e : i.natAbs.log2 < 1920)
  | str y => exact (of_decide_eq_true e : y.length ≤ 1000)
  | _ => cases e
theorem fmts_of : ∀ {ds : List Da} {vs : List V}, Reps K w ds vs → ds.all Da.fmt = true → ∀ v ∈ vs, Exs.FmtV v
  | _, _, .nil, _, v, hv => nomatch hv
  | _, _, .cons h r, e, v, hv => by
    rw [List.all_cons, Bool.and_eq_true] at e
    rcases List.mem_cons.mp hv with rfl | hv
    · exact fmt_of h e.1
    · exact fmts_of r e.2 v hv
def fRaise (C : Str) (ns : List Str) (fa : FA) : FS := fun σ S => (fa σ S).so σ fun rs S1 => match toDs rs with
  | some ds => if ds.length = ns.length ∧ ds.length ≤ 1000 ∧ ds.all Da.fmt = true then .ex ⟨C, ns.reverse, ds.reverse⟩ σ S1 else .bad
  | none => .bad
theorem zip_fst : ∀ (ns : List Str) (vs : List V), vs.length = ns.length → (ns.zip vs).map (·.1) = ns
  | [], [], _ => rfl
  | n :: ns, v :: vs, h => by simp [zip_fst ns vs (by simpa using h)]
  | [], _ :: _, h => by simp at h
  | _ :: _, [], h => by simp at h
theorem zip_snd : ∀ (ns : List Str) (vs : List V), vs.length = ns.length → (ns.zip vs).map (·.2) = vs
  | [], [], _ => rfl
  | n :: ns, v :: vs, h => by simp [zip_snd ns vs (by simpa using h)]
  | [], _ :: _, h => by simp at h
  | _ :: _, [], h => by simp at h
theorem snd_raise {C : Str} {ns : List Str} {ta : TA} {fa : FA} (ha : SndA K W ta fa) : SndS K W (tRaise (tMkE (He.ga K C) ns ta) W.W) (fRaise C ns fa) := by
  intro wf w S σd σv D s h
  refine ha.runS (Lf.refl w) s h fun rs S1 w1 vs L1 st1 R1 h1 => ?_
  revert h1
  split
  · rename_i ds e
    intro h1
    obtain ⟨⟨hl, hz, hf⟩, h2⟩ := h1.ite
    have r := R1.frz e
    have el : vs.length = ns.length := by rw [r.length]; exact hl
    refine ⟨el, by rw [r.length]; exact hz, fmts_of r hf, fun d hd => ?_⟩
    have st : StoR K (w.frz w1) S1 := st1.frz
    have L : Le w ((w.frz w1).new d (.xd (ns.zip vs).reverse) False) := L1.frz.trans (le_new hd)
    refine h2 ((w.frz w1).new d (.xd (ns.zip vs).reverse) False) σv _ _ L.lf (s.step L (st.new hd)) ⟨rfl, .inl ⟨d, (ns.zip vs).reverse, rfl, upd_same, ⟨(st.fresh hd).1, fun z => z.elim (·.2) fun z => z.1 rfl⟩, ?_, ?_⟩⟩
    · rw [List.map_reverse, zip_fst ns vs el]
    · rw [List.map_reverse, zip_snd ns vs el]
      exact (r.le (le_new (w := w.frz w1) hd)).rev
  · intro h1; exact h1.elim
abbrev Tab := List ((Str × Str) × Bool)
variable (K) in
/-- whether an exception of one class is caught by the name of another -/
def TabOk (tab : Tab) : Prop := ∀ C X b, tab.lookup (C, X) = some b → PySem.W.exmOne K (.ref (He.ga K C)) (.ref (He.ga K X)) = some b
abbrev Fh := Str × Nat × (Exn → FS)
def noExn : Env → Bool
  | [] => true
  | some .exn :: _ => false
  | _ :: σ => noExn σ
theorem noExn_at : ∀ {σ : Env}, noExn σ = true → ∀ j : Nat, σ[j]? ≠ some (some .exn)
  | [], _, j, e => by simp at e
  | x :: σ, h, 0, e => by simp at e; subst e; simp [noExn] at h
  | x :: σ, h, j + 1, e => by
    refine noExn_at (σ := σ) ?_ j (by simpa using e)
    unfold noExn at h
    split at h
    · rename_i h2; cases h2
    · cases h
    · rename_i h2; cases h2; exact h
def endO (i : Nat) : So → So
  | .nx σ S => if noExn (σ.set i none) = true then .nx (σ.set i none) S else .bad
  | .bk σ S => if noExn (σ.set i none) = true then .bk (σ.set i none) S else .bad
  | .ct σ S => if noExn (σ.set i none) = true then .ct (σ.set i none) S else .bad
  | .ex e σ S => if noExn (σ.set i none) = true then .ex e (σ.set i none) S else .bad
  | o => o
def fHand (tab : Tab) : List Fh → Exn → Env → Sto → So
  | [], e, σ, S => .ex e σ S
  | (X, i, g) :: r, e, σ, S => match tab.lookup (e.C, X) with
    | some true => if noExn σ = true then endO i (g e (σ.set i (some .exn)) S) else .bad
    | some false => fHand tab r e σ S
    | none => .bad
def fTry (tab : Tab) (fb : FS) (hs : List Fh) : FS := fun σ S => match fb σ S with
  | .ex e σ1 S1 => fHand tab hs e σ1 S1
  | o => o
variable (K) in
inductive SndH (Wout : WX) (ex0 : Option (Addr × Option Addr × Exn)) : List Hc → List Fh → Prop
  | nil : SndH Wout ex0 [] []
  | cons {X : Str} {i : Nat} {ts : Addr → Value → Option Addr → TS} {g : Exn → FS} {l : List Hc} {hs : List Fh} : (∀ a d e, SndS K ⟨Wout, some (a, d, e)⟩ (ts a (.ref (He.ga K e.C)) d) (g e)) → SndH Wout ex0 l hs → SndH Wout ex0 ((.ref (He.ga K X), i, ts) :: l) ((X, i, g) :: hs)
theorem Sim.enter {W : Cw} {a : Addr} {d : Option Addr} {e : Exn} {i : Nat} (s : Sim K W wf w S σd σv) (hx : XdR K w d e) (hno : ∀ j : Nat, σd[j]? ≠ some (some .exn)) : Sim K ⟨W.W, some (a, d, e)⟩ wf w S (σd.set i (some .exn)) (σv.set i (some (.ref a))) := by
  have s0 : Sim K ⟨W.W, none⟩ wf w S σd σv := ⟨s.le, s.st, s.ln, s.sl, s.dj, fun a d e h => by cases h⟩
  have s1 : Sim K ⟨W.W, none⟩ wf w S (σd.set i none) (σv.set i (some (.ref a))) := s0.setN
  have hat : ∀ (j : Nat) x, (σd.set i (some .exn))[j]? = some (some x) → (j = i ∧ x = .exn ∧ i < σd.length) ∨ (j ≠ i ∧ (σd.set i none)[j]? = some (some x)) := fun j x ej => by
    by_cases hj : i = j
    · subst hj
      by_cases hl : i < σd.length
      · rw [List.getElem?_set_self hl] at ej; cases ej; exact .inl ⟨rfl, rfl, hl⟩
      · rw [List.getElem?_eq_none (by simp; omega)] at ej; cases ej
    · rw [List.getElem?_set_ne hj] at ej
      exact .inr ⟨fun z => hj z.symm, by rw [List.getElem?_set_ne hj]; exact ej⟩
  refine ⟨s.le, s.st, by simp [s.ln], fun j x ej => ?_, fun j k d1 d2 b1 b2 a' hne e1 e2 e3 e4 => ?_, fun a' d' e' h => ?_⟩
  · rcases hat j x ej with ⟨rfl, rfl, hl⟩ | ⟨hj, ej⟩
    · exact ⟨.ref a, by rw [List.getElem?_set_self (by rw [← s.ln]; exact hl)], True.intro⟩
    · exact s1.sl j x ej
  · rcases hat j _ e1 with ⟨_, h1, _⟩ | ⟨_, h1⟩
    · cases h1
    · rcases hat k _ e2 with ⟨_, h2, _⟩ | ⟨_, h2⟩
      · cases h2
      · exact s1.dj j k _ _ _ _ a' hne h1 h2 e3 e4
  · cases h
    refine ⟨hx, fun j ej => ?_⟩
    rcases hat j _ ej with ⟨rfl, _, hl⟩ | ⟨hj, ej⟩
    · rw [List.getElem?_set_self (by rw [← s.ln]; exact hl)]
    · rw [List.getElem?_set_ne (fun z => hj z.symm)] at ej
      exact absurd ej (hno j)
theorem Sim.leave {W : Cw} {a : Addr} {d : Option Addr} {e : Exn} {i : Nat} {w' : Wd} {S' : Sto} {σd' : Env} {σv' : L2.St} (s : Sim K W wf w S σd σv) (L : Lf w w') (hno : ∀ j : Nat, σd'[j]? ≠ some (some .exn)) (s' : Sim K ⟨W.W, some (a, d, e)⟩ wf w' S' σd' σv') : Sim K W wf w' S' σd' σv' :=
  ⟨s'.le, s'.st, s'.ln, s'.sl, s'.dj, fun a' d' e' h => ⟨(s.cx a' d' e' h).1.lf L, fun j ej => absurd ej (hno j)⟩⟩
theorem Sim.forget (s : Sim K W wf w S σd σv) {i : Nat} : Sim K W wf w S (σd.set i none) σv := by
  have hat : ∀ (j : Nat) x, (σd.set i none)[j]? = some (some x) → σd[j]? = some (some x) := fun j x ej => by
    by_cases hj : i = j
    · subst hj
      by_cases hl : i < σd.length
      · rw [List.getElem?_set_self hl] at ej; cases ej
      · rw [List.getElem?_eq_none (by simp; omega)] at ej; cases ej
    · rw [List.getElem?_set_ne hj] at ej; exact ej
  exact ⟨s.le, s.st, by simp [s.ln], fun j x ej => s.sl j x (hat j x ej), fun j k d1 d2 b1 b2 a' hne e1 e2 => s.dj j k _ _ _ _ a' hne (hat j _ e1) (hat k _ e2), fun a d e h => ⟨(s.cx a d e h).1, fun j ej => (s.cx a d e h).2 j (hat j _ ej)⟩⟩
theorem hand_ok {tab : Tab} (htab : TabOk K tab) {w0 : Wd} {l : List Hc} {hs : List Fh} {ex0 : Option (Addr × Option Addr × Exn)} (hh : SndH K W.W ex0 l hs) : ∀ {e : Exn} {c : Value} {dd : Option Addr}, Sim K W wf w S σd σv → RepX K w e c dd → Lf w0 w → PostS K W wf w0 D (fHand tab hs e σd S) → wMA K W.W D l c dd σv w.H := by
  induction hh with
  | nil => exact fun s R L h => h w σv _ _ L s R
  | cons hsnd hr ih =>
    rename_i X i ts g l hs
    intro e c dd s R L h
    obtain ⟨rfl, hx⟩ := R
    have R' : RepX K w e (.ref (He.ga K e.C)) dd := ⟨rfl, hx⟩
    simp only [fHand] at h
    cases hb : tab.lookup (e.C, X) with
    | none => rw [hb] at h; exact h.elim
    | some b =>
      rw [hb] at h
      refine ⟨b, htab _ _ _ hb, fun z a ha => ?_, fun z => ?_⟩
      · subst z
        obtain ⟨hno, h2⟩ := PostS.ite h
        refine hsnd a dd e wf w S _ _ _ (s.enter hx (noExn_at hno)) ?_
        revert h2
        cases g e (σd.set i (some .exn)) S with
        | nx σ1 S1 => exact fun h2 w' σv' L' s' => (PostS.ite h2).2 w' _ (L.trans L') (Sim.leave (i := i) s L' (noExn_at (PostS.ite h2).1) s'.setN)
        | bk σ1 S1 => exact fun h2 w' σv' L' s' => (PostS.ite h2).2 w' _ (L.trans L') (Sim.leave (i := i) s L' (noExn_at (PostS.ite h2).1) s'.setN)
        | ct σ1 S1 => exact fun h2 w' σv' L' s' => (PostS.ite h2).2 w' _ (L.trans L') (Sim.leave (i := i) s L' (noExn_at (PostS.ite h2).1) s'.setN)
        | rt r S1 => exact fun h2 => h2
        | ex e1 σ1 S1 => exact fun h2 w' σv' c' dd' L' s' R2 => (PostS.ite h2).2 w' σv' c' dd' (L.trans L') (Sim.leave (i := i) s L' (noExn_at (PostS.ite h2).1) s'.forget) R2
        | bad => exact fun h2 => h2
      · subst z
        exact ih s R' L h
theorem snd_try {tab : Tab} (htab : TabOk K tab) {tb : WX → TS} {fb : FS} {l : List Hc} {hs : List Fh} (hb : ∀ W' : WX, SndS K ⟨W', W.ex⟩ (tb W') fb) (hh : SndH K W.W none l hs) : SndS K W (tTryA K tb W.W l) (fTry tab fb hs) := by
  intro wf w S σd σv D s h
  have conv : ∀ {W1 W2 : WX} {w S σd σv}, Sim K ⟨W1, W.ex⟩ wf w S σd σv → Sim K ⟨W2, W.ex⟩ wf w S σd σv := fun s => ⟨s.le, s.st, s.ln, s.sl, s.dj, s.cx⟩
  refine hb (wMA K W.W D l) wf w S σd σv D (conv (W1 := W.W) s) ?_
  unfold fTry at h
  revert h
  cases fb σd S with
  | nx σ1 S1 => exact fun h w' σv' L s' => h w' σv' L (conv (W2 := W.W) s')
  | bk σ1 S1 => exact fun h w' σv' L s' => h w' σv' L (conv (W2 := W.W) s')
  | ct σ1 S1 => exact fun h w' σv' L s' => h w' σv' L (conv (W2 := W.W) s')
  | rt r S1 => exact fun h => h
  | ex e σ1 S1 => exact fun h w' σv' c dd L s' R => hand_ok htab hh (conv (W2 := W.W) s') R L h
  | bad => exact fun h => h
/-! ### in a handler -/
def fXf (C f : Str) (e : Exn) (i : Nat) : FE := fun σ S => match σ[i]?, getF e.ns e.ds f with
  | some (some .exn), some d => if e.C = C then .ok (.v d) S else .bad
  | _, _ => .bad
theorem snd_xf {Wo : WX} {a : Addr} {d : Option Addr} {e : Exn} {C f : Str} {i : Nat} : SndE K ⟨Wo, some (a, d, e)⟩ (tXf a (.ref (He.ga K e.C)) d (He.ga K C) f (tVar i)) (fXf C f e i) := by
  intro wf w S σd σv Q s h
  unfold fXf at h
  split at h
  · rename_i dv e1 e2
    obtain ⟨hC, h2⟩ := h.ite
    subst hC
    obtain ⟨hx, hs⟩ := s.cx a d e rfl
    obtain ⟨d, fs, rfl, g1, g2, g3, g4⟩ : ∃ d' fs, d = some d' ∧ w.H d' = some (.xd fs) ∧ w.fz d' ∧ fs.map (·.1) = e.ns ∧ Reps K w e.ds (fs.map (·.2)) := hx.elim id fun z => by rw [z.2] at e2; unfold getF at e2; cases e2
    obtain ⟨v, g5, g6⟩ := getF_of g3 g4 e2
    exact ⟨_, hs i e1, rfl, rfl, d, fs, v, rfl, g1, g5, h2 w v (Le.refl _) s.st g6⟩
  · exact h.elim
def fIsX (C : Str) (b : Bool) (e : Exn) (i : Nat) : FE := fun σ S => match σ[i]?, e.ns with
  | some (some .exn), _ :: _ => if e.C = C then .ok (.v (.bl b)) S else .bad
  | _, _ => .bad
theorem xdR_some {w : Wd} {d : Option Addr} {e : Exn} {n : Str} {ns : List Str} (hx : XdR K w d e) (he : e.ns = n :: ns) : ∃ d' fs, d = some d' ∧ w.H d' = some (.xd fs) ∧ w.fz d' ∧ fs.map (·.1) = e.ns ∧ Reps K w e.ds (fs.map (·.2)) := hx.elim id fun z => by rw [z.2] at he; cases he
theorem snd_isX {Wo : WX} {a : Addr} {d : Option Addr} {e : Exn} {C : Str} {b : Bool} {i : Nat} {c : V} {cv : Value} (hc : ∀ u, RelV c u → u = cv) (hk : PySem.W.kitOne K (.ref (He.ga K C)) cv = some b) : SndE K ⟨Wo, some (a, d, e)⟩ (tCB (rIsX K (He.ga K C) a (.ref (He.ga K e.C)) d) (tCons (tVar i) (tCons (tC c) tNil))) (fIsX C b e i) := by
  intro wf w S σd σv Q s h
  unfold fIsX at h
  split at h
  · rename_i n ns e1 e2
    obtain ⟨hC, h2⟩ := h.ite
    subst hC
    obtain ⟨hx, hs⟩ := s.cx a d e rfl
    obtain ⟨d, fs, rfl, g1, g2, g3, g4⟩ := xdR_some hx e2
    exact ⟨_, hs i e1, c, cv, b, d, fs, rfl, rfl, rfl, g1, hc, hk, h2 w _ (Le.refl _) s.st (.bl _)⟩
  · exact h.elim
variable (K) in
/-- isinstance(e, X), whatever e's class is -/
def KtOk (kt : Tab) : Prop := ∀ C X b, kt.lookup (C, X) = some b → ExcC K (He.ga K C) ∧ PySem.W.kitOne K (.ref (He.ga K C)) (.ref (He.ga K X)) = some b
variable (K) in
def KtTOk (kt : Tab) (T : String) : Prop := ∀ C X b, kt.lookup (C, X) = some b → ExcC K (He.ga K C) ∧ PySem.W.kitOne K (.ref (He.ga K C)) (.type T) = some b
def fIsD (kt : Tab) (X : Str) (e : Exn) (i : Nat) : FE := fun σ S => match σ[i]?, kt.lookup (e.C, X) with
  | some (some .exn), some b => .ok (.v (.bl b)) S
  | _, _ => .bad
theorem xdR_or {w : Wd} {d : Option Addr} {e : Exn} (hx : XdR K w d e) : (∃ dd fs, d = some dd ∧ w.H dd = some (.xd fs)) ∨ d = none := hx.elim (fun ⟨d, fs, h0, h1, _⟩ => .inl ⟨d, fs, h0, h1⟩) fun z => .inr z.1
theorem snd_isD {Wo : WX} {a : Addr} {d : Option Addr} {e : Exn} {kt : Tab} {X : Str} {i : Nat} (hk : KtOk K kt) : SndE K ⟨Wo, some (a, d, e)⟩ (tCB (rIsD K a (.ref (He.ga K e.C)) d) (tCons (tVar i) (tCons (tC (.ref (He.ga K X))) tNil))) (fIsD kt X e i) := by
  intro wf w S σd σv Q s h
  unfold fIsD at h
  split at h
  · rename_i b e1 e2
    obtain ⟨hx, hs⟩ := s.cx a d e rfl
    exact ⟨_, hs i e1, He.ga K e.C, _, _, b, (hk _ _ _ e2).1, rfl, rfl, xdR_or hx, fun _ h => h, (hk _ _ _ e2).2, h w _ (Le.refl _) s.st (.bl _)⟩
  · exact h.elim
theorem snd_isDT {Wo : WX} {a : Addr} {d : Option Addr} {e : Exn} {kt : Tab} {X : Str} {T : String} {i : Nat} (hk : KtTOk K kt T) : SndE K ⟨Wo, some (a, d, e)⟩ (tCB (rIsD K a (.ref (He.ga K e.C)) d) (tCons (tVar i) (tCons (tC (.ty T)) tNil))) (fIsD kt X e i) := by
  intro wf w S σd σv Q s h
  unfold fIsD at h
  split at h
  · rename_i b e1 e2
    obtain ⟨hx, hs⟩ := s.cx a d e rfl
    exact ⟨_, hs i e1, He.ga K e.C, _, _, b, (hk _ _ _ e2).1, rfl, rfl, xdR_or hx, fun _ h => h, (hk _ _ _ e2).2, h w _ (Le.refl _) s.st (.bl _)⟩
  · exact h.elim
/-- raise X('text'), X without an __init__ of its own -/
def tMkP (C : Addr) : L2.St → Hp → XK → Prop := fun _ H Q => Q (.ref C) none H
def fRaiseP (C : Str) : FS := fun σ S => .ex ⟨C, [], []⟩ σ S
theorem snd_raiseP {C : Str} : SndS K W (tRaise (tMkP (He.ga K C)) W.W) (fRaiseP C) := fun wf w S σd σv D s h => h w σv _ _ (Lf.refl w) s ⟨rfl, .inr ⟨rfl, rfl⟩⟩
theorem rel_ref {a : Addr} : ∀ u, RelV (.ref a) u → u = .ref a := fun _ h => h
theorem rel_ty {n : String} : ∀ u, RelV (.ty n) u → u = .type n := fun _ h => h
/-- isinstance(e, (C1, C2, ..)) -/
theorem snd_isXs {Wo : WX} {a : Addr} {d : Option Addr} {e : Exn} {C : Str} {b : Bool} {i : Nat} {ta : TA} {cs : List V} {cvs : List Value} (ht : ∀ σ H Q, Q cs H → ta σ H Q) (hl : cs.length ≤ 1000) (hc : ∀ us, Vals cs us → us = cvs) (hk : PySem.W.kitAny K (.ref (He.ga K C)) cvs = some b) : SndE K ⟨Wo, some (a, d, e)⟩ (tCB (rIsXs K (He.ga K C) a (.ref (He.ga K e.C)) d) (tCons (tVar i) (tCons (tTup ta) tNil))) (fIsX C b e i) := by
  intro wf w S σd σv Q s h
  unfold fIsX at h
  split at h
  · rename_i n ns e1 e2
    obtain ⟨hC, h2⟩ := h.ite
    subst hC
    obtain ⟨hx, hs⟩ := s.cx a d e rfl
    obtain ⟨d, fs, rfl, g1, g2, g3, g4⟩ := xdR_some hx e2
    refine ⟨_, hs i e1, ht _ _ _ ⟨sz_le (by omega), fun p hp => ?_⟩⟩
    have L : Le w (w.new p (.tup cs) False) := le_new hp
    exact ⟨p, cs, cvs, b, d, fs, rfl, rfl, rfl, (L.lf.kp _ _ g1 g2).1, upd_same, hc, hk, h2 (w.new p (.tup cs) False) _ L (s.st.new hp) (.bl _)⟩
  · exact h.elim
/-! ## defs -/
def fnOf (n k : Nat) (body : FS) : Fn := fun ds S => if ds.length = n then (match body (ds.map (fun d => some (.v d)) ++ List.replicate (k - n) none) S with
  | .nx _ S' => .ok (.v .non) S'
  | .rt r S' => .ok r S'
  | .ex e _ S' => .ex e S'
  | _ => .bad) else .bad
theorem sim_start {ds : List Da} {vs : List V} {N : List Str} (st : StoR K w S) (r : Reps K w ds vs) : Sim K ⟨W.W, none⟩ w w S (ds.map (fun d => some (.v d)) ++ List.replicate (N.length - ds.length) none) (start N vs) := by
  have el := r.length
  refine ⟨Le.refl _, st, by simp [L2.start, el], fun i x e => ?_, fun i j d e s s' a hne e1 => ?_, fun a d e h => by cases h⟩
  · have hi : i < ds.length := by
      by_cases hi : i < ds.length
      · exact hi
      · rw [List.getElem?_append_right (by simp; omega)] at e
        rw [List.getElem?_replicate] at e
        split at e <;> cases e
    rw [List.getElem?_append_left (by simp; omega), List.getElem?_map, List.getElem?_eq_getElem hi] at e
    cases e
    obtain ⟨v, e1, r1⟩ := r.at (List.getElem?_eq_getElem hi)
    refine ⟨v, ?_, r1⟩
    unfold L2.start
    rw [List.getElem?_append_left (by simp; omega), List.getElem?_map, e1]; rfl
  · exfalso
    by_cases hi : i < ds.length
    · rw [List.getElem?_append_left (by simp; omega), List.getElem?_map, List.getElem?_eq_getElem hi] at e1
      cases e1
    · rw [List.getElem?_append_right (by simp; omega), List.getElem?_replicate] at e1
      split at e1 <;> cases e1
theorem fn_pure {n : Nat} {N : List Str} {body : FS} {t : TS} {vs : List V} {H : Hp} {Q : VK} {E : XK} (hb : SndS K ⟨W0 E, none⟩ t body) (h : spOf K (fnOf n N.length body) vs H Q E) : t { nx := fun _ H' => Q .non H', rt := Q } (start N vs) H := by
  obtain ⟨w, S, ds, rfl, st, r, h⟩ := h
  unfold fnOf at h
  obtain ⟨hl, h2⟩ := h.ite
  subst hl
  refine hb w w S _ _ _ (sim_start (W := ⟨W0 E, none⟩) st r) ?_
  revert h2
  cases body (ds.map (fun d => some (.v d)) ++ List.replicate (N.length - ds.length) none) S with
  | nx σ1 S1 => exact fun h2 w' σv' L s' => h2 w' _ s'.le s'.st .non
  | rt r S1 => exact fun h2 w' v L s' R => h2 w' v L s' R
  | bk σ1 S1 => exact fun h2 => h2.elim
  | ct σ1 S1 => exact fun h2 => h2.elim
  | ex e σ1 S1 => exact fun h2 w' σv' c dd L s' R => h2 w' c dd s'.le s'.st R
  | bad => exact fun h2 => h2
theorem fn_len {n k : Nat} {body : FS} {vs : List V} {H : Hp} {Q : VK} {E : XK} (h : spOf K (fnOf n k body) vs H Q E) : vs.length = n := by
  obtain ⟨w, S, ds, rfl, st, r, h⟩ := h
  unfold fnOf at h
  obtain ⟨hl, h2⟩ := h.ite
  rw [r.length, hl]
/-- __init__: the first slot is the new object -/
def inOf (C : Str) (n k : Nat) (body : FS) : FIn := fun ds S => if ds.length + 1 = n then (match body (some (.own (.obj C [] []) true) :: (ds.map (fun d => some (.v d)) ++ List.replicate (k - n) none)) S with
  | .nx σ S' => match (σ[0]? : Option (Option Sx)) with
    | some (some (Sx.own d true)) => .ok d S'
    | _ => .bad
  | .ex e _ S' => .ex e S'
  | _ => .bad) else .bad
theorem in_pure {C : Str} {n : Nat} {N : List Str} {body : FS} {t : TS} {vs : List V} {H : Hp} {Q : VK} {E : XK} (hb : SndS K ⟨W0 E, none⟩ t body) (h : spIn K C (inOf C n N.length body) vs H Q E) : t { nx := fun _ H' => Q .non H', rt := Q } (start N vs) H := by
  obtain ⟨w, S, ds, x, dx, us, rfl, rfl, hx, hdx, hne, st, r, h⟩ := h
  unfold inOf at h
  obtain ⟨hl, h2⟩ := h.ite
  subst hl
  have el := r.length
  have st1 : StoR K (w.new dx (.own x) False) S := st.new hdx
  have hx1 : (w.new dx (.own x) False).H x = none := by show upd w.H dx (.own x) x = none; rw [upd_ne (fun z => hne z.symm)]; exact hx
  have L1 : Le w (w.new dx (.own x) False) := le_new hdx
  have Lb : Le (w.new dx (.own x) False) ((w.new dx (.own x) False).new x (.ins (He.ga K C) dx []) True) := le_new hx1
  have st2 : StoR K ((w.new dx (.own x) False).new x (.ins (He.ga K C) dx []) True) S := st1.new hx1
  have own : OwnR K w ((w.new dx (.own x) False).new x (.ins (He.ga K C) dx []) True) (.obj C [] []) (.ref x) := ⟨x, rfl, hx, ⟨dx, [], upd_same, rfl, .nil⟩, .inl ⟨rfl, True.intro⟩, (st1.fresh hx1).1⟩
  have hs : start N (.ref x :: us) = some (.ref x) :: (us.map some ++ List.replicate (N.length - (ds.length + 1)) none) := by unfold _root_.L2.start; simp [el]
  have sim : Sim K ⟨W0 E, none⟩ { w with x := x } ((w.new dx (.own x) False).new x (.ins (He.ga K C) dx []) True) S (some (.own (.obj C [] []) true) :: (ds.map (fun d => some (.v d)) ++ List.replicate (N.length - (ds.length + 1)) none)) (start N (.ref x :: us)) := by
    rw [hs]
    have rr := r.le (L1.trans Lb)
    have atd : ∀ (i : Nat) y, (ds.map (fun d => some (Sx.v d)) ++ List.replicate (N.length - (ds.length + 1)) none)[i]? = some (some y) → ∃ (hi : i < ds.length), y = .v ds[i] := fun i y e => by
      by_cases hi : i < ds.length
      · rw [List.getElem?_append_left (by simp; omega), List.getElem?_map, List.getElem?_eq_getElem hi] at e
        cases e
        exact ⟨hi, rfl⟩
      · rw [List.getElem?_append_right (by simp; omega), List.getElem?_replicate] at e
        split at e <;> cases e
    refine ⟨⟨(L1.trans Lb).pre, (L1.trans Lb).kp⟩, st2, by simp [el], fun i y e => ?_, fun i j d e s s' a hne' e1 e2 => ?_, fun a d e h => by cases h⟩
    · cases i with
      | zero =>
        cases e
        exact ⟨.ref x, rfl, own, fun _ => rfl⟩
      | succ i =>
        obtain ⟨hi, rfl⟩ := atd i y (by simpa using e)
        obtain ⟨v, e1, r1⟩ := rr.at (List.getElem?_eq_getElem hi)
        refine ⟨v, ?_, r1⟩
        rw [List.getElem?_cons_succ, List.getElem?_append_left (by simp; omega), List.getElem?_map, e1]; rfl
    · exfalso
      cases i with
      | zero =>
        cases j with
        | zero => exact hne' rfl
        | succ j => obtain ⟨_, h⟩ := atd j _ (by simpa using e2); cases h
      | succ i => obtain ⟨_, h⟩ := atd i _ (by simpa using e1); cases h
  refine hb { w with x := x } _ S _ _ _ sim ?_
  revert h2
  cases body (some (.own (.obj C [] []) true) :: (ds.map (fun d => some (.v d)) ++ List.replicate (N.length - (ds.length + 1)) none)) S with
  | nx σ1 S1 =>
    intro h2 w' σv' L s'
    have h3 : Po _ _ (match (σ1[0]? : Option (Option Sx)) with
      | some (some (Sx.own d true)) => .ok d S1
      | _ => .bad) := h2
    split at h3
    · rename_i d e
      obtain ⟨v, e1, ⟨a, e2, e3⟩, e4⟩ := s'.sl 0 _ e
      have e5 := e4 rfl
      refine h3 w' ⟨s'.le.pre, s'.le.kp⟩ s'.st ?_
      rw [e5] at e2
      exact ⟨a, e2, e3⟩
    · exact h3.elim
  | rt r S1 => exact fun h2 => h2.elim
  | bk σ1 S1 => exact fun h2 => h2.elim
  | ct σ1 S1 => exact fun h2 => h2.elim
  | ex e σ1 S1 => exact fun h2 w' σv' c dd L s' R => h2 w' c dd ⟨s'.le.pre, s'.le.kp⟩ s'.st R
  | bad => exact fun h2 => h2
theorem in_len {C : Str} {n k : Nat} {body : FS} {vs : List V} {H : Hp} {Q : VK} {E : XK} (h : spIn K C (inOf C n k body) vs H Q E) : vs.length = n := by
  obtain ⟨w, S, ds, x, dx, us, rfl, rfl, hx, hdx, hne, st, r, h⟩ := h
  unfold inOf at h
  obtain ⟨hl, h2⟩ := h.ite
  simp [r.length, hl]
theorem law_start {f : Fn} {H : Hp} {a : Addr} {ns : List Int} {S : Sto} (hS : SqL K H a (ns.map V.int)) (hf : f [.frl ns] [] = .ok (.v (.bl true)) S) : spOf K f [.ref a] H (fun v _ => v = .bl true) fun _ _ _ => False := by
  refine ⟨⟨H, [], fun _ => False, 0⟩, [], [.frl ns], rfl, ⟨rfl, List.nodup_nil, fun n a d e => by simp at e, fun a h => h.elim, fun a h => by simp at h⟩, .cons (.frl ?_) .nil, ?_⟩
  · rcases hS with h | h
    · exact .inl ⟨h, by simp, fun z => z⟩
    · exact .inr h
  · rw [hf]
    intro w' v _ _ R
    cases R
    rfl
end
end Cl

/-! ## Fun8 -/
namespace Cl
open PySem PySem.Spec PyProof.Rows L2
section
variable {K : PySem.W.Frag} {W : Cw} {wf w w1 w2 : Wd} {S S1 : Sto} {σd : Env} {σv : L2.St} {D : Ends}
def fNeg (fe : FE) : FE := fun σ S => (fe σ S).bd fun r S1 => match r with
  | .v (.int i) => .ok (.v (.int (-i))) S1
  | _ => .bad
theorem snd_neg {te : TE} {fe : FE} (he : SndE K W te fe) : SndE K W (tUn uNeg te) (fNeg fe) := by
  intro wf w S σd σv Q s h
  refine he.run (Le.refl w) s h fun r S1 w1 v L1 st1 R1 h1 => ?_
  revert h1
  split
  · intro h1; cases R1; exact ⟨_, rfl, h1 w1 _ L1 st1 (.int _)⟩
  · intro h1; exact h1.elim
/-! ### calls that may raise -/
def fMethX (C m : Str) (f : Fn) (fo : FE) (fa : FA) : FE := fun σ S => (fo σ S).bd fun r S1 => match r.rd S1 with
  | .obj C' ns _ => if C' = C ∧ m ∉ ns then (fa σ S1).bd fun rs S2 => onDs (r :: rs) fun ds => f ds S2 else .bad
  | _ => .bad
theorem snd_methX {C m : Str} {f : Fn} {to : TE} {fo : FE} {ta : TA} {fa : FA} (ho : SndE K W to fo) (ha : SndA K W ta fa) : SndE K W (tMethX (He.ga K C) m (spOf K f) (WE W.W) to ta) (fMethX C m f fo fa) := by
  intro wf w S σd σv Q s h
  refine ho.run (Le.refl w) s h fun r S1 w1 v L1 st1 R1 h1 => ?_
  revert h1
  split
  · rename_i C' ns ds' e
    intro h1
    obtain ⟨⟨hC, hm⟩, h2⟩ := h1.ite
    subst hC
    obtain ⟨a, dx, fs, rfl, g1, g2, g3⟩ := objOf st1 R1 e
    refine ⟨a, dx, fs, rfl, g1, lookup_no (by rw [g2]; exact hm), ha.run L1 (s.step L1 st1) h2 fun rs S2 w2 vs L2 st2 R2 h3 => ?_⟩
    obtain ⟨ds, e2, h4⟩ := onDs_of h3
    have L02 := L1.trans L2
    refine ⟨w.frz w2, S2, ds, rfl, st2.frz, RepRs.frz (rs := r :: rs) (xs := .ref a :: vs) ⟨R1.le L2, R2.back L1 st1⟩ e2, ?_⟩
    revert h4
    cases f ds S2 with
    | ok r S2 => exact fun h2 w' v L st R => h2 w' v (L02.frz.trans L) st (RepR.called s.le L02 st2 R)
    | ex e S2 => exact fun h2 w' c dd L st R => h2 w' c dd (L02.frz.trans L) st R
    | bad => exact fun h2 => h2
  · intro h1; exact h1.elim
def fMakeX (f : FIn) (fa : FA) : FE := fun σ S => (fa σ S).bd fun rs S1 => onDs rs fun ds => (f ds S1).bd fun d S2 => .ok (.fr d) S2
theorem snd_makeX {C : Str} {f : FIn} {ta : TA} {fa : FA} (ha : SndA K W ta fa) : SndE K W (tMakeX (He.ga K C) (spIn K C f) (WE W.W) ta) (fMakeX f fa) := by
  intro wf w S σd σv Q s h
  refine ha.run (Le.refl w) s h fun rs S1 w1 vs L1 st1 R1 h1 => ?_
  obtain ⟨ds, e, h2⟩ := onDs_of h1
  intro x dx hx hdx hne
  refine ⟨w.frz w1, S1, ds, x, dx, vs, rfl, rfl, hx, hdx, hne, st1.frz, R1.frz e, ?_⟩
  revert h2
  cases f ds S1 with
  | ok d S2 =>
    intro h2 w' L st ⟨a, e1, n, c⟩
    exact ⟨rfl, h2 w' _ (L1.frz.trans L) st ⟨a, e1, L1.none st1 n, c⟩⟩
  | ex e S2 => exact fun h2 w' c dd L st R => h2 w' c dd (L1.frz.trans L) st R
  | bad => exact fun h2 => h2
/-! ### defs that let nothing out -/
def fnOf0 (n k : Nat) (body : FS) : Fn := fun ds S => if ds.length = n then (match body (ds.map (fun d => some (.v d)) ++ List.replicate (k - n) none) S with
  | .nx _ S' => .ok (.v .non) S'
  | .rt r S' => .ok r S'
  | _ => .bad) else .bad
theorem fn_pure0 {n : Nat} {N : List Str} {body : FS} {t : TS} {vs : List V} {H : Hp} {Q : VK} {E : XK} (hb : SndS K ⟨WF, none⟩ t body) (h : spOf K (fnOf0 n N.length body) vs H Q E) : t { nx := fun _ H' => Q .non H', rt := Q } (L2.start N vs) H := by
  obtain ⟨w, S, ds, rfl, st, r, h⟩ := h
  unfold fnOf0 at h
  obtain ⟨hl, h2⟩ := h.ite
  subst hl
  refine hb w w S _ _ _ (sim_start (W := ⟨WF, none⟩) st r) ?_
  revert h2
  cases body (ds.map (fun d => some (.v d)) ++ List.replicate (N.length - ds.length) none) S with
  | nx σ1 S1 => exact fun h2 w' σv' L s' => h2 w' _ s'.le s'.st .non
  | rt r S1 => exact fun h2 w' v L s' R => h2 w' v L s' R
  | bk σ1 S1 => exact fun h2 => h2.elim
  | ct σ1 S1 => exact fun h2 => h2.elim
  | ex e σ1 S1 => exact fun h2 => h2.elim
  | bad => exact fun h2 => h2
theorem fn_len0 {n k : Nat} {body : FS} {vs : List V} {H : Hp} {Q : VK} {E : XK} (h : spOf K (fnOf0 n k body) vs H Q E) : vs.length = n := by
  obtain ⟨w, S, ds, rfl, st, r, h⟩ := h
  unfold fnOf0 at h
  obtain ⟨hl, h2⟩ := h.ite
  rw [r.length, hl]
def inOf0 (C : Str) (n k : Nat) (body : FS) : FIn := fun ds S => match inOf C n k body ds S with
  | .ok d S' => .ok d S'
  | _ => .bad
theorem in_pure0 {C : Str} {n : Nat} {N : List Str} {body : FS} {t : TS} {vs : List V} {H : Hp} {Q : VK} {E : XK} (hb : SndS K ⟨W0 E0, none⟩ t body) (h : spIn K C (inOf0 C n N.length body) vs H Q E) : t { nx := fun _ H' => Q .non H', rt := Q } (L2.start N vs) H := by
  refine in_pure (E := E0) (Q := Q) (C := C) (n := n) hb ?_
  obtain ⟨w, S, ds, x, dx, us, h1, h2, hx, hdx, hne, st, r, h⟩ := h
  refine ⟨w, S, ds, x, dx, us, h1, h2, hx, hdx, hne, st, r, ?_⟩
  unfold inOf0 at h
  revert h
  cases inOf C n N.length body ds S with
  | ok d S' => exact fun h => h
  | ex e S' => exact fun h => h.elim
  | bad => exact fun h => h
theorem in_len0 {C : Str} {n k : Nat} {body : FS} {vs : List V} {H : Hp} {Q : VK} {E : XK} (h : spIn K C (inOf0 C n k body) vs H Q E) : vs.length = n := by
  refine in_len (K := K) (H := H) (E := E0) (Q := Q) (C := C) (n := n) (k := k) (body := body) ?_
  obtain ⟨w, S, ds, x, dx, us, h1, h2, hx, hdx, hne, st, r, h⟩ := h
  refine ⟨w, S, ds, x, dx, us, h1, h2, hx, hdx, hne, st, r, ?_⟩
  unfold inOf0 at h
  revert h
  cases inOf C n k body ds S with
  | ok d S' => exact fun h => h
  | ex e S' => exact fun h => h.elim
  | bad => exact fun h => h
theorem tab_nil : TabOk K [] := fun C X b e => by simp at e
theorem tab_cons {C X : Str} {b : Bool} {tab : Tab} (h : PySem.W.exmOne K (.ref (He.ga K C)) (.ref (He.ga K X)) = some b) (r : TabOk K tab) : TabOk K (((C, X), b) :: tab) := fun C' X' b' e => by
  rw [List.lookup_cons] at e
  by_cases hc : ((C', X') == (C, X)) = true
  · have e2 : (C', X') = (C, X) := by simpa using hc
    cases e2
    simp at e
    subst e
    exact h
  · have hf : ((C', X') == (C, X)) = false := by simpa using hc
    rw [hf] at e
    exact r C' X' b' e
theorem kt_nil : KtOk K [] := fun C X b e => by simp at e
theorem kt_cons {C X : Str} {b : Bool} {kt : Tab} (hx : ExcC K (He.ga K C)) (h : PySem.W.kitOne K (.ref (He.ga K C)) (.ref (He.ga K X)) = some b) (r : KtOk K kt) : KtOk K (((C, X), b) :: kt) := fun C' X' b' e => by
  rw [List.lookup_cons] at e
  by_cases hc : ((C', X') == (C, X)) = true
  · have e2 : (C', X') = (C, X) := by simpa using hc
    cases e2
    simp at e
    subst e
    exact ⟨hx, h⟩
  · have hf : ((C', X') == (C, X)) = false := by simpa using hc
    rw [hf] at e
    exact r C' X' b' e
theorem ktT_nil {T : String} : KtTOk K [] T := fun C X b e => by simp at e
theorem ktT_cons {C X : Str} {T : String} {b : Bool} {kt : Tab} (hx : ExcC K (He.ga K C)) (h : PySem.W.kitOne K (.ref (He.ga K C)) (.type T) = some b) (r : KtTOk K kt T) : KtTOk K (((C, X), b) :: kt) T := fun C' X' b' e => by
  rw [List.lookup_cons] at e
  by_cases hc : ((C', X') == (C, X)) = true
  · have e2 : (C', X') = (C, X) := by simpa using hc
    cases e2
    simp at e
    subst e
    exact ⟨hx, h⟩
  · have hf : ((C', X') == (C, X)) = false := by simpa using hc
    rw [hf] at e
    exact r C' X' b' e
theorem vals_refs : ∀ {as : List Addr} {us : List Value}, Vals (as.map V.ref) us → us = as.map Value.ref
  | [], _, .nil => rfl
  | a :: as, _, .cons r rr => by
    have e : _ = Value.ref a := r
    rw [e, vals_refs rr]; rfl
/-! ### sums, all, any -/
def intsD : List Da → Option (List Int)
  | [] => some []
  | .int i :: ds => match intsD ds with
    | some is => some (i :: is)
    | none => none
  | _ => none
theorem intsD_of {w : Wd} : ∀ {ds : List Da} {vs : List V} {is : List Int}, Reps K w ds vs → intsD ds = some is → vs = is.map V.int
  | _, _, is, .nil, e => by simp [intsD] at e; subst e; rfl
  | _, _, is, .cons h r, e => by
    cases h with
    | int i =>
      simp only [intsD] at e
      split at e
      · rename_i e2; cases e; rw [intsD_of r e2]; rfl
      · cases e
    | _ => simp [intsD] at e
def bools : List Da → Option (List Bool)
  | [] => some []
  | .bl b :: ds => match bools ds with
    | some bs => some (b :: bs)
    | none => none
  | _ => none
theorem bools_of {w : Wd} : ∀ {ds : List Da} {vs : List V} {is : List Bool}, Reps K w ds vs → bools ds = some is → vs = is.map V.bl
  | _, _, is, .nil, e => by simp [bools] at e; subst e; rfl
  | _, _, is, .cons h r, e => by
    cases h with
    | bl i =>
      simp only [bools] at e
      split at e
      · rename_i e2; cases e; rw [bools_of r e2]; rfl
      · cases e
    | _ => simp [bools] at e
def bAll : FB
  | [r], S => match r.rd S with
    | .lst ds => match bools ds with
      | some bs => .ok (.v (.bl (bs.all id))) S
      | none => .bad
    | _ => .bad
  | _, _ => .bad
theorem sAll : CbS K W (rAll K) bAll := by
  intro wf w w2 S σd σv rs vs Q s L R h
  unfold bAll at h
  split at h
  · obtain ⟨v, rfl, R1⟩ := R.one
    split at h
    · rename_i ds e
      split at h
      · rename_i bs e2
        obtain ⟨a, us, rfl, g1, g2⟩ := lstOf s.st R1 e
        have := bools_of g2 e2
        subst this
        exact ⟨a, bs, rfl, SqL.of g1, h w2 _ L s.st (.bl _)⟩
      · exact h.elim
    · exact h.elim
  · exact h.elim
def bAny : FB
  | [r], S => match r.rd S with
    | .lst ds => match bools ds with
      | some bs => .ok (.v (.bl (bs.any id))) S
      | none => .bad
    | _ => .bad
  | _, _ => .bad
theorem sAny : CbS K W (rAny K) bAny := by
  intro wf w w2 S σd σv rs vs Q s L R h
  unfold bAny at h
  split at h
  · obtain ⟨v, rfl, R1⟩ := R.one
    split at h
    · rename_i ds e
      split at h
      · rename_i bs e2
        obtain ⟨a, us, rfl, g1, g2⟩ := lstOf s.st R1 e
        have := bools_of g2 e2
        subst this
        exact ⟨a, bs, rfl, SqL.of g1, h w2 _ L s.st (.bl _)⟩
      · exact h.elim
    · exact h.elim
  · exact h.elim
def bSum : FB
  | [r], S => match r.rd S with
    | .lst ds => match intsD ds with
      | some bs => .ok (.v (.int bs.sum)) S
      | none => .bad
    | _ => .bad
  | _, _ => .bad
theorem sSum : CbS K W (rSum K) bSum := by
  intro wf w w2 S σd σv rs vs Q s L R h
  unfold bSum at h
  split at h
  · obtain ⟨v, rfl, R1⟩ := R.one
    split at h
    · rename_i ds e
      split at h
      · rename_i bs e2
        obtain ⟨a, us, rfl, g1, g2⟩ := lstOf s.st R1 e
        have := intsD_of g2 e2
        subst this
        exact ⟨a, bs, rfl, SqL.of g1, h w2 _ L s.st (.int _)⟩
      · exact h.elim
    · exact h.elim
  · exact h.elim
/-! ### texts -/
def fFmt (fe : FE) : FE := fun σ S => (fe σ S).bd fun r S1 => match r with
  | .v (.str y) => if y.length ≤ 1000000 then .ok (.v (.str y)) S1 else .bad
  | .v (.int i) => if i.natAbs.log2 < 1920 then .ok (.v (.str (toString i))) S1 else .bad
  | _ => .bad
theorem snd_fmt {te : TE} {fe : FE} (he : SndE K W te fe) : SndE K W (tFmt te) (fFmt fe) := by
  intro wf w S σd σv Q s h
  refine he.run (Le.refl w) s h fun r S1 w1 v L1 st1 R1 h1 => ?_
  revert h1
  split
  · intro h1; cases R1; exact .inl ⟨_, rfl, sz_le (h1.ite).1, (h1.ite).2 w1 _ L1 st1 (.str _)⟩
  · intro h1; cases R1; exact .inr ⟨_, rfl, (h1.ite).1, (h1.ite).2 w1 _ L1 st1 (.str _)⟩
  · intro h1; exact h1.elim
abbrev tJoined (ts : List TE) : TE := fun σ H Q => tJs ts Str.empty σ H fun out H1 => Q (.str out) H1
def foldJ : List FE → Str → Env → Sto → Ev Str
  | [], acc, _, S => .ok acc S
  | f :: fs, acc, σ, S => (f σ S).bd fun r S1 => match r with
    | .v (.str y) => if (acc ++ y).length ≤ 1000000 then foldJ fs (acc ++ y) σ S1 else .bad
    | _ => .bad
def fJoined (fs : List FE) : FE := fun σ S => (foldJ fs Str.empty σ S).bd fun out S1 => .ok (.v (.str out)) S1
variable (K W) in
inductive SndJ : List TE → List FE → Prop
  | nil : SndJ [] []
  | cons {t : TE} {f : FE} {ts : List TE} {fs : List FE} : SndE K W t f → SndJ ts fs → SndJ (t :: ts) (f :: fs)
theorem snd_js {ts : List TE} {fs : List FE} (h : SndJ K W ts fs) : ∀ {w0 w : Wd} {S : Sto} {acc : Str} {Q : Str → Hp → Prop}, Le w0 w → Sim K W wf w S σd σv → Po (fun out S' => ∀ w', Le w0 w' → StoR K w' S' → Q out w'.H) (XP K W w0 σv) (foldJ fs acc σd S) → tJs ts acc σv w.H Q := by
  induction h with
  | nil => exact fun L s h => h _ L s.st
  | cons he _ ih =>
    intro w0 w S acc Q L s h
    refine he.run L s h fun r S1 w1 v L1 st1 R1 h1 => ?_
    revert h1
    split
    · intro h1
      cases R1
      exact ⟨_, rfl, sz_le (h1.ite).1, ih (L.trans L1) (s.step L1 st1) (h1.ite).2⟩
    · intro h1; exact h1.elim
theorem snd_joined {ts : List TE} {fs : List FE} (h : SndJ K W ts fs) : SndE K W (tJoined ts) (fJoined fs) := by
  intro wf w S σd σv Q s hp
  refine snd_js h (Le.refl w) s ?_
  unfold fJoined at hp
  revert hp
  cases foldJ fs Str.empty σd S with
  | ok out S1 => exact fun hp w' L st => hp w' _ L st (.str _)
  | ex e S1 => exact fun hp => hp
  | bad => exact fun hp => hp
/-- str(i), str(text) -/
def qStr : List V → Hp → VK → Prop := fun xs H Q => ∃ i, xs = [.int i] ∧ i.natAbs.log2 < 1920 ∧ Q (.str (toString i)) H
theorem cl_strI {X : Cx} : CallR X (.type "str") qStr := call_str_int
def bStrI : FB
  | [.v (.int i)], S => if i.natAbs.log2 < 1920 then .ok (.v (.str (toString i))) S else .bad
  | _, _ => .bad
theorem sStrI : CbS K W qStr bStrI := by
  intro wf w w2 S σd σv rs vs Q s L R h
  unfold bStrI at h
  split at h
  · obtain ⟨v, rfl, R1⟩ := R.one
    cases R1
    exact ⟨_, rfl, (h.ite).1, (h.ite).2 w2 _ L s.st (.str _)⟩
  · exact h.elim
/-- z.join(xs) -/
def strsD : List Da → Option (List Str)
  | [] => some []
  | .str i :: ds => match strsD ds with
    | some is => some (i :: is)
    | none => none
  | _ => none
theorem strsD_of {w : Wd} : ∀ {ds : List Da} {vs : List V} {is : List Str}, Reps K w ds vs → strsD ds = some is → vs = is.map V.str
  | _, _, is, .nil, e => by simp [strsD] at e; subst e; rfl
  | _, _, is, .cons h r, e => by
    cases h with
    | str i =>
      simp only [strsD] at e
      split at e
      · rename_i e2; cases e; rw [strsD_of r e2]; rfl
      · cases e
    | _ => simp [strsD] at e
def qJoin (K : PySem.W.Frag) : V → List V → Hp → VK → Prop := fun x xs H Q => ∃ a p, ∃ ys : List Str, x = .str a ∧ xs = [.ref p] ∧ (SqL K H p (ys.map V.str) ∨ SqT K H p (ys.map V.str)) ∧ (ys.map (·.length)).sum + ys.length * a.length ≤ 16777216 ∧ Q (.str (Txt.join a ys)) H
theorem mt_joinL {X : Cx} : MtR X "str.join" (qJoin X.K) := mt_join
def fJoin (fo fe : FE) : FE := fun σ S => (fo σ S).bd fun r S1 => match r with
  | .v (.str a) => (fe σ S1).bd fun q S2 => match q.rd S2 with
    | .lst ds => match strsD ds with
      | some ys => if (ys.map (·.length)).sum + ys.length * a.length ≤ 16777216 then .ok (.v (.str (Txt.join a ys))) S2 else .bad
      | none => .bad
    | _ => .bad
  | _ => .bad
theorem snd_join {to te : TE} {fo fe : FE} (ho : SndE K W to fo) (he : SndE K W te fe) : SndE K W (tBM K "str" (qJoin K) to (tCons te tNil)) (fJoin fo fe) := by
  intro wf w S σd σv Q s h
  refine ho.run (Le.refl w) s h fun r S1 w1 v L1 st1 R1 h1 => ?_
  revert h1
  split
  · rename_i a
    intro h1
    cases R1
    refine ⟨rfl, he.run L1 (s.step L1 st1) h1 fun q S2 w2 u L2 st2 R2 h2 => ?_⟩
    revert h2
    split
    · rename_i ds e
      split
      · rename_i ys e2
        intro h2
        obtain ⟨p, us, rfl, g1, g2⟩ := lstOf st2 R2 e
        have := strsD_of g2 e2
        subst this
        exact ⟨a, p, ys, rfl, rfl, .inl (SqL.of g1), (h2.ite).1, (h2.ite).2 w2 _ (L1.trans L2) st2 (.str _)⟩
      · intro h2; exact h2.elim
    · intro h2; exact h2.elim
  · intro h1; exact h1.elim
/-! ### try .. except X: (no name) -/
def fTryO (tab : Tab) (X : Str) (fb fh : FS) : FS := fun σ S => match fb σ S with
  | .ex e σ1 S1 => match tab.lookup (e.C, X) with
    | some true => fh σ1 S1
    | some false => .ex e σ1 S1
    | none => .bad
  | o => o
theorem snd_tryO {tab : Tab} (htab : TabOk K tab) {X : Str} {tb : WX → TS} {fb fh : FS} {ts : Addr → Value → Option Addr → TS} (hb : ∀ W' : WX, SndS K ⟨W', W.ex⟩ (tb W') fb) (hh : ∀ a cls d, SndS K W (ts a cls d) fh) : SndS K W (tTryO K (.ref (He.ga K X)) tb W.W ts) (fTryO tab X fb fh) := by
  intro wf w S σd σv D s h
  have conv : ∀ {W1 W2 : WX} {w S σd σv}, Sim K ⟨W1, W.ex⟩ wf w S σd σv → Sim K ⟨W2, W.ex⟩ wf w S σd σv := fun s => ⟨s.le, s.st, s.ln, s.sl, s.dj, s.cx⟩
  refine hb (wOnly K (.ref (He.ga K X)) ts W.W D) wf w S σd σv D (conv (W1 := W.W) s) ?_
  unfold fTryO at h
  revert h
  cases fb σd S with
  | nx σ1 S1 => exact fun h w' σv' L s' => h w' σv' L (conv (W2 := W.W) s')
  | bk σ1 S1 => exact fun h w' σv' L s' => h w' σv' L (conv (W2 := W.W) s')
  | ct σ1 S1 => exact fun h w' σv' L s' => h w' σv' L (conv (W2 := W.W) s')
  | rt r S1 => exact fun h => h
  | bad => exact fun h => h
  | ex e σ1 S1 =>
    intro h w' σv' c dd L s' R
    obtain ⟨rfl, R'⟩ := R
    have h' : PostS K W wf w D (match tab.lookup (e.C, X) with
      | some true => fh σ1 S1
      | some false => .ex e σ1 S1
      | none => .bad) := h
    cases hl : tab.lookup (e.C, X) with
    | none => rw [hl] at h'; exact h'.elim
    | some b =>
      rw [hl] at h'
      refine ⟨b, htab _ _ _ hl, fun z a ha => ?_, fun z => ?_⟩
      · subst z
        exact hh a _ _ wf w' S1 σ1 σv' D (conv (W2 := W.W) s') (PostS.shift L h')
      · subst z
        exact h' w' σv' _ _ L (conv (W2 := W.W) s') ⟨rfl, R'⟩
/-- a, b = e, f: new objects become the slots' own -/
def Rv.sx : Rv → Option Sx
  | .v d => some (.v d)
  | .fr d => some (.own d false)
  | .bo _ => none
def fParO (i j : Nat) (fe fg : FE) : FS := fun σ S => (fe σ S).so σ fun r S1 => (fg σ S1).so σ fun q S2 => match r.sx, q.sx with
  | some x, some y => if i = j then .bad else .nx ((σ.set i (some x)).set j (some y)) S2
  | _, _ => .bad
theorem Sim.setX (s : Sim K W wf w S σd σv) {i : Nat} {r : Rv} {x : Sx} {v : V} (e : r.sx = some x) (hr : SlR K wf w x v) (hd : ∀ d b a, x = .own d b → v = .ref a → ∀ (j : Nat) e b', j ≠ i → σd[j]? = some (some (.own e b')) → σv[j]? ≠ some (some (.ref a))) : Sim K W wf w S (σd.set i (some x)) (σv.set i (some v)) :=
  s.upd (fun y ey => by cases ey; exact ⟨v, rfl, hr⟩) (fun d b a e1 e2 => by cases e1; cases e2; exact hd d b a rfl rfl) (by intro z; cases z; cases r <;> cases e)
theorem slR_of {w0 : Wd} {r : Rv} {x : Sx} {v : V} (L : Le wf w0) (st : StoR K w0 S) (R : RepR K wf w0 w r v) (e : r.sx = some x) : SlR K wf w x v := by
  cases r with
  | v d => cases e; exact R
  | fr d => cases e; exact ⟨OwnR.back R L st, fun z => by cases z⟩
  | bo d => cases e
theorem own_new {w0 : Wd} {r : Rv} {x : Sx} {v : V} {d : Da} {b : Bool} {a : Addr} (R : RepR K wf w0 w r v) (e : r.sx = some x) (ex : x = .own d b) (ev : v = .ref a) : w0.H a = none := by
  cases r with
  | v d => cases e; cases ex
  | fr d => obtain ⟨a', e1, n, _⟩ := R; subst ev; cases e1; exact n
  | bo d => cases e
theorem snd_parO {i j : Nat} {te tg : TE} {fe fg : FE} (he : SndE K W te fe) (hg : SndE K W tg fg) : SndS K W (tPar i j (tCons te (tCons tg tNil))) (fParO i j fe fg) := by
  intro wf w S σd σv D s h
  refine he.runS (Lf.refl w) s h fun r S1 w1 v L1 st1 R1 h1 => hg.runS L1.lf (s.step L1 st1) h1 fun q S2 w2 u L2 st2 R2 h2 => ?_
  have L := L1.trans L2
  have s2 := s.step L st2
  revert h2
  split
  · rename_i x y ex ey
    intro h2
    by_cases hij : i = j
    · rw [if_pos hij] at h2; exact h2.elim
    · rw [if_neg hij] at h2
      have R1' := R1.le L2
      have a1 : ∀ d b a, x = .own d b → v = .ref a → ∀ (k : Nat) e b', k ≠ i → σd[k]? = some (some (.own e b')) → σv[k]? ≠ some (some (.ref a)) := fun d b a e1 e2 k e b' hk ek ev => by
        have n := own_new R1' ex e1 e2
        obtain ⟨v', e3, ⟨a2, e4, _, c2, _⟩, _⟩ := s.sl k _ ek
        rw [ev] at e3; cases e3; cases e4
        obtain ⟨o, eo⟩ := c2.some
        rw [n] at eo; cases eo
      have sA := s2.setX (i := i) ex (slR_of s.le s.st R1' ex) a1
      refine ⟨v, u, rfl, h2 w2 _ L.lf (sA.setX (i := j) ey (slR_of (s.le.trans L1) st1 R2 ey) fun d b a e1 e2 k e b' hk ek ev => ?_)⟩
      have n := own_new R2 ey e1 e2
      by_cases hki : i = k
      · subst hki
        by_cases hl : i < σd.length
        · rw [List.getElem?_set_self hl] at ek
          rw [List.getElem?_set_self (by rw [← s.ln]; exact hl)] at ev
          have ex2 : x = .own e b' := Option.some.inj (Option.some.inj ek)
          have ev2 : v = .ref a := Option.some.inj (Option.some.inj ev)
          cases r with
          | v d => cases ex; cases ex2
          | fr d => obtain ⟨a', e5, _, c5, _⟩ := R1; rw [ev2] at e5; cases e5; obtain ⟨o, eo⟩ := c5.some; rw [n] at eo; cases eo
          | bo d => cases ex
        · rw [List.getElem?_eq_none (by simp; omega)] at ek; cases ek
      · rw [List.getElem?_set_ne hki] at ek ev
        obtain ⟨v', e3, ⟨a2, e4, _, c2, _⟩, _⟩ := (s.step L1 st1).sl k _ ek
        rw [ev] at e3; cases e3; cases e4
        obtain ⟨o, eo⟩ := c2.some
        rw [n] at eo; cases eo
  · intro h2; exact h2.elim
/-- xs.count(x) -/
def fCount (fo fe : FE) : FE := fun σ S => (fo σ S).bd fun r S1 => match r.rd S1 with
  | .lst _ => (fe σ S1).bd fun q S2 => match r.rd S2, (q.rd S2).py with
    | .lst ds, some p => match pys ds with
      | some ps => if PyData.plainAll ps = true ∧ p.plain = true ∧ p.depth ≤ 60 then .ok (.v (.int ((ps.countP fun z => PyData.eqv z p : Nat) : Int))) S2 else .bad
      | none => .bad
    | _, _ => .bad
  | _ => .bad
theorem snd_count {to te : TE} {fo fe : FE} (ho : SndE K W to fo) (he : SndE K W te fe) : SndE K W (tBM K "list" (rCntD K) to (tCons te tNil)) (fCount fo fe) := by
  intro wf w S σd σv Q s h
  refine ho.run (Le.refl w) s h fun r S1 w1 v L1 st1 R1 h1 => ?_
  revert h1
  split
  · rename_i ds0 e0
    intro h1
    obtain ⟨a, vs, rfl, g1, g2⟩ := lstOf st1 R1 e0
    refine ⟨.inl ⟨rfl, vs, SqL.of g1⟩, he.run L1 (s.step L1 st1) h1 fun q S2 w2 u L2 st2 R2 h2 => ?_⟩
    revert h2
    split
    · rename_i ds p e1 e2
      split
      · rename_i ps e3
        intro h2
        obtain ⟨hc, h3⟩ := h2.ite
        obtain ⟨a', us, ea, k1, k2⟩ := lstOf st2 (R1.le L2) e1
        cases ea
        exact ⟨a, us, ps, u, p, rfl, rfl, SqL.of k1, dps_of k2 e3, dpR_of st2 R2 e2, hc.1, hc.2.1, hc.2.2, h3 w2 _ (L1.trans L2) st2 (.int _)⟩
      · intro h2; exact h2.elim
    · intro h2; exact h2.elim
  · intro h1; exact h1.elim
end
end Cl

/-! ## Own -/
namespace Cl
open PySem PySem.Spec PyProof.Rows L2
/-! ## own __eq__, __str__ -/
def rOwnEq (C : Addr) (sp : Sp) : R2 := fun x y H Q => ∃ a b dx dy fs gs, x = .ref a ∧ y = .ref b ∧ H a = some (.ins C dx fs) ∧ H b = some (.ins C dy gs) ∧ sp [x, y] H (fun v H' => ∃ k, v = .bl k ∧ Q v H') E0
section
variable {X : Cx} {n : Nat} {ps : List Str} {sp : Sp} {C : Str}
theorem env_at {pins : List (Addr × Obj)} {σ : L2.St} {H : Hp} {s : Shared} {A : Around} (I : Inv X pins σ H s) (hf : A.frames = X.A.frames) : Env0 X.prog X.w X.K X.mg X.base A X.stack s H := by
  have e := I.env0
  exact ⟨by rw [hf]; exact e.frames, e.mod, e.bs, e.bsz, e.funs, e.frf, e.hok, e.bare⟩
theorem run_own {pins : List (Addr × Obj)} {σ : L2.St} {H : Hp} {s : Shared} {A : Around} {Q : VK} {us : List Value} {vs : List V} {f : Addr} {fd : FuncData} (F : FnOk X.prog X.w X.K X.mg X.base CX0 n f fd ps sp) (hr : Room n A) (hf : A.frames = X.A.frames) (hb : Binds X.K fd ps [])
    (I : Inv X pins σ H s) (r : Vals vs us) (h : sp vs H Q E0) : wpAny (model X.prog X.w) A (call (.ref f) us) (EP X pins σ Q) X.xe s := by
  have hl : us.length = ps.length := by rw [← r.length]; exact F.len _ _ _ _ h
  have b := hb s us I.kIn (by rw [List.append_nil]; exact hl)
  rw [List.append_nil] at b
  refine wpAny_call (codeAny_mono (F.run A X.stack s H ⟨us, []⟩ us vs Q E0 hr (env_at I hf) b r h) fun z s' hq => ?_)
  cases z with
  | error e => exact pass0 pins σ H s e s' I hq
  | ok fl =>
    cases fl with
    | ret u => exact I.after hq
    | next => exact False.elim hq
    | brk => exact False.elim hq
    | cont => exact False.elim hq
theorem op_ownEq (hm : Meth X.K (He.ga X.K C) "__eq__" (He.ma X.K (He.ga X.K C) "__eq__")) (F : FnX X.prog X.w X.K X.mg X.base CX0 n (C, some "__eq__") ps sp) (hr : Room n X.A) : OpR X (compareOp .Eq) (rOwnEq (He.ga X.K C) sp) := by
  obtain ⟨⟨fd, F, hb⟩, kp⟩ := F
  intro pins s σ H x y u v Q I rx ry h
  obtain ⟨a, b, dx, dy, fs, gs, rfl, rfl, ha, hb', hsp⟩ := h
  cases rx
  cases ry
  obtain ⟨mA, J, _⟩ := ins_get I.hok ha
  obtain ⟨mB, J', _⟩ := ins_get I.hok hb'
  obtain ⟨od, J, _⟩ := J.look
  obtain ⟨od', J', _⟩ := J'.look
  obtain ⟨m, hF⟩ := I.fr
  show wpAny (model X.prog X.w) X.A (richCompare .Eq (.ref a) (.ref b)) (EP X pins σ Q) X.xe s
  refine PySem.W.cmp_K (op := .Eq) (tb := .ref (He.ga X.K C)) hr.units0 hF I.ok.mod.kin J J'.type (by simp [PySem.W.notFirst]) hm.at_ hm.fn ?_
  refine thn (run_own (vs := [.ref a, .ref b]) F hr rfl hb I (.cons rfl (.cons rfl .nil)) hsp) fun z s' hz => ?_
  obtain ⟨v, H', I', rv, k, rfl, q⟩ := hz
  cases rv
  exact ⟨.bl k, H', I', rfl, q⟩
def rStrO (C : Addr) (sp : Sp) : List V → Hp → VK → Prop := fun xs H Q => ∃ a dx fs, xs = [.ref a] ∧ H a = some (.ins C dx fs) ∧ sp [.ref a] H (fun v H' => ∃ z, v = .str z ∧ Q v H') E0
theorem cl_strO (hm : Meth X.K (He.ga X.K C) "__str__" (He.ma X.K (He.ga X.K C) "__str__")) (F : FnX X.prog X.w X.K X.mg X.base CX0 n (C, some "__str__") ps sp) (hr : Room (n + 2) X.A) : CallR X (.type "str") (rStrO (He.ga X.K C) sp) := by
  obtain ⟨⟨fd, F, hb⟩, kp⟩ := F
  intro pins s σ H xs us Q I r h
  obtain ⟨a, dx, fs, rfl, ha, hsp⟩ := h
  cases r with
  | cons rx rr =>
    cases rr
    cases rx
    obtain ⟨mA, J, _⟩ := ins_get I.hok ha
    obtain ⟨od, J, _⟩ := J.look
    have hr2 : Room n X.A.in1.in1 := hr.in1.in1
    refine PySem.W.kso_call hr2.units0 I.kIn J hm.at_ hm.fn ?_
    refine thn (run_own (A := X.A.in1.in1) (vs := [.ref a]) F hr2 rfl hb I (.cons rfl .nil) hsp) fun z s' hz => ?_
    obtain ⟨v, H', I', rv, k, rfl, q⟩ := hz
    obtain ⟨t, rfl⟩ := rv
    exact ⟨.str k, H', I', ⟨t, rfl⟩, q⟩
end
section
variable {K : PySem.W.Frag} {W : Cw}
def fOwnEq (C : Str) (f : Fn) (fa fb : FE) : FE := fun σ S => (fa σ S).bd fun r1 S1 => (fb σ S1).bd fun r2 S2 => match r1.rd S2, r2.rd S2 with
  | .obj C1 _ _, .obj C2 _ _ => if C1 = C ∧ C2 = C then onDs [r1, r2] fun ds => (f ds S2).noX.bd fun r S3 => onB r fun b => .ok (.v (.bl b)) S3 else .bad
  | _, _ => .bad
theorem snd_ownEq {C : Str} {f : Fn} {ta tb : TE} {fa fb : FE} (ha : SndE K W ta fa) (hb : SndE K W tb fb) : SndE K W (tOp (rOwnEq (He.ga K C) (spOf K f)) ta tb) (fOwnEq C f fa fb) := by
  intro wf w S σd σv Q s h
  refine ha.run (Le.refl w) s h fun r1 S1 w1 v1 L1 st1 R1 h1 => hb.run L1 (s.step L1 st1) h1 fun r2 S2 w2 v2 L2 st2 R2 h2 => ?_
  have L02 := L1.trans L2
  have R1' := R1.le L2
  have R2' := R2.back L1 st1
  revert h2
  split
  · rename_i C1 ns1 ds1 C2 ns2 ds2 e1 e2
    intro h2
    obtain ⟨⟨rfl, rfl⟩, h3⟩ := h2.ite
    obtain ⟨a, dx, fs, rfl, g1, _⟩ := objOf st2 R1' e1
    obtain ⟨b, dy, gs, rfl, k1, _⟩ := objOf st2 R2' e2
    obtain ⟨ds, e3, h4⟩ := onDs_of h3
    refine ⟨a, b, dx, dy, fs, gs, rfl, rfl, g1, k1, w.frz w2, S2, ds, rfl, st2.frz, RepRs.frz (rs := [r1, r2]) (xs := [.ref a, .ref b]) ⟨R1', R2', True.intro⟩ e3, ?_⟩
    revert h4
    cases f ds S2 with
    | ex e S2 => exact fun h2 => h2.elim
    | bad => exact fun h2 => h2
    | ok r S3 =>
      intro h4 w' v L st R
      obtain ⟨k, rfl, h5⟩ := onB_of R h4
      exact ⟨k, rfl, h5 w' _ (L02.frz.trans L) st (.bl _)⟩
  · intro h2; exact h2.elim
def onStr (r : Rv) (S : Sto) : Ev Rv := match r with
  | .v (.str z) => .ok (.v (.str z)) S
  | _ => .bad
def fStrO (C : Str) (f : Fn) (fe : FE) : FE := fun σ S => (fe σ S).bd fun r S1 => match r.rd S1 with
  | .obj C1 _ _ => if C1 = C then onDs [r] fun ds => (f ds S1).noX.bd onStr else .bad
  | _ => .bad
theorem snd_strO {C : Str} {f : Fn} {te : TE} {fe : FE} (he : SndE K W te fe) : SndE K W (tCB (rStrO (He.ga K C) (spOf K f)) (tCons te tNil)) (fStrO C f fe) := by
  intro wf w S σd σv Q s h
  refine he.run (Le.refl w) s h fun r1 S1 w1 v1 L1 st1 R1 h1 => ?_
  revert h1
  split
  · rename_i C1 ns1 ds1 e1
    intro h2
    obtain ⟨rfl, h3⟩ := h2.ite
    obtain ⟨a, dx, fs, rfl, g1, _⟩ := objOf st1 R1 e1
    obtain ⟨ds, e3, h4⟩ := onDs_of h3
    refine ⟨a, dx, fs, rfl, g1, w.frz w1, S1, ds, rfl, st1.frz, RepRs.frz (rs := [r1]) (xs := [.ref a]) ⟨R1, True.intro⟩ e3, ?_⟩
    revert h4
    cases f ds S1 with
    | ex e S2 => exact fun h2 => h2.elim
    | bad => exact fun h2 => h2
    | ok r S3 =>
      intro h4 w' v L st R
      have h5 : PostE K W wf w σv Q (onStr r S3) := h4
      unfold onStr at h5
      split at h5
      · cases R; exact ⟨_, rfl, h5 w' _ (L1.frz.trans L) st (.str _)⟩
      · exact h5.elim
  · intro h2; exact h2.elim
/-- isinstance(x, C), x an object of C -/
def fIsC (C : Str) (fe : FE) : FE := fun σ S => (fe σ S).bd fun r S1 => match r.rd S1 with
  | .obj C1 _ _ => if C1 = C then .ok (.v (.bl true)) S1 else .bad
  | _ => .bad
theorem snd_isC {C : Str} {te : TE} {fe : FE} (cl : Cls K (He.ga K C)) (i : IsC K (He.ga K C)) (hk : PySem.W.kitOne K (.ref (He.ga K C)) (.ref (He.ga K C)) = some true) (he : SndE K W te fe) : SndE K W (tCB (rIsi K) (tCons te (tCons (tC (.ref (He.ga K C))) tNil))) (fIsC C fe) := by
  intro wf w S σd σv Q s h
  refine he.run (Le.refl w) s h fun r S1 w1 v L1 st1 R1 h1 => ?_
  revert h1
  split
  · rename_i C1 ns ds e
    intro h1
    obtain ⟨rfl, h2⟩ := h1.ite
    obtain ⟨a, dx, fs, rfl, g1, _⟩ := objOf st1 R1 e
    exact ⟨.ref a, .ref (He.ga K C1), .ref (He.ga K C1), .ref (He.ga K C1), true, rfl, .own _, .base (.ins g1 cl i.ha i.hn i.ht i.hm), hk, h2 w1 _ L1 st1 (.bl _)⟩
  · intro h1; exact h1.elim
/-- z * n -/
def qRepS : R2 := fun x y H Q => ∃ z n, x = .str z ∧ y = .int n ∧ MulOk z n ∧ Q (.str (Txt.mul z n)) H
theorem op_repS {X : Cx} : OpR X (binaryOp .Mult) qRepS := by
  intro pins s σ H x y v u Q I rx ry h
  obtain ⟨z, n, rfl, rfl, hz, q⟩ := h
  obtain ⟨t, rfl⟩ := rx
  obtain ⟨t', rfl⟩ := ry
  exact SB.mul hz fun t' k => ⟨.str (Txt.mul z n), H, I.tok _, ⟨_, rfl⟩, q⟩
theorem mulOk_of {z : Str} {n : Int} (h0 : 0 ≤ n) (h1 : n ≤ 1000) (h2 : z.length ≤ 1000) : MulOk z n := by
  refine ⟨by simp; omega, fun h _ => ?_, fun h _ => ?_⟩
  · have : (1000 : Int) ≤ (2 ^ 63 - 1) / n := (Int.le_ediv_iff_mul_le (by omega)).mpr (by omega)
    omega
  · have h3 : z.length * n.toNat ≤ 1000 * 1000 := Nat.mul_le_mul h2 (by omega)
    unfold Builtin.Str.tooLong
    simp
    exact Nat.le_trans h3 (by decide)
def xRepS : FO2
  | .v (.str z), .v (.int n), S => if 0 ≤ n ∧ n ≤ 1000 ∧ z.length ≤ 1000 then .ok (.v (.str (Txt.mul z n))) S else .bad
  | _, _, _ => .bad
theorem sRepS : OpS K W qRepS xRepS := by
  intro wf w w2 S σd σv r1 r2 v1 v2 Q s L R1 R2 h
  unfold xRepS at h
  split at h
  · obtain ⟨hz, h2⟩ := h.ite
    cases R1; cases R2
    exact ⟨_, _, rfl, rfl, mulOk_of hz.1 hz.2.1 hz.2.2, h2 w2 _ L s.st (.str _)⟩
  · exact h.elim
end
end Cl

/-! ## Fun9 -/
namespace Cl
open PySem PySem.Spec PyProof.Rows L2
/-! ## a slot's own list lent to a call: what comes back holds no list -/
mutual
def Da.noL : Da → Bool
  | .lst _ => false
  | .frl _ => false
  | .tup ds => noLs ds
  | .obj _ _ ds => noLs ds
  | .dic _ ds => noLs ds
  | _ => true
def noLs : List Da → Bool
  | [] => true
  | d :: ds => d.noL && noLs ds
end
/-- an object's parts hold no list -/
def Da.noLc : Da → Bool
  | .lst ds => noLs ds
  | .obj _ _ ds => noLs ds
  | .dic _ ds => noLs ds
  | _ => false
def stoNoL : Sto → Bool
  | [] => true
  | d :: S => d.noLc && stoNoL S
theorem stoNoL_at : ∀ {S : Sto} {n : Nat} {d : Da}, stoNoL S = true → S[n]? = some d → d.noLc = true
  | [], n, d, _, e => by simp at e
  | x :: S, 0, d, h, e => by simp at e; subst e; simp only [stoNoL, Bool.and_eq_true] at h; exact h.1
  | x :: S, n + 1, d, h, e => by simp only [stoNoL, Bool.and_eq_true] at h; exact stoNoL_at h.2 (by simpa using e)
section
variable {K : PySem.W.Frag} {W : Cw} {wf w w1 w2 : Wd} {S S1 S2 : Sto} {σd : Env} {σv : L2.St}
/-- some lists are taken back -/
def Wd.back (w : Wd) (B : Addr → Prop) : Wd := { w with ow := fun b => w.ow b ∨ B b }
theorem rep_back {B : Addr → Prop} (hB : ∀ a, B a → ∃ vs, w.H a = some (.lst vs)) {d : Da} {v : V} (h : Rep K w d v) (hn : d.noL = true) : Rep K (w.back B) d v := by
  have nb : ∀ {a : Addr} {o : HO}, w.H a = some o → (∀ vs, o ≠ .lst vs) → w.fz a → (w.back B).fz a := fun e ho f => ⟨f.1, fun z => z.elim f.2 fun z => by
    obtain ⟨vs, e2⟩ := hB _ z
    rw [e] at e2; exact ho vs (Option.some.inj e2)⟩
  revert hn
  refine @Rep.rec K w (fun d v _ => d.noL = true → Rep K (w.back B) d v) (fun ds vs _ => noLs ds = true → Reps K (w.back B) ds vs) (fun _ => .non) (fun b _ => .bl b) (fun i _ => .int i) (fun s _ => .str s) ?_ ?_ ?_ ?_ ?_ ?_ (fun _ => .nil) ?_ d v h
  · intro a vs ds f _ ih hn
    simp only [Da.noL] at hn
    refine .tup ?_ (ih hn)
    rcases f with ⟨e | ⟨u, e⟩, f⟩ | f
    · exact .inl ⟨.inl e, nb e (by intro vs z; cases z) f⟩
    · exact .inl ⟨.inr ⟨u, e⟩, nb e (by intro vs z; cases z) f⟩
    · exact .inr f
  · intro a vs ds e f _ ih hn; simp [Da.noL] at hn
  · intro a ns f hn; simp [Da.noL] at hn
  · intro a dx C fs ns ds e f en _ ih hn
    simp only [Da.noL] at hn
    exact .obj e (nb e (by intro vs z; cases z) f) en (ih hn)
  · intro a kvs ks ds e f en _ ih hn
    simp only [Da.noL] at hn
    exact .dic e (nb e (by intro vs z; cases z) f) en (ih hn)
  · intro a n e hn
    exact .cell e
  · intro d v ds vs _ _ i1 i2 hn
    simp only [noLs, Bool.and_eq_true] at hn
    exact .cons (i1 hn.1) (i2 hn.2)
theorem reps_back {B : Addr → Prop} (hB : ∀ a, B a → ∃ vs, w.H a = some (.lst vs)) : ∀ {ds : List Da} {vs : List V}, Reps K w ds vs → noLs ds = true → Reps K (w.back B) ds vs
  | _, _, .nil, _ => .nil
  | _, _, .cons h r, hn => by
    simp only [noLs, Bool.and_eq_true] at hn
    exact .cons (rep_back hB h hn.1) (reps_back hB r hn.2)
theorem con_back {B : Addr → Prop} (hB : ∀ a, B a → ∃ vs, w.H a = some (.lst vs)) {a : Addr} {d : Da} (h : ConR K w a d) (hn : d.noLc = true) : ConR K (w.back B) a d := by
  cases d with
  | lst ds => obtain ⟨vs, e, r⟩ := h; exact ⟨vs, e, reps_back hB r hn⟩
  | obj C ns ds => obtain ⟨dx, fs, e, en, r⟩ := h; exact ⟨dx, fs, e, en, reps_back hB r hn⟩
  | dic ks ds => obtain ⟨kvs, e, en, r⟩ := h; exact ⟨kvs, e, en, reps_back hB r hn⟩
  | _ => exact h.elim
/-- while the lists of B are lent, all else that came since w is frozen -/
def Wd.lend (w w1 : Wd) (B : Addr → Prop) : Wd := { H := w1.H, m := w1.m, ow := fun a => w1.ow a ∧ w.H a ≠ none ∧ ¬ B a, x := w.x }
theorem lf_lend {B : Addr → Prop} : Lf w1 (w.lend w1 B) := ⟨List.prefix_refl _, fun _ _ e f => ⟨e, f.1, fun z => f.2 z.1⟩⟩
theorem sto_lend {B : Addr → Prop} (st : StoR K w1 S1) : StoR K (w.lend w1 B) S1 := ⟨st.len, st.nd, fun n a d e1 e2 => (st.at_ n a d e1 e2).lf lf_lend fun _ e => e, fun a z => st.own a z.1, fun a ha z => st.sep a ha z.1⟩
structure Lent (w w1 : Wd) (B : Addr → Prop) : Prop where
  lst : ∀ a, B a → ∃ vs, w1.H a = some (.lst vs)
  own : ∀ a, B a → w1.ow a
  nm : ∀ a, B a → a ∉ w1.m
  old : ∀ a, B a → w.H a ≠ none
theorem lent_lst {B : Addr → Prop} (hB : Lent w w1 B) (L : Le (w.lend w1 B) w2) : ∀ a, B a → ∃ vs, w2.H a = some (.lst vs) := fun a h => by
  obtain ⟨vs, e⟩ := hB.lst a h
  exact ⟨vs, (L.kp a _ e (hB.nm a h)).1⟩
theorem le_back {B : Addr → Prop} (hB : Lent w w1 B) (L1 : Le w w1) (L : Le (w.lend w1 B) w2) : Le w (w2.back B) := ⟨L1.pre.trans L.pre, fun a o e n => by
  obtain ⟨e1, n1, i1⟩ := L1.kp a o e n
  obtain ⟨e2, n2, i2⟩ := L.kp a o e1 n1
  refine ⟨e2, n2, ?_⟩
  show w2.ow a ∨ B a ↔ w.ow a
  constructor
  · intro z
    rcases z with z | z
    · exact i1.mp (i2.mp z).1
    · exact i1.mp (hB.own a z)
  · intro z
    by_cases hb : B a
    · exact .inr hb
    · exact .inl (i2.mpr ⟨i1.mpr z, by rw [e]; simp, hb⟩)⟩
theorem sto_back {B : Addr → Prop} (hB : Lent w w1 B) (L : Le (w.lend w1 B) w2) (st : StoR K w2 S2) (hn : stoNoL S2 = true) : StoR K (w2.back B) S2 := by
  have hl := lent_lst hB L
  refine ⟨st.len, st.nd, fun n a d e1 e2 => con_back hl (st.at_ n a d e1 e2) (stoNoL_at hn e2), fun a z => ?_, fun a ha z => ?_⟩
  · rcases z with z | z
    · exact st.own a z
    · obtain ⟨vs, e⟩ := hl a z
      show w2.H a ≠ none
      rw [e]; simp
  · rcases z with z | z
    · exact st.sep a ha z
    · obtain ⟨vs, e⟩ := hB.lst a z
      exact (L.kp a _ e (hB.nm a z)).2.1 ha
def Rv.noL : Rv → Bool
  | .v d => d.noL
  | .fr d => d.noLc
  | .bo _ => false
theorem ret_back {B : Addr → Prop} (hB : Lent w w1 B) (L0 : Le wf w) (L1 : Le w w1) (st1 : StoR K w1 S1) (L : Le (w.lend w1 B) w2) {r : Rv} {v : V} (R : RepR K (w.lend w1 B) (w.lend w1 B) w2 r v) (hn : r.noL = true) : RepR K wf w (w2.back B) r v := by
  have hl := lent_lst hB L
  cases r with
  | v d => exact rep_back hl R hn
  | fr d =>
    obtain ⟨a, e, n, c, ow, nm⟩ := R
    exact ⟨a, e, L1.none st1 n, con_back hl c hn, .inl ow, nm⟩
  | bo d => cases hn
/-! ### arguments, lent where they are a slot's own list -/
def lendD : Rv → Option Da
  | .v d => some d
  | .fr d => some d
  | .bo (.lst ds) => some (.lst ds)
  | _ => none
def lendDs : List Rv → Option (List Da)
  | [] => some []
  | r :: rs => match lendD r, lendDs rs with
    | some d, some ds => some (d :: ds)
    | _, _ => none
/-- the places of the lent lists -/
def lentAt (w : Wd) : List Rv → List V → Addr → Prop
  | .bo _ :: rs, v :: vs, a => (v = .ref a ∧ w.H a ≠ none) ∨ lentAt w rs vs a
  | _ :: rs, _ :: vs, a => lentAt w rs vs a
  | _, _, _ => False
theorem lent_of : ∀ {rs : List Rv} {vs : List V} {ds : List Da}, RepRs K wf w w1 rs vs → lendDs rs = some ds → Lent w w1 (lentAt w rs vs)
  | [], [], _, _, _ => ⟨fun a h => h.elim, fun a h => h.elim, fun a h => h.elim, fun a h => h.elim⟩
  | r :: rs, v :: vs, ds, h, e => by
    simp only [lendDs] at e
    split at e
    · rename_i d ds' e1 e2
      have ih := lent_of h.2 e2
      cases r with
      | v d => exact ih
      | fr d => exact ih
      | bo d =>
        cases d with
        | lst xs =>
          obtain ⟨a0, ev, n, ⟨us, c1, c2⟩, ow, nm⟩ := h.1
          refine ⟨fun a z => ?_, fun a z => ?_, fun a z => ?_, fun a z => ?_⟩
          · rcases z with ⟨z, _⟩ | z
            · rw [ev] at z; cases z; exact ⟨us, c1⟩
            · exact ih.lst a z
          · rcases z with ⟨z, _⟩ | z
            · rw [ev] at z; cases z; exact ow
            · exact ih.own a z
          · rcases z with ⟨z, _⟩ | z
            · rw [ev] at z; cases z; exact nm
            · exact ih.nm a z
          · rcases z with ⟨_, z⟩ | z
            · exact z
            · exact ih.old a z
        | _ => cases e1
    · cases e
  | [], _ :: _, _, h, _ => h.elim
  | _ :: _, [], _, h, _ => h.elim
theorem lend_reps {B : Addr → Prop} : ∀ {rs : List Rv} {vs : List V} {ds : List Da}, RepRs K wf w w1 rs vs → lendDs rs = some ds → (∀ a, lentAt w rs vs a → B a) → Reps K (w.lend w1 B) ds vs
  | [], [], _, _, e, _ => by cases e; exact .nil
  | r :: rs, v :: vs, ds, h, e, hB => by
    simp only [lendDs] at e
    split at e
    · rename_i d ds' e1 e2
      cases e
      cases r with
      | v d =>
        cases e1
        exact .cons (Rep.lf lf_lend h.1) (lend_reps h.2 e2 hB)
      | fr d =>
        cases e1
        obtain ⟨a, rfl, n, c, ow, nm⟩ := h.1
        exact .cons ((c.lf lf_lend fun _ e => e).rep ⟨nm, fun z => z.2.1 n⟩) (lend_reps h.2 e2 hB)
      | bo d =>
        cases d with
        | lst xs =>
          cases e1
          obtain ⟨a, rfl, n, c, ow, nm⟩ := h.1
          refine .cons ((c.lf lf_lend fun _ e => e).rep ⟨nm, fun z => z.2.2 (hB a (.inl ⟨rfl, z.2.1⟩))⟩) (lend_reps h.2 e2 fun a z => hB a (.inr z))
        | _ => cases e1
    · cases e
  | [], _ :: _, _, h, _, _ => h.elim
  | _ :: _, [], _, h, _, _ => h.elim
def exnNoL (e : Exn) : Bool := noLs e.ds
def chkL : Ev Rv → Ev Rv
  | .ok r S => if r.noL = true ∧ stoNoL S = true then .ok r S else .bad
  | .ex e S => if exnNoL e = true ∧ stoNoL S = true then .ex e S else .bad
  | .bad => .bad
def chkI : Ev Da → Ev Da
  | .ok d S => if d.noLc = true ∧ stoNoL S = true then .ok d S else .bad
  | .ex e S => if exnNoL e = true ∧ stoNoL S = true then .ex e S else .bad
  | .bad => .bad
def onLs {α : Type} (rs : List Rv) (f : List Da → Ev α) : Ev α := match lendDs rs with
  | some ds => f ds
  | none => .bad
theorem onLs_of {α : Type} {rs : List Rv} {f : List Da → Ev α} {P : α → Sto → Prop} {X : Exn → Sto → Prop} (h : Po P X (onLs rs f)) : ∃ ds, lendDs rs = some ds ∧ Po P X (f ds) := by
  unfold onLs at h
  cases e : lendDs rs with
  | none => rw [e] at h; exact h.elim
  | some ds => rw [e] at h; exact ⟨ds, rfl, h⟩
theorem exn_back {B : Addr → Prop} (hB : Lent w w1 B) (L : Le (w.lend w1 B) w2) {e : Exn} {c : Value} {dd : Option Addr} (R : RepX K w2 e c dd) (hn : exnNoL e = true) : RepX K (w2.back B) e c dd := by
  have hl := lent_lst hB L
  obtain ⟨h1, R⟩ := R
  refine ⟨h1, R.elim (fun ⟨d, fs, h2, h3, h4, h5, h6⟩ => .inl ⟨d, fs, h2, h3, ⟨h4.1, fun z => z.elim h4.2 fun z => ?_⟩, h5, reps_back hl h6 hn⟩) .inr⟩
  obtain ⟨vs, e⟩ := hl d z
  rw [h3] at e; cases e
/-- f(..) -/
def fCallL (f : Fn) (fa : FA) : FE := fun σ S => (fa σ S).bd fun rs S1 => onLs rs fun ds => (chkL (f ds S1)).noX
def fCallSL (f : Fn) (fa : FA) : FE := fun σ S => (fa σ S).bd fun rs S1 => onLs rs fun ds => chkL (f ds S1)
def fMakeL (f : FIn) (fa : FA) : FE := fun σ S => (fa σ S).bd fun rs S1 => onLs rs fun ds => (chkI (f ds S1)).noX.bd fun d S2 => .ok (.fr d) S2
def fMakeXL (f : FIn) (fa : FA) : FE := fun σ S => (fa σ S).bd fun rs S1 => onLs rs fun ds => (chkI (f ds S1)).bd fun d S2 => .ok (.fr d) S2
theorem snd_callSL {f : Fn} {ta : TA} {fa : FA} (ha : SndA K W ta fa) : SndE K W (tCallS (spOf K f) (WE W.W) ta) (fCallSL f fa) := by
  intro wf w S σd σv Q s h
  refine ha.run (Le.refl w) s h fun rs S1 w1 vs L1 st1 R1 h1 => ?_
  obtain ⟨ds, e, h2⟩ := onLs_of h1
  have hB := lent_of R1 e
  refine ⟨w.lend w1 (lentAt w rs vs), S1, ds, rfl, sto_lend st1, lend_reps R1 e fun a z => z, ?_⟩
  revert h2
  cases f ds S1 with
  | ok r S2 => exact fun h2 w' v L st R => (h2.ite).2 (w'.back (lentAt w rs vs)) v (le_back hB L1 L) (sto_back hB L st (h2.ite).1.2) (ret_back hB s.le L1 st1 L R (h2.ite).1.1)
  | ex e S2 => exact fun h2 w' c dd L st R => (h2.ite).2 (w'.back (lentAt w rs vs)) c dd (le_back hB L1 L) (sto_back hB L st (h2.ite).1.2) (exn_back hB L R (h2.ite).1.1)
  | bad => exact fun h2 => h2
theorem snd_callL {f : Fn} {ta : TA} {fa : FA} {E : XK} (ha : SndA K W ta fa) : SndE K W (tCall (spOf K f) [] E ta) (fCallL f fa) := by
  intro wf w S σd σv Q s h
  refine ha.run (Le.refl w) s h fun rs S1 w1 vs L1 st1 R1 h1 => ?_
  obtain ⟨ds, e, h2⟩ := onLs_of h1
  have hB := lent_of R1 e
  refine ⟨w.lend w1 (lentAt w rs vs), S1, ds, rfl, sto_lend st1, by rw [List.append_nil]; exact lend_reps R1 e fun a z => z, ?_⟩
  revert h2
  cases f ds S1 with
  | ok r S2 =>
    intro h2 w' v L st R
    have h3 : PostE K W wf w σv Q (Ev.noX (if r.noL = true ∧ stoNoL S2 = true then .ok r S2 else .bad)) := h2
    by_cases hc : r.noL = true ∧ stoNoL S2 = true
    · rw [if_pos hc] at h3
      exact h3 (w'.back (lentAt w rs vs)) v (le_back hB L1 L) (sto_back hB L st hc.2) (ret_back hB s.le L1 st1 L R hc.1)
    · rw [if_neg hc] at h3; exact h3.elim
  | ex e S2 =>
    intro h2
    have h3 : PostE K W wf w σv Q (Ev.noX (if exnNoL e = true ∧ stoNoL S2 = true then .ex e S2 else .bad)) := h2
    by_cases hc : exnNoL e = true ∧ stoNoL S2 = true
    · rw [if_pos hc] at h3; exact h3.elim
    · rw [if_neg hc] at h3; exact h3.elim
  | bad => exact fun h2 => h2
theorem snd_makeXL {C : Str} {f : FIn} {ta : TA} {fa : FA} (ha : SndA K W ta fa) : SndE K W (tMakeX (He.ga K C) (spIn K C f) (WE W.W) ta) (fMakeXL f fa) := by
  intro wf w S σd σv Q s h
  refine ha.run (Le.refl w) s h fun rs S1 w1 vs L1 st1 R1 h1 => ?_
  obtain ⟨ds, e, h2⟩ := onLs_of h1
  have hB := lent_of R1 e
  intro x dx hx hdx hne
  refine ⟨w.lend w1 (lentAt w rs vs), S1, ds, x, dx, vs, rfl, rfl, hx, hdx, hne, sto_lend st1, lend_reps R1 e fun a z => z, ?_⟩
  revert h2
  cases f ds S1 with
  | ok d S2 =>
    intro h2 w' L st ⟨a, e1, n, c, ow, nm⟩
    have h3 : PostE K W wf w σv Q (Ev.bd (if d.noLc = true ∧ stoNoL S2 = true then .ok d S2 else .bad) fun d S2 => .ok (.fr d) S2) := h2
    by_cases hc : d.noLc = true ∧ stoNoL S2 = true
    · rw [if_pos hc] at h3
      exact ⟨rfl, h3 (w'.back (lentAt w rs vs)) _ (le_back hB L1 L) (sto_back hB L st hc.2) ⟨a, e1, L1.none st1 n, con_back (lent_lst hB L) c hc.1, .inl ow, nm⟩⟩
    · rw [if_neg hc] at h3; exact h3.elim
  | ex e S2 =>
    intro h2 w' c dd L st R
    have h3 : PostE K W wf w σv Q (Ev.bd (if exnNoL e = true ∧ stoNoL S2 = true then .ex e S2 else .bad) fun (d : Da) S2 => .ok (.fr d) S2) := h2
    by_cases hc : exnNoL e = true ∧ stoNoL S2 = true
    · rw [if_pos hc] at h3
      exact h3 (w'.back (lentAt w rs vs)) c dd (le_back hB L1 L) (sto_back hB L st hc.2) (exn_back hB L R hc.1)
    · rw [if_neg hc] at h3; exact h3.elim
  | bad => exact fun h2 => h2
theorem snd_makeL {C : Str} {f : FIn} {ta : TA} {fa : FA} {E : XK} (ha : SndA K W ta fa) : SndE K W (tMake (He.ga K C) (spIn K C f) [] E ta) (fMakeL f fa) := by
  intro wf w S σd σv Q s h
  refine ha.run (Le.refl w) s h fun rs S1 w1 vs L1 st1 R1 h1 => ?_
  obtain ⟨ds, e, h2⟩ := onLs_of h1
  have hB := lent_of R1 e
  intro x dx hx hdx hne
  refine ⟨w.lend w1 (lentAt w rs vs), S1, ds, x, dx, vs, by rw [List.append_nil], rfl, hx, hdx, hne, sto_lend st1, lend_reps R1 e fun a z => z, ?_⟩
  revert h2
  cases f ds S1 with
  | ok d S2 =>
    intro h2 w' L st ⟨a, e1, n, c, ow, nm⟩
    have h3 : PostE K W wf w σv Q (Ev.bd (Ev.noX (if d.noLc = true ∧ stoNoL S2 = true then .ok d S2 else .bad)) fun d S2 => .ok (.fr d) S2) := h2
    by_cases hc : d.noLc = true ∧ stoNoL S2 = true
    · rw [if_pos hc] at h3
      exact ⟨rfl, h3 (w'.back (lentAt w rs vs)) _ (le_back hB L1 L) (sto_back hB L st hc.2) ⟨a, e1, L1.none st1 n, con_back (lent_lst hB L) c hc.1, .inl ow, nm⟩⟩
    · rw [if_neg hc] at h3; exact h3.elim
  | ex e S2 =>
    intro h2
    have h3 : PostE K W wf w σv Q (Ev.bd (Ev.noX (if exnNoL e = true ∧ stoNoL S2 = true then .ex e S2 else .bad)) fun (d : Da) S2 => .ok (.fr d) S2) := h2
    by_cases hc : exnNoL e = true ∧ stoNoL S2 = true
    · rw [if_pos hc] at h3; exact h3.elim
    · rw [if_neg hc] at h3; exact h3.elim
  | bad => exact fun h2 => h2
end
end Cl

/-! ## Dic -/
namespace Cl
open PySem PySem.Spec PyProof.Rows L2
/-! ## dicts -/
def Da.key : Da → Option Key
  | .int i => some (.inl i)
  | .str s => some (.inr s)
  | _ => none
def getK : List Key → List Da → Key → Option Da
  | k' :: ks, d :: ds, k => if k' = k then some d else getK ks ds k
  | _, _, _ => none
def setK : List Key → List Da → Key → Da → List Da
  | k' :: ks, d :: ds, k, x => (if k' = k then x else d) :: setK ks ds k x
  | _, _, _, _ => []
def hasK (ks : List Key) (k : Key) : Bool := ks.any fun k' => decide (k' = k)
def putKs (ks : List Key) (k : Key) : List Key := if hasK ks k = true then ks else ks ++ [k]
def putDs (ks : List Key) (ds : List Da) (k : Key) (x : Da) : List Da := if hasK ks k = true then setK ks ds k x else ds ++ [x]
section
variable {K : PySem.W.Frag} {W : Cw} {wf w w1 w2 : Wd} {S S1 : Sto} {σd : Env} {σv : L2.St} {D : Ends}
theorem key_of {d : Da} {v : V} {k : Key} (h : Rep K w d v) (e : d.key = some k) : v = kV k := by
  cases h <;> first | (cases e; rfl) | cases e
theorem keyR_of {w0 : Wd} {r : Rv} {d : Da} {v : V} {k : Key} (h : RepR K wf w0 w r v) (er : r = .v d) (e : d.key = some k) : v = kV k := by
  subst er; exact key_of h e
theorem getK_of : ∀ {kvs : List (Key × V)} {ks : List Key} {ds : List Da} {k : Key}, kvs.map (·.1) = ks → Reps K w ds (kvs.map (·.2)) → (∀ d, getK ks ds k = some d → ∃ v, valV kvs k = some v ∧ Rep K w d v) ∧ (getK ks ds k = none → valV kvs k = none)
  | [], ks, ds, k, e, r => by subst e; cases r; exact ⟨fun d h => (by cases h), fun _ => rfl⟩
  | (k', v) :: kvs, ks, ds, k, e, r => by
    subst e
    cases r with
    | cons h r =>
      rename_i d0 ds
      obtain ⟨i1, i2⟩ := getK_of (kvs := kvs) (ks := kvs.map (·.1)) (ds := ds) (k := k) rfl r
      by_cases hk : k' = k
      · rw [valV_pos (p := (k', v)) hk]
        simp only [List.map_cons, getK, if_pos hk]
        exact ⟨fun d e => (by cases e; exact ⟨v, rfl, h⟩), fun e => (by cases e)⟩
      · rw [valV_neg (p := (k', v)) hk]
        simp only [List.map_cons, getK, if_neg hk]
        exact ⟨i1, i2⟩
theorem set_rel {k : Key} {x : Da} {y : V} (hx : Rep K w x y) : ∀ {kvs : List (Key × V)} {ds : List Da}, Reps K w ds (kvs.map (·.2)) → Reps K w (setK (kvs.map (·.1)) ds k x) ((kvs.map (fun kv => if kv.1 = k then (kv.1, y) else kv)).map (·.2))
  | [], ds, r => by cases r; exact .nil
  | (k', v) :: kvs, ds, r => by
    cases r with
    | cons h r =>
      rename_i d0 ds
      simp only [List.map_cons, setK]
      by_cases hk : k' = k
      · rw [if_pos hk, if_pos hk]; exact .cons hx (set_rel hx r)
      · rw [if_neg hk, if_neg hk]; exact .cons h (set_rel hx r)
theorem put_rel {kvs : List (Key × V)} {ks : List Key} {ds : List Da} {k : Key} {x : Da} {y : V} (e : kvs.map (·.1) = ks) (r : Reps K w ds (kvs.map (·.2))) (hx : Rep K w x y) : (putK kvs k y).map (·.1) = putKs ks k ∧ Reps K w (putDs ks ds k x) ((putK kvs k y).map (·.2)) := by
  have hany : (kvs.any fun kv => decide (kv.1 = k)) = hasK ks k := by
    subst e
    unfold hasK
    rw [List.any_map]; rfl
  unfold putK putKs putDs
  rw [hany]
  cases hk : hasK ks k with
  | true =>
    rw [if_pos rfl, if_pos rfl, if_pos rfl]
    subst e
    refine ⟨?_, set_rel hx r⟩
    rw [List.map_map]
    apply List.map_congr_left
    intro kv _
    show (if kv.1 = k then (kv.1, y) else kv).1 = kv.1
    split <;> rfl
  | false =>
    rw [if_neg (by simp), if_neg (by simp), if_neg (by simp)]
    subst e
    refine ⟨by simp, ?_⟩
    rw [List.map_append]
    exact r.app (.cons hx .nil)
def fDNew : FE := fun _ S => .ok (.fr (.dic [] [])) S
theorem snd_dnew : SndE K W tDNewK fDNew := fun wf w S σd σv Q s h p hp =>
  h (w.new p (.dK []) True) _ (le_new hp) (s.st.new hp) ⟨p, rfl, hp, ⟨[], upd_same, rfl, .nil⟩, .inl ⟨rfl, True.intro⟩, (s.st.fresh hp).1⟩
def onK {α : Type} (r : Rv) (f : Key → Ev α) : Ev α := match r with
  | .v d => match d.key with
    | some k => f k
    | none => .bad
  | _ => .bad
theorem onK_of {α : Type} {w0 : Wd} {r : Rv} {v : V} {f : Key → Ev α} {P : α → Sto → Prop} {X : Exn → Sto → Prop} (R : RepR K wf w0 w r v) (h : Po P X (onK r f)) : ∃ k, v = kV k ∧ Po P X (f k) := by
  unfold onK at h
  split at h
  · rename_i d
    split at h
    · rename_i k e; exact ⟨k, key_of R e, h⟩
    · exact h.elim
  · exact h.elim
/-- d[k] -/
def fDGet (fo fk : FE) : FE := fun σ S => (fo σ S).bd fun r S1 => (fk σ S1).bd fun q S2 => onK q fun k => match r.rd S2 with
  | .dic ks ds => match getK ks ds k with
    | some d => .ok (.v d) S2
    | none => .bad
  | _ => .bad
theorem snd_dget {to tk : TE} {fo fk : FE} (ho : SndE K W to fo) (hk : SndE K W tk fk) : SndE K W (tDGet to tk) (fDGet fo fk) := by
  intro wf w S σd σv Q s h
  refine ho.run (Le.refl w) s h fun r S1 w1 v1 L1 st1 R1 h1 => hk.run L1 (s.step L1 st1) h1 fun q S2 w2 v2 L2 st2 R2 h2 => ?_
  obtain ⟨k, rfl, h3⟩ := onK_of R2 h2
  revert h3
  split
  · rename_i ks ds e
    split
    · rename_i d e2
      intro h3
      obtain ⟨a, kvs, rfl, g1, g2, g3⟩ := dicOf st2 (R1.le L2) e
      obtain ⟨v, g4, g5⟩ := (getK_of g2 g3).1 d e2
      refine ⟨a, v, rfl, ?_, h3 w2 v (L1.trans L2) st2 g5⟩
      rw [← g4]; exact DGet.k g1
    · intro h3; exact h3.elim
  · intro h3; exact h3.elim
/-- k in d, k not in d -/
def fDIn (neg : Bool) (fk fo : FE) : FE := fun σ S => (fk σ S).bd fun q S1 => (fo σ S1).bd fun r S2 => onK q fun k => match r.rd S2 with
  | .dic ks ds => .ok (.v (.bl (if neg then !(getK ks ds k).isSome else (getK ks ds k).isSome))) S2
  | _ => .bad
theorem isSome_of {kvs : List (Key × V)} {ks : List Key} {ds : List Da} {k : Key} (e : kvs.map (·.1) = ks) (r : Reps K w ds (kvs.map (·.2))) : (valV kvs k).isSome = (getK ks ds k).isSome := by
  obtain ⟨h1, h2⟩ := getK_of (k := k) e r
  cases hg : getK ks ds k with
  | none => rw [h2 hg]; rfl
  | some d => obtain ⟨v, h3, _⟩ := h1 d hg; rw [h3]; rfl
theorem snd_din {tk to : TE} {fk fo : FE} (hk : SndE K W tk fk) (ho : SndE K W to fo) : SndE K W (tDIn tk to) (fDIn false fk fo) := by
  intro wf w S σd σv Q s h
  refine hk.run (Le.refl w) s h fun q S1 w1 v1 L1 st1 R1 h1 => ho.run L1 (s.step L1 st1) h1 fun r S2 w2 v2 L2 st2 R2 h2 => ?_
  obtain ⟨k, rfl, h3⟩ := onK_of (R1.le L2) h2
  revert h3
  split
  · rename_i ks ds e
    intro h3
    obtain ⟨a, kvs, rfl, g1, g2, g3⟩ := dicOf st2 R2 e
    refine ⟨a, valV kvs k, rfl, DGet.k g1, ?_⟩
    rw [isSome_of g2 g3]
    exact h3 w2 _ (L1.trans L2) st2 (.bl _)
  · intro h3; exact h3.elim
theorem snd_dnotin {tk to : TE} {fk fo : FE} (hk : SndE K W tk fk) (ho : SndE K W to fo) : SndE K W (tDNotIn tk to) (fDIn true fk fo) := by
  intro wf w S σd σv Q s h
  refine hk.run (Le.refl w) s h fun q S1 w1 v1 L1 st1 R1 h1 => ho.run L1 (s.step L1 st1) h1 fun r S2 w2 v2 L2 st2 R2 h2 => ?_
  obtain ⟨k, rfl, h3⟩ := onK_of (R1.le L2) h2
  revert h3
  split
  · rename_i ks ds e
    intro h3
    obtain ⟨a, kvs, rfl, g1, g2, g3⟩ := dicOf st2 R2 e
    refine ⟨a, valV kvs k, rfl, DGet.k g1, ?_⟩
    rw [isSome_of g2 g3]
    exact h3 w2 _ (L1.trans L2) st2 (.bl _)
  · intro h3; exact h3.elim
/-- d.get(k) -/
def fDGet1 (fo fk : FE) : FE := fun σ S => (fo σ S).bd fun r S1 => match r.rd S1 with
  | .dic _ _ => (fk σ S1).bd fun q S2 => onK q fun k => match r.rd S2 with
    | .dic ks ds => .ok (.v ((getK ks ds k).getD .non)) S2
    | _ => .bad
  | _ => .bad
theorem snd_dget1 {to tk : TE} {fo fk : FE} (ho : SndE K W to fo) (hk : SndE K W tk fk) : SndE K W (tDGet1 to tk) (fDGet1 fo fk) := by
  intro wf w S σd σv Q s h
  refine ho.run (Le.refl w) s h fun r S1 w1 v1 L1 st1 R1 h1 => ?_
  revert h1
  split
  · rename_i ks0 ds0 e0
    intro h1
    obtain ⟨a, kvs0, rfl, k1, _⟩ := dicOf st1 R1 e0
    refine ⟨a, rfl, .inl ⟨kvs0, .inl k1⟩, hk.run L1 (s.step L1 st1) h1 fun q S2 w2 v2 L2 st2 R2 h2 => ?_⟩
    obtain ⟨k, rfl, h3⟩ := onK_of R2 h2
    revert h3
    split
    · rename_i ks ds e
      intro h3
      obtain ⟨a', kvs, ea, g1, g2, g3⟩ := dicOf st2 (R1.le L2) e
      cases ea
      refine ⟨valV kvs k, DGet.k g1, ?_⟩
      obtain ⟨q1, q2⟩ := getK_of (k := k) g2 g3
      cases hg : getK ks ds k with
      | none => rw [hg] at h3; rw [q2 hg]; exact h3 w2 _ (L1.trans L2) st2 .non
      | some d => rw [hg] at h3; obtain ⟨v, h4, h5⟩ := q1 d hg; rw [h4]; exact h3 w2 _ (L1.trans L2) st2 h5
    · intro h3; exact h3.elim
  · intro h1; exact h1.elim
/-- d[k] = v, d a slot's own -/
def fDPut (i : Nat) (fk fv : FE) : FS := fun σ S => match σ[i]? with
  | some (some (.own (.dic ks ds) b)) => (fv σ S).so σ fun r S1 => (fk σ S1).so σ fun q S2 => match q, r.toD with
    | .v kd, some x => match kd.key with
      | some k => if ks.length < 1000000 then .nx (σ.set i (some (.own (.dic (putKs ks k) (putDs ks ds k x)) b))) S2 else .bad
      | none => .bad
    | _, _ => .bad
  | _ => .bad
theorem snd_dput {i : Nat} {tk tv : TE} {fk fv : FE} (hk : SndE K W tk fk) (hv : SndE K W tv fv) : SndS K W (sDPut (tVar i) tk tv) (fDPut i fk fv) := by
  intro wf w S σd σv D s h
  unfold fDPut at h
  split at h
  · rename_i ks ds b e
    obtain ⟨v0, ev, ⟨a, rfl, n, ⟨kvs, g1, g2, g3⟩, ow, nm⟩, _⟩ := s.sl i _ e
    refine hv.runS (Lf.refl w) s h fun r S1 w1 v L1 st1 R1 h1 => ⟨_, ev, hk.runS L1.lf (s.step L1 st1) h1 fun q S2 w2 u L2 st2 R2 h2 => ?_⟩
    revert h2
    split
    · rename_i kd x ed
      split
      · rename_i k ek
        intro h2
        obtain ⟨hz, h3⟩ := h2.ite
        have L := L1.trans L2
        have hu : u = kV k := key_of R2 ek
        have hw : (w.frz w2).H a = some (.dK kvs) := (L.kp a _ g1 nm).1
        have how : (w.frz w2).ow a := ⟨(L.kp a _ g1 nm).2.2.mpr ow, by rw [g1]; simp⟩
        have hkl : kvs.length = ks.length := by rw [← g2, List.length_map]
        have hl : kvs.length < sizeLine := sz_lt (by omega)
        obtain ⟨p1, p2⟩ := put_rel (k := k) g2 (g3.le L.frz) ((R1.le L2).frz ed)
        refine ⟨a, upd w2.H a (.dK (putK kvs k v)), rfl, by rw [hu]; exact DPut.k hw hl, ?_⟩
        refine h3 { w.frz w2 with H := upd (w.frz w2).H a (.dK (putK kvs k v)) } σv (L.frz.lf.trans (own_put how)) ?_
        exact (s.step L.frz st2.frz).put e ev ⟨putK kvs k v, upd_same, p1, p2.lf (own_put how)⟩
      · intro h2; exact h2.elim
    · intro h2; exact h2.elim
  · exact h.elim
/-- {k: v} -/
def fDisp1 (fk fv : FE) : FE := fun σ S => (fk σ S).bd fun q S1 => (fv σ S1).bd fun r S2 => onK q fun k => onD r fun x => .ok (.fr (.dic [k] [x])) S2
theorem snd_disp1 {tk tv : TE} {fk fv : FE} (hk : SndE K W tk fk) (hv : SndE K W tv fv) : SndE K W (tDisp [(tk, tv)]) (fDisp1 fk fv) := by
  intro wf w S σd σv Q s h p hp
  have L0 : Le w (w.new p (.dK []) True) := le_new hp
  have st0 : StoR K (w.new p (.dK []) True) S := s.st.new hp
  refine hk.run L0 (s.step L0 st0) h fun q S1 w1 v1 L1 st1 R1 h1 => hv.run (L0.trans L1) (s.step (L0.trans L1) st1) h1 fun r S2 w2 v2 L2 st2 R2 h2 => ?_
  obtain ⟨k, rfl, h3⟩ := onK_of R1 h2
  obtain ⟨x, ex, h4⟩ := onD_of h3
  have nmp : p ∉ (w.new p (.dK []) True).m := (s.st.fresh hp).1
  have e0 : (w.new p (.dK []) True).H p = some (.dK []) := upd_same
  obtain ⟨a1, a2, a3⟩ := L1.kp p _ e0 nmp
  obtain ⟨b1, b2, b3⟩ := L2.kp p _ a1 a2
  have o0 : (w.new p (.dK []) True).ow p := .inl ⟨rfl, True.intro⟩
  refine ⟨b1, [(k, v2)], rfl, by simp, ?_⟩
  have hm : mergeK [] [(k, v2)] = [(k, v2)] := rfl
  rw [hm]
  -- all that came since the dict is frozen, but not the dict
  have how : (w1.frz w2).ow p := ⟨b3.mpr (a3.mpr o0), by rw [a1]; simp⟩
  have R2' : Rep K (w1.frz w2) x v2 := by
    cases r with
    | v d => cases ex; exact Rep.lf lf_frz R2
    | fr d => cases ex; exact OwnR.frz R2
    | bo d => cases ex
  have LL : Le w { w1.frz w2 with H := upd (w1.frz w2).H p (.dK [(k, v2)]) } := le_put (w := w1.frz w2) ((L0.trans L1).trans L2.frz) hp
  exact h4 { w1.frz w2 with H := upd (w1.frz w2).H p (.dK [(k, v2)]) } _ LL (sto_put (w := w1.frz w2) st2.frz how) ⟨p, rfl, hp, ⟨[(k, v2)], upd_same, rfl, (Reps.cons R2' .nil).lf (own_put (w := w1.frz w2) how)⟩, how, b2⟩
theorem m1_of {X : Cx} {o e : Expr} {m : Str} {apos cpos : Pos} (h1 : attributeBase o m X.env (eval o X.env) = eval o X.env := by rfl)
    (h2 : ((backTo cpos (starEach [e] X.env)).all (fun x => !x.1) && (backToKw cpos (keywordEach [] X.env)).all (fun x => x.1.isSome) && decide (([e] : List Expr).length + ([] : List Keyword).length + (if ([] : List Keyword).isEmpty then 0 else 1) < 30)) = true := by rfl)
    (h3 : (apos.endLine == cpos.line) = true := by rfl) (h4 : backTo cpos (starEach [e] X.env) = [(false, eval e X.env)] := by rfl) : M1 X o m apos e cpos := ⟨h1, h2, h3, h4⟩
/-- x = xs.pop() -/
def fPop (i j : Nat) : FS := fun σ S => match σ[i]? with
  | some (some (.own (.lst ds) b)) => match ds[ds.length - 1]? with
    | some d => if i = j then .bad else .nx ((σ.set i (some (.own (.lst ds.dropLast) b))).set j (some (.v d))) S
    | none => .bad
  | _ => .bad
theorem Reps.dropLast : ∀ {ds : List Da} {vs : List V}, Reps K w ds vs → Reps K w ds.dropLast vs.dropLast
  | _, _, .nil => .nil
  | _, _, .cons h .nil => .nil
  | _, _, .cons h (.cons h2 r) => .cons h (Reps.dropLast (.cons h2 r))
theorem snd_pop {i j : Nat} : SndS K W (tAsg (tBM K "list" rPop (tVar i) tNil) (gName j)) (fPop i j) := by
  intro wf w S σd σv D s h
  unfold fPop at h
  split at h
  · rename_i ds b e
    split at h
    · rename_i d ed
      by_cases hij : i = j
      · rw [if_pos hij] at h; exact h.elim
      · rw [if_neg hij] at h
        obtain ⟨v0, ev, ⟨a, rfl, n, ⟨vs, g1, g2⟩, ow, nm⟩, _⟩ := s.sl i _ e
        obtain ⟨y, ey, ry⟩ := g2.at ed
        refine ⟨_, ev, .inl ⟨rfl, vs, SqL.of g1⟩, a, vs, y, rfl, rfl, g1, by rw [g2.length]; exact ey, ?_⟩
        have s1 := s.put (d' := .lst ds.dropLast) (o := .lst vs.dropLast) e ev ⟨vs.dropLast, upd_same, g2.dropLast.lf (own_put ow)⟩
        exact h { w with H := L2.upd w.H a (.lst vs.dropLast) } _ (own_put ow) (s1.setV (ry.lf (own_put ow)))
    · exact h.elim
  · exact h.elim
end
end Cl

/-! ## Fun10 -/
namespace Cl
open PySem PySem.Spec PyProof.Rows L2
/-! ## a slot's own object lent to a test: what comes back is True or False, the pools are flat -/
mutual
def Da.flat : Da → Bool
  | .lst _ => false
  | .frl _ => false
  | .obj _ _ _ => false
  | .dic _ _ => false
  | .tup ds => flats ds
  | _ => true
def flats : List Da → Bool
  | [] => true
  | d :: ds => d.flat && flats ds
end
def Da.flatC : Da → Bool
  | .lst ds => flats ds
  | .obj _ _ ds => flats ds
  | .dic _ ds => flats ds
  | _ => false
def stoFlat : Sto → Bool
  | [] => true
  | d :: S => d.flatC && stoFlat S
theorem stoFlat_at : ∀ {S : Sto} {n : Nat} {d : Da}, stoFlat S = true → S[n]? = some d → d.flatC = true
  | [], n, d, _, e => by simp at e
  | x :: S, 0, d, h, e => by simp at e; subst e; simp only [stoFlat, Bool.and_eq_true] at h; exact h.1
  | x :: S, n + 1, d, h, e => by simp only [stoFlat, Bool.and_eq_true] at h; exact stoFlat_at h.2 (by simpa using e)
section
variable {K : PySem.W.Frag} {W : Cw} {wf w w1 w2 : Wd} {S S1 S2 : Sto} {σd : Env} {σv : L2.St}
theorem con_notup {a : Addr} {d : Da} (h : ConR K w a d) {vs : List V} : w.H a ≠ some (.tup vs) := by
  intro z
  cases d with
  | lst ds => obtain ⟨us, e, r⟩ := h; rw [e] at z; cases z
  | obj C ns ds => obtain ⟨dx, fs, e, en, r⟩ := h; rw [e] at z; cases z
  | dic ks ds => obtain ⟨kvs, e, en, r⟩ := h; rw [e] at z; cases z
  | _ => exact h.elim
theorem rep_backF {B : Addr → Prop} (hB : ∀ a, B a → ∃ o, w.H a = some o ∧ (∀ vs, Rd w.H a (.tup vs) → False)) {d : Da} {v : V} (h : Rep K w d v) (hn : d.flat = true) : Rep K (w.back B) d v := by
  revert hn
  refine @Rep.rec K w (fun d v _ => d.flat = true → Rep K (w.back B) d v) (fun ds vs _ => flats ds = true → Reps K (w.back B) ds vs) (fun _ => .non) (fun b _ => .bl b) (fun i _ => .int i) (fun s _ => .str s) ?_ ?_ ?_ ?_ ?_ ?_ (fun _ => .nil) ?_ d v h
  · intro a vs ds f _ ih hn
    simp only [Da.flat] at hn
    refine .tup ?_ (ih hn)
    rcases f with ⟨e, f⟩ | f
    · exact .inl ⟨e, f.1, fun z => z.elim f.2 fun z => (by
        obtain ⟨o, e2, h2⟩ := hB _ z
        exact h2 _ e)⟩
    · exact .inr f
  · intro a vs ds e f _ ih hn; simp [Da.flat] at hn
  · intro a ns f hn; simp [Da.flat] at hn
  · intro a dx C fs ns ds e f en _ ih hn; simp [Da.flat] at hn
  · intro a kvs ks ds e f en _ ih hn; simp [Da.flat] at hn
  · intro a n e hn
    exact .cell e
  · intro d v ds vs _ _ i1 i2 hn
    simp only [flats, Bool.and_eq_true] at hn
    exact .cons (i1 hn.1) (i2 hn.2)
theorem reps_backF {B : Addr → Prop} (hB : ∀ a, B a → ∃ o, w.H a = some o ∧ (∀ vs, Rd w.H a (.tup vs) → False)) : ∀ {ds : List Da} {vs : List V}, Reps K w ds vs → flats ds = true → Reps K (w.back B) ds vs
  | _, _, .nil, _ => .nil
  | _, _, .cons h r, hn => by
    simp only [flats, Bool.and_eq_true] at hn
    exact .cons (rep_backF hB h hn.1) (reps_backF hB r hn.2)
theorem con_backF {B : Addr → Prop} (hB : ∀ a, B a → ∃ o, w.H a = some o ∧ (∀ vs, Rd w.H a (.tup vs) → False)) {a : Addr} {d : Da} (h : ConR K w a d) (hn : d.flatC = true) : ConR K (w.back B) a d := by
  cases d with
  | lst ds => obtain ⟨vs, e, r⟩ := h; exact ⟨vs, e, reps_backF hB r hn⟩
  | obj C ns ds => obtain ⟨dx, fs, e, en, r⟩ := h; exact ⟨dx, fs, e, en, reps_backF hB r hn⟩
  | dic ks ds => obtain ⟨kvs, e, en, r⟩ := h; exact ⟨kvs, e, en, reps_backF hB r hn⟩
  | _ => exact h.elim
/-- the world in which the object at a is frozen -/
abbrev Wd.one (w : Wd) (a : Addr) : Wd := w.lend w fun b => b = a
theorem con_rd {a : Addr} {d : Da} (h : ConR K w a d) (vs : List V) : ¬ Rd w.H a (.tup vs) := by
  intro z
  cases d with
  | lst ds => obtain ⟨us, e, r⟩ := h; rcases z with z | ⟨u, z⟩ <;> (rw [e] at z; cases z)
  | obj C ns ds => obtain ⟨dx, fs, e, en, r⟩ := h; rcases z with z | ⟨u, z⟩ <;> (rw [e] at z; cases z)
  | dic ks ds => obtain ⟨kvs, e, en, r⟩ := h; rcases z with z | ⟨u, z⟩ <;> (rw [e] at z; cases z)
  | _ => exact h.elim
theorem le_one {a : Addr} (ow : w.ow a) (L : Le (w.one a) w2) : Le w (w2.back fun b => b = a) := ⟨L.pre, fun b o e n => by
  obtain ⟨e2, n2, i2⟩ := L.kp b o e n
  refine ⟨e2, n2, ?_⟩
  show w2.ow b ∨ b = a ↔ w.ow b
  constructor
  · intro z
    rcases z with z | z
    · exact (i2.mp z).1
    · exact z ▸ ow
  · intro z
    by_cases hb : b = a
    · exact .inr hb
    · exact .inl (i2.mpr ⟨z, by rw [e]; simp, hb⟩)⟩
theorem sto_one {a : Addr} {d : Da} (c : ConR K w a d) (nm : a ∉ w.m) (L : Le (w.one a) w2) (st : StoR K w2 S2) (hn : stoFlat S2 = true) : StoR K (w2.back fun b => b = a) S2 := by
  obtain ⟨o, eo⟩ := c.some
  have k := L.kp a o eo nm
  have hB : ∀ b, b = a → ∃ o, w2.H b = some o ∧ (∀ vs, Rd w2.H b (.tup vs) → False) := fun b hb => by
    subst hb
    refine ⟨o, k.1, fun vs z => con_rd c vs ?_⟩
    rcases z with z | ⟨u, z⟩
    · rw [k.1] at z; exact .inl (by rw [eo]; exact z)
    · rw [k.1] at z; exact .inr ⟨u, by rw [eo]; exact z⟩
  refine ⟨st.len, st.nd, fun n b d e1 e2 => con_backF hB (st.at_ n b d e1 e2) (stoFlat_at hn e2), fun b z => ?_, fun b hb z => ?_⟩
  · rcases z with z | z
    · exact st.own b z
    · obtain ⟨o, e, _⟩ := hB b z
      show w2.H b ≠ none
      rw [e]; simp
  · rcases z with z | z
    · exact st.sep b hb z
    · subst z
      exact k.2.1 hb
theorem Sim.one {i : Nat} {d : Da} {b : Bool} (s : Sim K W wf w S σd σv) (e : σd[i]? = some (some (.own d b))) : ∃ a, ConR K w a d ∧ a ∉ w.m ∧ w.ow a ∧ Sim K W wf (w.one a) S (σd.set i (some (.v d))) σv := by
  obtain ⟨v0, ev, ⟨a, rfl, n, c, ow, nm⟩, _⟩ := s.sl i _ e
  refine ⟨a, c, nm, ow, ⟨s.le.pre, fun a' o e' n' => ?_⟩, sto_lend s.st, by rw [List.length_set]; exact s.ln, fun j x ej => ?_, fun j k d1 d2 s1 s2 a' ne e1 e2 e3 => ?_, fun a' d' e' h => ?_⟩
  · obtain ⟨e1, n1, i1⟩ := s.le.kp a' o e' n'
    refine ⟨e1, n1, ?_⟩
    show w.ow a' ∧ w.H a' ≠ none ∧ ¬ a' = a ↔ wf.ow a'
    exact ⟨fun z => i1.mp z.1, fun z => ⟨i1.mpr z, by rw [e1]; simp, fun z2 => by rw [z2, n] at e'; cases e'⟩⟩
  · by_cases hj : i = j
    · subst hj
      rw [List.getElem?_set_self (by exact (List.getElem?_eq_some_iff.mp e).1)] at ej
      cases ej
      exact ⟨_, ev, (c.lf lf_lend fun _ e => e).rep ⟨nm, fun z => z.2.2 rfl⟩⟩
    · rw [List.getElem?_set_ne hj] at ej
      obtain ⟨v, e1, r⟩ := s.sl j x ej
      refine ⟨v, e1, ?_⟩
      cases x with
      | v d' => exact Rep.lf lf_lend r
      | own d' s' =>
        obtain ⟨⟨a', rfl, n', c', ow', nm'⟩, r2⟩ := r
        refine ⟨⟨a', rfl, n', c'.lf lf_lend fun _ e => e, ⟨ow', ?_, fun z => ?_⟩, nm'⟩, r2⟩
        · obtain ⟨o, eo⟩ := c'.some
          rw [eo]; simp
        · subst z
          exact s.dj i j d d' b s' _ hj e ej ev e1
      | exn => exact True.intro
  · have h1 : i ≠ j := fun z => by
      subst z
      rw [List.getElem?_set_self (by exact (List.getElem?_eq_some_iff.mp e).1)] at e1
      cases e1
    have h2 : i ≠ k := fun z => by
      subst z
      rw [List.getElem?_set_self (by exact (List.getElem?_eq_some_iff.mp e).1)] at e2
      cases e2
    rw [List.getElem?_set_ne h1] at e1
    rw [List.getElem?_set_ne h2] at e2
    exact s.dj j k d1 d2 s1 s2 a' ne e1 e2 e3
  · obtain ⟨h1, h2⟩ := s.cx a' d' e' h
    refine ⟨h1.lf lf_lend, fun j ej => ?_⟩
    by_cases hj : i = j
    · subst hj
      rw [List.getElem?_set_self (by exact (List.getElem?_eq_some_iff.mp e).1)] at ej
      cases ej
    · rw [List.getElem?_set_ne hj] at ej
      exact h2 j ej
def chkT : Ev Bool → Ev Bool
  | .ok r S => if stoFlat S = true then .ok r S else .bad
  | _ => .bad
def fLendT (i : Nat) (ft : FT) : FT := fun σ S => match σ[i]? with
  | some (some (.own d _)) => chkT (ft (σ.set i (some (.v d))) S)
  | some (some (.v _)) => ft σ S
  | _ => .bad
theorem snd_lendT {i : Nat} {tt : TT} {ft : FT} (h : SndT K W tt ft) : SndT K W tt (fLendT i ft) := by
  intro wf w S σd σv Q s hp
  unfold fLendT at hp
  split at hp
  · rename_i d b e
    obtain ⟨a, c, nm, ow, s1⟩ := s.one e
    refine h wf (w.one a) S _ σv Q s1 ?_
    revert hp
    cases ft (σd.set i (some (.v d))) S with
    | ok r S2 =>
      intro hp w' L st
      have h3 : PostT K W w σv Q (if stoFlat S2 = true then .ok r S2 else .bad) := hp
      by_cases hc : stoFlat S2 = true
      · rw [if_pos hc] at h3
        exact h3 (w'.back fun b => b = a) (le_one ow L) (sto_one c nm L st hc)
      · rw [if_neg hc] at h3; exact h3.elim
    | ex e S2 => exact fun hp => (hp : False).elim
    | bad => exact fun hp => hp
  · exact h wf w S σd σv Q s hp
  · exact hp.elim
end
end Cl

/-! ## Own2 -/
namespace Cl
open PySem PySem.Spec PyProof.Rows L2
/-! ## own __len__ -/
def rLenO (C : Addr) (sp : Sp) : List V → Hp → VK → Prop := fun xs H Q => ∃ a dx fs, xs = [.ref a] ∧ H a = some (.ins C dx fs) ∧ sp [.ref a] H (fun v H' => ∃ i : Int, v = .int i ∧ (0 ≤ i ∧ i < 2 ^ 63) ∧ Q v H') E0
section
variable {X : Cx} {n : Nat} {ps : List Str} {sp : Sp} {C : Str}
theorem cl_lenO (hm : Meth X.K (He.ga X.K C) "__len__" (He.ma X.K (He.ga X.K C) "__len__")) (F : FnX X.prog X.w X.K X.mg X.base CX0 n (C, some "__len__") ps sp) (hr : Room (n + 1) X.A) : CallR X (.builtin "len") (rLenO (He.ga X.K C) sp) := by
  obtain ⟨⟨fd, F, hb⟩, kp⟩ := F
  intro pins s σ H xs us Q I r h
  obtain ⟨a, dx, fs, rfl, ha, hsp⟩ := h
  cases r with
  | cons rx rr =>
    cases rr
    cases rx
    obtain ⟨mA, J, _⟩ := ins_get I.hok ha
    obtain ⟨od, J, _⟩ := J.look
    obtain ⟨m, hF⟩ := I.fr
    have hr2 : Room n X.A.in1 := hr.in1
    refine PySem.W.len_K hF I.ok.mod.kin J hm.at_ hm.fn ?_
    refine thn (run_own (A := X.A.in1) (vs := [.ref a]) F hr2 rfl hb I (.cons rfl .nil) hsp) fun z s' hz => ?_
    obtain ⟨v, H', I', rv, i, rfl, hi, q⟩ := hz
    obtain ⟨t, rfl⟩ := rv
    exact ⟨hi, .int i, H', I'.tok _, ⟨_, rfl⟩, q⟩
end
section
variable {K : PySem.W.Frag} {W : Cw}
def onLen (r : Rv) (S : Sto) : Ev Rv := match r with
  | .v (.int i) => if 0 ≤ i ∧ i < 9223372036854775808 then .ok (.v (.int i)) S else .bad
  | _ => .bad
def fLenO (C : Str) (f : Fn) (fe : FE) : FE := fun σ S => (fe σ S).bd fun r S1 => match r.rd S1 with
  | .obj C1 _ _ => if C1 = C then onDs [r] fun ds => (f ds S1).noX.bd onLen else .bad
  | _ => .bad
theorem snd_lenO {C : Str} {f : Fn} {te : TE} {fe : FE} (he : SndE K W te fe) : SndE K W (tCB (rLenO (He.ga K C) (spOf K f)) (tCons te tNil)) (fLenO C f fe) := by
  intro wf w S σd σv Q s h
  refine he.run (Le.refl w) s h fun r1 S1 w1 v1 L1 st1 R1 h1 => ?_
  revert h1
  split
  · rename_i C1 ns1 ds1 e1
    intro h2
    obtain ⟨rfl, h3⟩ := h2.ite
    obtain ⟨a, dx, fs, rfl, g1, _⟩ := objOf st1 R1 e1
    obtain ⟨ds, e3, h4⟩ := onDs_of h3
    refine ⟨a, dx, fs, rfl, g1, w.frz w1, S1, ds, rfl, st1.frz, RepRs.frz (rs := [r1]) (xs := [.ref a]) ⟨R1, True.intro⟩ e3, ?_⟩
    revert h4
    cases f ds S1 with
    | ex e S2 => exact fun h2 => h2.elim
    | bad => exact fun h2 => h2
    | ok r S3 =>
      intro h4 w' v L st R
      have h5 : PostE K W wf w σv Q (onLen r S3) := h4
      unfold onLen at h5
      split at h5
      · rename_i i
        cases R
        by_cases hc : 0 ≤ i ∧ i < 9223372036854775808
        · rw [if_pos hc] at h5
          exact ⟨i, rfl, ⟨hc.1, hc.2⟩, h5 w' _ (L1.frz.trans L) st (.int _)⟩
        · rw [if_neg hc] at h5; exact h5.elim
      · exact h5.elim
  · intro h2; exact h2.elim
end
end Cl

/-! ## Fun11 -/
namespace Cl
open PySem PySem.Spec PyProof.Rows L2
/-! ## a list or a tuple, walked -/
def iSeq (K : PySem.W.Frag) (tl : TE) : TI := fun σ H R => tl σ H fun x H1 => ∃ a, x = .ref a ∧ (((∃ xs, SqL K H1 a xs) ∧ R (Itl K a) H1) ∨ ((∃ xs, SqT K H1 a xs) ∧ R (Itt K a) H1))
theorem pi_seq {X : Cx} {tg l : Expr} {tl : TE} (hl : PE X l tl) : PI X tg l (iSeq X.K tl) := by
  refine ⟨fun pins s σ H R I h => ?_⟩
  refine thn (hl.run pins s σ H _ I h) fun v s1 ⟨x, H1, I1, r1, q1⟩ => ?_
  obtain ⟨a, e, q1⟩ := q1
  subst e
  cases r1
  rcases q1 with ⟨⟨xs, hq⟩, q⟩ | ⟨⟨xs, hq⟩, q⟩
  · obtain ⟨its, rv, p, hz⟩ := I1.list hq
    refine wpAny_pyIter_list p.isList ?_
    refine ⟨s1.heap.objs.size, [s1.heap.objs.size], _, _, H1, rfl, I1.kept (t' := s1.toks) fun b o e => Heap.get?_push_of_some _ e, turn_list a _, ⟨_, Heap.get?_push_size _ rfl, rfl, rfl⟩, fun b hb => ?_, q⟩
    have e : b = s1.heap.objs.size := by simpa using hb
    subst e
    exact I1.fpOk (Nat.le_refl _) (I1.hok.fresh (Nat.le_refl _))
  · obtain ⟨its, rv, p, hz⟩ := I1.tuple hq
    refine wpAny_pyIter_tuple (show s1.heap.IsTuple a its.toArray from p) ?_
    refine ⟨s1.heap.objs.size, [s1.heap.objs.size], _, _, H1, rfl, I1.kept (t' := s1.toks) fun b o e => Heap.get?_push_of_some _ e, turn_tuple a _, ⟨_, Heap.get?_push_size _ rfl, rfl, rfl⟩, fun b hb => ?_, q⟩
    have e : b = s1.heap.objs.size := by simpa using hb
    subst e
    exact I1.fpOk (Nat.le_refl _) (I1.hok.fresh (Nat.le_refl _))
section
variable {K : PySem.W.Frag} {W : Cw}
def fiQ (fe : FE) : FI := fun σ S => (fe σ S).bd fun r S1 => match r with
  | .v (.lst ds) => .ok ds S1
  | .v (.tup ds) => .ok ds S1
  | _ => .bad
theorem snd_iQ {te : TE} {fe : FE} (he : SndE K W te fe) : SndI K W Lf (iSeq K te) (fiQ fe) := by
  intro wf w S σd σv R s h
  refine he.run (Le.refl w) s h fun r S1 w1 v L1 st1 R1 h1 => ?_
  revert h1
  split
  · intro h1
    have r : Rep K w1 _ v := R1
    cases r with
    | lst g1 f g2 =>
      rename_i a vs
      exact ⟨a, rfl, .inl ⟨⟨vs, SqL.of g1⟩, h1 w1 _ L1 st1 (iter_list g2 (fun w2 L => SqL.of (L.kp _ _ g1 f).1) fun w2 L => L)⟩⟩
  · intro h1
    have r : Rep K w1 _ v := R1
    cases r with
    | tup f g2 => exact ⟨_, rfl, .inr ⟨⟨_, f.sq⟩, h1 w1 _ L1 st1 (iter_tup g2 (fun w2 L => (f.lf L).sq) fun w2 L => L)⟩⟩
  · intro h1; exact h1.elim
/-- a call that may raise, where nothing may -/
theorem snd_callN {f : Fn} {ta : TA} {fa : FA} (ha : SndA K W ta fa) : SndE K W (tCallS (spOf K f) (WE WF) ta) (fCall f fa) := by
  intro wf w S σd σv Q s h
  refine ha.run (Le.refl w) s h fun rs S1 w1 vs L1 st1 R1 h1 => ?_
  obtain ⟨ds, e, h2⟩ := onDs_of h1
  refine ⟨w.frz w1, S1, ds, rfl, st1.frz, R1.frz e, ?_⟩
  revert h2
  cases f ds S1 with
  | ok r S2 => exact fun h2 w' v L st R => h2 w' v (L1.frz.trans L) st (RepR.called s.le L1 st1 R)
  | ex e S2 => exact fun h2 => h2.elim
  | bad => exact fun h2 => h2
/-- *xs in a display -/
def fStar (fe : FE) (fa : FA) : FA := fun σ S => (fe σ S).bd fun r S1 => match r with
  | .v (.tup ds) => (fa σ S1).bd fun rs S2 => .ok (ds.map Rv.v ++ rs) S2
  | _ => .bad
theorem reps_vs {wf w w1 w2 : Wd} (L : Le w1 w2) : ∀ {ds : List Da} {vs : List V} {rs : List Rv} {us : List V}, Reps K w1 ds vs → RepRs K wf w w2 rs us → RepRs K wf w w2 (ds.map Rv.v ++ rs) (vs ++ us)
  | _, _, _, _, .nil, h => h
  | _, _, _, _, .cons a r, h => ⟨Rep.le L a, reps_vs L r h⟩
theorem snd_star {te : TE} {fe : FE} {ta : TA} {fa : FA} (he : SndE K W te fe) (ha : SndA K W ta fa) : SndA K W (StX.tStar K te ta) (fStar fe fa) := by
  intro wf w S σd σv Q s h
  refine he.run (Le.refl w) s h fun r S1 w1 v L1 st1 R1 h1 => ?_
  revert h1
  split
  · rename_i ds
    intro h1
    have R1' : Rep K w1 (.tup ds) v := R1
    cases R1' with
    | tup f g2 =>
      refine ⟨_, _, rfl, .inl f.sq, ha.run L1 (s.step L1 st1) h1 fun rs S2 w2 us L2 st2 R2 h2 => ?_⟩
      exact h2 w2 _ (L1.trans L2) st2 (reps_vs L2 g2 (R2.back L1 st1))
  · intro h1; exact h1.elim
/-! ## z.upper() -/
def tUpper (to : TE) : TE := tM0 (fun x xs H Q => ∃ a, x = .str a ∧ xs = [] ∧ a.length ≤ 5592405 ∧ Q (.str (Txt.upper a)) H) to
def fUpper (fe : FE) : FE := fun σ S => (fe σ S).bd fun r S1 => match r with
  | .v (.str y) => if y.length ≤ 5592405 then .ok (.v (.str (Txt.upper y))) S1 else .bad
  | _ => .bad
theorem snd_upper {te : TE} {fe : FE} (he : SndE K W te fe) : SndE K W (tUpper te) (fUpper fe) := by
  intro wf w S σd σv Q s h
  refine he.run (Le.refl w) s h fun r S1 w1 v L1 st1 R1 h1 => ?_
  revert h1
  split
  · rename_i y
    intro h1
    cases R1
    obtain ⟨h2, h3⟩ := h1.ite
    exact ⟨⟨_, rfl⟩, _, rfl, rfl, h2, h3 w1 _ L1 st1 (.str _)⟩
  · intro h1; exact h1.elim
/-! ## xs.index(z), texts -/
def idxS (z : Str) : List Str → Option Nat
  | [] => none
  | y :: ys => if y = z then some 0 else (idxS z ys).map (· + 1)
theorem idxS_of {z : Str} : ∀ {ys : List Str} {j : Nat}, idxS z ys = some j → ys[j]? = some z ∧ ∀ m, m < j → ys[m]? ≠ some z
  | [], j, h => by simp [idxS] at h
  | y :: ys, j, h => by
    unfold idxS at h
    by_cases hy : y = z
    · rw [if_pos hy] at h
      cases h
      exact ⟨by rw [hy]; rfl, fun m hm => by omega⟩
    · rw [if_neg hy] at h
      cases e : idxS z ys with
      | none => rw [e] at h; cases h
      | some k =>
        rw [e, Option.map_some, Option.some.injEq] at h
        subst h
        obtain ⟨h1, h2⟩ := idxS_of e
        refine ⟨by simpa using h1, fun m hm => ?_⟩
        cases m with
        | zero => simpa using hy
        | succ m => simpa using h2 m (by omega)
def fIdxS (fo fe : FE) : FE := fun σ S => (fo σ S).bd fun r S1 => match r.rd S1 with
  | .lst _ => (fe σ S1).bd fun q S2 => match r.rd S2, q with
    | .lst ds, .v (.str z) => match strsD ds with
      | some ys => match idxS z ys with
        | some j => .ok (.v (.int (j : Nat))) S2
        | none => .bad
      | none => .bad
    | _, _ => .bad
  | _ => .bad
theorem snd_idxS {to te : TE} {fo fe : FE} (ho : SndE K W to fo) (he : SndE K W te fe) : SndE K W (tBM K "list" (rIndex K) to (tCons te tNil)) (fIdxS fo fe) := by
  intro wf w S σd σv Q s h
  refine ho.run (Le.refl w) s h fun r S1 w1 v L1 st1 R1 h1 => ?_
  revert h1
  split
  · rename_i ds0 e0
    intro h1
    obtain ⟨a, vs, rfl, g1, g2⟩ := lstOf st1 R1 e0
    refine ⟨.inl ⟨rfl, vs, SqL.of g1⟩, he.run L1 (s.step L1 st1) h1 fun q S2 w2 u L2 st2 R2 h2 => ?_⟩
    revert h2
    split
    · rename_i ds z e1
      split
      · rename_i ys e3
        split
        · rename_i j e4
          intro h2
          obtain ⟨a', us, ea, k1, k2⟩ := lstOf st2 (R1.le L2) e1
          cases ea
          have hv := strsD_of k2 e3
          subst hv
          cases R2
          obtain ⟨i1, i2⟩ := idxS_of e4
          refine ⟨a, ys.map V.str, .str z, j, .str z, rfl, rfl, SqL.of k1, rfl, by simp [flatV], by rw [List.getElem?_map, i1]; rfl, by simp [eqV], fun m z' hm hz => ?_, h2 w2 _ (L1.trans L2) st2 (.int _)⟩
          rw [List.getElem?_map] at hz
          cases e5 : ys[m]? with
          | none => rw [e5] at hz; cases hz
          | some y =>
            rw [e5] at hz
            cases hz
            have : y ≠ z := fun k => i2 m hm (by rw [e5, k])
            simpa [eqV] using this
        · intro h2; exact h2.elim
      · intro h2; exact h2.elim
    · intro h2; exact h2.elim
  · intro h1; exact h1.elim
/-! ## a tuple of texts, a constant of the module -/
def tGT (K : PySem.W.Frag) (x : Str) (zs : List Str) : TE := tC (.ref (He.ga K x))
theorem pgT {X : Cx} {x : Str} {pos : Pos} (zs : List Str) (hg : Gl X x) (h : X.mg x = some (.ref (He.ga X.K x))) (hd : (x == ("__debug__" : Str)) = false := by decide) : PE X (.Name x pos) (tGT X.K x zs) := pe_glob hg h rfl hd
theorem reps_strs {w : Wd} : ∀ zs : List Str, Reps K w (zs.map Da.str) (zs.map V.str)
  | [] => .nil
  | z :: zs => .cons (.str z) (reps_strs zs)
def fGT (zs : List Str) : FE := fC (.tup (zs.map Da.str))
theorem snd_gt {x : Str} {zs : List Str} (g : GTok K x zs) : SndE K W (tGT K x zs) (fGT zs) := by
  obtain ⟨o, its, n, h1, h2, h3, h4, h5, h6⟩ := g
  intro wf w S σd σv Q s h
  exact h w _ (Le.refl w) s.st (.tup (.inr ⟨o, its, n, h1, h2, h4, h5, h6⟩) (reps_strs zs))
def rIdxT (K : PySem.W.Frag) : V → List V → Hp → VK → Prop := fun x xs H Q => ∃ p, ∃ ys : List Str, ∃ z j, x = .ref p ∧ xs = [.str z] ∧ SqT K H p (ys.map V.str) ∧ ys[j]? = some z ∧ (∀ m, m < j → ys[m]? ≠ some z) ∧ Q (.int (j : Nat)) H
def fIdxT (zs : List Str) (fe : FE) : FE := fun σ S => (fe σ S).bd fun q S1 => match q with
  | .v (.str z) => match idxS z zs with
    | some j => .ok (.v (.int (j : Nat))) S1
    | none => .bad
  | _ => .bad
theorem snd_idxT {x : Str} {zs : List Str} (g : GTok K x zs) {te : TE} {fe : FE} (he : SndE K W te fe) : SndE K W (tBM K "tuple" (rIdxT K) (tGT K x zs) (tCons te tNil)) (fIdxT zs fe) := by
  obtain ⟨o, its, n, h1, h2, h3, h4, h5, h6⟩ := g
  intro wf w S σd σv Q s h
  refine ⟨.inr (.inl ⟨rfl, o, h1, h2, h3⟩), he.run (Le.refl w) s h fun q S2 w2 u L2 st2 R2 h2' => ?_⟩
  revert h2'
  split
  · rename_i z
    split
    · rename_i j e4
      intro h2'
      cases R2
      obtain ⟨i1, i2⟩ := idxS_of e4
      exact ⟨_, zs, z, j, rfl, rfl, FzT.sq (w := w2) (.inr ⟨o, its, n, h1, h2, h4, h5, h6⟩), i1, i2, h2' w2 _ L2 st2 (.int _)⟩
    · intro h2'; exact h2'.elim
  · intro h2'; exact h2'.elim
end
end Cl

/-! ## Fun12 -/
namespace Cl
/-! ## t[lo:hi], the whole too: then it is t itself -/
section
open PySem PyProof.Rows HT
variable {prog : Program} {w : World} {A : Around} {E : Value → Shared → Prop} {s : Shared}
theorem getItem_whole {t sl : Addr} {items : Array Value} {vl vu : Value} {lo hi : Option Int} {Q : Value → Shared → Prop} (ht : IsTup s.heap t items) (hs : s.heap.IsSliceOf sl vl vu .none) (pl : IsPart vl lo) (pu : IsPart vu hi)
    (hw : HT.sIx items.size 0 lo = 0 ∧ HT.sIx items.size items.size hi = items.size)
    (h : Q (.ref t) s) : wpAny (model prog w) A (getItem (.ref t) (.ref sl)) Q E s := by
  obtain ⟨os, hos, hcs, hds⟩ := id hs
  have hTs : s.TypeIs (.ref sl) "slice" := ⟨os, hos, hcs⟩
  unfold getItem
  try with_reducible refine wpAny_holding ?_
  first | refine wpAny_bind (wpAny_pure ?_) | skip
  refine wpAny_bind (wpAny_sequenceKey ht.typeIs (by decide) ?_)
  refine wpAny_bind (wpAny_callSpecial?_slot (name := Str.ofString "__getitem__") ht.typeIs PyProof.Rows.slot_tuple_getitem
    (wpAny_call_entry PyProof.Rows.slot_tuple_getitem ht.typeIs entry_tuple_getitem ?_ (args_tuple_getitem _ _)))
  show wpAny _ _ (Builtin.Tuple.tupleItemsOf (.ref t) >>= _) _ _ s
  refine wpAny_bind (tupleItemsOf_ ht ?_)
  refine wpAny_bind (wpAny_typeOf hTs ?_)
  rw [if_pos (by decide)]
  refine wpAny_bind (sliceApplied_gen hs pl pu ?_)
  have hno : ((((HT.sIx items.size 0 lo : Nat) : Int) == 0 && (1 : Int) == 1 && (HT.sIx items.size items.size hi - HT.sIx items.size 0 lo) == items.size) = true) := by
    rw [hw.1, hw.2]
    simp
  show wpAny _ _ (if (((HT.sIx items.size 0 lo : Nat) : Int) == 0 && (1 : Int) == 1 && (HT.sIx items.size items.size hi - HT.sIx items.size 0 lo) == items.size) = true then _ else _) _ _ s
  rw [if_pos hno]
  unfold Builtin.Tuple.tupleIsExact
  refine wpAny_bind (wpAny_bind (wpAny_typeOf ht.typeIs (wpAny_pure ?_)))
  rw [if_pos (by decide)]
  first
    | exact wpAny_bind (wpAny_rule (wpAny_pure ⟨_, rfl, wpAny_pure h⟩))
    | exact wpAny_bind (wpAny_rule (wpAny_bind (wpAny_pure (wpAny_pure ⟨_, rfl, wpAny_pure h⟩))))
    | exact wpAny_bind (wpAny_bind (wpAny_rule (wpAny_pure (wpAny_pure ⟨_, rfl, wpAny_pure h⟩))))
    | exact wpAny_bind (wpAny_bind (wpAny_rule (wpAny_pure ⟨_, rfl, wpAny_pure h⟩)))
end
open PySem PySem.Spec PyProof.Rows L2
def rSlU (K : PySem.W.Frag) : V → Option Int → Option Int → Hp → VK → Prop := fun x lo hi H Q => rSlT K x lo hi H Q ∨ ∃ a xs, x = .ref a ∧ SqT K H a xs ∧ (HT.sIx xs.length 0 lo = 0 ∧ HT.sIx xs.length xs.length hi = xs.length) ∧ Q (.ref a) H
theorem sl_tupW {X : Cx} : L2.SlR X (fun x lo hi H Q => ∃ a xs, x = .ref a ∧ SqT X.K H a xs ∧ (HT.sIx xs.length 0 lo = 0 ∧ HT.sIx xs.length xs.length hi = xs.length) ∧ Q (.ref a) H) := by
  intro pins s σ H x v vl vu lo hi sl Q I rx hs pl pu h
  obtain ⟨a, xs, rfl, hx, hw, q⟩ := h
  cases rx
  obtain ⟨its, r, ht, hz⟩ := I.tuple hx
  have hlen : its.toArray.size = xs.length := by rw [List.size_toArray]; exact r.length.symm
  refine ⟨"tuple", _, PyProof.Rows.slot_tuple_getitem.lookup, ht.typeIs, ?_⟩
  refine getItem_whole ht hs pl pu (by rw [hlen]; exact hw) ?_
  exact ⟨.ref a, H, I, rfl, q⟩
theorem sl_tupU {X : Cx} : L2.SlR X (rSlU X.K) := L2.SlR.or sl_tup sl_tupW
section
variable {K : PySem.W.Frag} {W : Cw}
def xSlU : FSl := fun r lo hi S => match r with
  | .v (.tup ds) => .ok (.v (.tup (cutG ds lo hi))) S
  | _ => xSlT r lo hi S
theorem e_xSlU (ds : List Da) (lo hi : Option Int) (S : Sto) : xSlU (.v (.tup ds)) lo hi S = .ok (.v (.tup (cutG ds lo hi))) S := id rfl
theorem cut_whole {ds : List Da} {lo hi : Option Int} (h : HT.sIx ds.length 0 lo = 0 ∧ HT.sIx ds.length ds.length hi = ds.length) : cutG ds lo hi = ds := by
  unfold cutG
  rw [h.1, h.2]
  simp
theorem sSlU : SlS K W (rSlU K) xSlU := by
  intro wf w w2 S σd σv r1 lo hi v1 Q s L R1 h
  unfold xSlU at h
  split at h
  · rename_i ds
    have r : Rep K w2 _ v1 := R1
    obtain ⟨a, vs, rfl, h1, h2⟩ := tupOf (ds := ds) s.st R1 rfl
    by_cases hc : HT.sIx ds.length 0 lo = 0 ∧ HT.sIx ds.length ds.length hi = ds.length
    · refine .inr ⟨a, vs, rfl, h1.sq, by rw [h2.length]; exact hc, ?_⟩
      rw [cut_whole hc] at h
      exact h w2 _ L s.st R1
    · exact .inl ⟨a, vs, rfl, h1.sq, by rw [h2.length]; exact hc, fun p hp => h (w2.new p (.tup (cutV vs lo hi)) False) _ (L.trans (le_new hp)) (s.st.new hp) (rep_newT s.st hp (reps_cut h2 lo hi))⟩
  · exact .inl (sSlT s L R1 h)
end
end Cl

/-! ## MinD -/
namespace Cl
/-! ## min(xs, default=d) of a list of ints -/
section
open PySem PyProof.Rows
def kwD (d : Value) : List (Str × Value) := [(Str.ofString "default", d)]
theorem argsD (a d : Value) : argsOk "min" ⟨[a], kwD d⟩ := by unfold argsOk kwD; kernel_rfl
section
variable {prog : Program} {w : World} {A : Around} {R : Result → Shared → Prop} {I : Addr} {fp wr : List Addr} {n : Nat} {P : Nat → Value → Prop} {St : Nat → Heap → Prop} {bt : Nat → Nat → Bool}
theorem loopName : (toString "min" ++ toString ".loop" : String) = "min.loop" := by decide
/-- the turns behind the first one: k items are left -/
theorem min_turnsD (W : Walks prog w A.in1 I fp wr n P St) (hcmp : CmpOf prog w A.in1 .Lt P bt) {S : Addr} (hSf : S ∉ fp) (d : Value) :
    ∀ (k j : Nat) (s : Shared) (vb : Value) (c : Nat), n = j + 1 + k → St (j + 1) s.heap → P (argBest bt j) vb → s.heap.get? S = some { cls := .type "list", dict := none, data := .seq #[vb, vb] c, slots := #[] } →
    (∀ v h' tk, P (argBest bt (n - 1)) v → (∀ b o, b ∉ wr → b ≠ S → s.heap.get? b = some o → h'.get? b = some o) → R (.ok (.ret v)) { s with heap := h', toks := tk }) →
    codeAny (model prog w) A (.builtin "min.loop" ⟨[.ref I, .none, .ref S], kwD d⟩) R s := by
  have hSw : S ∉ wr := fun h => hSf (W.sub _ h)
  intro k
  induction k with
  | zero =>
    intro j s vb c hn hst hb hS hR
    refine codeAny_builtin F.entry_min_loop ?_
    rw [Around.under_plainId F.plain_min_loop _]
    show wpAny _ A.in1 (seqItems? (.ref S) >>= _) _ _ s
    refine wpAny_bind (wpAny_seqItems hS rfl ?_)
    show wpAny _ A.in1 (tryCatch (pyNext (.ref I)) _ >>= _) _ _ s
    have hst' : St n s.heap := by rw [hn]; exact hst
    refine wpAny_bind (wpAny_tryCatch (W.done s _ _ hst' fun h' tk hk => ?_))
    have hS' := hk S _ hSw hS
    show wpAny _ A.in1 (updateSeq S (fun _ => #[]) >>= _) _ _ _
    refine wpAny_bind (wpAny_updateSeq hS' rfl (wpAny_bind (wpAny_letGo (wpAny_pure ?_))))
    exact hR vb _ tk (by rw [show n - 1 = j by omega]; exact hb) fun b o hbw hbS e => (Heap.get?_update_other _ _ (Ne.symm hbS)).trans (hk b o hbw e)
  | succ k ih =>
    intro j s vb c hn hst hb hS hR
    refine codeAny_builtin F.entry_min_loop ?_
    rw [Around.under_plainId F.plain_min_loop _]
    show wpAny _ A.in1 (seqItems? (.ref S) >>= _) _ _ s
    refine wpAny_bind (wpAny_seqItems hS rfl ?_)
    show wpAny _ A.in1 (tryCatch (pyNext (.ref I)) _ >>= _) _ _ s
    refine wpAny_bind (wpAny_tryCatch (W.item (j + 1) s _ _ (by omega) hst fun v h' tk hP hst' hk => ?_))
    have hS' := hk S _ hSw hS
    show wpAny _ A.in1 (tryCatch (holding [v, v] (richCompare .Lt v vb >>= _)) _ >>= _) _ _ _
    refine wpAny_bind (wpAny_tryCatch (wpAny_holding (wpAny_bind (hcmp (j + 1) (argBest bt j) v vb _ _ _ hP hb (wpAny_bind (wpAny_holding (wpAny_truthy_bool (wpAny_bind (wpAny_letGo (wpAny_pure ?_))))))))))
    have hn' : n = j + 1 + 1 + k := by omega
    cases hbt : bt (j + 1) (argBest bt j)
    · rw [if_neg (by decide)]
      refine wpAny_bind (wpAny_letGo ?_)
      rw [loopName]
      have hb' : P (argBest bt (j + 1)) vb := by simp only [argBest, hbt, Bool.false_eq_true, if_false]; exact hb
      exact wpAny_pure ⟨plainId_quiet F.plain_min_loop _, ih (j + 1) _ vb c hn' hst' hb' hS' fun v' h2 tk2 hv hk2 => hR v' h2 tk2 hv fun b o hbw hbS e => hk2 b o hbw hbS (hk b o hbw e)⟩
    · rw [if_pos rfl]
      refine wpAny_bind (wpAny_updateSeq hS' rfl (wpAny_bind (wpAny_letGo ?_)))
      rw [loopName]
      have hb' : P (argBest bt (j + 1)) v := by simp only [argBest, hbt, if_true]; exact hP
      have ho : ∀ b o, b ≠ S → h'.get? b = some o → (h'.update S (Obj.mapSeq fun _ => #[v, v])).get? b = some o := fun b o hbS e => (Heap.get?_update_other _ _ (Ne.symm hbS)).trans e
      exact wpAny_pure ⟨plainId_quiet F.plain_min_loop _, ih (j + 1) _ v _ hn' (W.frame _ _ _ hst' fun b hbf o e => ho b o (fun h => hSf (by rw [← h]; exact hbf)) e) hb' (Heap.get?_update_self _ hS' rfl) fun v' h2 tk2 hv hk2 => hR v' h2 tk2 hv fun b o hbw hbS e => hk2 b o hbw hbS (ho b o hbS (hk b o hbw e))⟩
/-- all turns -/
theorem min_loopD (W : Walks prog w A.in1 I fp wr n P St) (hcmp : CmpOf prog w A.in1 .Lt P bt) {S : Addr} (hSf : S ∉ fp) (d : Value) {s : Shared} {c : Nat} (hst : St 0 s.heap)
    (hS : s.heap.get? S = some { cls := .type "list", dict := none, data := .seq #[] c, slots := #[] })
    (h0 : n = 0 → ∀ h' tk, (∀ b o, b ∉ wr → b ≠ S → s.heap.get? b = some o → h'.get? b = some o) → R (.ok (.ret d)) { s with heap := h', toks := tk })
    (hR : 0 < n → ∀ v h' tk, P (argBest bt (n - 1)) v → (∀ b o, b ∉ wr → b ≠ S → s.heap.get? b = some o → h'.get? b = some o) → R (.ok (.ret v)) { s with heap := h', toks := tk }) :
    codeAny (model prog w) A (.builtin "min.loop" ⟨[.ref I, .none, .ref S], kwD d⟩) R s := by
  have hSw : S ∉ wr := fun h => hSf (W.sub _ h)
  refine codeAny_builtin F.entry_min_loop ?_
  rw [Around.under_plainId F.plain_min_loop _]
  show wpAny _ A.in1 (seqItems? (.ref S) >>= _) _ _ s
  refine wpAny_bind (wpAny_seqItems hS rfl ?_)
  show wpAny _ A.in1 (tryCatch (pyNext (.ref I)) _ >>= _) _ _ s
  by_cases hn : n = 0
  · have hst' : St n s.heap := by rw [hn]; exact hst
    refine wpAny_bind (wpAny_tryCatch (W.done s _ _ hst' fun h' tk hk => ?_))
    exact wpAny_bind (wpAny_rule (wpAny_pure (h0 hn h' tk fun b o hbw _ e => hk b o hbw e)))
  · refine wpAny_bind (wpAny_tryCatch (W.item 0 s _ _ (by omega) hst fun v h' tk hP hst' hk => ?_))
    have hS' := hk S _ hSw hS
    show wpAny _ A.in1 (updateSeq S (fun _ => #[v, v]) >>= _) _ _ _
    refine wpAny_bind (wpAny_updateSeq hS' rfl ?_)
    rw [loopName]
    have ho : ∀ b o, b ≠ S → h'.get? b = some o → (h'.update S (Obj.mapSeq fun _ => #[v, v])).get? b = some o := fun b o hbS e => (Heap.get?_update_other _ _ (Ne.symm hbS)).trans e
    exact wpAny_pure ⟨plainId_quiet F.plain_min_loop _, min_turnsD W hcmp hSf d (n - 1) 0 _ v _ (by omega) (W.frame _ _ _ hst' fun b hbf o e => ho b o (fun h => hSf (by rw [← h]; exact hbf)) e) hP (Heap.get?_update_self _ hS' rfl) fun v' h2 tk2 hv hk2 => hR (by omega) v' h2 tk2 hv fun b o hbw hbS e => hk2 b o hbw hbS (ho b o hbS (hk b o hbw e))⟩
end
section
variable {prog : Program} {w : World} {A : Around} {E : Value → Shared → Prop} {s : Shared}
/-- a built-in function that ends in a further turn, called with keywords -/
theorem call_treeD {id : String} {b : Builtin} {args : List Value} {kw : List (Str × Value)} {Q : Value → Shared → Prop} (hk : builtinKind id = none) (hp : plainId id = true) (hb : entryFor table id = some b) (ha : argsOk id ⟨args, kw⟩)
    (hc : wpAny (model prog w) A.in1 (b ⟨args, kw⟩) (fun fin s' => match fin with
      | .done f => (match (Except.ok f : Result) with | .ok (.ret v) => Q v s' | .ok _ => False | .error e => E e s')
      | .again c' => c'.quiet = true ∧ codeAny (model prog w) A c' (fun r s' => match r with | .ok (.ret v) => Q v s' | .ok _ => False | .error e => E e s') s') E s) : wpAny (model prog w) A (call (.builtin id) args kw) Q E s := by
  refine wpAny_call (codeAny_call_builtin hp hb ?_)
  simp only [checkBuiltinCall, hk]
  cases hsig : Manifest.signature? id with
  | none => exact wpAny_pure hc
  | some sig =>
    have ha' : Bind.checkArgs id sig ⟨args, kw⟩ = pure () := by simpa only [argsOk, hsig] using ha
    simp only [ha']
    exact wpAny_pure hc
theorem min_defD {l : Addr} {its : List Value} {ns : List Int} {d : Value} {Q : Value → Shared → Prop} (hh : A.handled = none) (hl : s.heap.IsList l its.toArray) (hi : IntsAre its ns)
    (h0 : ns = [] → ∀ h' tk, (∀ b o, s.heap.get? b = some o → h'.get? b = some o) → Q d { s with heap := h', toks := tk })
    (h1 : ∀ h' tk M t', (∀ b o, s.heap.get? b = some o → h'.get? b = some o) → M ∈ ns → (∀ a, a ∈ ns → M ≤ a) → Q (.int M t') { s with heap := h', toks := tk }) :
    wpAny (model prog w) A (call (.builtin "min") [.ref l] (kwD d)) Q E s := by
  obtain ⟨xs, e⟩ := hi.allInts.items
  have hn : numsOf (intItems xs).toList = ns := by rw [← e]; exact hi.numsOf
  rw [nums_intItems] at hn
  subst hn
  rw [e] at hl
  refine call_treeD F.kind_min F.plain_min F.entry_min (argsD _ _) ?_
  show wpAny _ A.in1 (Builtin.Builtins.bindParams "min" ["key", "default"] 0 ⟨[], kwD d⟩ >>= _) _ _ s
  refine wpAny_bind (wpAny_of_eq (show Builtin.Builtins.bindParams "min" ["key", "default"] 0 ⟨[], kwD d⟩ = pure [none, some d] from rfl) ?_)
  refine wpAny_bind (wpAny_pure ?_)
  refine wpAny_bind (iter_intList hl fun s₂ e st hfp hlI => ?_)
  subst e
  refine wpAny_bind (wpAny_newObj_type ?_)
  rw [loopName]
  have W := Walks.list (prog := prog) (w := w) (A := A.in1) hh s.heap.objs.size l hlI (intItems xs)
  have hsz : (intItems xs).size = xs.size := by simp [intItems]
  have old := fun (h' : Heap) (hk : ∀ b o, b ∉ [s.heap.objs.size] → (s.heap.push { cls := .type "list_iterator", data := .fields #[.ref l, .int 0 0] }).get? b = some o → h'.get? b = some o) => PySem.old_kept hk
  refine wpAny_pure ⟨plainId_quiet F.plain_min_loop _, min_loopD W (CmpOf.ints_lt (numAt xs) fun _ _ => intItems_at) (S := _) (fun hm => Nat.lt_irrefl _ (hfp _ hm)) d (W.frame _ _ _ st fun b _ o e => Heap.get?_push_of_some _ e) (Heap.get?_push_size _ rfl) (fun hz h' tk hk => ?_) fun hz v h' tk hv hk => ?_⟩
  · refine h0 ?_ h' tk (old h' fun b o hbw e => hk b o hbw (Nat.ne_of_lt (Heap.lt_size e)) (Heap.get?_push_of_some _ e))
    have : xs = #[] := Array.eq_empty_of_size_eq_zero (by omega)
    rw [this]; rfl
  · obtain ⟨t, rfl⟩ := intItems_at hv
    obtain ⟨g1, g2⟩ := argBest_lt (numAt xs) (xs.size - 1)
    rw [hsz] at hz ⊢
    refine h1 h' tk _ t (old h' fun b o hbw e => hk b o hbw (Nat.ne_of_lt (Heap.lt_size e)) (Heap.get?_push_of_some _ e)) ?_ fun a ha => ?_
    · rw [numAt_eq]; exact PySem.getD_mem (by rw [List.length_map, Array.length_toList]; omega)
    · obtain ⟨j, hj, rfl⟩ := mem_getD ha
      rw [List.length_map, Array.length_toList] at hj
      rw [← numAt_eq]; exact g2 j (by omega)
end
end
open PySem PySem.Spec PyProof.Rows L2
def rMinD (K : PySem.W.Frag) : List V → List V → Hp → VK → Prop := fun vs zs H Q => ∃ (a : Addr) (ns : List Int) (z : V), vs = [V.ref a] ∧ zs = [z] ∧ SqL K H a (ns.map V.int) ∧ (ns = [] → Q z H) ∧ ∀ m, m ∈ ns → (∀ y, y ∈ ns → m ≤ y) → Q (.int m) H
theorem cr_minD {X : Cx} (hc : X.calm = true) : CallRK X (.builtin "min") [Str.ofString "default"] (rMinD X.K) := by
  intro pins s σ H vs zs us ws Q I r rz h
  obtain ⟨a, ns, z, rfl, rfl, hs, q0, q⟩ := h
  obtain ⟨its, rv, hl, _⟩ := I.list hs
  rw [Vals.ref1 r]
  obtain ⟨w1, rfl, e1⟩ := vals1 rz
  exact min_defD (I.ok.hd hc) hl.isList rv.ints (fun hz h' tk hk => ⟨z, H, I.kept hk, e1, q0 hz⟩) fun h' tk m t' hk h1 h2 => ⟨.int _, H, I.kept hk, ⟨_, rfl⟩, q m h1 h2⟩
/-- min(xs, default=None) -/
def rMinN (K : PySem.W.Frag) : List V → Hp → VK → Prop := fun vs H Q => rMinD K vs [.non] H Q
theorem pe_minN {X : Cx} {e : Expr} {t : TA} {p pos kp np : Pos} {jk} (hc : X.calm = true) (hg : Gl X "min") (hm : X.mg "min" = none) (ha : PA X [e] t)
    (he : backTo pos (starEach [e] X.env) = (false, eval e X.env) :: backTo pos (starEach [] X.env) := by rfl) (hpl : (backTo pos (starEach [e] X.env)).any (·.1) = false := by rfl)
    (hall : (backToKw pos (keywordEach [⟨some ("default" : Str), .Constant .none jk np, kp⟩] X.env)).all (·.1.isSome) = true := by rfl) (hnone : (backToKw pos (keywordEach [⟨some ("default" : Str), .Constant .none jk np, kp⟩] X.env)).any (·.1.isNone) = false := by rfl) (hks : (backToKw pos (keywordEach [⟨some ("default" : Str), .Constant .none jk np, kp⟩] X.env)).filterMap (·.1) = [Str.ofString "default"] := by rfl) :
    PE X (.Call (.Name "min" p) [e] [⟨some ("default" : Str), .Constant .none jk np, kp⟩] pos) (tCB (rMinN X.K) t) :=
  pe_callBK (cr_minD hc) hg hm (by decide +kernel) ha (pk_cons pe_non pk_nil) (he := he) (hpl := hpl) (hall := hall) (hnone := hnone) (hks := hks)
def mxI : List Int → Int
  | [] => 0
  | [x] => x
  | x :: y :: r => max x (mxI (y :: r))
def mnI : List Int → Int
  | [] => 0
  | [x] => x
  | x :: y :: r => min x (mnI (y :: r))
theorem mx_mem : ∀ {l : List Int}, l ≠ [] → mxI l ∈ l ∧ ∀ y ∈ l, y ≤ mxI l
  | [], h => absurd rfl h
  | [x], _ => ⟨by simp [mxI], fun y h => by simp at h; simp [mxI, h]⟩
  | x :: y :: r, _ => by
    obtain ⟨h1, h2⟩ := mx_mem (l := y :: r) (by simp)
    have e : mxI (x :: y :: r) = max x (mxI (y :: r)) := rfl
    rw [e]
    refine ⟨?_, fun z hz => ?_⟩
    · by_cases hc : x ≤ mxI (y :: r)
      · rw [Int.max_eq_right hc]; exact List.mem_cons_of_mem _ h1
      · rw [Int.max_eq_left (by omega)]; exact List.mem_cons_self
    · rcases List.mem_cons.mp hz with rfl | hz
      · omega
      · have := h2 z hz; omega
theorem mn_mem : ∀ {l : List Int}, l ≠ [] → mnI l ∈ l ∧ ∀ y ∈ l, mnI l ≤ y
  | [], h => absurd rfl h
  | [x], _ => ⟨by simp [mnI], fun y h => by simp at h; simp [mnI, h]⟩
  | x :: y :: r, _ => by
    obtain ⟨h1, h2⟩ := mn_mem (l := y :: r) (by simp)
    have e : mnI (x :: y :: r) = min x (mnI (y :: r)) := rfl
    rw [e]
    refine ⟨?_, fun z hz => ?_⟩
    · by_cases hc : x ≤ mnI (y :: r)
      · rw [Int.min_eq_left hc]; exact List.mem_cons_self
      · rw [Int.min_eq_right (by omega)]; exact List.mem_cons_of_mem _ h1
    · rcases List.mem_cons.mp hz with rfl | hz
      · omega
      · have := h2 z hz; omega
section
variable {K : PySem.W.Frag} {W : Cw}
def bMaxL : FB
  | [r], S => match r.rd S with
    | .lst ds => match intsD ds with
      | some bs => if 0 < bs.length then .ok (.v (.int (mxI bs))) S else .bad
      | none => .bad
    | _ => .bad
  | _, _ => .bad
theorem sMaxL : CbS K W (rMax K) bMaxL := by
  intro wf w w2 S σd σv rs vs Q s L R h
  unfold bMaxL at h
  split at h
  · obtain ⟨v, rfl, R1⟩ := R.one
    split at h
    · rename_i ds e
      split at h
      · rename_i bs e2
        obtain ⟨a, us, rfl, g1, g2⟩ := lstOf s.st R1 e
        have := intsD_of g2 e2
        subst this
        obtain ⟨hc, h2⟩ := h.ite
        have hne : bs ≠ [] := fun q => by rw [q] at hc; exact absurd hc (by decide)
        obtain ⟨m1, m2⟩ := mx_mem hne
        refine ⟨a, bs, rfl, SqL.of g1, hc, fun m h3 h4 => ?_⟩
        have : m = mxI bs := Int.le_antisymm (m2 m h3) (h4 _ m1)
        subst this
        exact h2 w2 _ L s.st (.int _)
      · exact h.elim
    · exact h.elim
  · exact h.elim
def bMinN : FB
  | [r], S => match r.rd S with
    | .lst ds => match intsD ds with
      | some bs => .ok (.v (if bs = [] then .non else .int (mnI bs))) S
      | none => .bad
    | _ => .bad
  | _, _ => .bad
theorem sMinN : CbS K W (rMinN K) bMinN := by
  intro wf w w2 S σd σv rs vs Q s L R h
  unfold bMinN at h
  split at h
  · obtain ⟨v, rfl, R1⟩ := R.one
    split at h
    · rename_i ds e
      split at h
      · rename_i bs e2
        obtain ⟨a, us, rfl, g1, g2⟩ := lstOf s.st R1 e
        have := intsD_of g2 e2
        subst this
        refine ⟨a, bs, .non, rfl, rfl, SqL.of g1, fun hz => ?_, fun m h3 h4 => ?_⟩
        · rw [if_pos hz] at h
          exact h w2 _ L s.st .non
        · have hne : bs ≠ [] := fun q => by rw [q] at h3; cases h3
          rw [if_neg hne] at h
          obtain ⟨m1, m2⟩ := mn_mem hne
          have : m = mnI bs := Int.le_antisymm (h4 _ m1) (m2 m h3)
          subst this
          exact h w2 _ L s.st (.int _)
      · exact h.elim
    · exact h.elim
  · exact h.elim
end
end Cl

/-! ## ZipM -/
namespace Cl
open PySem PySem.Spec PyProof.Rows L2
/-! ## zip of a list and a tuple, from the library's draws -/
/-- the list at a and the tuple at b, item by item, in new pairs -/
def Itzm (K : PySem.W.Frag) (a b : Addr) : It :=
  ⟨fun i H => ∃ (xs ys : List V) (x y : V), SqL K H a xs ∧ SqT K H b ys ∧ xs[i]? = some x ∧ ys[i]? = some y,
   fun i H v H' => ∃ T x y, v = .ref T ∧ H T = none ∧ H' = upd H T (.tup [x, y]) ∧ (∀ xs, SqL K H a xs → xs[i]? = some x) ∧ ∀ ys, SqT K H b ys → ys[i]? = some y,
   fun i H => ∃ xs ys : List V, SqL K H a xs ∧ SqT K H b ys ∧ i = min xs.length ys.length⟩
def zmTn (z TI TO i1 i2 a b : Addr) (i : Nat) (h : Heap) : Prop := IsZip h z TI TO .none ∧ IsTupOf2 h TI (.ref i1) (.ref i2) ∧ (∃ x y, IsTupOf2 h TO x y) ∧ h.IsListIter i1 a i ∧ h.IsTupleIter i2 b i
theorem five {z TI TO i1 i2 c : Addr} (h : c ∈ [z, TI, TO, i1, i2]) : c = z ∨ c = TI ∨ c = TO ∨ c = i1 ∨ c = i2 := by simpa using h
theorem turn_zipM {P : Program} {w : World} {K : PySem.W.Frag} {elts : List Expr} {kk : Nat} {tpos : Pos} {a b z TI TO i1 i2 : Addr} (S : ZipSep2 z TI TO i1 i2 [i1, a] [i2, b]) (na : a ≠ i1) (nb : b ≠ i2) :
    Turn P w K (.Tuple elts kk tpos) (Itzm K a b) [z, TI, TO, i1, i2] z (zmTn z TI TO i1 i2 a b) where
  mem := by simp
  obj := fun i h st c hc => by
    obtain ⟨hz, hTI, ⟨x, y, hTO⟩, ⟨o1, e1, _, d1⟩, ⟨o2, e2, _, d2⟩⟩ := st
    rcases five hc with rfl | rfl | rfl | rfl | rfl
    · exact ⟨_, hz, fun v q => nomatch q⟩
    · exact ⟨_, hTI, fun v q => nomatch q⟩
    · exact ⟨_, hTO, fun v q => nomatch q⟩
    · exact ⟨o1, e1, fun v q => by rw [d1] at q; cases q⟩
    · exact ⟨o2, e2, fun v q => by rw [d2] at q; cases q⟩
  keep := fun i h h' st k => by
    obtain ⟨hz, hTI, ⟨x, y, hTO⟩, h1, h2⟩ := st
    exact ⟨k z (by simp) _ hz, k TI (by simp) _ hTI, ⟨x, y, k TO (by simp) _ hTO⟩, h1.at fun o q => k i1 (by simp) o q, h2.at fun o q => k i2 (by simp) o q⟩
  item := by
    intro X hP hw hK hc i pins s σ H E I hf st hg
    subst hP hw hK
    obtain ⟨hz, hTI, hTO, h1, h2⟩ := st
    obtain ⟨xs, ys, x, y, hqx, hqy, hx, hy⟩ := hg
    obtain ⟨its, rv, p, _⟩ := I.list hqx
    obtain ⟨its2, rv2, p2, _⟩ := I.tuple hqy
    have l1 := rv.length
    have l2 := rv2.length
    have hi1 := (List.getElem?_eq_some_iff.mp hx).1
    have hi2 := (List.getElem?_eq_some_iff.mp hy).1
    have G := GoesN.zip2 (prog := X.prog) (w := X.w) (A := X.A) (elts := elts) (x1 := kk) (pos := tpos) S (Draws.list (A := X.A.in1) (I.ok.hd hc) i1 a na its.toArray) (Draws.tuple (A := X.A.in1) (I.ok.hd hc) i2 b nb its2.toArray)
    refine G.goes i s _ E (by simp; omega) ⟨hz, hTI, hTO, ⟨h1, p.isList⟩, ⟨h2, p2⟩⟩ fun v h' tk hY st' hk htk => ?_
    obtain ⟨T, u, u2, rfl, hT, hu, hu2, hN⟩ := hY
    obtain ⟨g1, g2, g3, g4, g5⟩ := st'
    obtain ⟨u', hu', ru⟩ := rv.get hx
    obtain ⟨u2', hu2', ru2⟩ := rv2.get hy
    have e1 : u = u' := by
      have q : its[i]? = some u := by simpa using hu
      rw [hu'] at q; exact (Option.some.inj q).symm
    have e2 : u2 = u2' := by
      have q : its2[i]? = some u2 := by simpa using hu2
      rw [hu2'] at q; exact (Option.some.inj q).symm
    subst e1 e2
    have new : ObjOk X.prog X.w (upd H T (.tup [x, y])) h' T (.tup [x, y]) := ⟨by show 2 ≤ sizeLine; decide, [u, u2], .cons ru (.cons ru2 .nil), hN⟩
    have I1 : Inv X pins σ (upd H T (.tup [x, y])) { s with heap := h', toks := tk } :=
      I.turnedNew (t' := tk) (ch := [z, TI, TO, i1, i2]) (fun c o hb q => hk c o (fun q' => hb (by
        have : c = z ∨ c = TO ∨ c = i1 ∨ c = i2 := by simpa using q'
        rcases this with rfl | rfl | rfl | rfl <;> simp)) q) hf hT new
    refine ⟨.ref T, _, I1, rfl, ⟨T, x, y, rfl, I.hok.fresh hT, rfl, fun l hl => by rw [I.list_inj hl hqx]; exact hx, fun l hl => by rw [I.tuple_inj hl hqy]; exact hy⟩, ⟨g1, g2, g3, g4.1, g5.1⟩, fun c hcm => ?_⟩
    have hlt : c < s.heap.objs.size := by
      obtain ⟨x0, y0, q3⟩ := hTO
      rcases five hcm with rfl | rfl | rfl | rfl | rfl
      · exact Heap.lt_size hz
      · exact Heap.lt_size hTI
      · exact Heap.lt_size q3
      · obtain ⟨_, e1, _⟩ := h1; exact Heap.lt_size e1
      · obtain ⟨_, e2, _⟩ := h2; exact Heap.lt_size e2
    rw [upd_ne (Nat.ne_of_lt (Nat.lt_of_lt_of_le hlt hT))]
    exact (hf c hcm).1
  done := by
    intro X hP hw hK hc i pins s σ H E I hf st hg
    subst hP hw hK
    obtain ⟨hz, hTI, hTO, h1, h2⟩ := st
    obtain ⟨xs, ys, hqx, hqy, hend⟩ := hg
    obtain ⟨its, rv, p, _⟩ := I.list hqx
    obtain ⟨its2, rv2, p2, _⟩ := I.tuple hqy
    have l1 := rv.length
    have l2 := rv2.length
    have G := GoesN.zip2 (prog := X.prog) (w := X.w) (A := X.A) (elts := elts) (x1 := kk) (pos := tpos) S (Draws.list (A := X.A.in1) (I.ok.hd hc) i1 a na its.toArray) (Draws.tuple (A := X.A.in1) (I.ok.hd hc) i2 b nb its2.toArray)
    have hi : i = min its.toArray.size its2.toArray.size := by rw [hend]; simp; omega
    subst hi
    refine G.stops s _ E ⟨hz, hTI, hTO, ⟨h1, p.isList⟩, ⟨h2, p2⟩⟩ fun h' tk hk htk => ?_
    exact I.turnedL (t' := tk) (ch := [z, TI, TO, i1, i2]) (fun c o hb q => hk c o (fun q' => hb (by
      have : c = z ∨ c = TO ∨ c = i1 ∨ c = i2 := by simpa using q'
      rcases this with rfl | rfl | rfl | rfl <;> simp)) q) hf
  self := fun A i s Q E st h => wpAny_pyIter_zip st.1 h
def iZipM (K : PySem.W.Frag) (ta : TA) : TI := fun σ H R => ta σ H fun vs H1 => ∃ a b xs ys, vs = [.ref a, .ref b] ∧ SqL K H1 a xs ∧ SqT K H1 b ys ∧ R (Itzm K a b) H1
theorem pi_zipM {X : Cx} {e e2 : Expr} {ta : TA} {p pos tpos : Pos} {elts : List Expr} {kk : Nat} (hg : Gl X "zip") (hm : X.mg "zip" = none) (ha : PA X [e, e2] ta)
    (hs : starEach [e, e2] X.env = (false, eval e X.env) :: starEach [e2] X.env := by rfl) (hpl : (backTo pos (starEach [e2] X.env)).any (·.1) = false := by rfl) :
    PI X (.Tuple elts kk tpos) (.Call (.Name "zip" p) [e, e2] [] pos) (iZipM X.K ta) := by
  refine ⟨fun pins s σ H R I h => ?_⟩
  refine Call_ (ld_blt I hg hm PyProof.Rows.boot_zip (PyProof.Rows.callWith_type1 (thn (ha.run pos pins s σ H _ I h) fun us s1 ⟨vs, H1, I1, r1, q1⟩ => ?_) hs hpl))
  obtain ⟨a, b, xs, ys, rfl, hqx, hqy, q⟩ := q1
  cases r1 with
  | cons r rr =>
    cases rr with
    | cons r' rr =>
      cases rr
      cases r
      cases r'
      obtain ⟨its, rv, p1, _⟩ := I1.list hqx
      obtain ⟨its2, rv2, p2, _⟩ := I1.tuple hqy
      have la : a < s1.heap.objs.size := p1.lt
      have lb : b < s1.heap.objs.size := by obtain ⟨o2, ho2, _⟩ := id p2; exact Heap.lt_size ho2
      have fresh : ∀ c ∈ [s1.heap.objs.size + 4, s1.heap.objs.size + 2, s1.heap.objs.size + 3, s1.heap.objs.size, s1.heap.objs.size + 1], FpOk X pins H1 c := fun c hcm => by
        have hle : s1.heap.objs.size ≤ c := by
          rcases five hcm with q | q | q | q | q <;> rw [q]
          · exact Nat.le_add_right _ _
          · exact Nat.le_add_right _ _
          · exact Nat.le_add_right _ _
          · exact Nat.le_refl _
          · exact Nat.le_add_right _ _
        exact I1.fpOk hle (I1.hok.fresh hle)
      refine zip_begins2 (begins_list a its.toArray) (begins_tuple b its2.toArray) p1.isList p2 fun h' hz hTI hTO h1 h2 hsz hk => wpAny_pyIter_zip hz ?_
      have I2 : Inv X pins σ H1 { s1 with heap := h' } := I1.kept (t' := s1.toks) hk
      have S : ZipSep2 (s1.heap.objs.size + 4) (s1.heap.objs.size + 2) (s1.heap.objs.size + 3) s1.heap.objs.size (s1.heap.objs.size + 1) [s1.heap.objs.size, a] [s1.heap.objs.size + 1, b] := zip_sep2 (fp1 := [a]) (fp2 := [b]) (fun c hc => by simp at hc; rw [hc]; exact la) (fun c hc => by simp at hc; rw [hc]; exact lb)
      exact ⟨s1.heap.objs.size + 4, _, _, _, H1, rfl, I2, turn_zipM S (Nat.ne_of_lt la) (Nat.ne_of_lt (Nat.lt_succ_of_lt lb)), ⟨hz, hTI, ⟨_, _, hTO⟩, ⟨_, h1, rfl, rfl⟩, ⟨_, h2, rfl, rfl⟩⟩, fresh, q⟩
theorem walk_zipM {K : PySem.W.Frag} {a b : Addr} {xs ys : List V} {n : Nat} (hn : n = min xs.length ys.length) : Walk (Itzm K a b) n (fun H => SqL K H a xs ∧ SqT K H b ys) (YPair (fun i => xs[i]?) (fun i => ys[i]?)) := by
  subst hn
  refine ⟨fun i _ hi q => ?_, fun _ q => ⟨xs, ys, q.1, q.2, rfl⟩, fun i H v H' _ q y => ?_⟩
  · have h1 : i < xs.length := by omega
    have h2 : i < ys.length := by omega
    exact ⟨xs, ys, xs[i], ys[i], q.1, q.2, by simp [h1], by simp [h2]⟩
  · obtain ⟨T, x, z, h1, h2, h3, h4, h5⟩ := y
    exact ⟨T, x, z, h1, h2, h3, h4 xs q.1, h5 ys q.2⟩
section
variable {K : PySem.W.Frag} {W : Cw}
def fiZM (fa : FA) : FI := fun σ S => (fa σ S).bd fun rs S1 => onDs rs fun ds => match ds with
  | [.lst ds, .tup es] => .ok (zpD ds es) S1
  | _ => .bad
theorem snd_iZM {ta : TA} {fa : FA} (ha : SndA K W ta fa) : SndI K W Lf (iZipM K ta) (fiZM fa) := by
  intro wf w S σd σv R s h
  refine ha.run (Le.refl w) s h fun rs S1 w1 vs L1 st1 R1 h1 => ?_
  obtain ⟨ds', e, h2⟩ := onDs_of h1
  have r := R1.frz e
  revert h2
  split
  · rename_i ds es
    intro h2
    cases r with
    | cons r1 r2 =>
      cases r2 with
      | cons r2 r3 =>
        cases r3
        cases r1 with
        | lst g1 f g2 =>
          rename_i a us
          cases r2 with
          | tup kf k2 =>
            rename_i b ws
            refine ⟨a, b, us, ws, rfl, SqL.of g1, kf.sq, h2 (w.frz w1) _ L1.frz st1.frz ⟨_, _, walk_zipM (K := K) (a := a) (b := b) (xs := us) (ys := ws) (by rw [zpD_len, g2.length, k2.length]), fun w2 S2 L st => ⟨SqL.of (L.kp _ _ g1 f).1, (kf.lf L).sq⟩, fun i w2 S2 x H' hi L st y => ?_⟩⟩
            rw [zpD_len] at hi
            have h1 : i < us.length := by rw [g2.length]; omega
            have h2 : i < ws.length := by rw [k2.length]; omega
            obtain ⟨d, e1, r⟩ := g2.at' (List.getElem?_eq_getElem h1)
            obtain ⟨d', e1', r'⟩ := k2.at' (List.getElem?_eq_getElem h2)
            obtain ⟨w3, q1, q2, q3, q4⟩ := pair_yield (Y := fun _ _ _ _ => True) (d := d) (e := d') st y (fun u eu => by rw [List.getElem?_eq_getElem h1] at eu; cases eu; exact r.lf L) (fun u eu => by rw [List.getElem?_eq_getElem h2] at eu; cases eu; exact r'.lf L)
            exact ⟨w3, _, q1, zpD_at ds es i d d' e1 e1', q2, q3, q4⟩
  · intro h2; exact h2.elim
end
end Cl

/-! ## ZipT -/
namespace Cl
open PySem PySem.Spec PyProof.Rows L2
/-! ## zip of a list and a tuple, from the library's draws -/
/-- the list at a and the tuple at b, item by item, in new pairs -/
def Itzt (K : PySem.W.Frag) (a b : Addr) : It :=
  ⟨fun i H => ∃ (xs ys : List V) (x y : V), SqT K H a xs ∧ SqL K H b ys ∧ xs[i]? = some x ∧ ys[i]? = some y,
   fun i H v H' => ∃ T x y, v = .ref T ∧ H T = none ∧ H' = upd H T (.tup [x, y]) ∧ (∀ xs, SqT K H a xs → xs[i]? = some x) ∧ ∀ ys, SqL K H b ys → ys[i]? = some y,
   fun i H => ∃ xs ys : List V, SqT K H a xs ∧ SqL K H b ys ∧ i = min xs.length ys.length⟩
def ztTn (z TI TO i1 i2 a b : Addr) (i : Nat) (h : Heap) : Prop := IsZip h z TI TO .none ∧ IsTupOf2 h TI (.ref i1) (.ref i2) ∧ (∃ x y, IsTupOf2 h TO x y) ∧ h.IsTupleIter i1 a i ∧ h.IsListIter i2 b i
theorem turn_zipT {P : Program} {w : World} {K : PySem.W.Frag} {elts : List Expr} {kk : Nat} {tpos : Pos} {a b z TI TO i1 i2 : Addr} (S : ZipSep2 z TI TO i1 i2 [i1, a] [i2, b]) (na : a ≠ i1) (nb : b ≠ i2) :
    Turn P w K (.Tuple elts kk tpos) (Itzt K a b) [z, TI, TO, i1, i2] z (ztTn z TI TO i1 i2 a b) where
  mem := by simp
  obj := fun i h st c hc => by
    obtain ⟨hz, hTI, ⟨x, y, hTO⟩, ⟨o1, e1, _, d1⟩, ⟨o2, e2, _, d2⟩⟩ := st
    rcases five hc with rfl | rfl | rfl | rfl | rfl
    · exact ⟨_, hz, fun v q => nomatch q⟩
    · exact ⟨_, hTI, fun v q => nomatch q⟩
    · exact ⟨_, hTO, fun v q => nomatch q⟩
    · exact ⟨o1, e1, fun v q => by rw [d1] at q; cases q⟩
    · exact ⟨o2, e2, fun v q => by rw [d2] at q; cases q⟩
  keep := fun i h h' st k => by
    obtain ⟨hz, hTI, ⟨x, y, hTO⟩, h1, h2⟩ := st
    exact ⟨k z (by simp) _ hz, k TI (by simp) _ hTI, ⟨x, y, k TO (by simp) _ hTO⟩, h1.at fun o q => k i1 (by simp) o q, h2.at fun o q => k i2 (by simp) o q⟩
  item := by
    intro X hP hw hK hc i pins s σ H E I hf st hg
    subst hP hw hK
    obtain ⟨hz, hTI, hTO, h1, h2⟩ := st
    obtain ⟨xs, ys, x, y, hqx, hqy, hx, hy⟩ := hg
    obtain ⟨its, rv, p, _⟩ := I.tuple hqx
    obtain ⟨its2, rv2, p2, _⟩ := I.list hqy
    have l1 := rv.length
    have l2 := rv2.length
    have hi1 := (List.getElem?_eq_some_iff.mp hx).1
    have hi2 := (List.getElem?_eq_some_iff.mp hy).1
    have G := GoesN.zip2 (prog := X.prog) (w := X.w) (A := X.A) (elts := elts) (x1 := kk) (pos := tpos) S (Draws.tuple (A := X.A.in1) (I.ok.hd hc) i1 a na its.toArray) (Draws.list (A := X.A.in1) (I.ok.hd hc) i2 b nb its2.toArray)
    refine G.goes i s _ E (by simp; omega) ⟨hz, hTI, hTO, ⟨h1, p⟩, ⟨h2, p2.isList⟩⟩ fun v h' tk hY st' hk htk => ?_
    obtain ⟨T, u, u2, rfl, hT, hu, hu2, hN⟩ := hY
    obtain ⟨g1, g2, g3, g4, g5⟩ := st'
    obtain ⟨u', hu', ru⟩ := rv.get hx
    obtain ⟨u2', hu2', ru2⟩ := rv2.get hy
    have e1 : u = u' := by
      have q : its[i]? = some u := by simpa using hu
      rw [hu'] at q; exact (Option.some.inj q).symm
    have e2 : u2 = u2' := by
      have q : its2[i]? = some u2 := by simpa using hu2
      rw [hu2'] at q; exact (Option.some.inj q).symm
    subst e1 e2
    have new : ObjOk X.prog X.w (upd H T (.tup [x, y])) h' T (.tup [x, y]) := ⟨by show 2 ≤ sizeLine; decide, [u, u2], .cons ru (.cons ru2 .nil), hN⟩
    have I1 : Inv X pins σ (upd H T (.tup [x, y])) { s with heap := h', toks := tk } :=
      I.turnedNew (t' := tk) (ch := [z, TI, TO, i1, i2]) (fun c o hb q => hk c o (fun q' => hb (by
        have : c = z ∨ c = TO ∨ c = i1 ∨ c = i2 := by simpa using q'
        rcases this with rfl | rfl | rfl | rfl <;> simp)) q) hf hT new
    refine ⟨.ref T, _, I1, rfl, ⟨T, x, y, rfl, I.hok.fresh hT, rfl, fun l hl => by rw [I.tuple_inj hl hqx]; exact hx, fun l hl => by rw [I.list_inj hl hqy]; exact hy⟩, ⟨g1, g2, g3, g4.1, g5.1⟩, fun c hcm => ?_⟩
    have hlt : c < s.heap.objs.size := by
      obtain ⟨x0, y0, q3⟩ := hTO
      rcases five hcm with rfl | rfl | rfl | rfl | rfl
      · exact Heap.lt_size hz
      · exact Heap.lt_size hTI
      · exact Heap.lt_size q3
      · obtain ⟨_, e1, _⟩ := h1; exact Heap.lt_size e1
      · obtain ⟨_, e2, _⟩ := h2; exact Heap.lt_size e2
    rw [upd_ne (Nat.ne_of_lt (Nat.lt_of_lt_of_le hlt hT))]
    exact (hf c hcm).1
  done := by
    intro X hP hw hK hc i pins s σ H E I hf st hg
    subst hP hw hK
    obtain ⟨hz, hTI, hTO, h1, h2⟩ := st
    obtain ⟨xs, ys, hqx, hqy, hend⟩ := hg
    obtain ⟨its, rv, p, _⟩ := I.tuple hqx
    obtain ⟨its2, rv2, p2, _⟩ := I.list hqy
    have l1 := rv.length
    have l2 := rv2.length
    have G := GoesN.zip2 (prog := X.prog) (w := X.w) (A := X.A) (elts := elts) (x1 := kk) (pos := tpos) S (Draws.tuple (A := X.A.in1) (I.ok.hd hc) i1 a na its.toArray) (Draws.list (A := X.A.in1) (I.ok.hd hc) i2 b nb its2.toArray)
    have hi : i = min its.toArray.size its2.toArray.size := by rw [hend]; simp; omega
    subst hi
    refine G.stops s _ E ⟨hz, hTI, hTO, ⟨h1, p⟩, ⟨h2, p2.isList⟩⟩ fun h' tk hk htk => ?_
    exact I.turnedL (t' := tk) (ch := [z, TI, TO, i1, i2]) (fun c o hb q => hk c o (fun q' => hb (by
      have : c = z ∨ c = TO ∨ c = i1 ∨ c = i2 := by simpa using q'
      rcases this with rfl | rfl | rfl | rfl <;> simp)) q) hf
  self := fun A i s Q E st h => wpAny_pyIter_zip st.1 h
def iZipT (K : PySem.W.Frag) (ta : TA) : TI := fun σ H R => ta σ H fun vs H1 => ∃ a b xs ys, vs = [.ref a, .ref b] ∧ SqT K H1 a xs ∧ SqL K H1 b ys ∧ R (Itzt K a b) H1
theorem pi_zipT {X : Cx} {e e2 : Expr} {ta : TA} {p pos tpos : Pos} {elts : List Expr} {kk : Nat} (hg : Gl X "zip") (hm : X.mg "zip" = none) (ha : PA X [e, e2] ta)
    (hs : starEach [e, e2] X.env = (false, eval e X.env) :: starEach [e2] X.env := by rfl) (hpl : (backTo pos (starEach [e2] X.env)).any (·.1) = false := by rfl) :
    PI X (.Tuple elts kk tpos) (.Call (.Name "zip" p) [e, e2] [] pos) (iZipT X.K ta) := by
  refine ⟨fun pins s σ H R I h => ?_⟩
  refine Call_ (ld_blt I hg hm PyProof.Rows.boot_zip (PyProof.Rows.callWith_type1 (thn (ha.run pos pins s σ H _ I h) fun us s1 ⟨vs, H1, I1, r1, q1⟩ => ?_) hs hpl))
  obtain ⟨a, b, xs, ys, rfl, hqx, hqy, q⟩ := q1
  cases r1 with
  | cons r rr =>
    cases rr with
    | cons r' rr =>
      cases rr
      cases r
      cases r'
      obtain ⟨its, rv, p1, _⟩ := I1.tuple hqx
      obtain ⟨its2, rv2, p2, _⟩ := I1.list hqy
      have la : a < s1.heap.objs.size := by obtain ⟨o2, ho2, _⟩ := id p1; exact Heap.lt_size ho2
      have lb : b < s1.heap.objs.size := p2.lt
      have fresh : ∀ c ∈ [s1.heap.objs.size + 4, s1.heap.objs.size + 2, s1.heap.objs.size + 3, s1.heap.objs.size, s1.heap.objs.size + 1], FpOk X pins H1 c := fun c hcm => by
        have hle : s1.heap.objs.size ≤ c := by
          rcases five hcm with q | q | q | q | q <;> rw [q]
          · exact Nat.le_add_right _ _
          · exact Nat.le_add_right _ _
          · exact Nat.le_add_right _ _
          · exact Nat.le_refl _
          · exact Nat.le_add_right _ _
        exact I1.fpOk hle (I1.hok.fresh hle)
      refine zip_begins2 (begins_tuple a its.toArray) (begins_list b its2.toArray) p1 p2.isList fun h' hz hTI hTO h1 h2 hsz hk => wpAny_pyIter_zip hz ?_
      have I2 : Inv X pins σ H1 { s1 with heap := h' } := I1.kept (t' := s1.toks) hk
      have S : ZipSep2 (s1.heap.objs.size + 4) (s1.heap.objs.size + 2) (s1.heap.objs.size + 3) s1.heap.objs.size (s1.heap.objs.size + 1) [s1.heap.objs.size, a] [s1.heap.objs.size + 1, b] := zip_sep2 (fp1 := [a]) (fp2 := [b]) (fun c hc => by simp at hc; rw [hc]; exact la) (fun c hc => by simp at hc; rw [hc]; exact lb)
      exact ⟨s1.heap.objs.size + 4, _, _, _, H1, rfl, I2, turn_zipT S (Nat.ne_of_lt la) (Nat.ne_of_lt (Nat.lt_succ_of_lt lb)), ⟨hz, hTI, ⟨_, _, hTO⟩, ⟨_, h1, rfl, rfl⟩, ⟨_, h2, rfl, rfl⟩⟩, fresh, q⟩
theorem walk_zipT {K : PySem.W.Frag} {a b : Addr} {xs ys : List V} {n : Nat} (hn : n = min xs.length ys.length) : Walk (Itzt K a b) n (fun H => SqT K H a xs ∧ SqL K H b ys) (YPair (fun i => xs[i]?) (fun i => ys[i]?)) := by
  subst hn
  refine ⟨fun i _ hi q => ?_, fun _ q => ⟨xs, ys, q.1, q.2, rfl⟩, fun i H v H' _ q y => ?_⟩
  · have h1 : i < xs.length := by omega
    have h2 : i < ys.length := by omega
    exact ⟨xs, ys, xs[i], ys[i], q.1, q.2, by simp [h1], by simp [h2]⟩
  · obtain ⟨T, x, z, h1, h2, h3, h4, h5⟩ := y
    exact ⟨T, x, z, h1, h2, h3, h4 xs q.1, h5 ys q.2⟩
section
variable {K : PySem.W.Frag} {W : Cw}
def fiZT (fa : FA) : FI := fun σ S => (fa σ S).bd fun rs S1 => onDs rs fun ds => match ds with
  | [.tup ds, .lst es] => .ok (zpD ds es) S1
  | _ => .bad
theorem snd_iZT {ta : TA} {fa : FA} (ha : SndA K W ta fa) : SndI K W Lf (iZipT K ta) (fiZT fa) := by
  intro wf w S σd σv R s h
  refine ha.run (Le.refl w) s h fun rs S1 w1 vs L1 st1 R1 h1 => ?_
  obtain ⟨ds', e, h2⟩ := onDs_of h1
  have r := R1.frz e
  revert h2
  split
  · rename_i ds es
    intro h2
    cases r with
    | cons r1 r2 =>
      cases r2 with
      | cons r2 r3 =>
        cases r3
        cases r1 with
        | tup kf g2 =>
          rename_i a us
          cases r2 with
          | lst g1 f k2 =>
            rename_i b ws
            refine ⟨a, b, us, ws, rfl, kf.sq, SqL.of g1, h2 (w.frz w1) _ L1.frz st1.frz ⟨_, _, walk_zipT (K := K) (a := a) (b := b) (xs := us) (ys := ws) (by rw [zpD_len, g2.length, k2.length]), fun w2 S2 L st => ⟨(kf.lf L).sq, SqL.of (L.kp _ _ g1 f).1⟩, fun i w2 S2 x H' hi L st y => ?_⟩⟩
            rw [zpD_len] at hi
            have h1 : i < us.length := by rw [g2.length]; omega
            have h2 : i < ws.length := by rw [k2.length]; omega
            obtain ⟨d, e1, r⟩ := g2.at' (List.getElem?_eq_getElem h1)
            obtain ⟨d', e1', r'⟩ := k2.at' (List.getElem?_eq_getElem h2)
            obtain ⟨w3, q1, q2, q3, q4⟩ := pair_yield (Y := fun _ _ _ _ => True) (d := d) (e := d') st y (fun u eu => by rw [List.getElem?_eq_getElem h1] at eu; cases eu; exact r.lf L) (fun u eu => by rw [List.getElem?_eq_getElem h2] at eu; cases eu; exact r'.lf L)
            exact ⟨w3, _, q1, zpD_at ds es i d d' e1 e1', q2, q3, q4⟩
  · intro h2; exact h2.elim
end
end Cl

/-! ## EnQ -/
namespace Cl
open PySem PySem.Spec PyProof.Rows L2
/-! ## enumerate of a list or a tuple; xs * n of a list -/
def iEnumQ (K : PySem.W.Frag) (ta : TA) : TI := fun σ H R => ta σ H fun vs H1 => ∃ a, vs = [.ref a] ∧ (((∃ xs, SqL K H1 a xs) ∧ R (Ite K a) H1) ∨ ((∃ xs, SqT K H1 a xs) ∧ R (ItT K a) H1))
theorem pi_enumQ {X : Cx} {e : Expr} {ta : TA} {p pos tpos : Pos} {elts : List Expr} {kk : Nat} (hg : Gl X "enumerate") (hm : X.mg "enumerate" = none) (ha : PA X [e] ta) (hs : starEach [e] X.env = [(false, eval e X.env)] := by rfl) :
    PI X (.Tuple elts kk tpos) (.Call (.Name "enumerate" p) [e] [] pos) (iEnumQ X.K ta) := by
  refine ⟨fun pins s σ H R I h => ?_⟩
  refine Call_ (ld_blt I hg hm boot_enumerate (PyProof.Rows.callWith_type1 (thn (ha.run pos pins s σ H _ I h) fun us s1 ⟨vs, H1, I1, r1, a, ex, q1⟩ => ?_) hs rfl))
  subst ex
  cases r1 with
  | cons r rr =>
    cases rr
    cases r
    have fr : ∀ b ∈ [s1.heap.objs.size + 1, s1.heap.objs.size], FpOk X pins H1 b := fun b hb => by
      have hle : s1.heap.objs.size ≤ b := by
        rcases (by simpa using hb : b = s1.heap.objs.size + 1 ∨ b = s1.heap.objs.size) with z | z
        · rw [z]; exact Nat.le_succ _
        · rw [z]; exact Nat.le_refl _
      exact I1.fpOk hle (I1.hok.fresh hle)
    rcases q1 with ⟨⟨xs, hq⟩, q⟩ | ⟨⟨xs, hq⟩, q⟩
    · obtain ⟨its, rv, p', hz⟩ := I1.list hq
      refine En.call1 (begins_list a its.toArray) p'.isList fun h' he hit hsz hk => wpAny_pyIter_enum he ?_
      have I2 : Inv X pins σ H1 { s1 with heap := h' } := I1.kept (t' := s1.toks) hk
      exact ⟨s1.heap.objs.size + 1, [s1.heap.objs.size + 1, s1.heap.objs.size], _, _, H1, rfl, I2, turn_enum a (s1.heap.objs.size + 1) s1.heap.objs.size, ⟨⟨.none, he⟩, ⟨_, hit, rfl, rfl⟩, Nat.succ_ne_self _⟩, fr, q⟩
    · obtain ⟨its, rv, p', hz⟩ := I1.tuple hq
      have hal : a < s1.heap.objs.size := by obtain ⟨o, ho, _⟩ := id p'; exact Heap.lt_size ho
      refine En.call1 (begins_tuple a its.toArray) p' fun h' he hit hsz hk => wpAny_pyIter_enum he ?_
      have I2 : Inv X pins σ H1 { s1 with heap := h' } := I1.kept (t' := s1.toks) hk
      exact ⟨s1.heap.objs.size + 1, [s1.heap.objs.size + 1, s1.heap.objs.size], _, _, H1, rfl, I2, turn_enumT a (s1.heap.objs.size + 1) s1.heap.objs.size (Nat.ne_of_gt (Nat.lt_succ_of_lt hal)) (Nat.ne_of_lt hal), ⟨⟨.none, he⟩, ⟨_, hit, rfl, rfl⟩, Nat.succ_ne_self _⟩, fr, q⟩
section
variable {K : PySem.W.Frag} {W : Cw}
def fiEQ (fa : FA) : FI := fun σ S => (fa σ S).bd fun rs S1 => onDs rs fun ds => match ds with
  | [.lst ds] => .ok (enD 0 ds) S1
  | [.tup ds] => .ok (enD 0 ds) S1
  | _ => .bad
theorem snd_iEQ {ta : TA} {fa : FA} (ha : SndA K W ta fa) : SndI K W Lf (iEnumQ K ta) (fiEQ fa) := by
  intro wf w S σd σv R s h
  refine ha.run (Le.refl w) s h fun rs S1 w1 vs L1 st1 R1 h1 => ?_
  obtain ⟨ds', e, h2⟩ := onDs_of h1
  have r := R1.frz e
  revert h2
  split
  · rename_i ds
    intro h2
    cases r with
    | cons r1 r2 =>
      cases r2
      cases r1 with
      | lst g1 f g2 =>
        rename_i a us
        refine ⟨a, rfl, .inl ⟨⟨us, SqL.of g1⟩, h2 (w.frz w1) _ L1.frz st1.frz ⟨_, _, by rw [enD_len, ← g2.length]; exact walk_enum (K := K) (a := a) (xs := us), fun w2 S2 L st => SqL.of (L.kp _ _ g1 f).1, fun i w2 S2 x H' hi L st y => ?_⟩⟩⟩
        rw [enD_len] at hi
        have hi2 : i < us.length := by rw [g2.length]; exact hi
        obtain ⟨d, e1, r⟩ := g2.at' (List.getElem?_eq_getElem hi2)
        obtain ⟨w3, q1, q2, q3, q4⟩ := pair_yield (Y := fun _ _ _ _ => True) (d := .int (i : Nat)) (e := d) st y (fun u eu => by cases eu; exact .int _) (fun u eu => by rw [List.getElem?_eq_getElem hi2] at eu; cases eu; exact r.lf L)
        have := enD_at 0 ds i d e1
        rw [Nat.zero_add] at this
        exact ⟨w3, _, q1, this, q2, q3, q4⟩
  · rename_i ds
    intro h2
    cases r with
    | cons r1 r2 =>
      cases r2
      cases r1 with
      | tup f g2 =>
        rename_i a us
        refine ⟨a, rfl, .inr ⟨⟨us, f.sq⟩, h2 (w.frz w1) _ L1.frz st1.frz ⟨_, _, by rw [enD_len, ← g2.length]; exact walk_enumT (K := K) (a := a) (xs := us), fun w2 S2 L st => (f.lf L).sq, fun i w2 S2 x H' hi L st y => ?_⟩⟩⟩
        rw [enD_len] at hi
        have hi2 : i < us.length := by rw [g2.length]; exact hi
        obtain ⟨d, e1, r⟩ := g2.at' (List.getElem?_eq_getElem hi2)
        obtain ⟨w3, q1, q2, q3, q4⟩ := pair_yield (Y := fun _ _ _ _ => True) (d := .int (i : Nat)) (e := d) st y (fun u eu => by cases eu; exact .int _) (fun u eu => by rw [List.getElem?_eq_getElem hi2] at eu; cases eu; exact r.lf L)
        have := enD_at 0 ds i d e1
        rw [Nat.zero_add] at this
        exact ⟨w3, _, q1, this, q2, q3, q4⟩
  · intro h2; exact h2.elim
end
/-! ## a list times an int -/
section
variable {K : PySem.W.Frag} {W : Cw}
def xRep : FO2 := fun r1 r2 S => match r1.rd S, r2 with
  | .lst ds, .v (.int k) => if (-9223372036854775808 ≤ k ∧ k < 9223372036854775808) ∧ ds.length * k.toNat ≤ 1000000 then .ok (.fr (.lst (List.replicate k.toNat ds).flatten)) S else .bad
  | _, _ => .bad
theorem reps_rep {w : Wd} {ds : List Da} {vs : List V} (h : Reps K w ds vs) : ∀ n : Nat, Reps K w (List.replicate n ds).flatten (List.replicate n vs).flatten
  | 0 => .nil
  | n + 1 => by
    rw [List.replicate_succ, List.replicate_succ, List.flatten_cons, List.flatten_cons]
    exact h.app (reps_rep h n)
theorem sRepL : OpS K W rRep xRep := by
  intro wf w w2 S σd σv r1 r2 v1 v2 Q s L R1 R2 h
  unfold xRep at h
  split at h
  · rename_i ds k e1
    obtain ⟨a, vs, rfl, h1, h2⟩ := lstOf s.st R1 e1
    obtain ⟨hz, h3⟩ := h.ite
    have r2 : Rep K w2 (.int k) v2 := R2
    cases r2
    refine ⟨a, k, vs, rfl, rfl, h1, hz.1.1, hz.1.2, by rw [h2.length]; exact sz_le hz.2, fun p hp => ?_⟩
    exact h3 (w2.new p (.lst (List.replicate k.toNat vs).flatten) True) _ (L.trans (le_new hp)) (s.st.new hp) (own_newL s.st (L.none s.st hp) hp (reps_rep h2 k.toNat))
  · exact h.elim
end
end Cl

/-! ## StarD -/
namespace Cl
open PySem PySem.Spec PyProof.Rows L2
/-! ## def f(a, .., *v): a reading of the parameters and one tuple -/
def fnStar (n : Nat) (f : Fn) : Fn := fun ds S => if n ≤ ds.length ∧ ds.length ≤ 1000000 then f (ds.take n ++ [.tup (ds.drop n)]) S else .bad
section
variable {K : PySem.W.Frag}
theorem star_sp {n : Nat} {f : Fn} {vs : List V} {H : Hp} {Q : VK} {E : XK} (h : spOf K (fnStar n f) vs H Q E) : ∃ ws rest, vs = ws ++ rest ∧ ws.length = n ∧ rest.length ≤ sizeLine ∧ ∀ p, H p = Option.none → spOf K f (ws ++ [V.ref p]) (upd H p (.tup rest)) Q E := by
  obtain ⟨w, S, ds, rfl, st, r, h⟩ := h
  unfold fnStar at h
  by_cases hc : n ≤ ds.length ∧ ds.length ≤ 1000000
  · rw [if_pos hc] at h
    have hl := r.length
    refine ⟨vs.take n, vs.drop n, (List.take_append_drop n vs).symm, by rw [List.length_take]; omega, ?_, fun p hp => ?_⟩
    · have := sz_le (n := ds.length) hc.2
      rw [List.length_drop]; omega
    · have L := le_new (w := w) (p := p) (o := .tup (vs.drop n)) (b := False) hp
      refine ⟨w.new p (.tup (vs.drop n)) False, S, ds.take n ++ [.tup (ds.drop n)], rfl, st.new hp, ((r.take n).le L).app (.cons (rep_newT st hp (r.drop n)) .nil), ?_⟩
      revert h
      cases f (ds.take n ++ [.tup (ds.drop n)]) S with
      | ok r S' => exact fun h w' v L' st' R' => h w' v (L.trans L') st' (by
          cases r with
          | v d => exact R'
          | fr d => obtain ⟨a, e, n, c⟩ := R'; exact ⟨a, e, L.none (st.new hp) n, c⟩
          | bo d => obtain ⟨a, e, n, c⟩ := R'; exact ⟨a, e, L.none (st.new hp) n, c⟩)
      | ex e S' => exact fun h w' c dd L' st' R' => h w' c dd (L.trans L') st' R'
      | bad => exact fun h => h
  · rw [if_neg hc] at h
    exact h.elim
end
/-! ## a def that keeps its promise, any number of arguments; its calls as a method -/
structure FnV (P : Program) (w : World) (K : PySem.W.Frag) (mg : Str → Option Value) (base : Heap) (k : Nat) (at_ : Str × Option Str) (sp : Sp) : Prop where
  ex : FnR P w K mg base (L2.CX P w) k (He.fAd K at_) sp
  kp : PySem.W.keepIn K (.ref (He.fAd K at_)) = true
section
variable {X : Cx} {k : Nat} {sp : Sp} {W : WX} {m : Str} {pos apos : Pos} {e o : Expr} {es : List Expr} {ta : TE} {t : TA}
theorem run_fnV {pins : List (Addr × Obj)} {σ : L2.St} {H : Hp} {s : Shared} {Q : VK} {us : List Value} {vs : List V} {f : Addr} (F : FnR X.prog X.w X.K X.mg X.base (L2.CX X.prog X.w) k f sp) (hr : Room k X.A) (tk : Takes X W) (I : Inv X pins σ H s) (r : Vals vs us) (h : sp vs H Q (WE W σ)) :
    wpAny (model X.prog X.w) X.A (call (.ref f) us) (EP X pins σ Q) X.xe s := by
  refine wpAny_call (codeAny_mono (F X.A X.stack s H us vs Q (WE W σ) hr I.env0 r h) fun r s' hq => ?_)
  cases r with
  | error e => exact passAt tk σ pins H s e s' I hq
  | ok fl =>
    cases fl with
    | ret u => exact I.after hq
    | next => exact False.elim hq
    | brk => exact False.elim hq
    | cont => exact False.elim hq
theorem pmethV {pl : Sem Bool} {C : Str} (ho : PE X o ta) (c : Cls X.K (He.ga X.K C)) (hm : Meth X.K (He.ga X.K C) m (He.ma X.K (He.ga X.K C) m)) (F : FnV X.prog X.w X.K X.mg X.base k (C, some m) sp) (hr : Room k X.A) (tk : Takes X W) (ha : PA X (e :: es) t)
    (h1 : starEach (e :: es) X.env = (false, eval e X.env) :: starEach es X.env := by rfl) (h2 : (backTo pos (starEach es X.env)).any (·.1) = false := by rfl)
    (h3 : eval (.Call (.Attribute o m apos) (e :: es) [] pos) X.env = (do let ov ← eval o X.env; standAt apos.atName; let (f, q) ← holding [ov] (getMethod ov m pl); callWith pos f q (backTo pos (starEach (e :: es) X.env)) (backToKw pos (keywordEach [] X.env))) := by rfl) :
    PE X (.Call (.Attribute o m apos) (e :: es) [] pos) (tMethX (He.ga X.K C) m sp (WE W) ta t) := by
  refine ⟨fun pins s σ H Q I h => ?_⟩
  refine PySem.W.methodCall_KW (pl := pl) (thn (ho.run pins s σ H _ I h) fun u s1 ⟨x, H1, I1, rx, a, dx, fs, ex, ea, l, q⟩ => ?_) h3
  subst ex
  obtain rfl : u = Value.ref a := rx
  refine getmeth_ok I1 ea c hm l (PySem.W.callWith_K (first := [.ref a]) (h₀ := X.base) I.ok.mod.kin hm.kp (thn (ha.run pos pins s1 σ H1 _ I1 q) fun us s2 ⟨vs, H2, I2, r, q2⟩ => ⟨I2.kIn, ?_⟩) h1 h2)
  exact run_fnV (us := .ref a :: us) (vs := .ref a :: vs) F.ex hr tk I2 (.cons rfl r) q2
theorem pmethV0 {pl : Sem Bool} {C : Str} (ho : PE X o ta) (c : Cls X.K (He.ga X.K C)) (hm : Meth X.K (He.ga X.K C) m (He.ma X.K (He.ga X.K C) m)) (F : FnV X.prog X.w X.K X.mg X.base k (C, some m) sp) (hr : Room k X.A) (tk : Takes X W)
    (h3 : eval (.Call (.Attribute o m apos) [] [] pos) X.env = (do let ov ← eval o X.env; standAt apos.atName; let (f, q) ← holding [ov] (getMethod ov m pl); callWith pos f q (backTo pos (starEach [] X.env)) (backToKw pos (keywordEach [] X.env))) := by rfl) :
    PE X (.Call (.Attribute o m apos) [] [] pos) (tMethX (He.ga X.K C) m sp (WE W) ta tNil) := by
  refine ⟨fun pins s σ H Q I h => ?_⟩
  refine PySem.W.methodCall_KW (pl := pl) (thn (ho.run pins s σ H _ I h) fun u s1 ⟨x, H1, I1, rx, a, dx, fs, ex, ea, l, q⟩ => ?_) h3
  subst ex
  obtain rfl : u = Value.ref a := rx
  exact getmeth_ok I1 ea c hm l (PySem.W.callWith_K0 (first := [.ref a]) I1.kIn hm.kp (run_fnV (us := [.ref a]) (vs := [.ref a]) F.ex hr tk I1 (.cons rfl .nil) q))
end
section
variable {P : Program} {w : World} {K : PySem.W.Frag} {mg : Str → Option Value} {base : Heap} {x qual : Str} {params : Arguments} {body : List Stmt} {scope : Scope} {dvs : List V} {kws : List (Str × V)} {fd : FuncData}
/-- the promise of a star def: f reads the parameters and the tuple, N's first names are ps and pv -/
theorem starV {at_ : Str × Option Str} {N ps : List Str} {pv : Str} {k : Nat} {f : Fn} (F : FunD K x qual params body scope [] kws (He.fAd K at_) fd) (S : FnScope N (ps ++ [pv]) scope)
    (hb : ∀ (kV doc pm : Value) (an : Option Addr) (cdv ct : Value) (us rest : List Value), us.length = ps.length → bindArgs (PySem.W.fnOf x qual params body scope .none kV doc pm an cdv ct) ⟨us ++ rest, []⟩ = (newTuple rest >>= fun t => pure (ps.zip us ++ [(pv, t)])))
    (hbody : ∀ (cdv : Value) (A : Around) (outer : List PySem.Env) (s : Shared) (H : Hp) (vs : List V) (Q : VK) (E : XK), Room k (A.deeper (envOfC qual scope s.heap.objs.size (He.fAd K at_) cdv)) → spOf K f vs H Q E →
      ∃ t, PSs (cxOf (L2.CX P w) P w K mg base N qual scope (He.fAd K at_) cdv A outer s H E) body t ∧ t { nx := fun _ H' => Q .non H', rt := Q } (start N vs) H) : FnV P w K mg base (k + 1) at_ (spOf K (fnStar ps.length f)) := by
  obtain ⟨oc, od, dV, kV, doc, pm, an, cdv, ct, osl, rfl, lk, hcd, hD, _⟩ := F.ex
  rcases hD with ⟨_, rfl⟩ | ⟨e, _⟩
  case inr => exact absurd rfl e
  refine ⟨FnR.imp (StX.fn_star lk hcd S StX.cxUp (hb kV doc pm an cdv ct) fun A outer s H vs Q E hr hsp => hbody cdv A outer s H vs Q E hr hsp) fun vs H Q E h => ?_, F.kp⟩
  obtain ⟨ws, rest, e, h1, h2, h3⟩ := star_sp h
  exact ⟨ws, rest, e, h1, h2, h3⟩
end
end Cl

/-! ## Fun13 -/
namespace Cl
open PySem PySem.Spec PyProof.Rows L2
/-! ## x in xs, data of any depth, in a list or a tuple -/
def rInQ (K : PySem.W.Frag) (neg : Bool) : R2 := fun x y H Q => ∃ d ds, Dp K H x d ∧ (Dp K H y (.list ds) ∨ Dp K H y (.tuple ds)) ∧ SeqAt.shaped d = true ∧ SeqAt.shaped (.list ds) = true ∧ Q (.bl (if neg then !(ds.any fun z => PyData.eqv z d) else ds.any fun z => PyData.eqv z d)) H
theorem u65 {k : Nat} {A : Around} (r : Room k A) : A.units + 65 < cLine := by have := r.un; omega
section
variable {X : Cx}
theorem op_inQ (hu : X.A.units + 65 < cLine) : OpR X (compareOp .In) (rInQ X.K false) := by
  intro pins s σ H x y v u Q I rx ry h
  obtain ⟨d, ds, hd, he, sd, se, q⟩ := h
  obtain ⟨as, r1⟩ := Dp.reads I d x v hd rx
  rcases he with he | he
  · obtain ⟨bs, r2⟩ := Dp.reads I (.list ds) y u he ry
    exact SeqAt.in_list_reads r2 r1 (SeqAt.canLay_of_shaped se) (SeqAt.canLay_of_shaped sd) (room_in_shaped sd hu) ⟨.bl _, H, I, rfl, q⟩
  · obtain ⟨bs, r2⟩ := Dp.reads I (.tuple ds) y u he ry
    exact SeqAt.in_tuple_reads r2 r1 (SeqAt.canLay_of_shaped se) (SeqAt.canLay_of_shaped sd) (room_in_shaped sd hu) ⟨.bl _, H, I, rfl, q⟩
theorem op_notInQ (hu : X.A.units + 65 < cLine) : OpR X (compareOp .NotIn) (rInQ X.K true) := by
  intro pins s σ H x y v u Q I rx ry h
  obtain ⟨d, ds, hd, he, sd, se, q⟩ := h
  obtain ⟨as, r1⟩ := Dp.reads I d x v hd rx
  rcases he with he | he
  · obtain ⟨bs, r2⟩ := Dp.reads I (.list ds) y u he ry
    exact SeqAt.notIn_list_reads r2 r1 (SeqAt.canLay_of_shaped se) (SeqAt.canLay_of_shaped sd) (room_in_shaped sd hu) ⟨.bl _, H, I, rfl, q⟩
  · obtain ⟨bs, r2⟩ := Dp.reads I (.tuple ds) y u he ry
    exact SeqAt.notIn_tuple_reads r2 r1 (SeqAt.canLay_of_shaped se) (SeqAt.canLay_of_shaped sd) (room_in_shaped sd hu) ⟨.bl _, H, I, rfl, q⟩
end
section
variable {K : PySem.W.Frag} {W : Cw}
def pyL : PyData → Option (List PyData)
  | .list ds => some ds
  | .tuple ds => some ds
  | _ => none
theorem dp_pyL {w : Wd} {v : V} {p : PyData} {ds : List PyData} (h : Dp K w.H v p) (e : pyL p = some ds) : Dp K w.H v (.list ds) ∨ Dp K w.H v (.tuple ds) := by
  cases p with
  | list es => cases e; exact .inl h
  | tuple es => cases e; exact .inr h
  | _ => cases e
def xInQ (neg : Bool) : FO2 := fun r1 r2 S => match (r1.rd S).py, ((r2.rd S).py).bind pyL with
  | some p, some ds => if SeqAt.shaped p && SeqAt.shaped (.list ds) then .ok (.v (.bl (if neg then !(ds.any fun z => PyData.eqv z p) else ds.any fun z => PyData.eqv z p))) S else .bad
  | _, _ => .bad
theorem sInQ {neg : Bool} : OpS K W (rInQ K neg) (xInQ neg) := by
  intro wf w w2 S σd σv r1 r2 v1 v2 Q s L R1 R2 h
  unfold xInQ at h
  split at h
  · rename_i p ds e1 e2
    obtain ⟨hc, h2⟩ := h.ite
    simp only [Bool.and_eq_true] at hc
    cases e3 : (r2.rd S).py with
    | none => rw [e3] at e2; cases e2
    | some q =>
      rw [e3] at e2
      exact ⟨p, ds, dpR_of s.st R1 e1, dp_pyL (dpR_of s.st R2 e3) e2, hc.1, hc.2, h2 w2 _ L s.st (.bl _)⟩
  · exact h.elim
/-! ## slices of a list or a tuple -/
def rSlQ (K : PySem.W.Frag) : V → Option Int → Option Int → Hp → VK → Prop := fun x lo hi H Q => rSlL K x lo hi H Q ∨ rSlU K x lo hi H Q
theorem sl_seqQ {X : Cx} : L2.SlR X (rSlQ X.K) := L2.SlR.or sl_list sl_tupU
def xSlQ : FSl := fun r lo hi S => match r.rd S with
  | .lst ds => xSlL r lo hi S
  | _ => xSlU r lo hi S
theorem sSlQ : SlS K W (rSlQ K) xSlQ := by
  intro wf w w2 S σd σv r1 lo hi v1 Q s L R1 h
  unfold xSlQ at h
  split at h
  · exact .inl (sSlL s L R1 h)
  · exact .inr (sSlU s L R1 h)
/-! ## xs.index(x), flat things -/
def idxV (x : V) : List V → Option Nat
  | [] => none
  | y :: ys => if eqV y x = true then some 0 else (idxV x ys).map (· + 1)
theorem idxV_of {x : V} : ∀ {ys : List V} {j : Nat}, idxV x ys = some j → (∃ z, ys[j]? = some z ∧ eqV z x = true) ∧ ∀ (m : Nat) z, m < j → ys[m]? = some z → eqV z x = false
  | [], j, h => by simp [idxV] at h
  | y :: ys, j, h => by
    unfold idxV at h
    by_cases hy : eqV y x = true
    · rw [if_pos hy] at h
      cases h
      exact ⟨⟨y, rfl, hy⟩, fun m z hm => by omega⟩
    · rw [if_neg hy] at h
      cases e : idxV x ys with
      | none => rw [e] at h; cases h
      | some k =>
        rw [e, Option.map_some, Option.some.injEq] at h
        subst h
        obtain ⟨⟨z, h1, h2⟩, h3⟩ := idxV_of e
        refine ⟨⟨z, by simpa using h1, h2⟩, fun m z' hm hz => ?_⟩
        cases m with
        | zero => simp at hz; subst hz; simpa using hy
        | succ m => exact h3 m z' (by omega) (by simpa using hz)
def fIdxV (fo fe : FE) : FE := fun σ S => (fo σ S).bd fun r S1 => match r.rd S1 with
  | .lst _ => (fe σ S1).bd fun q S2 => match r.rd S2, q with
    | .lst ds, .v d => match svs ds, d.sv with
      | some xs, some x => if flatV x && xs.all flatV then match idxV x xs with
        | some j => .ok (.v (.int (j : Nat))) S2
        | none => .bad else .bad
      | _, _ => .bad
    | _, _ => .bad
  | _ => .bad
theorem snd_idxV {to te : TE} {fo fe : FE} (ho : SndE K W to fo) (he : SndE K W te fe) : SndE K W (tBM K "list" (rIndex K) to (tCons te tNil)) (fIdxV fo fe) := by
  intro wf w S σd σv Q s h
  refine ho.run (Le.refl w) s h fun r S1 w1 v L1 st1 R1 h1 => ?_
  revert h1
  split
  · rename_i ds0 e0
    intro h1
    obtain ⟨a, vs, rfl, g1, g2⟩ := lstOf st1 R1 e0
    refine ⟨.inl ⟨rfl, vs, SqL.of g1⟩, he.run L1 (s.step L1 st1) h1 fun q S2 w2 u L2 st2 R2 h2 => ?_⟩
    revert h2
    split
    · rename_i ds d e1
      split
      · rename_i xs x e3 e4
        intro h2
        obtain ⟨hf, h3⟩ := h2.ite
        revert h3
        split
        · rename_i j e5
          intro h3
          obtain ⟨a', us, ea, k1, k2⟩ := lstOf st2 (R1.le L2) e1
          cases ea
          have hv : us = xs := reps_svs k2 e3
          subst hv
          have hx : u = x := rep_sv R2 e4
          subst hx
          simp only [Bool.and_eq_true] at hf
          obtain ⟨⟨z, i1, i2⟩, i3⟩ := idxV_of e5
          exact ⟨a, us, u, j, z, rfl, rfl, SqL.of k1, hf.1, hf.2, i1, i2, fun m z' hm hz => i3 m z' hm hz, h3 w2 _ (L1.trans L2) st2 (.int _)⟩
        · intro h3; exact h3.elim
      · intro h2; exact h2.elim
    · intro h2; exact h2.elim
  · intro h1; exact h1.elim
end
/-! ## defaults that are left out -/
def tDfl (t : TA) (dvs : List V) : TA := fun σ H Q => t σ H fun vs H1 => Q (vs ++ dvs) H1
def fDfl (fa : FA) (ds : List Da) : FA := fun σ S => (fa σ S).bd fun rs S1 => .ok (rs ++ ds.map .v) S1
structure FnD (P : Program) (w : World) (K : PySem.W.Frag) (mg : Str → Option Value) (base : Heap) (CX : CXT) (k : Nat) (at_ : Str × Option Str) (ps : List Str) (dvs : List V) (sp : Sp) : Prop where
  ex : ∃ fd, FnOk P w K mg base CX k (He.fAd K at_) fd ps sp ∧ ∃ ds, Vals dvs ds ∧ Binds K fd ps ds
  kp : PySem.W.keepIn K (.ref (He.fAd K at_)) = true
section
variable {X : Cx} {CX : CXT} {k : Nat} {ps : List Str} {dvs : List V} {sp : Sp} {W : WX} {E : XK} {x m : Str} {p pos apos : Pos} {e o : Expr} {es : List Expr} {ta : TE} {t : TA}
theorem pcallD (F : FnD X.prog X.w X.K X.mg X.base CX k (x, none) ps dvs sp) (hr : Room k X.A) (hg : Gl X x) (hm : X.mg x = some (.ref (He.ga X.K x))) (hx : Passes CX X E)
    (ha : PA X (e :: es) t) (hdb : (x == ("__debug__" : Str)) = false := by decide) (he : starEach (e :: es) X.env = (false, eval e X.env) :: starEach es X.env := by rfl) (hpl : (backTo pos (starEach es X.env)).any (·.1) = false := by rfl) :
    PE X (.Call (.Name x p) (e :: es) [] pos) (tCall sp [] E (tDfl t dvs)) := by
  obtain ⟨⟨fd, F, ds, hd, b⟩, kp⟩ := F
  have h := pe_call (p := p) F hr hg hm kp b hd hx ha hdb he hpl
  refine ⟨fun pins s σ H Q I q => h.run pins s σ H Q I ?_⟩
  have q' : t σ H fun vs H1 => sp ((vs ++ dvs) ++ []) H1 Q E := q
  show t σ H fun vs H1 => sp (vs ++ dvs) H1 Q E
  simpa only [List.append_nil] using q'
theorem pcallSD (F : FnD X.prog X.w X.K X.mg X.base (L2.CX X.prog X.w) k (x, none) ps dvs sp) (hr : Room k X.A) (hg : Gl X x) (hm : X.mg x = some (.ref (He.ga X.K x))) (tk : Takes X W)
    (ha : PA X (e :: es) t) (hdb : (x == ("__debug__" : Str)) = false := by decide) (he : starEach (e :: es) X.env = (false, eval e X.env) :: starEach es X.env := by rfl) (hpl : (backTo pos (starEach es X.env)).any (·.1) = false := by rfl) :
    PE X (.Call (.Name x p) (e :: es) [] pos) (tCallS sp (WE W) (tDfl t dvs)) := by
  obtain ⟨⟨fd, F, ds, hd, b⟩, kp⟩ := F
  refine ⟨fun pins s σ H Q I h => ?_⟩
  refine wpAny_Call_Name_kw (ld_glob I hg hm ?_ hdb)
  refine PySem.W.callWith_K (h₀ := X.base) I.ok.mod.kin kp (thn (ha.run pos pins s σ H _ I h) fun us s1 ⟨vs, H1, I1, r, q⟩ => ⟨I1.kIn, ?_⟩) he hpl
  have r2 : Vals (vs ++ dvs) (us ++ ds) := r.append hd
  have hl : (us ++ ds).length = ps.length := by rw [← r2.length]; exact F.len _ _ _ _ q
  refine wpAny_call (codeAny_mono (F.run X.A X.stack s1 H1 ⟨us, []⟩ (us ++ ds) (vs ++ dvs) Q (WE W σ) hr I1.env0 (b s1 us I1.kIn hl) r2 q) fun z s' hq => ?_)
  cases z with
  | error e => exact passAt tk σ pins H1 s1 e s' I1 hq
  | ok fl =>
    cases fl with
    | ret u => exact I1.after hq
    | next => exact False.elim hq
    | brk => exact False.elim hq
    | cont => exact False.elim hq
theorem pmakeD (M : Mk X.K (He.ga X.K x) (He.ma X.K (He.ga X.K x) "__init__")) (F : FnD X.prog X.w X.K X.mg X.base CX k (x, some "__init__") ps dvs sp) (hr : Room (k + 1) X.A) (hg : Gl X x) (hm : X.mg x = some (.ref (He.ga X.K x))) (hx : Passes CX X E)
    (ha : PA X (e :: es) t) (hdb : (x == ("__debug__" : Str)) = false := by decide) (he : starEach (e :: es) X.env = (false, eval e X.env) :: starEach es X.env := by rfl) (hpl : (backTo pos (starEach es X.env)).any (·.1) = false := by rfl) :
    PE X (.Call (.Name x p) (e :: es) [] pos) (tMake (He.ga X.K x) sp [] E (tDfl t dvs)) := by
  obtain ⟨⟨fd, F, ds, hd, b⟩, kp⟩ := F
  have h := pe_make (p := p) M F hr hg hm b hd hx ha hdb he hpl
  refine ⟨fun pins s σ H Q I q => h.run pins s σ H Q I ?_⟩
  have q' : t σ H fun vs H1 => ∀ x dx, H1 x = none → H1 dx = none → dx ≠ x → sp (.ref x :: ((vs ++ dvs) ++ [])) (upd (upd H1 dx (.own x)) x (.ins _ dx [])) (fun v H2 => v = .non ∧ Q (.ref x) H2) E := q
  show t σ H fun vs H1 => ∀ y dx, H1 y = none → H1 dx = none → dx ≠ y → sp (.ref y :: (vs ++ dvs)) (upd (upd H1 dx (.own y)) y (.ins _ dx [])) (fun v H2 => v = .non ∧ Q (.ref y) H2) E
  simpa only [List.append_nil] using q'
theorem run_makeXD {pins : List (Addr × Obj)} {σ : L2.St} {H : Hp} {s : Shared} {Q : VK} {us : List Value} {ds : List Value} {vs : List V} {C f : Addr} {fd : FuncData} (M : Mk X.K C f) (F : FnOk X.prog X.w X.K X.mg X.base (L2.CX X.prog X.w) k f fd ps sp) (hr : Room (k + 1) X.A) (hb : Binds X.K fd ps ds) (hd : Vals dvs ds)
    (tk : Takes X W) (I : Inv X pins σ H s) (r : Vals vs us) (h : ∀ x dx, H x = none → H dx = none → dx ≠ x → sp (.ref x :: (vs ++ dvs)) (upd (upd H dx (.own x)) x (.ins C dx [])) (fun v H2 => v = .non ∧ Q (.ref x) H2) (WE W σ)) :
    wpAny (model X.prog X.w) X.A (call (.ref C) us) (EP X pins σ Q) X.xe s := by
  have q0 := h (s.heap.objs.size + 1) s.heap.objs.size (I.hok.fresh (Nat.le_succ _)) (I.hok.fresh (Nat.le_refl _)) (Nat.ne_of_lt (Nat.lt_succ_self _))
  have J := Inv.made (C := C) I
  have r2 : Vals (V.ref (s.heap.objs.size + 1) :: (vs ++ dvs)) (Value.ref (s.heap.objs.size + 1) :: (us ++ ds)) := .cons rfl (r.append hd)
  have hl : ((Value.ref (s.heap.objs.size + 1) :: us) ++ ds).length = ps.length := by
    have e := r2.length
    rw [F.len _ _ _ _ q0] at e
    exact e.symm
  refine wpAny_call (make_map (f := f) I.kIn M.makes M.init (beq_iff_eq.mp M.fn) (codeAny_mono (F.run _ X.stack _ _ ⟨Value.ref (s.heap.objs.size + 1) :: us, []⟩ (Value.ref (s.heap.objs.size + 1) :: (us ++ ds)) _ _ (WE W σ) (hr.make C us [])
    (J.env0.make C us []) (hb _ (Value.ref (s.heap.objs.size + 1) :: us) J.kIn hl) r2 q0) fun r s' hq' => ?_))
  cases r with
  | error e => exact passAt tk σ pins _ _ e s' J hq'
  | ok fl =>
    cases fl with
    | ret u =>
      obtain ⟨v, H', I3, rv, ev, q3⟩ := J.after hq'
      subst ev
      exact ⟨rv, ⟨V.ref (s.heap.objs.size + 1), H', I3, rfl, q3⟩⟩
    | next => exact False.elim hq'
    | brk => exact False.elim hq'
    | cont => exact False.elim hq'
theorem pmakeXD (M : Mk X.K (He.ga X.K x) (He.ma X.K (He.ga X.K x) "__init__")) (F : FnD X.prog X.w X.K X.mg X.base (L2.CX X.prog X.w) k (x, some "__init__") ps dvs sp) (hr : Room (k + 1) X.A) (hg : Gl X x) (hm : X.mg x = some (.ref (He.ga X.K x))) (tk : Takes X W)
    (ha : PA X (e :: es) t) (hdb : (x == ("__debug__" : Str)) = false := by decide) (h1 : starEach (e :: es) X.env = (false, eval e X.env) :: starEach es X.env := by rfl) (h2 : (backTo pos (starEach es X.env)).any (·.1) = false := by rfl) :
    PE X (.Call (.Name x p) (e :: es) [] pos) (tMakeX (He.ga X.K x) sp (WE W) (tDfl t dvs)) := by
  obtain ⟨⟨fd, F, ds, hd, b⟩, kp⟩ := F
  refine ⟨fun pins s σ H Q I h => wpAny_Call_Name_kw (ld_glob I hg hm ?_ hdb)⟩
  exact PySem.W.callWith_K (h₀ := X.base) I.ok.mod.kin M.kp (thn (ha.run pos pins s σ H _ I h) fun us s1 ⟨vs, H1, I1, r, q⟩ => ⟨I1.kIn, run_makeXD M F hr b hd tk I1 r q⟩) h1 h2
end
section
variable {K : PySem.W.Frag} {W : Cw}
theorem RepRs.app {wf w w' : Wd} : ∀ {rs qs : List Rv} {vs us : List V}, RepRs K wf w w' rs vs → RepRs K wf w w' qs us → RepRs K wf w w' (rs ++ qs) (vs ++ us)
  | [], _, [], _, _, h => h
  | r :: rs, _, v :: vs, _, h, g => ⟨h.1, RepRs.app h.2 g⟩
  | [], _, _ :: _, _, h, _ => h.elim
  | _ :: _, _, [], _, h, _ => h.elim
theorem reprs_v {wf w w' : Wd} : ∀ {ds : List Da} {vs : List V}, Reps K w' ds vs → RepRs K wf w w' (ds.map .v) vs
  | _, _, .nil => True.intro
  | _, _, .cons h r => ⟨h, reprs_v r⟩
theorem snd_dfl {ta : TA} {fa : FA} {dvs : List V} {ds : List Da} (hd : ∀ w : Wd, Reps K w ds dvs) (ha : SndA K W ta fa) : SndA K W (tDfl ta dvs) (fDfl fa ds) := by
  intro wf w S σd σv Q s h
  refine ha.run (Le.refl w) s h fun rs S1 w1 vs L1 st1 R1 h1 => ?_
  exact h1 w1 _ L1 st1 (R1.app (reprs_v (hd w1)))
/-! ### an empty tuple among the defaults -/
theorem reps_dn {w : Wd} : Reps K w [] [] := .nil
end
/-! ## the facts of the head about empty tuples -/
theorem et_of {K : PySem.W.Frag} {a : Addr} (h : ETb K a = true) : KT K a [] := by
  unfold ETb at h
  split at h
  · rename_i o e
    obtain ⟨a1, q⟩ := Bool.and_eq_true_iff.mp h
    split at q
    · rename_i its n e2
      have e3 : its = #[] := by simpa using q
      subst e3
      exact ⟨o, #[], n, e, of_decide_eq_true a1, e2, by decide, .nil⟩
    · cases q
  · cases h
theorem rep_et {K : PySem.W.Frag} {a : Addr} (h : KT K a []) (w : Wd) : Rep K w (.tup []) (.ref a) := .tup (.inr h) .nil
end Cl

/-! ## SetL -/
namespace Cl
/-! ## len(set(xs)), xs a list or a tuple of texts: how many are different -/
section
open PySem PySem.Spec PyProof.Rows
def ndR : List Str → Nat
  | [] => 0
  | x :: r => if x ∈ r then ndR r else ndR r + 1
/-- how many different texts -/
def nd (xs : List Str) : Nat := ndR xs.reverse
theorem nd_snoc (xs : List Str) (x : Str) : nd (xs ++ [x]) = if x ∈ xs then nd xs else nd xs + 1 := by
  unfold nd
  rw [List.reverse_append]
  show ndR (x :: xs.reverse) = _
  simp only [ndR, List.mem_reverse]
theorem ndR_le : ∀ r : List Str, ndR r ≤ r.length
  | [] => Nat.le_refl 0
  | x :: r => by
    have := ndR_le r
    simp only [ndR, List.length_cons]
    split <;> omega
theorem nd_le (xs : List Str) : nd xs ≤ xs.length := by
  have := ndR_le xs.reverse
  rwa [List.length_reverse] at this
theorem ndR_iff : ∀ r : List Str, ndR r = r.length ↔ r.Nodup
  | [] => by simp [ndR]
  | x :: r => by
    have ih := ndR_iff r
    have hl := ndR_le r
    rw [List.nodup_cons]
    simp only [ndR, List.length_cons]
    by_cases h : x ∈ r
    · rw [if_pos h]
      exact ⟨fun e => by omega, fun e => absurd h e.1⟩
    · rw [if_neg h]
      exact ⟨fun e => ⟨h, ih.mp (by omega)⟩, fun e => by rw [ih.mpr e.2]⟩
theorem nd_iff (xs : List Str) : nd xs = xs.length ↔ xs.Nodup := by
  have := ndR_iff xs.reverse
  rwa [List.length_reverse, (List.reverse_perm xs).nodup_iff] at this
abbrev eS (led : Bool) : Obj := { cls := .type "set", dict := none, data := .set #[] 0 (.fresh 0 0 led) }
abbrev StD (p : Program) (w : World) (h : Heap) (D : Addr) (xs : List Str) : Prop := h.SetOf (PySem.strKind p w) D (fun z => decide (z ∈ xs)) (nd xs)
theorem StD.keep {p : Program} {w : World} {h h' : Heap} {D : Addr} {xs : List Str} (r : StD p w h D xs) (k : ∀ o, h.get? D = some o → h'.get? D = some o) : StD p w h' D xs :=
  let ⟨o, es, ep, t, ho, rest⟩ := r
  ⟨o, es, ep, t, k o ho, rest⟩
section
variable {p : Program} {w : World} {B : Around} {R : Result → Shared → Prop} {J D : Addr} {fp wr : List Addr} {G : Array GenState → Array GenState → Prop} {n : Nat} {Pv : Nat → Value → Prop} {St : Nat → Shared → Prop}
/-- the turns of set.update over texts -/
theorem upd_texts (W : WalksS p w B.in1 J fp wr G n Pv St) (hD : D ∉ fp) (xs : List Str) (hn : n = xs.length) (hb : n + 1 < scanBound) (hv : ∀ i v, Pv i v → ∃ z t, xs[i]? = some z ∧ v = .str z t) :
    ∀ (m i : Nat) (q : Shared), i + m = n → St i q → StD p w q.heap D (xs.take i) → (∀ q', Moved (D :: wr) G q q' → StD p w q'.heap D xs → R (.ok (.ret .none)) q') →
      codeAny (model p w) B (.builtin "set.update.loop" ⟨[.ref D, .ref J], []⟩) R q := by
  have hDw : D ∉ wr := fun z => hD (W.sub _ z)
  have up : ∀ b ∈ wr, b ∈ D :: wr := fun b z => List.mem_cons_of_mem _ z
  intro m
  induction m with
  | zero =>
    intro i q hi hst hS hR
    have e : xs.take i = xs := List.take_of_length_le (by omega)
    rw [e] at hS
    have hin : i = n := by omega
    rw [hin] at hst
    refine codeAny_builtin PyProof.Rows.F.entry_set_update_loop ?_
    rw [Around.under_plainId PyProof.Rows.F.plain_set_update_loop _]
    exact wpAny_bind (W.done q _ _ hst fun q' mv => wpAny_pure (hR q' (mv.mono up) (hS.keep fun o z => mv.heap D o hDw z)))
  | succ m ih =>
    intro i q hi hst hS hR
    refine codeAny_builtin PyProof.Rows.F.entry_set_update_loop ?_
    rw [Around.under_plainId PyProof.Rows.F.plain_set_update_loop _]
    refine wpAny_bind (W.item i q _ _ (by omega) hst fun v q1 hP hst1 mv => ?_)
    obtain ⟨z, t, hz, rfl⟩ := hv i v hP
    have hS1 : StD p w q1.heap D (xs.take i) := hS.keep fun o y => mv.heap D o hDw y
    have hroom : nd (xs.take i) + 1 < scanBound := by
      have := nd_le (xs.take i)
      rw [List.length_take] at this
      omega
    refine wpAny_bind (wpAny_holding ?_)
    unfold setAdd
    refine wpAny_holding (wpAny_bind ((PySem.strKind p w).pyHash (k := z) (strKind_is _ _ _ _) ?_))
    refine wpAny_setAddHashed_of (knd := PySem.strKind p w) (s := { q1 with toks := q1.toks + 1 }) (strKind_is _ _ _ _) rfl hS1 hroom fun h2 same hS2 => ?_
    have hS3 : StD p w h2 D (xs.take (i + 1)) := by
      have e : xs.take (i + 1) = xs.take i ++ [z] := by rw [List.take_add_one, hz]; rfl
      rw [e]
      refine SetOf_congr hS2 (fun y => ?_) ?_
      · simp only [List.mem_append, List.mem_singleton, Bool.decide_or]
      · rw [nd_snoc]; simp only [decide_eq_true_eq]
    have ne : ∀ b, b ≠ D → ∀ o, q1.heap.get? b = some o → h2.get? b = some o := fun b hb o y => by rw [same.2 b hb]; exact y
    refine wpAny_pure ⟨plainId_quiet PyProof.Rows.F.plain_set_update_loop _, ih (i + 1) _ (by omega) (W.frame _ q1 _ _ hst1 (Nat.le_succ _) fun b hb o y => ne b (fun c => hD (c ▸ hb)) o y) hS3 fun q3 mv3 hS4 => ?_⟩
    exact hR q3 (Moved.trans W.gtrans ((mv.mono up).then_heap (Nat.le_succ _) fun b o hb y => ne b (fun c => hb (c ▸ List.mem_cons_self)) o y) mv3) hS4
end
section
variable {p : Program} {w : World} {B : Around} {E : Value → Shared → Prop} {q : Shared}
/-- what the new set is, and what stays -/
abbrev SetMade (p : Program) (w : World) (q : Shared) (xs : List Str) (q2 : Shared) : Prop := ∃ h2 k, q2 = { q with heap := h2, toks := k } ∧ StD p w h2 q.heap.objs.size xs ∧ ∀ b o, b < q.heap.objs.size → q.heap.get? b = some o → h2.get? b = some o
theorem made_end {q2 : Shared} {led : Bool} {io : Obj} {J : Addr} {xs : List Str} (hJ : J = q.heap.objs.size + 1)
    (mv : Moved (q.heap.objs.size :: [J]) (fun a b => b = a) { q with heap := (q.heap.push (eS led)).push io } q2) (hS : StD p w q2.heap q.heap.objs.size xs) : SetMade p w q xs q2 := by
  obtain ⟨h2, g2, d2, k2, o2⟩ := q2
  have a1 : g2 = q.gens := mv.gens
  have a2 : d2 = q.drawn := mv.drawn
  have a3 : o2 = q.os := mv.os
  subst a1; subst a2; subst a3
  refine ⟨h2, k2, rfl, hS, fun b o hb y => mv.heap b o ?_ (Heap.get?_push_of_some _ (Heap.get?_push_of_some _ y))⟩
  simp only [List.mem_cons, List.not_mem_nil, or_false, not_or]
  exact ⟨Nat.ne_of_lt hb, by rw [hJ]; exact Nat.ne_of_lt (Nat.lt_succ_of_lt hb)⟩
theorem texts_at {its : Array Value} {xs : List Str} (hi : StrsAre its.toList xs) : its.size = xs.length ∧ ∀ (i : Nat) (v : Value), its[i]? = some v → ∃ z t, xs[i]? = some z ∧ v = .str z t := by
  have hl : its.size = xs.length := by rw [← StrsAre.len_eq hi, Array.length_toList]
  refine ⟨hl, fun i v e => ?_⟩
  obtain ⟨t, rfl⟩ := SS.strs_at hi i v (by rw [Array.getElem?_toList]; exact e)
  have hk : i < xs.length := by rw [← hl]; exact (Array.getElem?_eq_some_iff.mp e).1
  exact ⟨xs[i], t, List.getElem?_eq_getElem hk, by rw [List.getD_eq_getElem?_getD, List.getElem?_eq_getElem hk] <;> rfl⟩
theorem call_set_texts {l : Addr} {its : Array Value} {xs : List Str} {Q : Value → Shared → Prop} (hh : B.handled = none) (hl : q.heap.IsList l its ∨ q.heap.IsTuple l its) (hi : StrsAre its.toList xs) (hb : xs.length + 1 < scanBound)
    (h : ∀ q2, SetMade p w q xs q2 → Q (.ref q.heap.objs.size) q2) : wpAny (model p w) B (call (.type "set") [.ref l]) Q E q := by
  obtain ⟨hsz, hv⟩ := texts_at hi
  obtain ⟨c, tl, hmro⟩ := PySem.F.called_set.mro
  have k1 := PySem.F.called_set.made
  have k2 := PySem.F.called_set.sub
  have k3 := PySem.F.called_set.notType
  have k4 := PySem.F.called_set.canCreate
  have k5 := PySem.F.typeCall_set_1 (.ref l)
  refine wpAny_call (codeAny_of_tree ?_)
  show wpAny _ _ (callAny (.type "set") _) _ _ _
  refine wpAny_pure ⟨Code.quiet_builtin _ (by decide +kernel), ?_⟩
  refine codeAny_builtin PySem.F.entry_type_call ?_
  rw [Around.under_plain (weight_type_call_type "set" [.ref l] []) rfl]
  repeat (any_goals (first | assumption | wp_step))
  refine codeAny_mono (code_set_new_1 (.ref l) (E := E) (Q₁ := fun v q1 => ∃ led, v = .ref q.heap.objs.size ∧ q1 = { q with heap := q.heap.push (eS led) }) fun led => ⟨led, rfl, rfl⟩) fun r q1 hr => ?_
  cases r with
  | error e => exact hr
  | ok fl => cases fl with
    | ret v =>
      obtain ⟨led, rfl, rfl⟩ := hr
      have g1 : (q.heap.push (eS led)).get? q.heap.objs.size = some (eS led) := Heap.get?_push_size _ rfl
      have g2 : Shared.TypeIs { q with heap := q.heap.push (eS led) } (.ref q.heap.objs.size) "set" := ⟨_, g1, rfl⟩
      have k6 := PySem.F.called_set.init.lookup
      have k7 := PySem.F.called_set.init.bind (.ref q.heap.objs.size)
      repeat (any_goals (first | assumption | wp_step))
      refine codeAny_mono (codeAny_call_builtin (R := wants (fun r q2 => r = .none ∧ SetMade p w q xs q2) E) PySem.F.called_set.init.plain PySem.F.entry_set_init (check_set_init_1 g2 ?_)) fun r2 q2 hr2 => ?_
      · have hz1 : (q.heap.push (eS led)).objs.size = q.heap.objs.size + 1 := Heap.size_push ..
        have hh3 : B.in1.in1.in1.handled = none := by simp [hh]
        rcases hl with hl | hl
        · obtain ⟨ol, y1, y2, y3, y4⟩ := hl
          obtain ⟨oc, od, oa, os⟩ := ol
          simp only at y2 y4
          subst y2; subst y4
          have hlS : l < q.heap.objs.size := Heap.lt_size y1
          have y5 := Heap.get?_push_of_some (eS led) y1
          have y6 : (q.heap.push (eS led)).IsList l its := ⟨_, y5, rfl, y3, rfl⟩
          have m1 := PySem.F.sub_list_set
          have m2 := PySem.F.sub_list_frozenset
          have m3 : (Value.type "list" == Value.type "dict") = false := by decide
          unfold Builtin.«set.__init__» noKeywords Builtin.Frozenset.updateFrom
          generalize hPI : pyIter = PI
          wp_walk
          subst hPI
          refine wpAny_pyIter_list y6 (wpAny_bind (wpAny_runValue ?_))
          have ne1 : l ≠ (q.heap.push (eS led)).objs.size := by rw [hz1]; exact Nat.ne_of_lt (Nat.lt_succ_of_lt hlS)
          have ne2 : q.heap.objs.size ∉ [(q.heap.push (eS led)).objs.size, l] := by
            rw [hz1]
            simp only [List.mem_cons, List.not_mem_nil, or_false, not_or]
            exact ⟨Nat.ne_of_lt (Nat.lt_succ_self _), Nat.ne_of_gt hlS⟩
          refine upd_texts ((Walks.list hh3 _ l ne1 its).toS) ne2 xs hsz (by rw [hsz]; exact hb) hv its.size 0 _ (Nat.zero_add _) ⟨⟨_, Heap.get?_push_size _ rfl, rfl, rfl⟩, y6.push _⟩ ?_ fun q2 mv hS => ?_
          · have z1 := Heap.get?_push_of_some { cls := .type "list_iterator", data := .fields #[.ref l, .int 0 0] } g1
            exact SetOf_congr ((setObjOf_fresh (knd := PySem.strKind p w) led).setOf z1 (by unfold scanBound; omega)) (fun _ => by simp) rfl
          · refine wpAny_pure ?_
            exact wpAny_pure ⟨rfl, made_end hz1 mv hS⟩
        · obtain ⟨ol, y1, y2, y3, y4⟩ := hl
          obtain ⟨oc, od, oa, os⟩ := ol
          simp only at y2 y4
          subst y2; subst y4
          have hlS : l < q.heap.objs.size := Heap.lt_size y1
          have y5 := Heap.get?_push_of_some (eS led) y1
          have y6 : (q.heap.push (eS led)).IsTuple l its := ⟨_, y5, rfl, y3, rfl⟩
          have m1 := PySem.F.sub_tuple_set
          have m2 := PySem.F.sub_tuple_frozenset
          have m3 : (Value.type "tuple" == Value.type "dict") = false := by decide
          unfold Builtin.«set.__init__» noKeywords Builtin.Frozenset.updateFrom
          generalize hPI : pyIter = PI
          wp_walk
          subst hPI
          refine wpAny_pyIter_tuple y6 (wpAny_bind (wpAny_runValue ?_))
          have ne1 : l ≠ (q.heap.push (eS led)).objs.size := by rw [hz1]; exact Nat.ne_of_lt (Nat.lt_succ_of_lt hlS)
          have ne2 : q.heap.objs.size ∉ [(q.heap.push (eS led)).objs.size, l] := by
            rw [hz1]
            simp only [List.mem_cons, List.not_mem_nil, or_false, not_or]
            exact ⟨Nat.ne_of_lt (Nat.lt_succ_self _), Nat.ne_of_gt hlS⟩
          refine upd_texts ((Walks.tuple hh3 _ l ne1 its).toS) ne2 xs hsz (by rw [hsz]; exact hb) hv its.size 0 _ (Nat.zero_add _) ⟨⟨_, Heap.get?_push_size _ rfl, rfl, rfl⟩, y6.push _⟩ ?_ fun q2 mv hS => ?_
          · have z1 := Heap.get?_push_of_some { cls := .type "tuple_iterator", data := .fields #[.ref l, .int 0 0] } g1
            exact SetOf_congr ((setObjOf_fresh (knd := PySem.strKind p w) led).setOf z1 (by unfold scanBound; omega)) (fun _ => by simp) rfl
          · refine wpAny_pure ?_
            exact wpAny_pure ⟨rfl, made_end hz1 mv hS⟩
      · cases r2 with
        | error e => exact hr2
        | ok f2 => cases f2 with
          | ret v =>
            obtain ⟨rfl, hm⟩ := hr2
            repeat (any_goals (first | assumption | wp_step))
            exact h _ hm
          | _ => exact hr2.elim
    | _ => exact hr.elim
end
end
/-! ## the reading of len(set(e)) -/
section
open PySem PySem.Spec PyProof.Rows L2
variable {X : Cx}
def tLenS (K : PySem.W.Frag) (ta : TE) : TE := fun σ H Q => ta σ H fun x H1 => ∃ l, ∃ xs : List Str, x = .ref l ∧ (SqL K H1 l (xs.map V.str) ∨ SqT K H1 l (xs.map V.str)) ∧ xs.length ≤ 4000 ∧ Q (.int (nd xs : Nat)) H1
theorem pe_lenS {a : Expr} {ta : TE} {p p2 q pos : Pos} (hc : X.calm = true) (hg : Gl X "len") (hm : X.mg "len" = none) (hg2 : Gl X "set") (hm2 : X.mg "set" = none) (ha : PE X a ta)
    (na : starEach [a] X.env = (false, eval a X.env) :: starEach [] X.env := by rfl) : PE X (.Call (.Name "len" p) [.Call (.Name "set" p2) [a] [] q] [] pos) (tLenS X.K ta) := by
  refine ⟨fun pins s σ H Q I h => ?_⟩
  refine Call_ (ld_blt I hg hm boot_len (callWith_builtin1 (args_cons ?_ rfl) rfl rfl))
  refine Call_ (ld_blt I hg2 hm2 boot_set (callWith_type1 (args_cons (thn (ha.run pins s σ H _ I h) fun v s1 ⟨x, H1, I1, r1, q1⟩ => args_nil ?_) na) na rfl))
  obtain ⟨l, xs, rfl, hq, hl, q1⟩ := q1
  cases r1
  obtain ⟨its, hk, ht⟩ : ∃ its : List Value, (s1.heap.IsList l its.toArray ∨ s1.heap.IsTuple l its.toArray) ∧ Vals (xs.map V.str) its := by
    rcases hq with hq | hq
    · obtain ⟨its, r, pl, _⟩ := I1.list hq
      exact ⟨its, .inl pl.isList, r⟩
    · obtain ⟨its, r, pl, _⟩ := I1.tuple hq
      exact ⟨its, .inr pl, r⟩
  refine call_set_texts (I1.ok.hd hc) hk (xs := xs) (by simpa using strsAre_of ht) (by unfold scanBound; omega) fun q2 hm => ?_
  obtain ⟨h2, k2, rfl, hS, keep⟩ := hm
  obtain ⟨o, es, ep, t, ho, hex, hd, _, _, _, hf, hn⟩ := hS
  have I2 : Inv X pins σ H1 { s1 with heap := h2, toks := k2 } := I1.kept fun b o e => keep b o (Heap.lt_size e) e
  have hle := nd_le xs
  exact args_nil (call_len_set ho hex hd hf (by rw [hn] <;> omega) ⟨.int (nd xs : Nat), H1, I2.tok _, ⟨_, by rw [hn]⟩, q1⟩)
end
end Cl

/-! ## Fun14 -/
namespace Cl
open PySem PySem.Spec PyProof.Rows L2
section
variable {K : PySem.W.Frag} {W : Cw}
/-! ## len(set(xs)) -/
def fLenS (fe : FE) : FE := fun σ S => (fe σ S).bd fun r S1 => match r.rd S1 with
  | .lst ds => match strsD ds with
    | some xs => if xs.length ≤ 4000 then .ok (.v (.int (nd xs : Nat))) S1 else .bad
    | none => .bad
  | .tup ds => match strsD ds with
    | some xs => if xs.length ≤ 4000 then .ok (.v (.int (nd xs : Nat))) S1 else .bad
    | none => .bad
  | _ => .bad
theorem snd_lenS {te : TE} {fe : FE} (he : SndE K W te fe) : SndE K W (tLenS K te) (fLenS fe) := by
  intro wf w S σd σv Q s h
  refine he.run (Le.refl w) s h fun r S1 w1 v L1 st1 R1 h1 => ?_
  revert h1
  split
  · rename_i ds e0
    split
    · rename_i xs e1
      intro h1
      obtain ⟨hz, h2⟩ := h1.ite
      obtain ⟨a, vs, rfl, g1, g2⟩ := lstOf st1 R1 e0
      have hv := strsD_of g2 e1
      subst hv
      exact ⟨a, xs, rfl, .inl (SqL.of g1), hz, h2 w1 _ L1 st1 (.int _)⟩
    · intro h1; exact h1.elim
  · rename_i ds e0
    split
    · rename_i xs e1
      intro h1
      obtain ⟨hz, h2⟩ := h1.ite
      obtain ⟨a, vs, rfl, g1, g2⟩ := tupOf st1 R1 e0
      have hv := strsD_of g2 e1
      subst hv
      exact ⟨a, xs, rfl, .inr g1.sq, hz, h2 w1 _ L1 st1 (.int _)⟩
    · intro h1; exact h1.elim
  · intro h1; exact h1.elim
end
end Cl

/-! ## Own3 -/
namespace Cl
open PySem PySem.Spec PyProof.Rows L2
/-! ## a slot's own object lent to an expression (self.m(..) in __init__): what comes back is flat, the pools are flat -/
section
variable {K : PySem.W.Frag} {W : Cw} {wf w w1 w2 : Wd} {S S1 S2 : Sto} {σd : Env} {σv : L2.St}
theorem one_back {a : Addr} {d : Da} (c : ConR K w a d) (nm : a ∉ w.m) (L : Le (w.one a) w2) : ∀ b, b = a → ∃ o, w2.H b = some o ∧ (∀ vs, Rd w2.H b (.tup vs) → False) := fun b hb => by
  obtain ⟨o, eo⟩ := c.some
  have k := L.kp a o eo nm
  subst hb
  refine ⟨o, k.1, fun vs z => con_rd c vs ?_⟩
  rcases z with z | ⟨u, z⟩
  · rw [k.1] at z; exact .inl (by rw [eo]; exact z)
  · rw [k.1] at z; exact .inr ⟨u, by rw [eo]; exact z⟩
def Rv.flatR : Rv → Bool
  | .v d => d.flat
  | _ => false
def chkE : Ev Rv → Ev Rv
  | .ok r S => if r.flatR = true ∧ stoFlat S = true then .ok r S else .bad
  | _ => .bad
theorem chkE_ok {r : Rv} : chkE (.ok r S) = if r.flatR = true ∧ stoFlat S = true then .ok r S else .bad := id rfl
def fLendE (i : Nat) (fe : FE) : FE := fun σ S => match σ[i]? with
  | some (some (.own d _)) => chkE (fe (σ.set i (some (.v d))) S)
  | some (some (.v _)) => fe σ S
  | _ => .bad
theorem snd_lendE {i : Nat} {te : TE} {fe : FE} (h : SndE K W te fe) : SndE K W te (fLendE i fe) := by
  intro wf w S σd σv Q s hp
  unfold fLendE at hp
  split at hp
  · rename_i d b e
    obtain ⟨a, c, nm, ow, s1⟩ := s.one e
    refine h wf (w.one a) S _ σv Q s1 ?_
    revert hp
    cases fe (σd.set i (some (.v d))) S with
    | ok r S2 =>
      intro hp w' v L st R
      have h3 : PostE K W wf w σv Q (if r.flatR = true ∧ stoFlat S2 = true then .ok r S2 else .bad) := hp
      by_cases hc : r.flatR = true ∧ stoFlat S2 = true
      · rw [if_pos hc] at h3
        refine h3 (w'.back fun b => b = a) v (le_one ow L) (sto_one c nm L st hc.2) ?_
        cases r with
        | v d2 => exact rep_backF (one_back c nm L) R hc.1
        | fr d2 => cases hc.1
        | bo d2 => cases hc.1
      · rw [if_neg hc] at h3; exact h3.elim
    | ex e S2 => exact fun hp => (hp : False).elim
    | bad => exact fun hp => hp
  · exact h wf w S σd σv Q s hp
  · exact hp.elim
end
end Cl

/-! ## Fun15 -/
namespace Cl
open PySem PySem.Spec PyProof.Rows L2
section
variable {K : PySem.W.Frag} {W : Cw}
/-! ## xs.clear(), xs.extend(ys) of a slot's own list -/
def fClr (i : Nat) : FS := fun σ S => match σ[i]? with
  | some (some (.own (.lst _) b)) => .nx (σ.set i (some (.own (.lst []) b))) S
  | _ => .bad
theorem snd_clr {i : Nat} : SndS K W (tDrop (tBM K "list" rClear (tVar i) tNil)) (fClr i) := by
  intro wf w S σd σv D s h
  unfold fClr at h
  split at h
  · rename_i ds b e
    obtain ⟨v, ev, ⟨a, rfl, n, ⟨vs, g1, g2⟩, ow, nm⟩, _⟩ := s.sl i _ e
    refine ⟨_, ev, .inl ⟨rfl, vs, SqL.of g1⟩, a, vs, rfl, rfl, g1, ?_⟩
    exact h { w with H := L2.upd w.H a (.lst []) } σv (own_put ow) (s.put e ev ⟨[], upd_same, .nil⟩)
  · exact h.elim
def fExtS (i : Nat) (fe : FE) : FS := fun σ S => match σ[i]? with
  | some (some (.own (.lst ds) b)) => (fe σ S).so σ fun r S1 => match r.rd S1 with
    | .lst es => if ds.length + es.length ≤ 1000000 then .nx (σ.set i (some (.own (.lst (ds ++ es)) b))) S1 else .bad
    | _ => .bad
  | _ => .bad
theorem snd_extS {i : Nat} {te : TE} {fe : FE} (he : SndE K W te fe) : SndS K W (tDrop (tBM K "list" rExtend (tVar i) (tCons te tNil))) (fExtS i fe) := by
  intro wf w S σd σv D s h
  unfold fExtS at h
  split at h
  · rename_i ds b e
    obtain ⟨v, ev, ⟨a, rfl, n, ⟨vs, g1, g2⟩, ow, nm⟩, _⟩ := s.sl i _ e
    refine ⟨_, ev, .inl ⟨rfl, vs, SqL.of g1⟩, he.runS (Lf.refl w) s h fun r S1 w1 v L1 st1 R1 h1 => ?_⟩
    revert h1
    split
    · rename_i es e1
      intro h1
      obtain ⟨hz, h2⟩ := h1.ite
      obtain ⟨c, us, rfl, k1, k2⟩ := lstOf st1 R1 e1
      have hw : (w.frz w1).H a = some (.lst vs) := (L1.kp a _ g1 nm).1
      have how : (w.frz w1).ow a := ⟨(L1.kp a _ g1 nm).2.2.mpr ow, by rw [g1]; simp⟩
      refine ⟨a, c, vs, us, rfl, rfl, hw, k1, sz_le (by rw [g2.length, k2.length]; exact hz), ?_⟩
      refine h2 { w.frz w1 with H := L2.upd (w.frz w1).H a (.lst (vs ++ us)) } σv (L1.frz.lf.trans (own_put how)) ?_
      exact (s.step L1.frz st1.frz).put e ev ⟨vs ++ us, upd_same, ((g2.le L1.frz).app (k2.lf lf_frz)).lf (own_put how)⟩
    · intro h1; exact h1.elim
  · exact h.elim
/-! ## z.find(y) -/
def qFind : V → List V → Hp → VK → Prop := fun x xs H Q => ∃ a b, x = .str a ∧ xs = [.str b] ∧ Q (.int (Txt.find a b)) H
def fFind (fo fe : FE) : FE := fun σ S => (fo σ S).bd fun r S1 => match r with
  | .v (.str a) => (fe σ S1).bd fun q S2 => match q with
    | .v (.str b) => .ok (.v (.int (Txt.find a b))) S2
    | _ => .bad
  | _ => .bad
theorem snd_find {to te : TE} {fo fe : FE} (ho : SndE K W to fo) (he : SndE K W te fe) : SndE K W (tBM K "str" qFind to (tCons te tNil)) (fFind fo fe) := by
  intro wf w S σd σv Q s h
  refine ho.run (Le.refl w) s h fun r S1 w1 v L1 st1 R1 h1 => ?_
  revert h1
  split
  · rename_i a
    intro h1
    cases R1
    refine ⟨rfl, he.run L1 (s.step L1 st1) h1 fun q S2 w2 u L2 st2 R2 h2 => ?_⟩
    revert h2
    split
    · rename_i b
      intro h2
      cases R2
      exact ⟨a, b, rfl, rfl, h2 w2 _ (L1.trans L2) st2 (.int _)⟩
    · intro h2; exact h2.elim
  · intro h1; exact h1.elim
end
end Cl

/-! ## MinP -/
namespace Cl
open PySem PySem.Spec PyProof.Rows L2
/-! ## min(xs), xs a list of pairs of ints -/
def prI (p : Int × Int) : PyData := .tuple [.int p.1, .int p.2]
def lxP (p q : Int × Int) : Bool := decide (p.1 < q.1) || (decide (p.1 = q.1) && decide (p.2 < q.2))
def mnP (x : Int × Int) (xs : List (Int × Int)) : Int × Int := xs.foldl (fun a y => if lxP y a = true then y else a) x
theorem dataLt_pr (p q : Int × Int) : PySem.W.dataLt (prI p) (prI q) = lxP p q := by
  unfold prI
  rw [PySem.W.dataLt_tuple]
  by_cases h1 : p.1 = q.1
  · rw [PySem.W.dataLt_all_yes rfl (by simp [PyData.eqv, h1])]
    by_cases h2 : p.2 = q.2
    · rw [PySem.W.dataLt_all_yes rfl (by simp [PyData.eqv, h2])]
      simp [lxP, h1, h2]
      unfold PySem.W.keyToksAll
      exact PyProof.Rows.lex_irrefl (O := PyProof.Rows.itemOrd) _
    · rw [PySem.W.dataLt_all_no rfl (by simp [PyData.eqv, h2]), PySem.W.dataLt_int]; simp [lxP, h1]
  · rw [PySem.W.dataLt_all_no rfl (by simp [PyData.eqv, h1]), PySem.W.dataLt_int]; simp [lxP, h1]
theorem minD_pr (p : Int × Int) : ∀ ps : List (Int × Int), PySem.W.minD (prI p) (ps.map prI) = prI (mnP p ps) := by
  intro ps
  unfold PySem.W.minD mnP
  induction ps generalizing p with
  | nil => rfl
  | cons q r ih =>
    rw [List.map_cons, List.foldl_cons, List.foldl_cons, ← ih, dataLt_pr]
    congr 1
    by_cases h : lxP q p = true
    · rw [if_pos h, if_pos h]
    · rw [if_neg h, if_neg h]
theorem prI_inj {p q : Int × Int} (h : prI p = prI q) : p = q := by
  unfold prI at h
  injection h with h
  injection h with h1 h2
  injection h1 with h1
  injection h2 with h2 _
  injection h2 with h2
  exact Prod.ext h1 h2
theorem prI_depth (p : Int × Int) : (prI p).depth ≤ 2 := by simp [prI, PyData.depth, PyData.depthAll]
theorem prIs_depth : ∀ ps : List (Int × Int), PyData.depthAll (ps.map prI) ≤ 2
  | [] => by simp [PyData.depthAll]
  | p :: ps => by
    have h1 := prI_depth p
    have h2 := prIs_depth ps
    rw [List.map_cons, PyData.depthAll]
    exact Nat.max_le.mpr ⟨h1, h2⟩
theorem prIs_alike (ps : List (Int × Int)) : PySem.W.AlikeAll (ps.map prI) := by
  refine ⟨fun x hx y hy => ?_, fun x hx => ?_⟩
  · obtain ⟨p, _, rfl⟩ := List.mem_map.mp hx
    obtain ⟨q, _, rfl⟩ := List.mem_map.mp hy
    rfl
  · obtain ⟨p, _, rfl⟩ := List.mem_map.mp hx
    unfold prI
    intro h; cases h
def rMinP (K : PySem.W.Frag) : List V → Hp → VK → Prop := fun vs H Q => ∃ (a : Addr) (xs : List V) (p : Int × Int) (ps : List (Int × Int)), vs = [V.ref a] ∧ SqL K H a xs ∧ Dp K H (.ref a) (.list ((p :: ps).map prI)) ∧ ∀ (i : Nat) x, xs[i]? = some x → (p :: ps)[i]? = some (mnP p ps) → Q x H
theorem vals_at : ∀ {xs : List V} {us : List Value}, Vals xs us → ∀ {i : Nat} {u : Value}, us[i]? = some u → ∃ x, xs[i]? = some x ∧ RelV x u
  | _, _, .nil, i, u, h => by simp at h
  | _, _, .cons a r, 0, u, h => by
    have e := Option.some.inj (show some _ = some u from h)
    subst e
    exact ⟨_, rfl, a⟩
  | _, _, .cons a r, i + 1, u, h => by
    obtain ⟨x, e, q⟩ := vals_at r (i := i) (by simpa using h)
    exact ⟨x, by simpa using e, q⟩
theorem cr_minP {X : Cx} (hc : X.calm = true) (hu : X.A.units + 65 < cLine) : CallR X (.builtin "min") (rMinP X.K) := by
  intro pins s σ H vs us Q I r h
  obtain ⟨a, xs, p, ps, rfl, hs, hd, q⟩ := h
  obtain ⟨its, rv, hl, _⟩ := I.list hs
  rw [Vals.ref1 r]
  obtain ⟨as, hr⟩ := Dp.reads I _ _ (.ref a) hd rfl
  have hr2 : ∃ bs, ReadsAll s.heap its ((p :: ps).map prI) bs := by
    obtain ⟨o, n, ho, hcl, hdd, hda⟩ := hl
    cases hr with
    | list h1 h2 h3 h4 =>
      rw [ho] at h1
      cases h1
      rw [hda] at h3
      cases h3
      exact ⟨_, h4⟩
  obtain ⟨bs, hr2⟩ := hr2
  have hr3 : ReadsAll s.heap its.toArray.toList (prI p :: ps.map prI) bs := hr2
  have hdp : PyData.depthAll (prI p :: ps.map prI) ≤ 2 := prIs_depth (p :: ps)
  refine PySem.W.min_list_data (I.ok.hd hc) hl.isList hr3 (prIs_alike (p :: ps)) (by omega) fun i v h' tk bs' hv hR hk => ?_
  obtain ⟨bs2, g1, g2, _, _⟩ := PySem.W.readsAll_atA hr3 i v hv
  have hv2 : its[i]? = some v := by rw [List.getElem?_toArray] at hv; exact hv
  obtain ⟨x, hx, rx⟩ := vals_at rv hv2
  refine ⟨x, H, I.kept hk, rx, q i x hx ?_⟩
  have g3 := PySem.W.reads_keeps hk g1
  rw [minD_pr] at hR
  have g4 := (Reads.unique hR _ _ g3).1
  have hlen : i < (p :: ps).length := by simpa using g2
  have g5 : (prI p :: ps.map prI).getD i PyData.none = prI ((p :: ps)[i]) := by
    rw [show (prI p :: ps.map prI) = (p :: ps).map prI from rfl, List.getD_eq_getElem?_getD, List.getElem?_map, List.getElem?_eq_getElem hlen]; rfl
  rw [g5] at g4
  rw [List.getElem?_eq_getElem hlen, ← prI_inj g4]
def prD1 : Da → Option (Int × Int)
  | .tup [.int a, .int b] => some (a, b)
  | _ => none
def prsD : List Da → Option (List (Int × Int))
  | [] => some []
  | d :: ds => match prD1 d, prsD ds with
    | some p, some ps => some (p :: ps)
    | _, _ => none
def prT (p : Int × Int) : Da := .tup [.int p.1, .int p.2]
theorem prD1_of {d : Da} {p : Int × Int} (h : prD1 d = some p) : d = prT p := by
  unfold prD1 at h
  split at h
  · cases h; rfl
  · cases h
theorem prsD_of : ∀ {ds : List Da} {ps : List (Int × Int)}, prsD ds = some ps → ds = ps.map prT
  | [], ps, h => by cases h; rfl
  | d :: ds, ps, h => by
    unfold prsD at h
    split at h
    · rename_i e1 e2
      cases h
      rw [prD1_of e1, prsD_of e2]; rfl
    · cases h
theorem prsD_map : ∀ ps : List (Int × Int), prsD (ps.map prT) = some ps
  | [] => rfl
  | p :: ps => by
    rw [List.map_cons]
    unfold prsD
    rw [prsD_map ps]
    rfl
theorem pys_pr : ∀ ps : List (Int × Int), pys (ps.map prT) = some (ps.map prI)
  | [] => rfl
  | p :: ps => by
    have e : (prT p).py = some (prI p) := by simp [prT, Da.py, pys, prI]
    rw [List.map_cons, pys, pys_pr ps, e]; rfl
section
variable {K : PySem.W.Frag} {W : Cw}
def bMinP : FB
  | [r], S => match r.rd S with
    | .lst ds => match prsD ds with
      | some (p :: ps) => .ok (.v (prT (mnP p ps))) S
      | _ => .bad
    | _ => .bad
  | _, _ => .bad
theorem sMinP : CbS K W (rMinP K) bMinP := by
  intro wf w w2 S σd σv rs vs Q s L R h
  unfold bMinP at h
  split at h
  · obtain ⟨v, rfl, R1⟩ := R.one
    split at h
    · rename_i ds e
      split at h
      · rename_i p ps e2
        obtain ⟨a, us, rfl, g1, g2⟩ := lstOf s.st R1 e
        have e3 := prsD_of e2
        have hdp := dpR_of (p := .list ((p :: ps).map prI)) s.st R1 (by rw [e, e3]; simp only [Da.py]; rw [pys_pr])
        refine ⟨a, us, p, ps, rfl, SqL.of g1, hdp, fun i x hx hi => ?_⟩
        obtain ⟨d, hd, Rx⟩ := g2.at' hx
        rw [e3, List.getElem?_map, hi] at hd
        have hd2 : prT (mnP p ps) = d := Option.some.inj hd
        rw [hd2] at h
        exact h w2 _ L s.st Rx
      · exact h.elim
    · exact h.elim
  · exact h.elim
end
/-! ### the least pair -/
theorem lxP_irr (p : Int × Int) : lxP p p = false := by simp [lxP]
theorem mnP_mem : ∀ (ps : List (Int × Int)) (p : Int × Int), mnP p ps ∈ p :: ps ∧ ∀ y ∈ p :: ps, lxP y (mnP p ps) = false
  | [], p => ⟨by simp [mnP], fun y h => by simp at h; subst h; exact lxP_irr _⟩
  | q :: r, p => by
    have e : mnP p (q :: r) = mnP (if lxP q p = true then q else p) r := rfl
    obtain ⟨h1, h2⟩ := mnP_mem r (if lxP q p = true then q else p)
    rw [e]
    by_cases hc : lxP q p = true
    · rw [if_pos hc] at h1 h2 ⊢
      refine ⟨List.mem_cons_of_mem _ h1, fun y hy => ?_⟩
      rcases List.mem_cons.mp hy with rfl | hy
      · have := h2 q List.mem_cons_self
        simp only [lxP, Bool.or_eq_false_iff, Bool.and_eq_false_iff, decide_eq_false_iff_not, Bool.or_eq_true, Bool.and_eq_true, decide_eq_true_eq] at this hc ⊢
        omega
      · exact h2 y hy
    · rw [if_neg hc] at h1 h2 ⊢
      refine ⟨?_, fun y hy => ?_⟩
      · rcases List.mem_cons.mp h1 with h | h
        · rw [h]; exact List.mem_cons_self
        · exact List.mem_cons_of_mem _ (List.mem_cons_of_mem _ h)
      · rcases List.mem_cons.mp hy with rfl | hy
        · exact h2 y List.mem_cons_self
        · rcases List.mem_cons.mp hy with rfl | hy
          · have := h2 p List.mem_cons_self
            simp only [lxP, Bool.or_eq_false_iff, Bool.and_eq_false_iff, decide_eq_false_iff_not, Bool.or_eq_true, Bool.and_eq_true, decide_eq_true_eq] at this hc ⊢
            omega
          · exact h2 y (List.mem_cons_of_mem _ hy)
end Cl

/-! ## Fun16 -/
namespace Cl
open PySem PySem.Spec PyProof.Rows L2
/-! ## stores into cells that an expression tells; dicts copied, by comprehension; sorted -/
section
variable {K : PySem.W.Frag} {W : Cw} {wf w w1 w2 : Wd} {S S1 : Sto} {σd : Env} {σv : L2.St} {D : Ends}
/-- xs.append(e), xs an expression that tells a cell -/
def fAppE (fo fe : FE) : FS := fun σ S => (fo σ S).so σ fun ro S0 => match ro with
  | .v (.cell n) => match S0[n]? with
    | some (.lst _) => (fe σ S0).so σ fun r S1 => match r.toD, S1[n]? with
      | some d, some (.lst ds) => if ds.length < 1000000 then .nx σ (S1.set n (.lst (ds ++ [d]))) else .bad
      | _, _ => .bad
    | _ => .bad
  | _ => .bad
theorem snd_appE {to te : TE} {fo fe : FE} (ho : SndE K W to fo) (he : SndE K W te fe) : SndS K W (tDrop (tBM K "list" rAppend to (tCons te tNil))) (fAppE fo fe) := by
  intro wf w S σd σv D s h
  refine ho.runS (Lf.refl w) s h fun ro S0 w0 v0 L0 st0 R0 h0 => ?_
  revert h0
  split
  · rename_i n
    split
    · rename_i ds0 hS
      intro h0
      cases R0 with
      | cell hm =>
        rename_i a
        obtain ⟨vs0, g0, _⟩ := st0.at_ n a _ hm hS
        have s0 := s.step L0 st0
        refine ⟨.inl ⟨rfl, vs0, SqL.of g0⟩, he.runS L0.lf s0 h0 fun r S1 w1 v L1 st1 R1 h1 => ?_⟩
        revert h1
        split
        · rename_i d ds ed eS
          intro h1
          obtain ⟨hz, h2⟩ := h1.ite
          have hm1 : (w0.frz w1).m[n]? = some a := pre_at L1.pre hm
          have st2 : StoR K (w0.frz w1) S1 := st1.frz
          obtain ⟨vs, g1, g2⟩ := st2.at_ n a _ hm1 eS
          refine ⟨a, vs, v, rfl, rfl, g1, sz_lt (by rw [g2.length]; omega), ?_⟩
          refine h2 { w0.frz w1 with H := L2.upd (w0.frz w1).H a (.lst (vs ++ [v])) } σv ((L0.trans L1.frz).lf.trans (lf_putC hm1)) ?_
          exact (s0.step L1.frz st2).putC hm1 ⟨vs ++ [v], upd_same, (g2.app (.cons (R1.frz ed) .nil)).lf (lf_putC hm1)⟩
        · intro h1; exact h1.elim
    · intro h0; exact h0.elim
  · intro h0; exact h0.elim
/-- xs[i] = e, xs an expression that tells a cell -/
def fSetIE (fo fe fi : FE) : FS := fun σ S => (fe σ S).so σ fun r S1 => (fo σ S1).so σ fun ro S2 => (fi σ S2).so σ fun q S3 => match ro, q, r.toD with
  | .v (.cell n), .v (.int k), some d => match S3[n]? with
    | some (.lst ds) => match ixN ds.length k with
      | some j => .nx σ (S3.set n (.lst (ds.set j d)))
      | none => .bad
    | _ => .bad
  | _, _, _ => .bad
theorem snd_setIE {to te ti : TE} {fo fe fi : FE} (ho : SndE K W to fo) (he : SndE K W te fe) (hi : SndE K W ti fi) : SndS K W (tAsg te (gSub to ti rSetL)) (fSetIE fo fe fi) := by
  intro wf w S σd σv D s h
  refine he.runS (Lf.refl w) s h fun r S1 w1 v L1 st1 R1 h1 => ho.runS L1.lf (s.step L1 st1) h1 fun ro S2 w2 v2 L2 st2 R2 h2 => hi.runS (L1.trans L2).lf (s.step (L1.trans L2) st2) h2 fun q S3 w3 u L3 st3 R3 h3 => ?_
  revert h3
  split
  · rename_i n k d ed
    split
    · rename_i ds eS
      split
      · rename_i j ej
        intro h3
        have L := (L1.trans L2).trans L3
        cases R3
        cases R2 with
        | cell hm =>
          rename_i a
          have hm1 : (w.frz w3).m[n]? = some a := pre_at L3.pre hm
          have st4 : StoR K (w.frz w3) S3 := st3.frz
          obtain ⟨vs, g1, g2⟩ := st4.at_ n a _ hm1 eS
          refine ⟨a, vs, k, j, rfl, rfl, g1, by rw [g2.length]; exact ej, ?_⟩
          refine h3 { w.frz w3 with H := upd (w.frz w3).H a (.lst (vs.set j v)) } σv (L.frz.lf.trans (lf_putC hm1)) ?_
          exact (s.step L.frz st4).putC hm1 ⟨vs.set j v, upd_same, (g2.set ((R1.le (L2.trans L3)).frz ed) j).lf (lf_putC hm1)⟩
      · intro h3; exact h3.elim
    · intro h3; exact h3.elim
  · intro h3; exact h3.elim
/-- d[k] = v, d an expression that tells a cell -/
def fDPutE (fo fk fv : FE) : FS := fun σ S => (fv σ S).so σ fun r S1 => (fo σ S1).so σ fun ro S2 => (fk σ S2).so σ fun q S3 => match ro, q, r.toD with
  | .v (.cell n), .v kd, some x => match kd.key, S3[n]? with
    | some k, some (.dic ks ds) => if ks.length < 1000000 then .nx σ (S3.set n (.dic (putKs ks k) (putDs ks ds k x))) else .bad
    | _, _ => .bad
  | _, _, _ => .bad
theorem snd_dputE {to tk tv : TE} {fo fk fv : FE} (ho : SndE K W to fo) (hk : SndE K W tk fk) (hv : SndE K W tv fv) : SndS K W (sDPut to tk tv) (fDPutE fo fk fv) := by
  intro wf w S σd σv D s h
  refine hv.runS (Lf.refl w) s h fun r S1 w1 v L1 st1 R1 h1 => ho.runS L1.lf (s.step L1 st1) h1 fun ro S2 w2 v2 L2 st2 R2 h2 => hk.runS (L1.trans L2).lf (s.step (L1.trans L2) st2) h2 fun q S3 w3 u L3 st3 R3 h3 => ?_
  revert h3
  split
  · rename_i n kd x ed
    split
    · rename_i k ks ds ek eS
      intro h3
      obtain ⟨hz, h4⟩ := h3.ite
      have L := (L1.trans L2).trans L3
      have hu : u = kV k := key_of R3 ek
      cases R2 with
      | cell hm =>
        rename_i a
        have hm1 : (w.frz w3).m[n]? = some a := pre_at L3.pre hm
        have st4 : StoR K (w.frz w3) S3 := st3.frz
        obtain ⟨kvs, g1, g2, g3⟩ := st4.at_ n a _ hm1 eS
        have hkl : kvs.length = ks.length := by rw [← g2, List.length_map]
        have hl : kvs.length < sizeLine := sz_lt (by omega)
        obtain ⟨p1, p2⟩ := put_rel (k := k) g2 g3 ((R1.le (L2.trans L3)).frz ed)
        refine ⟨a, upd w3.H a (.dK (putK kvs k v)), rfl, by rw [hu]; exact DPut.k g1 hl, ?_⟩
        refine h4 { w.frz w3 with H := upd (w.frz w3).H a (.dK (putK kvs k v)) } σv (L.frz.lf.trans (lf_putC hm1)) ?_
        exact (s.step L.frz st4).putC hm1 ⟨putK kvs k v, upd_same, p1, p2.lf (lf_putC hm1)⟩
    · intro h3; exact h3.elim
  · intro h3; exact h3.elim
/-- d[k] += v, d a slot's own, numbers -/
def fDAug (i : Nat) (fk fv : FE) : FS := fun σ S => match σ[i]? with
  | some (some (.own (.dic ks ds) b)) => (fk σ S).so σ fun q S1 => match q with
    | .v kd => match kd.key with
      | some k => match getK ks ds k with
        | some (.int m) => (fv σ S1).so σ fun r S2 => match r with
          | .v (.int n) => if ks.length < 1000000 then .nx (σ.set i (some (.own (.dic (putKs ks k) (putDs ks ds k (.int (m + n)))) b))) S2 else .bad
          | _ => .bad
        | _ => .bad
      | none => .bad
    | _ => .bad
  | _ => .bad
theorem snd_daug {i : Nat} {tk tv : TE} {fk fv : FE} (hk : SndE K W tk fk) (hv : SndE K W tv fv) : SndS K W (sDAug (tVar i) tk tv rAdd) (fDAug i fk fv) := by
  intro wf w S σd σv D s h
  unfold fDAug at h
  split at h
  · rename_i ks ds b e
    obtain ⟨v0, ev, ⟨a, rfl, n, ⟨kvs, g1, g2, g3⟩, ow, nm⟩, _⟩ := s.sl i _ e
    refine ⟨_, ev, hk.runS (Lf.refl w) s h fun q S1 w1 u L1 st1 R1 h1 => ?_⟩
    revert h1
    split
    · rename_i kd
      split
      · rename_i k ek
        split
        · rename_i m em
          intro h1
          have hu : u = kV k := key_of R1 ek
          obtain ⟨a1, a2, a3⟩ := L1.kp a _ g1 nm
          obtain ⟨v1, g4, g5⟩ := (getK_of g2 (g3.le L1)).1 _ em
          cases g5
          refine ⟨a, .int m, rfl, ?_, hv.runS L1.lf (s.step L1 st1) h1 fun r S2 w2 v2 L2 st2 R2 h2 => ?_⟩
          · rw [hu, ← g4]; exact DGet.k a1
          · revert h2
            split
            · rename_i n'
              intro h2
              obtain ⟨hz, h3⟩ := h2.ite
              cases R2
              have L := L1.trans L2
              have hw : (w.frz w2).H a = some (.dK kvs) := (L.kp a _ g1 nm).1
              have how : (w.frz w2).ow a := ⟨(L.kp a _ g1 nm).2.2.mpr ow, by rw [g1]; simp⟩
              have hkl : kvs.length = ks.length := by rw [← g2, List.length_map]
              have hl : kvs.length < sizeLine := sz_lt (by omega)
              obtain ⟨p1, p2⟩ := put_rel (k := k) g2 (g3.le L.frz) (Rep.int (m + n'))
              refine ⟨m, n', rfl, rfl, upd w2.H a (.dK (putK kvs k (.int (m + n')))), by rw [hu]; exact DPut.k hw hl, ?_⟩
              refine h3 { w.frz w2 with H := upd (w.frz w2).H a (.dK (putK kvs k (.int (m + n')))) } σv (L.frz.lf.trans (own_put how)) ?_
              exact (s.step L.frz st2.frz).put e ev ⟨putK kvs k (.int (m + n')), upd_same, p1, p2.lf (own_put how)⟩
            · intro h2; exact h2.elim
        · intro h1; exact h1.elim
      · intro h1; exact h1.elim
    · intro h1; exact h1.elim
  · exact h.elim
/-! ### dict(d) -/
def rDCopy : List V → Hp → VK → Prop := fun xs H Q => ∃ (a : Addr) (kvs : List (Key × V)), xs = [V.ref a] ∧ H a = some (.dK kvs) ∧ ∀ p, H p = none → Q (.ref p) (upd H p (.dK kvs))
theorem cl_dcopy {X : Cx} : CallR X (.type "dict") rDCopy := by
  intro pins s σ H xs us Q I r h
  obtain ⟨a, kvs, rfl, e, q⟩ := h
  rw [Vals.ref1 r]
  exact d_copyOf I (.inl e) fun p s' hp I' => ⟨.ref p, _, I', rfl, q p hp⟩
def bDCopy : FB
  | [r], S => match r.rd S with
    | .dic ks ds => .ok (.fr (.dic ks ds)) S
    | _ => .bad
  | _, _ => .bad
theorem sDCopy : CbS K W rDCopy bDCopy := by
  intro wf w w2 S σd σv rs vs Q s L R h
  unfold bDCopy at h
  split at h
  · obtain ⟨v, rfl, R1⟩ := R.one
    split at h
    · rename_i ks ds e
      obtain ⟨a, kvs, rfl, g1, g2, g3⟩ := dicOf s.st R1 e
      refine ⟨a, kvs, rfl, g1, fun p hp => ?_⟩
      exact h (w2.new p (.dK kvs) True) _ (L.trans (le_new hp)) (s.st.new hp) ⟨p, rfl, L.none s.st hp, ⟨kvs, upd_same, g2, g3.le (le_new hp)⟩, .inl ⟨rfl, True.intro⟩, (s.st.fresh hp).1⟩
    · exact h.elim
  · exact h.elim
/-! ### sorted(xs) of ints -/
def insI (x : Int) : List Int → List Int
  | [] => [x]
  | y :: r => if x ≤ y then x :: y :: r else y :: insI x r
def sortI : List Int → List Int
  | [] => []
  | x :: r => insI x (sortI r)
theorem insI_perm (x : Int) : ∀ l : List Int, (insI x l).Perm (x :: l)
  | [] => List.Perm.refl _
  | y :: r => by
    unfold insI
    split
    · exact List.Perm.refl _
    · exact ((insI_perm x r).cons y).trans (List.Perm.swap x y r)
theorem sortI_perm : ∀ l : List Int, (sortI l).Perm l
  | [] => List.Perm.refl _
  | x :: r => (insI_perm x (sortI r)).trans ((sortI_perm r).cons x)
theorem insI_srt (x : Int) : ∀ {l : List Int}, l.Pairwise (· ≤ ·) → (insI x l).Pairwise (· ≤ ·)
  | [], _ => by simp [insI]
  | y :: r, h => by
    obtain ⟨h1, h2⟩ := List.pairwise_cons.mp h
    unfold insI
    split
    · rename_i hxy
      refine List.pairwise_cons.mpr ⟨fun z hz => ?_, h⟩
      rcases List.mem_cons.mp hz with rfl | hz
      · exact hxy
      · exact Int.le_trans hxy (h1 z hz)
    · rename_i hxy
      refine List.pairwise_cons.mpr ⟨fun z hz => ?_, insI_srt x h2⟩
      rcases List.mem_cons.mp ((insI_perm x r).mem_iff.mp hz) with rfl | hz
      · omega
      · exact h1 z hz
theorem sortI_srt : ∀ l : List Int, (sortI l).Pairwise (· ≤ ·)
  | [] => List.Pairwise.nil
  | x :: r => insI_srt x (sortI_srt r)
theorem srt_uniq : ∀ {l m : List Int}, l.Pairwise (· ≤ ·) → m.Pairwise (· ≤ ·) → l.Perm m → l = m
  | [], m, _, _, p => (List.Perm.nil_eq p)
  | x :: l, [], _, _, p => absurd p.length_eq (by simp)
  | x :: l, y :: m, h1, h2, p => by
    obtain ⟨a1, a2⟩ := List.pairwise_cons.mp h1
    obtain ⟨b1, b2⟩ := List.pairwise_cons.mp h2
    have e : x = y := by
      have u : x ∈ y :: m := p.mem_iff.mp List.mem_cons_self
      have v : y ∈ x :: l := p.mem_iff.mpr List.mem_cons_self
      rcases List.mem_cons.mp u with h | h
      · exact h
      · rcases List.mem_cons.mp v with h' | h'
        · exact h'.symm
        · exact Int.le_antisymm (a1 y h') (b1 x h)
    subst e
    rw [srt_uniq a2 b2 (List.Perm.cons_inv p)]
def bSortI : FB
  | [r], S => match r.rd S with
    | .lst ds => match intsD ds with
      | some bs => .ok (.fr (.lst ((sortI bs).map Da.int))) S
      | none => .bad
    | _ => .bad
  | _, _ => .bad
theorem sSortI : CbS K W (rSortedI K) bSortI := by
  intro wf w w2 S σd σv rs vs Q s L R h
  unfold bSortI at h
  split at h
  · obtain ⟨v, rfl, R1⟩ := R.one
    split at h
    · rename_i ds e
      split at h
      · rename_i bs e2
        obtain ⟨a, us, rfl, g1, g2⟩ := lstOf s.st R1 e
        have := intsD_of g2 e2
        subst this
        refine ⟨a, bs, rfl, SqL.of g1, fun ns' p hp1 hp2 hp => ?_⟩
        have en : ns' = sortI bs := srt_uniq hp2 (sortI_srt bs) (hp1.trans (sortI_perm bs).symm)
        subst en
        exact h (w2.new p (.lst ((sortI bs).map V.int)) True) _ (L.trans (le_new hp)) (s.st.new hp) (own_newL s.st (L.none s.st hp) hp (Reps.ints _))
      · exact h.elim
    · exact h.elim
  · exact h.elim
/-! ### {k: v for x in xs} -/
def foldDc (fg : FG) (ft : FT) (fk fv : FE) (σ : Env) : List Da → List Key → List Da → Sto → Ev (List Key × List Da)
  | [], ks, ds, S => .ok (ks, ds) S
  | d :: r, ks, ds, S => match fg d σ with
    | none => .bad
    | some σ1 => (ft σ1 S).noX.bd fun b S1 => if b = true then (fk σ1 S1).noX.bd fun q S2 => onK q fun k => (fv σ1 S2).noX.bd fun z S3 => onD z fun x => if ks.length < 1000000 then foldDc fg ft fk fv σ r (putKs ks k) (putDs ks ds k x) S3 else .bad else foldDc fg ft fk fv σ r ks ds S1
def fDc (fi : FI) (fg : FG) (ft : FT) (fk fv : FE) (vs : List Nat) : FE := fun σ S => (fi σ S).bd fun items S1 => (foldDc fg ft fk fv (wipeD σ vs) items [] [] S1).bd fun acc S2 => .ok (.fr (.dic acc.1 acc.2)) S2
theorem dc_it {J : It} {n : Nat} {G : Hp → Prop} {Y : Nat → Hp → V → Hp → Prop} (wk : Walk J n G Y) {g : TG} {tt : TT} {tk tv : TE} {vs : List Nat} {σ : L2.St} {H1 : Hp} {Dl : Addr} {Qd : Hp → Prop} (Pv : Nat → Hp → Prop) (h0 : Pv 0 (upd H1 Dl (.dK []))) (hG : ∀ i H, i ≤ n → Pv i H → G H)
    (hs : ∀ i x H H', i < n → Pv i H → Y i H x H' → g x (wipe σ vs) H' fun σ2 H2 => wipe σ2 vs = wipe σ vs ∧ tt σ2 H2 fun b H3 =>
      if b = true then tk σ2 H3 fun y H4 => tv σ2 H4 fun z H5 => ∃ kvs k, y = kV k ∧ H5 Dl = some (.dK kvs) ∧ kvs.length < sizeLine ∧ Pv (i + 1) (upd H5 Dl (.dK (putK kvs k z))) else Pv (i + 1) H3) (hd : ∀ H, Pv n H → Qd H) :
    ∃ Wk : Nat → Nat → Hp → Prop, (∃ m, Wk 0 m (upd H1 Dl (.dK []))) ∧ ∀ i m H, Wk i m H →
      (J.stop i H ∧ Qd H) ∨ (J.go i H ∧ ∃ Nx : Hp → Prop, (∀ H', Nx H' → ∃ m', m' < m ∧ Wk (i + 1) m' H') ∧ ∀ x H', J.yld i H x H' → g x (wipe σ vs) H' fun σ2 H2 => wipe σ2 vs = wipe σ vs ∧ tt σ2 H2 fun b H3 =>
        if b = true then tk σ2 H3 fun y H4 => tv σ2 H4 fun z H5 => ∃ kvs k, y = kV k ∧ H5 Dl = some (.dK kvs) ∧ kvs.length < sizeLine ∧ Nx (upd H5 Dl (.dK (putK kvs k z))) else Nx H3) := by
  refine ⟨fun i m H => m = n - i ∧ i ≤ n ∧ Pv i H, ⟨n, (Nat.sub_zero n).symm, Nat.zero_le _, h0⟩, fun i m H hh => ?_⟩
  obtain ⟨em, hi, p⟩ := hh
  have q := hG i H hi p
  rcases Nat.lt_or_ge i n with hlt | hge
  · exact .inr ⟨wk.goes i H hlt q, Pv (i + 1), fun H' p' => ⟨n - (i + 1), by omega, rfl, hlt, p'⟩, fun x H' y => hs i x H H' hlt p (wk.yields i H x H' hlt q y)⟩
  · have ei : i = n := by omega
    subst ei
    exact .inl ⟨wk.stops H q, hd H p⟩
theorem snd_dc {wi : TI} {fi : FI} {g : TG} {fg : FG} {js vs : List Nat} {tt : TT} {ft : FT} {tk tv : TE} {fk fv : FE} (hi : SndI K W Le wi fi) (hg : SndG K W g fg js) (hj : ∀ j ∈ js, j ∈ vs) (ht : SndT K W tt ft) (hk : SndE K W tk fk) (hv : SndE K W tv fv) : SndE K W (tDc wi g tt tk tv vs) (fDc fi fg ft fk fv vs) := by
  intro wf w S σd σv Q s h
  refine hi wf w S σd σv _ s ?_
  unfold fDc at h
  revert h
  cases fi σd S with
  | ex e S1 => exact fun h => h
  | bad => exact fun h => h
  | ok items S1 =>
    intro h w1 J L1 st1 it Dl hD
    obtain ⟨G, Y, wk, hG, hY⟩ := it
    have h' : PostE K W wf w σv Q ((foldDc fg ft fk fv (wipeD σd vs) items [] [] S1).bd fun acc S2 => .ok (.fr (.dic acc.1 acc.2)) S2) := h
    refine dc_it wk (fun i H' => ∃ w' S' ks ds kvs, w'.H = H' ∧ Le w1 w' ∧ StoR K w' S' ∧ w'.H Dl = some (.dK kvs) ∧ kvs.map (·.1) = ks ∧ Reps K w' ds (kvs.map (·.2)) ∧ w'.ow Dl ∧ Dl ∉ w'.m ∧ PostE K W wf w σv Q ((foldDc fg ft fk fv (wipeD σd vs) (items.drop i) ks ds S').bd fun acc S2 => .ok (.fr (.dic acc.1 acc.2)) S2)) ?_ ?_ ?_ ?_
    · exact ⟨w1.new Dl (.dK []) True, S1, [], [], [], rfl, le_new hD, st1.new hD, upd_same, rfl, .nil, .inl ⟨rfl, True.intro⟩, (st1.fresh hD).1, h'⟩
    · rintro i H' hi ⟨w', S', ks, ds, kvs, rfl, L, st, _⟩
      exact hG w' S' L st
    · rintro i x H' H'' hi ⟨w', S', ks, ds, kvs, rfl, L, st, hl, hkk, hr, ho, hm, hp⟩ y
      obtain ⟨w3, d, rfl, ed, L3, st3, r3⟩ := hY i w' S' x H'' hi L st y
      have e : items.drop i = d :: items.drop (i + 1) := by
        rw [List.drop_eq_getElem_cons hi]
        rw [List.getElem?_eq_getElem hi] at ed
        cases ed; rfl
      rw [e] at hp
      simp only [foldDc] at hp
      have L13 := L.trans L3
      obtain ⟨k1, k2, k3⟩ := L3.kp Dl _ hl hm
      cases e1 : fg d (wipeD σd vs) with
      | none => rw [e1] at hp; exact hp.elim
      | some σ1 =>
        rw [e1] at hp
        refine hg wf w3 S' (wipeD σd vs) (wipe σv vs) d x _ ((s.step (L1.trans L13) st3).wipe vs) r3 ⟨σ1, e1, fun σv1 s1 e2 l2 => ⟨wipe_same e2 l2 hj, ht wf w3 S' σ1 σv1 _ s1 ?_⟩⟩
        have hp0 : PostE K W wf w σv Q (Ev.bd ((ft σ1 S').noX.bd fun b S1 => if b = true then (fk σ1 S1).noX.bd fun q S2 => onK q fun k => (fv σ1 S2).noX.bd fun z S3 => onD z fun x => if ks.length < 1000000 then foldDc fg ft fk fv (wipeD σd vs) (items.drop (i + 1)) (putKs ks k) (putDs ks ds k x) S3 else .bad else foldDc fg ft fk fv (wipeD σd vs) (items.drop (i + 1)) ks ds S1) fun acc S2 => .ok (.fr (.dic acc.1 acc.2)) S2) := hp
        clear hp
        revert hp0
        cases ft σ1 S' with
        | ex e S4 => exact fun hp => False.elim hp
        | bad => exact fun hp => hp
        | ok b S4 =>
          intro hp w4 L4 st4
          obtain ⟨m1, m2, m3⟩ := L4.kp Dl _ k1 k2
          have L14 := L13.trans L4
          cases b with
          | false => exact iteF ⟨w4, S4, ks, ds, kvs, rfl, L14, st4, m1, hkk, hr.le (L3.trans L4), m3.mpr (k3.mpr ho), m2, hp⟩
          | true =>
            refine iteT (hk wf w4 S4 σ1 σv1 _ (s1.step L4 st4) ?_)
            have hp' : PostE K W wf w σv Q (Ev.bd ((fk σ1 S4).noX.bd fun q S2 => onK q fun k => (fv σ1 S2).noX.bd fun z S3 => onD z fun x => if ks.length < 1000000 then foldDc fg ft fk fv (wipeD σd vs) (items.drop (i + 1)) (putKs ks k) (putDs ks ds k x) S3 else .bad) fun acc S2 => .ok (.fr (.dic acc.1 acc.2)) S2) := hp
            clear hp
            revert hp'
            cases fk σ1 S4 with
            | ex e S5 => exact fun hp => False.elim hp
            | bad => exact fun hp => hp
            | ok q S5 =>
              intro hp w5 v5 L5 st5 R5
              have hp2 : PostE K W wf w σv Q (Ev.bd (onK q fun k => (fv σ1 S5).noX.bd fun z S3 => onD z fun x => if ks.length < 1000000 then foldDc fg ft fk fv (wipeD σd vs) (items.drop (i + 1)) (putKs ks k) (putDs ks ds k x) S3 else .bad) fun acc S2 => .ok (.fr (.dic acc.1 acc.2)) S2) := hp
              unfold onK at hp2
              split at hp2
              · rename_i kd
                split at hp2
                · rename_i k ek
                  have hu : v5 = kV k := key_of R5 ek
                  refine hv wf w5 S5 σ1 σv1 _ (s1.step (L4.trans L5) st5) ?_
                  have hp3 : PostE K W wf w σv Q (Ev.bd ((fv σ1 S5).noX.bd fun z S3 => onD z fun x => if ks.length < 1000000 then foldDc fg ft fk fv (wipeD σd vs) (items.drop (i + 1)) (putKs ks k) (putDs ks ds k x) S3 else .bad) fun acc S2 => .ok (.fr (.dic acc.1 acc.2)) S2) := hp2
                  clear hp hp2
                  revert hp3
                  cases fv σ1 S5 with
                  | ex e S6 => exact fun hp => False.elim hp
                  | bad => exact fun hp => hp
                  | ok r S6 =>
                    intro hp w6 v6 L6 st6 R6
                    have hp4 : PostE K W wf w σv Q (Ev.bd (onD r fun x => if ks.length < 1000000 then foldDc fg ft fk fv (wipeD σd vs) (items.drop (i + 1)) (putKs ks k) (putDs ks ds k x) S6 else .bad) fun acc S2 => .ok (.fr (.dic acc.1 acc.2)) S2) := hp
                    unfold onD at hp4
                    cases ey : r.toD with
                    | none => rw [ey] at hp4; exact hp4.elim
                    | some y =>
                      rw [ey] at hp4
                      by_cases hz : ks.length < 1000000
                      · simp only [hz, if_true] at hp4
                        have L46 := L5.trans L6
                        obtain ⟨n1, n2, n3⟩ := L46.kp Dl _ m1 m2
                        have how : (w5.frz w6).ow Dl := by
                          obtain ⟨q1, q2, q3⟩ := L5.kp Dl _ m1 m2
                          exact ⟨n3.mpr (m3.mpr (k3.mpr ho)), by rw [q1]; simp⟩
                        have hkl : kvs.length = ks.length := by rw [← hkk, List.length_map]
                        obtain ⟨p1, p2⟩ := put_rel (k := k) hkk ((hr.le (L3.trans L4)).le (L5.trans L6.frz)) (R6.frz ey)
                        refine ⟨kvs, k, hu, n1, sz_lt (by omega), { w5.frz w6 with H := upd w6.H Dl (.dK (putK kvs k v6)) }, S6, putKs ks k, putDs ks ds k y, putK kvs k v6, rfl, le_put (w := w5.frz w6) ((L14.trans L5).trans L6.frz) hD, sto_put (w := w5.frz w6) st6.frz how, upd_same, p1, p2.lf (own_put (w := w5.frz w6) how), how, n2, hp4⟩
                      · simp only [hz, if_false] at hp4
                        exact hp4.elim
                · exact hp2.elim
              · exact hp2.elim
    · rintro H' ⟨w', S', ks, ds, kvs, rfl, L, st, hl, hkk, hr, ho, hm, hp⟩
      rw [List.drop_length] at hp
      exact hp w' _ (L1.trans L) st ⟨Dl, rfl, L1.none st1 hD, ⟨kvs, hl, hkk, hr⟩, ho, hm⟩
end
end Cl

/-! ## Fun17 -/
namespace Cl
open PySem PySem.Spec PyProof.Rows L2
/-! ## walks over a list that is a cell: it must stay as it is -/
section
variable {K : PySem.W.Frag} {W : Cw} {wf w w1 w2 : Wd} {S S1 : Sto} {σd : Env} {σv : L2.St} {D : Ends}
open Classical in
noncomputable def isC {α : Type} (S : Sto) (n : Nat) (L : List Da) (x y : α) : α := if S[n]? = some (.lst L) then x else y
theorem isC_of {α : Type} {S : Sto} {n : Nat} {L : List Da} {x y : α} (h : S[n]? = some (.lst L)) : isC S n L x y = x := by unfold isC; rw [if_pos h]
theorem isC_no {α : Type} {S : Sto} {n : Nat} {L : List Da} {x y : α} (h : ¬ S[n]? = some (.lst L)) : isC S n L x y = y := by unfold isC; rw [if_neg h]
noncomputable def foldForC (n : Nat) (L : List Da) (fg : FG) (fb : FS) : List Da → Env → Sto → So
  | [], σ, S => isC S n L (.nx σ S) .bad
  | d :: ds, σ, S => isC S n L (match fg d σ with
    | none => .bad
    | some σ1 => match fb σ1 S with
      | .nx σ2 S2 => foldForC n L fg fb ds σ2 S2
      | .ct σ2 S2 => foldForC n L fg fb ds σ2 S2
      | .bk σ2 S2 => .nx σ2 S2
      | .rt r S2 => .rt r S2
      | .ex e σ2 S2 => .ex e σ2 S2
      | .bad => .bad) .bad
noncomputable def fForC (fe : FE) (fg : FG) (fb : FS) : FS := fun σ S => (fe σ S).so σ fun r S1 => match r with
  | .v (.cell n) => match S1[n]? with
    | some (.lst ds) => foldForC n ds fg fb ds σ S1
    | _ => .bad
  | _ => .bad
def YC (K : PySem.W.Frag) (a : Addr) : Nat → Hp → V → Hp → Prop := fun i H x H' => H' = H ∧ ∀ xs, SqL K H a xs → xs[i]? = some x
theorem walk_listC {a : Addr} {n : Nat} : Walk (Itl K a) n (fun H => ∃ xs, xs.length = n ∧ SqL K H a xs) (YC K a) :=
  ⟨fun i _ hi q => let ⟨xs, e, q⟩ := q; ⟨xs, xs[i]'(by omega), q, by simp [show i < xs.length by omega]⟩, fun _ q => let ⟨xs, e, q⟩ := q; ⟨xs, q, by omega⟩, fun _ _ _ _ _ q y => ⟨y.1, y.2⟩⟩
theorem snd_forC {te : TE} {fe : FE} {g : TG} {fg : FG} {js : List Nat} {tb : TS} {fb : FS} (he : SndE K W te fe) (hg : SndG K W g fg js) (hb : SndS K W tb fb) : SndS K W (tFor (iList K te) g tb) (fForC fe fg fb) := by
  intro wf w S σd σv D s h
  refine he.runS (Lf.refl w) s h fun r S1 w1 v L1 st1 R1 h1 => ?_
  revert h1
  split
  · rename_i n
    split
    · rename_i items eS
      intro h
      cases R1 with
      | cell hm =>
        rename_i a
        obtain ⟨vs0, g0, r0⟩ := st1.at_ n a _ hm eS
        refine ⟨a, rfl, ⟨vs0, SqL.of g0⟩, ?_⟩
        have wk := walk_listC (K := K) (a := a) (n := items.length)
        have here : ∀ {w' : Wd} {S' : Sto} {σ' : L2.St} {σd' : Env} {o : So}, Lf w1 w' → Sim K W wf w' S' σd' σ' → PostS K W wf w D (isC S' n items o .bad) → PostS K W wf w D o ∧ ∃ vs, w'.H a = some (.lst vs) ∧ Reps K w' items vs := by
          intro w' S' σ' σd' o L s' hp
          by_cases hc : S'[n]? = some (.lst items)
          · rw [isC_of hc] at hp
            exact ⟨hp, s'.st.at_ n a _ (pre_at L.pre hm) hc⟩
          · rw [isC_no hc] at hp; exact hp.elim
        have chk : ∀ {i : Nat} {σ' : Env} {S' : Sto}, ∃ o, foldForC n items fg fb (items.drop i) σ' S' = isC S' n items o .bad := by
          intro i σ' S'
          cases items.drop i with
          | nil => exact ⟨_, rfl⟩
          | cons d ds => exact ⟨_, rfl⟩
        refine for_it wk (fun i σ' H' => ∃ w' S' σd', w'.H = H' ∧ Lf w1 w' ∧ Sim K W wf w' S' σd' σ' ∧ PostS K W wf w D (foldForC n items fg fb (items.drop i) σd' S')) ⟨w1, S1, σd, rfl, Lf.refl _, s.step L1 st1, h⟩ ?_ ?_ ?_
        · rintro i σ' H' hi ⟨w', S', σd', rfl, L, s', hp⟩
          obtain ⟨o, eo⟩ := chk (i := i) (σ' := σd') (S' := S')
          rw [eo] at hp
          obtain ⟨_, vs, g1, g2⟩ := here L s' hp
          exact ⟨vs, g2.length, SqL.of g1⟩
        · rintro i x σ' H' H'' hi ⟨w', S', σd', rfl, L, s', hp⟩ y
          obtain ⟨rfl, y2⟩ := y
          have e : items.drop i = items[i] :: items.drop (i + 1) := List.drop_eq_getElem_cons hi
          rw [e] at hp
          obtain ⟨hp, vs, g1, g2⟩ := here L s' hp
          have ex := y2 vs (SqL.of g1)
          obtain ⟨d, ed, r3⟩ := g2.at' ex
          rw [List.getElem?_eq_getElem hi] at ed
          cases ed
          have hp' : PostS K W wf w D (match fg items[i] σd' with
            | none => .bad
            | some σ1 => match fb σ1 S' with
              | .nx σ2 S2 => foldForC n items fg fb (items.drop (i + 1)) σ2 S2
              | .ct σ2 S2 => foldForC n items fg fb (items.drop (i + 1)) σ2 S2
              | .bk σ2 S2 => .nx σ2 S2
              | .rt r S2 => .rt r S2
              | .ex e σ2 S2 => .ex e σ2 S2
              | .bad => .bad) := hp
          cases e1 : fg items[i] σd' with
          | none => rw [e1] at hp'; exact hp'.elim
          | some σ1 =>
            rw [e1] at hp'
            refine hg wf w' S' σd' σ' items[i] x _ s' r3 ⟨σ1, e1, fun σv1 s1 _ _ => hb wf w' S' σ1 σv1 _ s1 ?_⟩
            have L03 : Lf w w' := L1.lf.trans L
            revert hp'
            show PostS K W wf w D (match fb σ1 S' with
              | .nx σ2 S2 => foldForC n items fg fb (items.drop (i + 1)) σ2 S2
              | .ct σ2 S2 => foldForC n items fg fb (items.drop (i + 1)) σ2 S2
              | .bk σ2 S2 => .nx σ2 S2
              | .rt r S2 => .rt r S2
              | .ex e σ2 S2 => .ex e σ2 S2
              | .bad => .bad) → _
            cases fb σ1 S' with
            | nx σ2 S2 => exact fun hp w4 σv4 L4 s4 => ⟨w4, S2, σ2, rfl, L.trans L4, s4, hp⟩
            | ct σ2 S2 => exact fun hp w4 σv4 L4 s4 => ⟨w4, S2, σ2, rfl, L.trans L4, s4, hp⟩
            | bk σ2 S2 => exact fun hp w4 σv4 L4 s4 => hp w4 σv4 (L03.trans L4) s4
            | rt r S2 => exact fun hp => hp
            | ex e σ2 S2 => exact fun hp w4 σv4 c dd L4 s4 R => hp w4 σv4 c dd (L03.trans L4) s4 R
            | bad => exact fun hp => hp
        · rintro σ' H' ⟨w', S', σd', rfl, L, s', hp⟩
          rw [List.drop_length] at hp
          exact (here L s' hp).1 w' σ' (L1.lf.trans L) s'
    · intro h; exact h.elim
  · intro h; exact h.elim
/-! ### comprehensions -/
noncomputable def foldLcC (n : Nat) (L : List Da) (fg : FG) (ft : FT) (fe : FE) (σ : Env) : List Da → List Da → Sto → Ev (List Da)
  | [], acc, S => isC S n L (.ok acc S) .bad
  | d :: ds, acc, S => isC S n L (match fg d σ with
    | none => .bad
    | some σ1 => (ft σ1 S).noX.bd fun b S1 => if b = true then (fe σ1 S1).noX.bd fun r S2 => onD r fun y => if acc.length < 1000000 then foldLcC n L fg ft fe σ ds (acc ++ [y]) S2 else .bad else foldLcC n L fg ft fe σ ds acc S1) .bad
noncomputable def fLcC (fc : FE) (fg : FG) (ft : FT) (fe : FE) (vs : List Nat) : FE := fun σ S => (fc σ S).bd fun r S1 => match r with
  | .v (.cell n) => match S1[n]? with
    | some (.lst ds) => (foldLcC n ds fg ft fe (wipeD σ vs) ds [] S1).bd fun acc S2 => .ok (.fr (.lst acc)) S2
    | _ => .bad
  | _ => .bad
theorem snd_lcC {tc : TE} {fc : FE} {g : TG} {fg : FG} {js vs : List Nat} {tt : TT} {ft : FT} {te : TE} {fe : FE} (hc : SndE K W tc fc) (hg : SndG K W g fg js) (hj : ∀ j ∈ js, j ∈ vs) (ht : SndT K W tt ft) (he : SndE K W te fe) : SndE K W (tLc (iList K tc) g tt te vs) (fLcC fc fg ft fe vs) := by
  intro wf w S σd σv Q s h
  refine hc.run (Le.refl w) s h fun r S1 w1 v L1 st1 R1 h1 => ?_
  revert h1
  split
  · rename_i n
    split
    · rename_i items eS
      intro h'
      cases R1 with
      | cell hm =>
        rename_i a
        obtain ⟨vs0, g0, r0⟩ := st1.at_ n a _ hm eS
        refine ⟨a, rfl, ⟨vs0, SqL.of g0⟩, fun Dl hD => ?_⟩
        have wk := walk_listC (K := K) (a := a) (n := items.length)
        have here : ∀ {w' : Wd} {S' : Sto} {o : Ev (List Da)}, Le w1 w' → StoR K w' S' → PostE K W wf w σv Q ((isC S' n items o .bad).bd fun acc S2 => .ok (.fr (.lst acc)) S2) → PostE K W wf w σv Q (o.bd fun acc S2 => .ok (.fr (.lst acc)) S2) ∧ ∃ us, w'.H a = some (.lst us) ∧ Reps K w' items us := by
          intro w' S' o L st hp
          by_cases hcc : S'[n]? = some (.lst items)
          · rw [isC_of hcc] at hp
            exact ⟨hp, st.at_ n a _ (pre_at L.pre hm) hcc⟩
          · rw [isC_no hcc] at hp; exact hp.elim
        have chk : ∀ {i : Nat} {acc : List Da} {S' : Sto}, ∃ o, foldLcC n items fg ft fe (wipeD σd vs) (items.drop i) acc S' = isC S' n items o .bad := by
          intro i acc S'
          cases items.drop i with
          | nil => exact ⟨_, rfl⟩
          | cons d ds => exact ⟨_, rfl⟩
        refine lc_it wk (fun i H' => ∃ w' S' acc us, w'.H = H' ∧ Le w1 w' ∧ StoR K w' S' ∧ w'.H Dl = some (.lst us) ∧ Reps K w' acc us ∧ w'.ow Dl ∧ Dl ∉ w'.m ∧ PostE K W wf w σv Q ((foldLcC n items fg ft fe (wipeD σd vs) (items.drop i) acc S').bd fun acc S2 => .ok (.fr (.lst acc)) S2)) ?_ ?_ ?_ ?_
        · exact ⟨w1.new Dl (.lst []) True, S1, [], [], rfl, le_new hD, st1.new hD, upd_same, .nil, .inl ⟨rfl, True.intro⟩, (st1.fresh hD).1, h'⟩
        · rintro i H' hi ⟨w', S', acc, us, rfl, L, st, hl, hr, ho, hm', hp⟩
          obtain ⟨o, eo⟩ := chk (i := i) (acc := acc) (S' := S')
          rw [eo] at hp
          obtain ⟨_, us', g1, g2⟩ := here L st hp
          exact ⟨us', g2.length, SqL.of g1⟩
        · rintro i x H' H'' hi ⟨w', S', acc, us, rfl, L, st, hl, hr, ho, hm', hp⟩ y
          obtain ⟨rfl, y2⟩ := y
          have e : items.drop i = items[i] :: items.drop (i + 1) := List.drop_eq_getElem_cons hi
          rw [e] at hp
          obtain ⟨hp, us', g1, g2⟩ := here L st hp
          have ex := y2 us' (SqL.of g1)
          obtain ⟨d, ed, r3⟩ := g2.at' ex
          rw [List.getElem?_eq_getElem hi] at ed
          cases ed
          cases e1 : fg items[i] (wipeD σd vs) with
          | none => rw [e1] at hp; exact hp.elim
          | some σ1 =>
            rw [e1] at hp
            refine hg wf w' S' (wipeD σd vs) (wipe σv vs) items[i] x _ ((s.step (L1.trans L) st).wipe vs) r3 ⟨σ1, e1, fun σv1 s1 e2 l2 => ⟨wipe_same e2 l2 hj, ht wf w' S' σ1 σv1 _ s1 ?_⟩⟩
            have hp0 : PostE K W wf w σv Q (Ev.bd ((ft σ1 S').noX.bd fun b S1 => if b = true then (fe σ1 S1).noX.bd fun r S2 => onD r fun y => if acc.length < 1000000 then foldLcC n items fg ft fe (wipeD σd vs) (items.drop (i + 1)) (acc ++ [y]) S2 else .bad else foldLcC n items fg ft fe (wipeD σd vs) (items.drop (i + 1)) acc S1) fun acc S2 => .ok (.fr (.lst acc)) S2) := hp
            clear hp
            revert hp0
            cases ft σ1 S' with
            | ex e S4 => exact fun hp => False.elim hp
            | bad => exact fun hp => hp
            | ok b S4 =>
              intro hp w4 L4 st4
              obtain ⟨m1, m2, m3⟩ := L4.kp Dl _ hl hm'
              have L14 := L.trans L4
              cases b with
              | false => exact iteF ⟨w4, S4, acc, us, rfl, L14, st4, m1, hr.le L4, m3.mpr ho, m2, hp⟩
              | true =>
                refine iteT (he wf w4 S4 σ1 σv1 _ (s1.step L4 st4) ?_)
                have hp' : PostE K W wf w σv Q (Ev.bd ((fe σ1 S4).noX.bd fun r S2 => onD r fun y => if acc.length < 1000000 then foldLcC n items fg ft fe (wipeD σd vs) (items.drop (i + 1)) (acc ++ [y]) S2 else .bad) fun acc S2 => .ok (.fr (.lst acc)) S2) := hp
                revert hp'
                cases fe σ1 S4 with
                | ex e S5 => exact fun hp => False.elim hp
                | bad => exact fun hp => hp
                | ok r S5 =>
                  intro hp w5 v5 L5 st5 R5
                  have hp2 : PostE K W wf w σv Q (Ev.bd (onD r fun y => if acc.length < 1000000 then foldLcC n items fg ft fe (wipeD σd vs) (items.drop (i + 1)) (acc ++ [y]) S5 else .bad) fun acc S2 => .ok (.fr (.lst acc)) S2) := hp
                  unfold onD at hp2
                  cases ey : r.toD with
                  | none => rw [ey] at hp2; exact hp2.elim
                  | some y =>
                    rw [ey] at hp2
                    by_cases hz : acc.length < 1000000
                    · simp only [hz, if_true] at hp2
                      obtain ⟨n1, n2, n3⟩ := L5.kp Dl _ m1 m2
                      have how : (w4.frz w5).ow Dl := ⟨n3.mpr (m3.mpr ho), by rw [m1]; simp⟩
                      refine ⟨us, n1, sz_lt (by rw [hr.length]; omega), { w4.frz w5 with H := upd w5.H Dl (.lst (us ++ [v5])) }, S5, acc ++ [y], us ++ [v5], rfl, le_put (w := w4.frz w5) (L14.trans L5.frz) hD, sto_put (w := w4.frz w5) st5.frz how, upd_same, ?_, how, n2, hp2⟩
                      exact (((hr.le L4).le L5.frz).app (.cons (R5.frz ey) .nil)).lf (own_put (w := w4.frz w5) how)
                    · simp only [hz, if_false] at hp2
                      exact hp2.elim
        · rintro H' ⟨w', S', acc, us, rfl, L, st, hl, hr, ho, hm', hp⟩
          rw [List.drop_length] at hp
          exact (here L st hp).1 w' _ (L1.trans L) st ⟨Dl, rfl, L1.none st1 hD, ⟨us, hl, hr⟩, ho, hm'⟩
    · intro h; exact h.elim
  · intro h; exact h.elim
noncomputable def foldDcC (n : Nat) (L : List Da) (fg : FG) (ft : FT) (fk fv : FE) (σ : Env) : List Da → List Key → List Da → Sto → Ev (List Key × List Da)
  | [], ks, ds, S => isC S n L (.ok (ks, ds) S) .bad
  | d :: r, ks, ds, S => isC S n L (match fg d σ with
    | none => .bad
    | some σ1 => (ft σ1 S).noX.bd fun b S1 => if b = true then (fk σ1 S1).noX.bd fun q S2 => onK q fun k => (fv σ1 S2).noX.bd fun z S3 => onD z fun x => if ks.length < 1000000 then foldDcC n L fg ft fk fv σ r (putKs ks k) (putDs ks ds k x) S3 else .bad else foldDcC n L fg ft fk fv σ r ks ds S1) .bad
noncomputable def fDcC (fc : FE) (fg : FG) (ft : FT) (fk fv : FE) (vs : List Nat) : FE := fun σ S => (fc σ S).bd fun r S1 => match r with
  | .v (.cell n) => match S1[n]? with
    | some (.lst items) => (foldDcC n items fg ft fk fv (wipeD σ vs) items [] [] S1).bd fun acc S2 => .ok (.fr (.dic acc.1 acc.2)) S2
    | _ => .bad
  | _ => .bad
theorem snd_dcC {tc : TE} {fc : FE} {g : TG} {fg : FG} {js vs : List Nat} {tt : TT} {ft : FT} {tk tv : TE} {fk fv : FE} (hc : SndE K W tc fc) (hg : SndG K W g fg js) (hj : ∀ j ∈ js, j ∈ vs) (ht : SndT K W tt ft) (hk : SndE K W tk fk) (hv : SndE K W tv fv) : SndE K W (tDc (iList K tc) g tt tk tv vs) (fDcC fc fg ft fk fv vs) := by
  intro wf w S σd σv Q s h
  refine hc.run (Le.refl w) s h fun r S1 w1 v L1 st1 R1 h1 => ?_
  revert h1
  split
  · rename_i n
    split
    · rename_i items eS
      intro h'
      cases R1 with
      | cell hm =>
        rename_i a
        obtain ⟨vs0, g0, r0⟩ := st1.at_ n a _ hm eS
        refine ⟨a, rfl, ⟨vs0, SqL.of g0⟩, fun Dl hD => ?_⟩
        have wk := walk_listC (K := K) (a := a) (n := items.length)
        have here : ∀ {w' : Wd} {S' : Sto} {o : Ev (List Key × List Da)}, Le w1 w' → StoR K w' S' → PostE K W wf w σv Q ((isC S' n items o .bad).bd fun acc S2 => .ok (.fr (.dic acc.1 acc.2)) S2) → PostE K W wf w σv Q (o.bd fun acc S2 => .ok (.fr (.dic acc.1 acc.2)) S2) ∧ ∃ us, w'.H a = some (.lst us) ∧ Reps K w' items us := by
          intro w' S' o L st hp
          by_cases hcc : S'[n]? = some (.lst items)
          · rw [isC_of hcc] at hp
            exact ⟨hp, st.at_ n a _ (pre_at L.pre hm) hcc⟩
          · rw [isC_no hcc] at hp; exact hp.elim
        have chk : ∀ {i : Nat} {ks : List Key} {ds : List Da} {S' : Sto}, ∃ o, foldDcC n items fg ft fk fv (wipeD σd vs) (items.drop i) ks ds S' = isC S' n items o .bad := by
          intro i ks ds S'
          cases items.drop i with
          | nil => exact ⟨_, rfl⟩
          | cons d ds => exact ⟨_, rfl⟩
        refine dc_it wk (fun i H' => ∃ w' S' ks ds kvs, w'.H = H' ∧ Le w1 w' ∧ StoR K w' S' ∧ w'.H Dl = some (.dK kvs) ∧ kvs.map (·.1) = ks ∧ Reps K w' ds (kvs.map (·.2)) ∧ w'.ow Dl ∧ Dl ∉ w'.m ∧ PostE K W wf w σv Q ((foldDcC n items fg ft fk fv (wipeD σd vs) (items.drop i) ks ds S').bd fun acc S2 => .ok (.fr (.dic acc.1 acc.2)) S2)) ?_ ?_ ?_ ?_
        · exact ⟨w1.new Dl (.dK []) True, S1, [], [], [], rfl, le_new hD, st1.new hD, upd_same, rfl, .nil, .inl ⟨rfl, True.intro⟩, (st1.fresh hD).1, h'⟩
        · rintro i H' hi ⟨w', S', ks, ds, kvs, rfl, L, st, hl, hkk, hr, ho, hm', hp⟩
          obtain ⟨o, eo⟩ := chk (i := i) (ks := ks) (ds := ds) (S' := S')
          rw [eo] at hp
          obtain ⟨_, us', g1, g2⟩ := here L st hp
          exact ⟨us', g2.length, SqL.of g1⟩
        · rintro i x H' H'' hi ⟨w', S', ks, ds, kvs, rfl, L, st, hl, hkk, hr, ho, hm', hp⟩ y
          obtain ⟨rfl, y2⟩ := y
          have e : items.drop i = items[i] :: items.drop (i + 1) := List.drop_eq_getElem_cons hi
          rw [e] at hp
          obtain ⟨hp, us', g1, g2⟩ := here L st hp
          have ex := y2 us' (SqL.of g1)
          obtain ⟨d, ed, r3⟩ := g2.at' ex
          rw [List.getElem?_eq_getElem hi] at ed
          cases ed
          cases e1 : fg items[i] (wipeD σd vs) with
          | none => rw [e1] at hp; exact hp.elim
          | some σ1 =>
            rw [e1] at hp
            refine hg wf w' S' (wipeD σd vs) (wipe σv vs) items[i] x _ ((s.step (L1.trans L) st).wipe vs) r3 ⟨σ1, e1, fun σv1 s1 e2 l2 => ⟨wipe_same e2 l2 hj, ht wf w' S' σ1 σv1 _ s1 ?_⟩⟩
            have hp0 : PostE K W wf w σv Q (Ev.bd ((ft σ1 S').noX.bd fun b S1 => if b = true then (fk σ1 S1).noX.bd fun q S2 => onK q fun k => (fv σ1 S2).noX.bd fun z S3 => onD z fun x => if ks.length < 1000000 then foldDcC n items fg ft fk fv (wipeD σd vs) (items.drop (i + 1)) (putKs ks k) (putDs ks ds k x) S3 else .bad else foldDcC n items fg ft fk fv (wipeD σd vs) (items.drop (i + 1)) ks ds S1) fun acc S2 => .ok (.fr (.dic acc.1 acc.2)) S2) := hp
            clear hp
            revert hp0
            cases ft σ1 S' with
            | ex e S4 => exact fun hp => False.elim hp
            | bad => exact fun hp => hp
            | ok b S4 =>
              intro hp w4 L4 st4
              obtain ⟨m1, m2, m3⟩ := L4.kp Dl _ hl hm'
              have L14 := L.trans L4
              cases b with
              | false => exact iteF ⟨w4, S4, ks, ds, kvs, rfl, L14, st4, m1, hkk, hr.le L4, m3.mpr ho, m2, hp⟩
              | true =>
                refine iteT (hk wf w4 S4 σ1 σv1 _ (s1.step L4 st4) ?_)
                have hp' : PostE K W wf w σv Q (Ev.bd ((fk σ1 S4).noX.bd fun q S2 => onK q fun k => (fv σ1 S2).noX.bd fun z S3 => onD z fun x => if ks.length < 1000000 then foldDcC n items fg ft fk fv (wipeD σd vs) (items.drop (i + 1)) (putKs ks k) (putDs ks ds k x) S3 else .bad) fun acc S2 => .ok (.fr (.dic acc.1 acc.2)) S2) := hp
                clear hp
                revert hp'
                cases fk σ1 S4 with
                | ex e S5 => exact fun hp => False.elim hp
                | bad => exact fun hp => hp
                | ok q S5 =>
                  intro hp w5 v5 L5 st5 R5
                  have hp2 : PostE K W wf w σv Q (Ev.bd (onK q fun k => (fv σ1 S5).noX.bd fun z S3 => onD z fun x => if ks.length < 1000000 then foldDcC n items fg ft fk fv (wipeD σd vs) (items.drop (i + 1)) (putKs ks k) (putDs ks ds k x) S3 else .bad) fun acc S2 => .ok (.fr (.dic acc.1 acc.2)) S2) := hp
                  unfold onK at hp2
                  split at hp2
                  · rename_i kd
                    split at hp2
                    · rename_i k ek
                      have hu : v5 = kV k := key_of R5 ek
                      refine hv wf w5 S5 σ1 σv1 _ (s1.step (L4.trans L5) st5) ?_
                      have hp3 : PostE K W wf w σv Q (Ev.bd ((fv σ1 S5).noX.bd fun z S3 => onD z fun x => if ks.length < 1000000 then foldDcC n items fg ft fk fv (wipeD σd vs) (items.drop (i + 1)) (putKs ks k) (putDs ks ds k x) S3 else .bad) fun acc S2 => .ok (.fr (.dic acc.1 acc.2)) S2) := hp2
                      clear hp hp2
                      revert hp3
                      cases fv σ1 S5 with
                      | ex e S6 => exact fun hp => False.elim hp
                      | bad => exact fun hp => hp
                      | ok r S6 =>
                        intro hp w6 v6 L6 st6 R6
                        have hp4 : PostE K W wf w σv Q (Ev.bd (onD r fun x => if ks.length < 1000000 then foldDcC n items fg ft fk fv (wipeD σd vs) (items.drop (i + 1)) (putKs ks k) (putDs ks ds k x) S6 else .bad) fun acc S2 => .ok (.fr (.dic acc.1 acc.2)) S2) := hp
                        unfold onD at hp4
                        cases ey : r.toD with
                        | none => rw [ey] at hp4; exact hp4.elim
                        | some y =>
                          rw [ey] at hp4
                          by_cases hz : ks.length < 1000000
                          · simp only [hz, if_true] at hp4
                            have L46 := L5.trans L6
                            obtain ⟨n1, n2, n3⟩ := L46.kp Dl _ m1 m2
                            have how : (w5.frz w6).ow Dl := by
                              obtain ⟨q1, q2, q3⟩ := L5.kp Dl _ m1 m2
                              exact ⟨n3.mpr (m3.mpr ho), by rw [q1]; simp⟩
                            have hkl : kvs.length = ks.length := by rw [← hkk, List.length_map]
                            obtain ⟨p1, p2⟩ := put_rel (k := k) hkk ((hr.le L4).le (L5.trans L6.frz)) (R6.frz ey)
                            refine ⟨kvs, k, hu, n1, sz_lt (by omega), { w5.frz w6 with H := upd w6.H Dl (.dK (putK kvs k v6)) }, S6, putKs ks k, putDs ks ds k y, putK kvs k v6, rfl, le_put (w := w5.frz w6) ((L14.trans L5).trans L6.frz) hD, sto_put (w := w5.frz w6) st6.frz how, upd_same, p1, p2.lf (own_put (w := w5.frz w6) how), how, n2, hp4⟩
                          · simp only [hz, if_false] at hp4
                            exact hp4.elim
                    · exact hp2.elim
                  · exact hp2.elim
        · rintro H' ⟨w', S', ks, ds, kvs, rfl, L, st, hl, hkk, hr, ho, hm', hp⟩
          rw [List.drop_length] at hp
          exact (here L st hp).1 w' _ (L1.trans L) st ⟨Dl, rfl, L1.none st1 hD, ⟨kvs, hl, hkk, hr⟩, ho, hm'⟩
    · intro h; exact h.elim
  · intro h; exact h.elim
end
end Cl

/-! ## Fun18 -/
namespace Cl
open PySem PySem.Spec PyProof.Rows L2
/-! ## d == e of two dicts of plain values -/
def hitV (ls : List (Key × V)) (p : Key × V) : Bool := match valV ls p.1 with
  | some y => eqV p.2 y
  | none => false
def rEqDK : R2 := fun x y H Q => ∃ a b ks ls, x = .ref a ∧ y = .ref b ∧ H a = some (.dK ks) ∧ H b = some (.dK ls) ∧ (∀ p ∈ ks, flatV p.2 = true) ∧ (∀ p ∈ ls, flatV p.2 = true) ∧ Q (.bl (ks.length == ls.length && ks.all (hitV ls))) H
theorem valV_mem {k : Key} {y : V} : ∀ {ls : List (Key × V)}, valV ls k = some y → ∃ p ∈ ls, p.2 = y
  | [], h => by cases h
  | q :: ls, h => by
    by_cases hk : q.1 = k
    · rw [valV_pos hk] at h
      exact ⟨q, by simp, Option.some.inj h⟩
    · rw [valV_neg hk] at h
      obtain ⟨p, h1, h2⟩ := valV_mem h
      exact ⟨p, List.mem_cons_of_mem _ h1, h2⟩
theorem hits_any {A : Around} {s : Shared} {ls : List (Key × V)} {vb : List (Key × Value)} (rb : KV ls vb) (fl : ∀ p ∈ ls, flatV p.2 = true) {ks : List (Key × V)} {va : List (Key × Value)} (ra : KV ks va) :
    (∀ p ∈ ks, flatV p.2 = true) → PySem.W.KeqHits A s vb va (ks.all (hitV ls)) := by
  unfold KV at ra
  induction ra with
  | nil => intro _; exact .nil
  | @cons p q ps qs h t ih =>
    intro hp
    obtain ⟨h1, h2⟩ := h
    obtain ⟨k, v⟩ := q
    have h1' : p.1 = k := h1
    have ih' := ih fun p' hm => hp p' (List.mem_cons_of_mem _ hm)
    rw [List.all_cons]
    have rr := rb.val p.1
    cases hv : valV ls p.1 with
    | none =>
      rw [hv] at rr
      have hn := rr.none_of
      rw [h1'] at hn
      have : hitV ls p = false := by unfold hitV; rw [hv]
      rw [this, Bool.false_and]
      exact .miss hn
    | some y =>
      rw [hv] at rr
      obtain ⟨u, hu, ru⟩ := rr.some_of
      rw [h1'] at hu
      obtain ⟨p', hp1, hp2⟩ := valV_mem hv
      have : hitV ls p = eqV p.2 y := by unfold hitV; rw [hv]
      rw [this]
      exact .hit hu (eqAt_V h2 ru (hp p List.mem_cons_self) (by rw [← hp2]; exact fl p' hp1)) ih'
theorem op_eqDK {X : Cx} (hu : X.A.units < cLine) : OpR X (compareOp .Eq) rEqDK := by
  intro pins s σ H x y v u Q I rx ry h
  obtain ⟨a, b, ks, ls, rfl, rfl, ea, eb, f1, f2, q⟩ := h
  obtain rfl : v = Value.ref a := rx
  obtain rfl : u = Value.ref b := ry
  obtain ⟨_, ya, va, ra, da⟩ := (show ObjOk X.prog X.w H s.heap a (.dK ks) from I.hok a _ ea)
  obtain ⟨_, yb, vb, rb, db⟩ := (show ObjOk X.prog X.w H s.heap b (.dK ls) from I.hok b _ eb)
  have e1 : ks.length = va.length := ra.length
  have e2 : ls.length = vb.length := rb.length
  exact PySem.W.keq_eq (knd := mixKind X.prog X.w) (r := ks.all (hitV ls)) ya yb da db hu (fun _ => hits_any rb f2 ra f1) (fin_bl I q (by rw [e1, e2]))
theorem u0 {k : Nat} {A : Around} (r : Room k A) : A.units < cLine := by have := r.un; omega
def xEqDK : FO2 := fun r1 r2 S => match r1.rd S, r2.rd S with
  | .dic k1 d1, .dic k2 d2 => match svs d1, svs d2 with
    | some xs, some ys => if xs.all flatV && ys.all flatV then .ok (.v (.bl (k1.length == k2.length && (k1.zip xs).all (hitV (k2.zip ys))))) S else .bad
    | _, _ => .bad
  | _, _ => .bad
theorem zip_back : ∀ (kvs : List (Key × V)), (kvs.map (·.1)).zip (kvs.map (·.2)) = kvs
  | [] => rfl
  | p :: kvs => by simp [zip_back kvs]
section
variable {K : PySem.W.Frag} {W : Cw}
theorem sEqDK : OpS K W rEqDK xEqDK := by
  intro wf w w2 S σd σv r1 r2 v1 v2 Q s L R1 R2 h
  unfold xEqDK at h
  split at h
  · rename_i k1 d1 k2 d2 e1 e2
    obtain ⟨a, ks, rfl, g1, g2, g3⟩ := dicOf s.st R1 e1
    obtain ⟨b, ls, rfl, q1, q2, q3⟩ := dicOf s.st R2 e2
    split at h
    · rename_i xs ys f1 f2
      obtain ⟨hc, h2⟩ := h.ite
      simp only [Bool.and_eq_true] at hc
      have u1 : ks.map (·.2) = xs := reps_svs g3 f1
      have u2 : ls.map (·.2) = ys := reps_svs q3 f2
      subst u1
      subst u2
      subst g2
      subst q2
      rw [zip_back, zip_back, List.length_map, List.length_map] at h2
      refine ⟨a, b, ks, ls, rfl, rfl, g1, q1, fun p hp => ?_, fun p hp => ?_, h2 w2 _ L s.st (.bl _)⟩
      · exact List.all_eq_true.mp hc.1 _ (List.mem_map.mpr ⟨p, hp, rfl⟩)
      · exact List.all_eq_true.mp hc.2 _ (List.mem_map.mpr ⟨p, hp, rfl⟩)
    · exact h.elim
  · exact h.elim
end
end Cl

/-! ## Fun19 -/
namespace Cl
open PySem PySem.Spec PyProof.Rows L2
/-! ## a list comprehension with two fors -/
theorem lcB_it {J : It} {n : Nat} {G : Hp → Prop} {Y : Nat → Hp → V → Hp → Prop} (wk : Walk J n G Y) {g : TG} {tt : TT} {vs : List Nat} {σ : L2.St} {H0 : Hp} {Qd : Hp → Prop} (B : (Hp → Prop) → L2.St → Hp → Prop) (Pv : Nat → Hp → Prop) (h0 : Pv 0 H0) (hG : ∀ i H, i ≤ n → Pv i H → G H)
    (hs : ∀ i x H H', i < n → Pv i H → Y i H x H' → g x (wipe σ vs) H' fun σ2 H2 => wipe σ2 vs = wipe σ vs ∧ tt σ2 H2 fun b H3 => if b = true then B (Pv (i + 1)) σ2 H3 else Pv (i + 1) H3) (hd : ∀ H, Pv n H → Qd H) :
    ∃ Wk : Nat → Nat → Hp → Prop, (∃ m, Wk 0 m H0) ∧ ∀ i m H, Wk i m H →
      (J.stop i H ∧ Qd H) ∨ (J.go i H ∧ ∃ Nx : Hp → Prop, (∀ H', Nx H' → ∃ m', m' < m ∧ Wk (i + 1) m' H') ∧ ∀ x H', J.yld i H x H' → g x (wipe σ vs) H' fun σ2 H2 => wipe σ2 vs = wipe σ vs ∧ tt σ2 H2 fun b H3 => if b = true then B Nx σ2 H3 else Nx H3) := by
  refine ⟨fun i m H => m = n - i ∧ i ≤ n ∧ Pv i H, ⟨n, (Nat.sub_zero n).symm, Nat.zero_le _, h0⟩, fun i m H hh => ?_⟩
  obtain ⟨em, hi, p⟩ := hh
  have q := hG i H hi p
  rcases Nat.lt_or_ge i n with hlt | hge
  · exact .inr ⟨wk.goes i H hlt q, Pv (i + 1), fun H' p' => ⟨n - (i + 1), by omega, rfl, hlt, p'⟩, fun x H' y => hs i x H H' hlt p (wk.yields i H x H' hlt q y)⟩
  · have ei : i = n := by omega
    subst ei
    exact .inl ⟨wk.stops H q, hd H p⟩
def foldLc2 (fg : FG) (ft : FT) (fi1 : FI) (fg1 : FG) (ft1 : FT) (fe : FE) (vs1 : List Nat) (σ : Env) : List Da → List Da → Sto → Ev (List Da)
  | [], acc, S => .ok acc S
  | d :: ds, acc, S => match fg d σ with
    | none => .bad
    | some σ1 => (ft σ1 S).noX.bd fun b S1 => if b = true then (fi1 σ1 S1).noX.bd fun items1 S2 => (foldLc fg1 ft1 fe (wipeD σ1 vs1) items1 acc S2).bd fun acc2 S3 => foldLc2 fg ft fi1 fg1 ft1 fe vs1 σ ds acc2 S3 else foldLc2 fg ft fi1 fg1 ft1 fe vs1 σ ds acc S1
def fLc2 (fi : FI) (fg : FG) (ft : FT) (fi1 : FI) (fg1 : FG) (ft1 : FT) (fe : FE) (vs vs1 : List Nat) : FE := fun σ S => (fi σ S).bd fun items S1 => (foldLc2 fg ft fi1 fg1 ft1 fe vs1 (wipeD σ vs) items [] S1).bd fun acc S2 => .ok (.fr (.lst acc)) S2
section
variable {K : PySem.W.Frag} {W : Cw} {wf w w1 w2 : Wd} {S S1 : Sto} {σd : Env} {σv : L2.St}
theorem Sim.putF (s : Sim K W wf w S σd σv) {a : Addr} {o : HO} (ow : w.ow a) (hf : wf.H a = none) (hn : ∀ (k : Nat) d b, σd[k]? = some (some (.own d b)) → σv[k]? ≠ some (some (.ref a))) : Sim K W wf { w with H := L2.upd w.H a o } S σd σv := by
  have lf := own_put (o := o) ow
  refine ⟨⟨s.le.pre, fun c' u ec nc => ?_⟩, sto_put s.st ow, s.ln, fun j x ej => ?_, s.dj, fun a' d1 e' h => ⟨(s.cx a' d1 e' h).1.lf lf, (s.cx a' d1 e' h).2⟩⟩
  · obtain ⟨h1, h2, h3⟩ := s.le.kp c' u ec nc
    have ne : c' ≠ a := fun z => by rw [z, hf] at ec; cases ec
    exact ⟨by show L2.upd w.H a o c' = some u; rw [upd_ne ne]; exact h1, h2, h3⟩
  · obtain ⟨v, h1, h2⟩ := s.sl j x ej
    refine ⟨v, h1, ?_⟩
    cases x with
    | v d1 => exact Rep.lf lf h2
    | exn => exact True.intro
    | own d1 b1 =>
      obtain ⟨⟨a3, h3, h4, h5, h6, h7⟩, h8⟩ := h2
      subst h3
      refine ⟨⟨a3, rfl, h4, h5.lf lf fun u eu => ?_, h6, h7⟩, h8⟩
      have ne : a3 ≠ a := fun z => hn j d1 b1 ej (by rw [← z]; exact h1)
      show L2.upd w.H a o a3 = some u
      rw [upd_ne ne]; exact eu
theorem snd_lc2 {wi wi1 : TI} {fi fi1 : FI} {q : Nat} {g1 : TG} {fg1 : FG} {js1 vs vs1 : List Nat} {tt tt1 : TT} {ft ft1 : FT} {te : TE} {fe : FE} (hi : SndI K W Le wi fi) (hq : q ∈ vs) (ht : SndT K W tt ft) (hi1 : SndI K W Lf wi1 fi1) (hg1 : SndG K W g1 fg1 js1) (hj1 : ∀ j ∈ js1, j ∈ vs1) (ht1 : SndT K W tt1 ft1) (he : SndE K W te fe) : SndE K W (tLc2 wi (gName q) tt wi1 g1 tt1 te vs vs1) (fLc2 fi (fgName q) ft fi1 fg1 ft1 fe vs vs1) := by
  have hg : SndG K W (gName q) (fgName q) [q] := snd_gName
  have hj : ∀ j ∈ [q], j ∈ vs := fun j h => by rw [List.mem_singleton] at h; rw [h]; exact hq
  generalize hfg : fgName q = fg at hg
  generalize gName q = g at hg
  intro wf w S σd σv Q s h
  refine hi wf w S σd σv _ s ?_
  unfold fLc2 at h
  revert h
  cases fi σd S with
  | ex e S1 => exact fun h => h
  | bad => exact fun h => h
  | ok items S1 =>
    intro h w1 J L1 st1 it Dl hD
    obtain ⟨G, Y, wk, hG, hY⟩ := it
    have h' : PostE K W wf w σv Q ((foldLc2 fg ft fi1 fg1 ft1 fe vs1 (wipeD σd vs) items [] S1).bd fun acc S2 => .ok (.fr (.lst acc)) S2) := h
    refine lcB_it wk (fun Nx σ2 H3 => wi1 σ2 H3 fun J1 H4 => ∃ W1 : Nat → Nat → Hp → Prop, (∃ m, W1 0 m H4) ∧ ∀ j k H, W1 j k H →
      (J1.stop j H ∧ Nx H) ∨ (J1.go j H ∧ ∃ Nx1 : Hp → Prop, (∀ H', Nx1 H' → ∃ k', k' < k ∧ W1 (j + 1) k' H') ∧ ∀ x H', J1.yld j H x H' → g1 x (wipe σ2 vs1) H' fun σ3 H5 => wipe σ3 vs1 = wipe σ2 vs1 ∧ tt1 σ3 H5 fun b H6 =>
        if b = true then te σ3 H6 fun y H7 => ∃ acc, H7 Dl = some (.lst acc) ∧ acc.length < sizeLine ∧ Nx1 (upd H7 Dl (.lst (acc ++ [y]))) else Nx1 H6))
      (fun i H' => ∃ w' S' acc us, w'.H = H' ∧ Le w1 w' ∧ StoR K w' S' ∧ w'.H Dl = some (.lst us) ∧ Reps K w' acc us ∧ w'.ow Dl ∧ Dl ∉ w'.m ∧ PostE K W wf w σv Q ((foldLc2 fg ft fi1 fg1 ft1 fe vs1 (wipeD σd vs) (items.drop i) acc S').bd fun acc S2 => .ok (.fr (.lst acc)) S2)) ?_ ?_ ?_ ?_
    · exact ⟨w1.new Dl (.lst []) True, S1, [], [], rfl, le_new hD, st1.new hD, upd_same, .nil, .inl ⟨rfl, True.intro⟩, (st1.fresh hD).1, h'⟩
    · rintro i H' hi ⟨w', S', acc, us, rfl, L, st, _⟩
      exact hG w' S' L st
    · rintro i x H' H'' hi ⟨w', S', acc, us, rfl, L, st, hl, hr, ho, hm, hp⟩ y
      obtain ⟨w3, d, rfl, ed, L3, st3, r3⟩ := hY i w' S' x H'' hi L st y
      have e : items.drop i = d :: items.drop (i + 1) := by
        rw [List.drop_eq_getElem_cons hi]
        rw [List.getElem?_eq_getElem hi] at ed
        cases ed; rfl
      rw [e] at hp
      simp only [foldLc2] at hp
      have L13 := L.trans L3
      obtain ⟨k1, k2, k3⟩ := L3.kp Dl _ hl hm
      cases e1 : fg d (wipeD σd vs) with
      | none => rw [e1] at hp; exact hp.elim
      | some σ1 =>
        rw [e1] at hp
        refine hg wf w3 S' (wipeD σd vs) (wipe σv vs) d x _ ((s.step (L1.trans L13) st3).wipe vs) r3 ⟨σ1, e1, fun σv1 s1 e2 l2 => ⟨wipe_same e2 l2 hj, ht wf w3 S' σ1 σv1 _ s1 ?_⟩⟩
        have hp0 : PostE K W wf w σv Q (Ev.bd ((ft σ1 S').noX.bd fun b S1 => if b = true then (fi1 σ1 S1).noX.bd fun items1 S2 => (foldLc fg1 ft1 fe (wipeD σ1 vs1) items1 acc S2).bd fun acc2 S3 => foldLc2 fg ft fi1 fg1 ft1 fe vs1 (wipeD σd vs) (items.drop (i + 1)) acc2 S3 else foldLc2 fg ft fi1 fg1 ft1 fe vs1 (wipeD σd vs) (items.drop (i + 1)) acc S1) fun acc S2 => .ok (.fr (.lst acc)) S2) := hp
        clear hp
        revert hp0
        cases ft σ1 S' with
        | ex e S4 => exact fun hp => False.elim hp
        | bad => exact fun hp => hp
        | ok b S4 =>
          intro hp w4 L4 st4
          obtain ⟨m1, m2, m3⟩ := L4.kp Dl _ k1 k2
          have L14 := L13.trans L4
          cases b with
          | false => exact iteF ⟨w4, S4, acc, us, rfl, L14, st4, m1, hr.le (L3.trans L4), m3.mpr (k3.mpr ho), m2, hp⟩
          | true =>
            refine iteT (hi1 wf w4 S4 σ1 σv1 _ (s1.step L4 st4) ?_)
            have hp' : PostE K W wf w σv Q (Ev.bd ((fi1 σ1 S4).noX.bd fun items1 S2 => (foldLc fg1 ft1 fe (wipeD σ1 vs1) items1 acc S2).bd fun acc2 S3 => foldLc2 fg ft fi1 fg1 ft1 fe vs1 (wipeD σd vs) (items.drop (i + 1)) acc2 S3) fun acc S2 => .ok (.fr (.lst acc)) S2) := hp
            clear hp
            revert hp'
            cases fi1 σ1 S4 with
            | ex e S5 => exact fun hp => False.elim hp
            | bad => exact fun hp => hp
            | ok items1 S5 =>
              intro hp w5 J1 L5 st5 it1
              obtain ⟨G1, Y1, wk1, hG1, hY1⟩ := it1
              have hwD : w.H Dl = none := L1.none st1 hD
              have hwf : wf.H Dl = none := s.le.none s.st hwD
              have hno : ∀ (k : Nat) d b, σ1[k]? = some (some (.own d b)) → σv1[k]? ≠ some (some (.ref Dl)) := by
                intro k d' b ek ev
                rw [← hfg] at e1
                have e1 : (wipeD σd vs).set q (some (.v d)) = σ1 := Option.some.inj e1
                by_cases hk : q = k
                · subst hk
                  rw [← e1, List.getElem?_set] at ek
                  rw [if_pos rfl] at ek
                  split at ek
                  · cases ek
                  · cases ek
                · rw [← e1, List.getElem?_set_ne hk] at ek
                  rw [e2 k (by simpa using fun z => hk z.symm)] at ev
                  obtain ⟨v0, h1, ⟨a3, h3, h4, h5, _⟩, _⟩ := (s.wipe vs).sl k _ ek
                  rw [ev] at h1
                  cases h1
                  cases h3
                  obtain ⟨o, eo⟩ := h5.some
                  rw [hwD] at eo
                  cases eo
              obtain ⟨n1, n2, n3⟩ := L5.kp Dl _ m1 m2
              have hp1 : PostE K W wf w σv Q (Ev.bd ((foldLc fg1 ft1 fe (wipeD σ1 vs1) items1 acc S5).bd fun acc2 S3 => foldLc2 fg ft fi1 fg1 ft1 fe vs1 (wipeD σd vs) (items.drop (i + 1)) acc2 S3) fun acc S2 => .ok (.fr (.lst acc)) S2) := hp
              refine lcB_it wk1 (fun Nx1 σ3 H6 => te σ3 H6 fun y H7 => ∃ acc, H7 Dl = some (.lst acc) ∧ acc.length < sizeLine ∧ Nx1 (upd H7 Dl (.lst (acc ++ [y]))))
                (fun j H' => ∃ w' S' acc us, w'.H = H' ∧ (Lf w5 w' ∧ Le w1 w' ∧ Sim K W wf w' S' σ1 σv1) ∧ StoR K w' S' ∧ w'.H Dl = some (.lst us) ∧ Reps K w' acc us ∧ w'.ow Dl ∧ Dl ∉ w'.m ∧ PostE K W wf w σv Q (Ev.bd ((foldLc fg1 ft1 fe (wipeD σ1 vs1) (items1.drop j) acc S').bd fun acc2 S3 => foldLc2 fg ft fi1 fg1 ft1 fe vs1 (wipeD σd vs) (items.drop (i + 1)) acc2 S3) fun acc S2 => .ok (.fr (.lst acc)) S2)) ?_ ?_ ?_ ?_
              · exact ⟨w5, S5, acc, us, rfl, ⟨Lf.refl w5, L14.trans L5, s1.step (L4.trans L5) st5⟩, st5, n1, hr.le ((L3.trans L4).trans L5), n3.mpr (m3.mpr (k3.mpr ho)), n2, hp1⟩
              · rintro j H' hj' ⟨w', S', acc, us, rfl, ⟨L, _, _⟩, st, _⟩
                exact hG1 w' S' L st
              · rintro j x1 H' H'' hj' ⟨w6, S6, acc1, us1, rfl, ⟨L6, L16, s6⟩, st6, hl6, hr6, ho6, hm6, hp6⟩ y1
                obtain ⟨w7, d1, rfl, ed1, L7, st7, r7⟩ := hY1 j w6 S6 x1 H'' hj' L6 st6 y1
                have e' : items1.drop j = d1 :: items1.drop (j + 1) := by
                  rw [List.drop_eq_getElem_cons hj']
                  rw [List.getElem?_eq_getElem hj'] at ed1
                  cases ed1; rfl
                rw [e'] at hp6
                simp only [foldLc] at hp6
                obtain ⟨a1, a2, a3⟩ := L7.kp Dl _ hl6 hm6
                cases e3 : fg1 d1 (wipeD σ1 vs1) with
                | none => rw [e3] at hp6; exact hp6.elim
                | some σ2 =>
                  rw [e3] at hp6
                  refine hg1 wf w7 S6 (wipeD σ1 vs1) (wipe σv1 vs1) d1 x1 _ ((s6.step L7 st7).wipe vs1) r7 ⟨σ2, e3, fun σv2 s2 e4 l4 => ⟨wipe_same e4 l4 hj1, ht1 wf w7 S6 σ2 σv2 _ s2 ?_⟩⟩
                  have hq0 : PostE K W wf w σv Q (Ev.bd (Ev.bd ((ft1 σ2 S6).noX.bd fun b S1 => if b = true then (fe σ2 S1).noX.bd fun r S2 => onD r fun y => if acc1.length < 1000000 then foldLc fg1 ft1 fe (wipeD σ1 vs1) (items1.drop (j + 1)) (acc1 ++ [y]) S2 else .bad else foldLc fg1 ft1 fe (wipeD σ1 vs1) (items1.drop (j + 1)) acc1 S1) fun acc2 S3 => foldLc2 fg ft fi1 fg1 ft1 fe vs1 (wipeD σd vs) (items.drop (i + 1)) acc2 S3) fun acc S2 => .ok (.fr (.lst acc)) S2) := hp6
                  clear hp6
                  revert hq0
                  cases ft1 σ2 S6 with
                  | ex e S4 => exact fun hp => False.elim hp
                  | bad => exact fun hp => hp
                  | ok b S7 =>
                    intro hp w8 L8 st8
                    obtain ⟨b1, b2, b3⟩ := L8.kp Dl _ a1 a2
                    cases b with
                    | false => exact iteF ⟨w8, S7, acc1, us1, rfl, ⟨L6.trans (L7.trans L8).lf, L16.trans (L7.trans L8), s6.step (L7.trans L8) st8⟩, st8, b1, hr6.le (L7.trans L8), b3.mpr (a3.mpr ho6), b2, hp⟩
                    | true =>
                      refine iteT (he wf w8 S7 σ2 σv2 _ (s2.step L8 st8) ?_)
                      have hq1 : PostE K W wf w σv Q (Ev.bd (Ev.bd ((fe σ2 S7).noX.bd fun r S2 => onD r fun y => if acc1.length < 1000000 then foldLc fg1 ft1 fe (wipeD σ1 vs1) (items1.drop (j + 1)) (acc1 ++ [y]) S2 else .bad) fun acc2 S3 => foldLc2 fg ft fi1 fg1 ft1 fe vs1 (wipeD σd vs) (items.drop (i + 1)) acc2 S3) fun acc S2 => .ok (.fr (.lst acc)) S2) := hp
                      clear hp
                      revert hq1
                      cases fe σ2 S7 with
                      | ex e S5 => exact fun hp => False.elim hp
                      | bad => exact fun hp => hp
                      | ok r S8 =>
                        intro hp w9 v9 L9 st9 R9
                        have hq2 : PostE K W wf w σv Q (Ev.bd (Ev.bd (onD r fun y => if acc1.length < 1000000 then foldLc fg1 ft1 fe (wipeD σ1 vs1) (items1.drop (j + 1)) (acc1 ++ [y]) S8 else .bad) fun acc2 S3 => foldLc2 fg ft fi1 fg1 ft1 fe vs1 (wipeD σd vs) (items.drop (i + 1)) acc2 S3) fun acc S2 => .ok (.fr (.lst acc)) S2) := hp
                        unfold onD at hq2
                        cases ey : r.toD with
                        | none => rw [ey] at hq2; exact hq2.elim
                        | some y =>
                          rw [ey] at hq2
                          by_cases hz : acc1.length < 1000000
                          · simp only [hz, if_true] at hq2
                            obtain ⟨c1, c2, c3⟩ := L9.kp Dl _ b1 b2
                            have how : (w8.frz w9).ow Dl := ⟨c3.mpr (b3.mpr (a3.mpr ho6)), by rw [b1]; simp⟩
                            refine ⟨us1, c1, sz_lt (by rw [hr6.length]; omega), { w8.frz w9 with H := upd w9.H Dl (.lst (us1 ++ [v9])) }, S8, acc1 ++ [y], us1 ++ [v9], rfl, ⟨(L6.trans ((L7.trans L8).trans L9.frz).lf).trans (own_put how), le_put (w := w8.frz w9) (L16.trans ((L7.trans L8).trans L9.frz)) hD, (s6.step ((L7.trans L8).trans L9.frz) st9.frz).putF how hwf hno⟩, sto_put (w := w8.frz w9) st9.frz how, upd_same, ?_, how, c2, hq2⟩
                            exact (((hr6.le (L7.trans L8)).le L9.frz).app (.cons (R9.frz ey) .nil)).lf (own_put (w := w8.frz w9) how)
                          · simp only [hz, if_false] at hq2
                            exact hq2.elim
              · rintro H' ⟨w6, S6, acc1, us1, rfl, ⟨L6, L16, s6⟩, st6, hl6, hr6, ho6, hm6, hp6⟩
                rw [List.drop_length] at hp6
                exact ⟨w6, S6, acc1, us1, rfl, L16, st6, hl6, hr6, ho6, hm6, hp6⟩
    · rintro H' ⟨w', S', acc, us, rfl, L, st, hl, hr, ho, hm, hp⟩
      rw [List.drop_length] at hp
      exact hp w' _ (L1.trans L) st ⟨Dl, rfl, L1.none st1 hD, ⟨us, hl, hr⟩, ho, hm⟩
/-- xs.reverse(), xs an expression that tells a cell -/
def fRevE (fo : FE) : FS := fun σ S => (fo σ S).so σ fun ro S0 => match ro with
  | .v (.cell n) => match S0[n]? with
    | some (.lst ds) => .nx σ (S0.set n (.lst ds.reverse))
    | _ => .bad
  | _ => .bad
theorem snd_revE {to : TE} {fo : FE} (ho : SndE K W to fo) : SndS K W (tDrop (tBM K "list" rReverse to tNil)) (fRevE fo) := by
  intro wf w S σd σv D s h
  refine ho.runS (Lf.refl w) s h fun ro S0 w0 v0 L0 st0 R0 h0 => ?_
  revert h0
  split
  · rename_i n
    split
    · rename_i ds0 hS
      intro h0
      cases R0 with
      | cell hm =>
        rename_i a
        obtain ⟨vs0, g0, r0⟩ := st0.at_ n a _ hm hS
        have s0 := s.step L0 st0
        refine ⟨.inl ⟨rfl, vs0, SqL.of g0⟩, a, vs0, rfl, rfl, g0, ?_⟩
        refine h0 { w0 with H := L2.upd w0.H a (.lst vs0.reverse) } σv (L0.lf.trans (lf_putC hm)) ?_
        exact s0.putC hm ⟨vs0.reverse, upd_same, r0.rev.lf (lf_putC hm)⟩
    · intro h0; exact h0.elim
  · intro h0; exact h0.elim
end
end Cl

/-! ## SetI -/
namespace Cl
/-! ## sorted(set(xs)), xs a list or a tuple of ints -/
section
open PySem PySem.Spec PyProof.Rows L2
variable {p : Program} {w : World} {B : Around} {E : Value → Shared → Prop} {q : Shared}
abbrev eI (w : World) : Obj := { cls := .type "set", dict := none, data := .set #[] 0 (.fresh 0 0 (!w.params.followText "set-order")) }
/-- what the new set is, and what stays -/
def SetMadeI (w : World) (q : Shared) (xs : List Int) (q2 : Shared) : Prop := ∃ h2 k c, q2 = { q with heap := h2, toks := k } ∧ SetR w h2 q.heap.objs.size (fun z => decide (z ∈ xs)) c ∧ c ≤ xs.length ∧ ∀ b o, q.heap.get? b = some o → h2.get? b = some o
theorem ints_at {its : Array Value} {xs : List Int} (hi : IntsAre its.toList xs) : its.size = xs.length ∧ ∀ (i : Nat) (v : Value), its[i]? = some v → ∃ z t, xs[i]? = some z ∧ v = .int z t := by
  have hl : its.size = xs.length := by
    have z := IntsAre.length hi
    rwa [Array.length_toList] at z
  refine ⟨hl, fun i v e => ?_⟩
  have hk : i < xs.length := by rw [← hl]; exact (Array.getElem?_eq_some_iff.mp e).1
  obtain ⟨t, z⟩ := PyProof.Rows.IntsAre.int_at hi i v (by rw [Array.getElem?_toList]; exact e)
  exact ⟨xs[i], t, List.getElem?_eq_getElem hk, by rw [z, List.getD_eq_getElem?_getD, List.getElem?_eq_getElem hk] <;> rfl⟩
theorem call_set_ints {l : Addr} {its : Array Value} {xs : List Int} {Q : Value → Shared → Prop} (hh : B.handled = none) (hl : q.heap.IsList l its ∨ q.heap.IsTuple l its) (hi : IntsAre its.toList xs) (hb : xs.length + 1 < scanBound)
    (h : ∀ q2, SetMadeI w q xs q2 → Q (.ref q.heap.objs.size) q2) : wpAny (model p w) B (call (.type "set") [.ref l]) Q E q := by
  rcases hl with hl | hl
  · obtain ⟨hsz, hv⟩ := ints_at hi
    obtain ⟨c, tl, hmro⟩ := PySem.F.called_set.mro
    have k1 := PySem.F.called_set.made
    have k2 := PySem.F.called_set.sub
    have k3 := PySem.F.called_set.notType
    have k4 := PySem.F.called_set.canCreate
    have k5 := PySem.F.typeCall_set_1 (.ref l)
    refine wpAny_call (codeAny_of_tree ?_)
    show wpAny _ _ (callAny (.type "set") _) _ _ _
    refine wpAny_pure ⟨Code.quiet_builtin _ (by decide +kernel), ?_⟩
    refine codeAny_builtin PySem.F.entry_type_call ?_
    rw [Around.under_plain (weight_type_call_type "set" [.ref l] []) rfl]
    repeat (any_goals (first | assumption | wp_step))
    refine codeAny_mono (code_set_led1 (.ref l) (E := E) (Q₁ := fun v q1 => v = .ref q.heap.objs.size ∧ q1 = { q with heap := q.heap.push (eI w) }) ⟨rfl, rfl⟩) fun r q1 hr => ?_
    cases r with
    | error e => exact hr
    | ok fl => cases fl with
      | ret v =>
        obtain ⟨rfl, rfl⟩ := hr
        have g1 : (q.heap.push (eI w)).get? q.heap.objs.size = some (eI w) := Heap.get?_push_size _ rfl
        have g2 : Shared.TypeIs { q with heap := q.heap.push (eI w) } (.ref q.heap.objs.size) "set" := ⟨_, g1, rfl⟩
        have k6 := PySem.F.called_set.init.lookup
        have k7 := PySem.F.called_set.init.bind (.ref q.heap.objs.size)
        repeat (any_goals (first | assumption | wp_step))
        refine codeAny_mono (codeAny_call_builtin (R := wants (fun r q2 => r = .none ∧ SetMadeI w q xs q2) E) PySem.F.called_set.init.plain PySem.F.entry_set_init (check_set_init_1 g2 ?_)) fun r2 q2 hr2 => ?_
        · have hz1 : (q.heap.push (eI w)).objs.size = q.heap.objs.size + 1 := Heap.size_push ..
          have hh3 : B.in1.in1.in1.handled = none := by simp [hh]
          obtain ⟨ol, y1, y2, y3, y4⟩ := hl
          obtain ⟨oc, od, oa, os⟩ := ol
          simp only at y2 y4
          subst y2; subst y4
          have hlS : l < q.heap.objs.size := Heap.lt_size y1
          have y5 := Heap.get?_push_of_some (eI w) y1
          have y6 : (q.heap.push (eI w)).IsList l its := ⟨_, y5, rfl, y3, rfl⟩
          have m1 := PySem.F.sub_list_set
          have m2 := PySem.F.sub_list_frozenset
          have m3 : (Value.type "list" == Value.type "dict") = false := by decide
          unfold Builtin.«set.__init__» noKeywords Builtin.Frozenset.updateFrom
          generalize hPI : pyIter = PI
          wp_walk
          subst hPI
          refine wpAny_pyIter_list y6 (wpAny_bind (wpAny_runValue ?_))
          have ne1 : l ≠ (q.heap.push (eI w)).objs.size := by rw [hz1]; exact Nat.ne_of_lt (Nat.lt_succ_of_lt hlS)
          have ne2 : q.heap.objs.size ∉ [(q.heap.push (eI w)).objs.size, l] := by
            rw [hz1]
            simp only [List.mem_cons, List.not_mem_nil, or_false, not_or]
            exact ⟨Nat.ne_of_lt (Nat.lt_succ_self _), Nat.ne_of_gt hlS⟩
          refine set_update_ints ((Walks.list hh3 _ l ne1 its).toS) q.heap.objs.size ne2 xs hsz hb hv (its.size - 0) 0 _ rfl (Nat.zero_le _) ⟨⟨_, Heap.get?_push_size _ rfl, rfl, rfl⟩, y6.push _⟩ ?_ fun q3 c mv hc hS => ?_
          · exact ⟨0, Nat.le_refl 0, setR_new_at (Heap.get?_push_of_some _ g1)⟩
          · obtain ⟨h3, g3, d3, k3', o3⟩ := q3
            have a1 : g3 = q.gens := mv.gens
            have a2 : d3 = q.drawn := mv.drawn
            have a3 : o3 = q.os := mv.os
            subst a1; subst a2; subst a3
            refine wpAny_pure ?_
            rw [hsz] at hc
            refine wpAny_pure ⟨rfl, h3, k3', c, rfl, hS, hc, fun b o e => ?_⟩
            have hb0 : b < q.heap.objs.size := Heap.lt_size e
            refine mv.heap b o ?_ (Heap.get?_push_of_some _ (Heap.get?_push_of_some _ e))
            simp only [List.mem_cons, List.not_mem_nil, or_false, not_or]
            exact ⟨Nat.ne_of_lt hb0, by rw [hz1]; exact Nat.ne_of_lt (Nat.lt_succ_of_lt hb0)⟩
        · cases r2 with
          | error e => exact hr2
          | ok f2 => cases f2 with
            | ret v =>
              obtain ⟨rfl, hm⟩ := hr2
              repeat (any_goals (first | assumption | wp_step))
              exact h _ hm
            | _ => exact hr2.elim
      | _ => exact hr.elim
  · exact call_set_tupI (P := p) (w := w) xs hh hl hi hb fun h2 k c r hc kp => h _ ⟨h2, k, c, rfl, r, hc, kp⟩
end
/-! ## the reading of sorted(set(e)) -/
section
open PySem PySem.Spec PyProof.Rows L2
variable {X : Cx}
def tSrtSet (K : PySem.W.Frag) (ta : TE) : TE := fun σ H Q => ta σ H fun x H1 => ∃ l, ∃ xs : List Int, x = .ref l ∧ (SqL K H1 l (xs.map V.int) ∨ SqT K H1 l (xs.map V.int)) ∧ xs.length < 64 ∧
  ∀ (ns : List Int) (p : Addr), ns.Pairwise (· < ·) → (∀ k : Int, k ∈ ns ↔ k ∈ xs) → H1 p = none → Q (.ref p) (upd H1 p (.lst (ns.map V.int)))
theorem pe_srtSet {a : Expr} {ta : TE} {p p2 q pos : Pos} (hc : X.calm = true) (hg : Gl X "sorted") (hm : X.mg "sorted" = none) (hg2 : Gl X "set") (hm2 : X.mg "set" = none) (ha : PE X a ta)
    (na : starEach [a] X.env = (false, eval a X.env) :: starEach [] X.env := by rfl) : PE X (.Call (.Name "sorted" p) [.Call (.Name "set" p2) [a] [] q] [] pos) (tSrtSet X.K ta) := by
  refine ⟨fun pins s σ H Q I h => ?_⟩
  refine Call_ (ld_blt I hg hm boot_sorted (callWith_builtin1 (args_cons ?_ rfl) rfl rfl))
  refine Call_ (ld_blt I hg2 hm2 boot_set (callWith_type1 (args_cons (thn (ha.run pins s σ H _ I h) fun v s1 ⟨x, H1, I1, r1, q1⟩ => args_nil ?_) na) na rfl))
  obtain ⟨l, xs, rfl, hq, hl, q1⟩ := q1
  cases r1
  obtain ⟨its, hk, ht⟩ : ∃ its : List Value, (s1.heap.IsList l its.toArray ∨ s1.heap.IsTuple l its.toArray) ∧ Vals (xs.map V.int) its := by
    rcases hq with hq | hq
    · obtain ⟨its, r, pl, _⟩ := I1.list hq
      exact ⟨its, .inl pl.isList, r⟩
    · obtain ⟨its, r, pl, _⟩ := I1.tuple hq
      exact ⟨its, .inr pl, r⟩
  refine call_set_ints (I1.ok.hd hc) hk (xs := xs) (by simpa using ints_of_vals ht) (by unfold scanBound; omega) fun q2 hm => ?_
  obtain ⟨h2, k2, c, rfl, R, hc2, keep⟩ := hm
  have I2 : Inv X pins σ H1 { s1 with heap := h2, toks := k2 } := I1.kept fun b o e => keep b o e
  have R2 : SetR X.w ({ s1 with heap := h2, toks := k2 } : Shared).heap s1.heap.objs.size (fun z => decide (z ∈ xs)) c := R
  generalize ({ s1 with heap := h2, toks := k2 } : Shared) = s2 at I2 R2
  refine args_nil (sorted_set (s := s2) R2 (I2.ok.hd hc) (by omega) fun s' p' out c' ns k g o hp hg hi hs hm2 hl2 => ?_)
  have hlen : (ns.map V.int).length ≤ sizeLine := by rw [List.length_map, hl2, sizeLine_eq]; omega
  have hn : H1 p' = none := I2.hok.fresh hp
  have J : Inv X pins σ (upd H1 p' (.lst (ns.map V.int))) { s2 with heap := s'.heap, gens := s'.gens, drawn := s'.drawn, toks := s'.toks } :=
    I2.call (ch := []) (Un.laid k hp hn) (I2.hok.laid k hp ⟨hlen, out.toList, c', vals_of_ints hi, hg⟩) (by rw [g]; exact I2.bare) (fun _ z => nomatch z)
  have e : s' = { s2 with heap := s'.heap, gens := s'.gens, drawn := s'.drawn, toks := s'.toks } := by
    cases s'
    cases s2
    cases o
    rfl
  rw [e]
  exact ⟨.ref p', _, J, rfl, q1 ns p' hs (fun k => by rw [hm2 k]; simp) hn⟩
end
end Cl

/-! ## Fun20 -/
namespace Cl
open PySem PySem.Spec PyProof.Rows L2
/-! ## sorted(set(xs)) of ints; * of large ints -/
def insU (x : Int) : List Int → List Int
  | [] => [x]
  | y :: l => if x < y then x :: y :: l else if x = y then y :: l else y :: insU x l
/-- the ascending list without doubles -/
def usrt : List Int → List Int
  | [] => []
  | x :: l => insU x (usrt l)
theorem insU_mem {x y : Int} : ∀ {l : List Int}, y ∈ insU x l ↔ y = x ∨ y ∈ l
  | [] => by simp [insU]
  | z :: l => by
    have ih := insU_mem (x := x) (y := y) (l := l)
    unfold insU
    split
    · simp
    · split
      · rename_i h; subst h; simp
      · simp only [List.mem_cons, ih]
        constructor
        · rintro (h | h | h)
          · exact .inr (.inl h)
          · exact .inl h
          · exact .inr (.inr h)
        · rintro (h | h | h)
          · exact .inr (.inl h)
          · exact .inl h
          · exact .inr (.inr h)
theorem insU_srt {x : Int} : ∀ {l : List Int}, l.Pairwise (· < ·) → (insU x l).Pairwise (· < ·)
  | [], _ => by simp [insU]
  | z :: l, h => by
    obtain ⟨h1, h2⟩ := List.pairwise_cons.mp h
    unfold insU
    split
    · rename_i hx
      refine List.pairwise_cons.mpr ⟨fun y hy => ?_, h⟩
      rcases List.mem_cons.mp hy with rfl | hy
      · exact hx
      · exact Int.lt_trans hx (h1 y hy)
    · split
      · exact h
      · refine List.pairwise_cons.mpr ⟨fun y hy => ?_, insU_srt h2⟩
        rcases insU_mem.mp hy with rfl | hy
        · show z < y; omega
        · exact h1 y hy
theorem usrt_mem {y : Int} : ∀ {l : List Int}, y ∈ usrt l ↔ y ∈ l
  | [] => by simp [usrt]
  | x :: l => by
    show y ∈ insU x (usrt l) ↔ _
    rw [insU_mem, usrt_mem (l := l), List.mem_cons]
theorem usrt_srt : ∀ l : List Int, (usrt l).Pairwise (· < ·)
  | [] => .nil
  | x :: l => insU_srt (usrt_srt l)
theorem asc_uniq : ∀ {l m : List Int}, l.Pairwise (· < ·) → m.Pairwise (· < ·) → (∀ x, x ∈ l ↔ x ∈ m) → l = m
  | [], [], _, _, _ => rfl
  | [], y :: m, _, _, h => absurd ((h y).mpr List.mem_cons_self) (by simp)
  | x :: l, [], _, _, h => absurd ((h x).mp List.mem_cons_self) (by simp)
  | x :: l, y :: m, hl, hm, h => by
    obtain ⟨a1, a2⟩ := List.pairwise_cons.mp hl
    obtain ⟨b1, b2⟩ := List.pairwise_cons.mp hm
    have e : x = y := by
      rcases List.mem_cons.mp ((h x).mp List.mem_cons_self) with e | e
      · exact e
      · rcases List.mem_cons.mp ((h y).mpr List.mem_cons_self) with e2 | e2
        · exact e2.symm
        · exact absurd (Int.lt_trans (a1 y e2) (b1 x e)) (Int.lt_irrefl _)
    subst e
    refine congrArg (x :: ·) (asc_uniq a2 b2 fun z => ⟨fun hz => ?_, fun hz => ?_⟩)
    · rcases List.mem_cons.mp ((h z).mp (List.mem_cons_of_mem _ hz)) with e | e
      · subst e; exact absurd (a1 z hz) (Int.lt_irrefl _)
      · exact e
    · rcases List.mem_cons.mp ((h z).mpr (List.mem_cons_of_mem _ hz)) with e | e
      · subst e; exact absurd (b1 z hz) (Int.lt_irrefl _)
      · exact e
/-! ## a comprehension in a comprehension -/
theorem lookup_map2 (c : Str → NameKind → Bool) : ∀ (names : List (Str × NameKind)) (x : Str), (names.map fun (p : Str × NameKind) => if c p.1 p.2 then (p.1, NameKind.cell) else (p.1, p.2)).lookup x = (names.lookup x).map fun k => if c x k then .cell else k
  | [], x => rfl
  | (n, k) :: r, x => by
    have ih := lookup_map2 c r x
    rw [List.map_cons]
    by_cases h : x = n
    · subst h
      by_cases hc : c x k = true
      · simp [hc, List.lookup_cons]
      · simp [hc, List.lookup_cons]
    · have h' : (x == n) = false := by simpa using h
      by_cases hc : c n k = true
      · simp only [hc, if_true, List.lookup_cons, h']; exact ih
      · simp only [hc, Bool.false_eq_true, if_false, List.lookup_cons, h']; exact ih
theorem blkOk_nest {N : List Str} {sc scope : Scope} {own : List (Str × Nat)} {env : PySem.Env} (h : blkC N sc scope own = true) : BlkOk N (relabel sc env) scope own := by
  obtain ⟨a, b, c, d, e⟩ := blkOk_by h
  refine ⟨a, b, c, fun y hy hf => ?_, e⟩
  have q : (relabel sc env).names.lookup y.1 = (sc.names.lookup y.1).map fun k => if (k == .free && env.scope.kind == .function && env.kindOf y.1 == some .cell) then .cell else k := lookup_map2 (fun n k => k == .free && env.scope.kind == .function && env.kindOf n == some .cell) sc.names y.1
  rw [q]
  rcases d y hy hf with z | z
  · rw [z]; exact .inl rfl
  · rw [z, Option.map_some]
    split
    · exact .inl rfl
    · exact .inr rfl
section
variable {K : PySem.W.Frag} {W : Cw}
def fSrtSet (fe : FE) : FE := fun σ S => (fe σ S).bd fun r S1 => match r.rd S1 with
  | .lst ds => match intsD ds with
    | some xs => if xs.length < 64 then .ok (.fr (.lst ((usrt xs).map Da.int))) S1 else .bad
    | none => .bad
  | .tup ds => match intsD ds with
    | some xs => if xs.length < 64 then .ok (.fr (.lst ((usrt xs).map Da.int))) S1 else .bad
    | none => .bad
  | _ => .bad
theorem snd_srtSet {te : TE} {fe : FE} (he : SndE K W te fe) : SndE K W (tSrtSet K te) (fSrtSet fe) := by
  intro wf w S σd σv Q s h
  refine he.run (Le.refl w) s h fun r S1 w1 v L1 st1 R1 h1 => ?_
  have go : ∀ (xs ns : List Int) (p : Addr), ns.Pairwise (· < ·) → (∀ k : Int, k ∈ ns ↔ k ∈ xs) → w1.H p = none → PostE K W wf w σv Q (.ok (.fr (.lst ((usrt xs).map Da.int))) S1) → Q (.ref p) (upd w1.H p (.lst (ns.map V.int))) := fun xs ns p hs hm hp h2 => by
    have en : ns = usrt xs := asc_uniq hs (usrt_srt xs) fun k => (hm k).trans usrt_mem.symm
    subst en
    exact h2 (w1.new p (.lst ((usrt xs).map V.int)) True) _ (L1.trans (le_new hp)) (st1.new hp) (own_newL st1 (L1.none st1 hp) hp (Reps.ints _))
  revert h1
  split
  · rename_i ds e0
    split
    · rename_i xs e1
      intro h1
      obtain ⟨hz, h2⟩ := h1.ite
      obtain ⟨a, vs, rfl, g1, g2⟩ := lstOf st1 R1 e0
      have hv := intsD_of g2 e1
      subst hv
      exact ⟨a, xs, rfl, .inl (SqL.of g1), hz, fun ns p hs hm hp => go xs ns p hs hm hp h2⟩
    · intro h1; exact h1.elim
  · rename_i ds e0
    split
    · rename_i xs e1
      intro h1
      obtain ⟨hz, h2⟩ := h1.ite
      obtain ⟨a, vs, rfl, g1, g2⟩ := tupOf st1 R1 e0
      have hv := intsD_of g2 e1
      subst hv
      exact ⟨a, xs, rfl, .inr g1.sq, hz, fun ns p hs hm hp => go xs ns p hs hm hp h2⟩
    · intro h1; exact h1.elim
  · intro h1; exact h1.elim
abbrev oMulW : R2 := rI CMulW fun i j => .int (i * j)
def cMulW (a b : Int) : Bool := decide (a.natAbs.log2 + b.natAbs.log2 < 1000000)
abbrev xMulW : FO2 := oI cMulW fun a b => .int (a * b)
theorem sMulW : OpS K W oMulW xMulW := op_I (fun a b h => by unfold cMulW at h; have h2 : a.natAbs.log2 + b.natAbs.log2 < 1000000 := of_decide_eq_true h; exact h2) fun _ _ _ => .int _
end
end Cl

/-! ## Fun21 -/
namespace Cl
open PySem PySem.Spec PyProof.Rows L2
/-! ## d.get(k, x); [(k, d[k]) for k in d] -/
section
variable {K : PySem.W.Frag} {W : Cw}
def fDGet2 (fo fk fx : FE) : FE := fun σ S => (fo σ S).bd fun r S1 => match r.rd S1 with
  | .dic _ _ => (fk σ S1).bd fun q S2 => (fx σ S2).bd fun z S3 => onD z fun x => onK q fun k => match r.rd S3 with
    | .dic ks ds => .ok (.v ((getK ks ds k).getD x)) S3
    | _ => .bad
  | _ => .bad
theorem snd_dget2 {to tk tx : TE} {fo fk fx : FE} (ho : SndE K W to fo) (hk : SndE K W tk fk) (hx : SndE K W tx fx) : SndE K W (tDGet2 to tk tx) (fDGet2 fo fk fx) := by
  intro wf w S σd σv Q s h
  refine ho.run (Le.refl w) s h fun r S1 w1 v1 L1 st1 R1 h1 => ?_
  revert h1
  split
  · rename_i ks0 ds0 e0
    intro h1
    obtain ⟨a, kvs0, rfl, k1, _⟩ := dicOf st1 R1 e0
    refine ⟨a, rfl, .inl ⟨kvs0, .inl k1⟩, hk.run L1 (s.step L1 st1) h1 fun q S2 w2 v2 L2 st2 R2 h2 => hx.run (L1.trans L2) (s.step (L1.trans L2) st2) h2 fun z S3 w3 v3 L3 st3 R3 h3 => ?_⟩
    unfold onD at h3
    cases ez : z.toD with
    | none => rw [ez] at h3; exact h3.elim
    | some x =>
      rw [ez] at h3
      obtain ⟨k, rfl, h4⟩ := onK_of (R2.le L3) h3
      revert h4
      split
      · rename_i ks ds e
        intro h4
        obtain ⟨a', kvs, ea, g1, g2, g3⟩ := dicOf st3 ((R1.le L2).le L3) e
        cases ea
        refine ⟨valV kvs k, DGet.k g1, ?_⟩
        obtain ⟨q1, q2⟩ := getK_of (k := k) g2 g3
        have Lf3 : Le w (w2.frz w3) := (L1.trans L2).trans L3.frz
        have rx : Rep K (w2.frz w3) x v3 := R3.frz ez
        cases hg : getK ks ds k with
        | none => rw [hg] at h4; rw [q2 hg]; exact h4 (w2.frz w3) v3 Lf3 st3.frz rx
        | some d => rw [hg] at h4; obtain ⟨v, h5, h6⟩ := q1 d hg; rw [h5]; exact h4 (w2.frz w3) v Lf3 st3.frz (h6.lf lf_frz)
      · intro h4; exact h4.elim
  · intro h1; exact h1.elim
def kD : Key → Da
  | .inl i => .int i
  | .inr s => .str s
theorem rep_kD {w : Wd} (k : Key) : Rep K w (kD k) (kV k) := by
  cases k with
  | inl i => exact .int i
  | inr s => exact .str s
def itemsL (ks : List Key) (ds : List Da) : List Da := ks.map fun k => .tup [kD k, (getK ks ds k).getD .non]
def fItems (j i : Nat) : FE := fun σ S => match σ[j]? with
  | some (some (.v (.cell n))) => match S[n]? with
    | some (.dic ks ds) => if i < σ.length ∧ i ≠ j ∧ ks.length ≤ 1000 then .ok (.fr (.lst (itemsL ks ds))) S else .bad
    | _ => .bad
  | _ => .bad
theorem upd_comm {H : Hp} {a b : Addr} {o u : HO} (h : a ≠ b) : upd (upd H a o) b u = upd (upd H b u) a o := by
  funext c
  unfold upd
  by_cases h1 : c = b
  · by_cases h2 : c = a
    · exact absurd (h2.symm.trans h1) h
    · rw [if_pos h1, if_neg h2, if_pos h1]
  · by_cases h2 : c = a
    · rw [if_neg h1, if_pos h2, if_pos h2]
    · rw [if_neg h1, if_neg h2, if_neg h2, if_neg h1]
theorem upd_back {H : Hp} {a : Addr} {o u : HO} (h : H a = some u) : upd (upd H a o) a u = H := by
  funext c
  unfold upd
  by_cases h1 : c = a
  · rw [if_pos h1, h1, h]
  · rw [if_neg h1, if_neg h1]
theorem valV_at {kvs : List (Key × V)} {i : Nat} {k : Key} {v : V} (h : kvs[i]? = some (k, v)) : ∃ u, valV kvs k = some u := by
  have hm := List.mem_of_getElem? h
  have q := valV_any k kvs
  have : (kvs.any fun kv => decide (kv.1 = k)) = true := List.any_eq_true.mpr ⟨_, hm, by simp⟩
  rw [this] at q
  cases e : valV kvs k with
  | none => rw [e] at q; cases q
  | some u => exact ⟨u, rfl⟩
def tItems (j i : Nat) : TE := tLockE (tLc (iKeys (tVar j)) (gName i) tYes (tTup (tCons (tVar i) (tCons (tDGet (tVar j) (tVar i)) tNil))) [i])
theorem snd_items {j i : Nat} : SndE K W (tItems j i) (fItems j i) := by
  intro wf w S σd σv Q s h
  unfold fItems at h
  split at h
  · rename_i n e0
    split at h
    · rename_i ks ds eS
      obtain ⟨⟨hi, hij, hz⟩, h⟩ := h.ite
      obtain ⟨v0, ev0, R0⟩ := s.sl j _ e0
      have R0' : Rep K w (.cell n) v0 := R0
      cases R0' with
      | cell hm =>
        rename_i a
        obtain ⟨kvs, g1, g2, g3⟩ : ConR K w a (.dic ks ds) := s.st.at_ n a _ hm eS
        have hi2 : i < σv.length := by rw [← s.ln]; exact hi
        refine ⟨a, .dK kvs, g1, True.intro, fun od => ⟨.ref a, ev0, a, od, rfl, .inl ⟨kvs, upd_same, fun Dl hD => ?_⟩⟩⟩
        have hDa : Dl ≠ a := fun z => by rw [z, upd_same] at hD; cases hD
        have hDw : w.H Dl = none := by rw [upd_ne hDa] at hD; exact hD
        have hkl : kvs.length = ks.length := by rw [← g2]; simp
        refine lc_it walk_keys (fun t H' => ∃ w' us, H' = upd w'.H a (.frz od (.dK kvs)) ∧ Le w w' ∧ StoR K w' S ∧ w'.H a = some (.dK kvs) ∧ w'.H Dl = some (.lst us) ∧ Reps K w' ((itemsL ks ds).take t) us ∧ w'.ow Dl ∧ Dl ∉ w'.m) ?_ ?_ ?_ ?_
        · refine ⟨w.new Dl (.lst []) True, [], ?_, le_new hDw, s.st.new hDw, by show upd w.H Dl _ a = _; rw [upd_ne (fun z => hDa z.symm)]; exact g1, upd_same, by simpa using Reps.nil, .inl ⟨rfl, True.intro⟩, (s.st.fresh hDw).1⟩
          exact upd_comm fun z => hDa z.symm
        · rintro t H' _ ⟨w', us, rfl, _⟩
          exact upd_same
        · rintro t x H' H'' ht ⟨w', us, rfl, L, st, ga, hl, hr, ho, hm'⟩ ⟨rfl, k, v, ek, rfl⟩
          obtain ⟨u, hu⟩ := valV_at ek
          have wl : (wipe σv [i]) = σv.set i none := rfl
          show wipe ((wipe σv [i]).set i (some (kV k))) [i] = wipe σv [i] ∧ _
          refine ⟨by show (((σv.set i none).set i (some (kV k))).set i none) = σv.set i none; simp, ?_⟩
          simp only [tYes, if_true]
          refine ⟨kV k, by rw [wl, List.getElem?_set_self (by simpa using hi2)], ⟨.ref a, by rw [wl, List.getElem?_set_ne hij, List.getElem?_set_ne hij]; exact ev0, ⟨kV k, by rw [wl, List.getElem?_set_self (by simpa using hi2)], a, u, rfl, ?_, ?_⟩⟩⟩
          · rw [← hu]; exact .inl ⟨kvs, k, .inr ⟨od, upd_same⟩, rfl, rfl⟩
          · refine ⟨by show (2 : Nat) ≤ sizeLine; decide, fun p hp => ?_⟩
            have hpa : p ≠ a := fun z => by rw [z, upd_same] at hp; cases hp
            have hpw : w'.H p = none := by rw [upd_ne hpa] at hp; exact hp
            have hDp : Dl ≠ p := fun z => by rw [z, hpw] at hl; cases hl
            obtain ⟨kvs', q1, q2, q3⟩ : ConR K w' a (.dic ks ds) := st.at_ n a _ (pre_at L.pre hm) eS
            rw [ga] at q1
            cases q1
            obtain ⟨d, hd, rd⟩ : ∃ d, getK ks ds k = some d ∧ Rep K w' d u := by
              obtain ⟨z1, z2⟩ := getK_of (k := k) q2 q3
              cases e : getK ks ds k with
              | none => rw [z2 e] at hu; cases hu
              | some d => obtain ⟨v', y1, y2⟩ := z1 d e; rw [hu] at y1; cases y1; exact ⟨d, rfl, y2⟩
            have hul : us.length ≤ 1000 := by rw [hr.length, List.length_take]; unfold itemsL; rw [List.length_map]; omega
            have hks : ks[t]? = some k := by rw [← g2, List.getElem?_map, ek]; rfl
            have htk : (itemsL ks ds).take (t + 1) = (itemsL ks ds).take t ++ [.tup [kD k, d]] := by
              rw [List.take_add_one]
              unfold itemsL
              rw [List.getElem?_map, hks, Option.map_some, hd]; rfl
            have rt := rep_newT st hpw (.cons (rep_kD k) (.cons rd .nil))
            have st2 := st.new (p := p) (o := .tup [kV k, u]) (b := False) hpw
            have L2 : Le w' (w'.new p (.tup [kV k, u]) False) := le_new hpw
            obtain ⟨m1, m2, m3⟩ := L2.kp Dl _ hl hm'
            have how : (w'.new p (.tup [kV k, u]) False).ow Dl := m3.mpr ho
            refine ⟨us, by rw [upd_ne hDp, upd_ne hDa]; exact hl, sz_lt (by omega), { w'.new p (.tup [kV k, u]) False with H := upd (w'.new p (.tup [kV k, u]) False).H Dl (.lst (us ++ [.ref p])) }, us ++ [.ref p], ?_, le_put (L.trans L2) hDw, sto_put st2 how, ?_, upd_same, ?_, how, m2⟩
            · show upd (upd (upd w'.H a _) p _) Dl _ = upd (upd (upd w'.H p _) Dl _) a _
              rw [upd_comm (H := w'.H) (a := a) (b := p) (fun z => hpa z.symm), upd_comm (a := a) (b := Dl) (fun z => hDa z.symm)]
            · show upd (upd w'.H p _) Dl _ a = _
              rw [upd_ne (fun z => hDa z.symm), upd_ne (fun z => hpa z.symm)]; exact ga
            · rw [htk]
              exact ((hr.le L2).app (.cons rt .nil)).lf (own_put how)
        · rintro H' ⟨w', us, rfl, L, st, ga, hl, hr, ho, hm'⟩
          have hall : (itemsL ks ds).take kvs.length = itemsL ks ds := List.take_of_length_le (by unfold itemsL; rw [List.length_map]; omega)
          rw [hall] at hr
          refine ⟨upd_same, ?_⟩
          rw [show upd (upd w'.H a (.frz od (.dK kvs))) a (.dK kvs) = w'.H by
            funext c
            unfold upd
            by_cases z : c = a
            · rw [if_pos z, z, ga]
            · rw [if_neg z, if_neg z]]
          exact h w' (.ref Dl) L st ⟨Dl, rfl, hDw, ⟨us, hl, hr⟩, ho, hm'⟩
    · exact h.elim
  · exact h.elim
end
end Cl

/-! ## Fun22 -/
namespace Cl
open PySem PySem.Spec PyProof.Rows L2
/-! ## d.setdefault(k, x) on a cell; list(d.values()) -/
section
variable {K : PySem.W.Frag} {W : Cw}
theorem le_putC {w : Wd} {n : Nat} {a : Addr} {o : HO} (hm : w.m[n]? = some a) : Le w { w with H := upd w.H a o } := ⟨List.prefix_refl _, fun b u e f => by
  have hne : b ≠ a := fun z => f (z ▸ List.mem_of_getElem? hm)
  exact ⟨by show upd w.H a o b = some u; rw [upd_ne hne]; exact e, f, Iff.rfl⟩⟩
def fDSetd (fo fk fx : FE) : FE := fun σ S => (fo σ S).bd fun r S1 => match r with
  | .v (.cell n) => match S1[n]? with
    | some (.dic _ _) => (fk σ S1).bd fun q S2 => (fx σ S2).bd fun z S3 => onD z fun x => onK q fun k => match S3[n]? with
      | some (.dic ks ds) => if ks.length < 1000000 then (match getK ks ds k with
        | some d => .ok (.v d) S3
        | none => .ok (.v x) (S3.set n (.dic (putKs ks k) (putDs ks ds k x)))) else .bad
      | _ => .bad
    | _ => .bad
  | _ => .bad
theorem snd_dsetd {to tk tx : TE} {fo fk fx : FE} (ho : SndE K W to fo) (hk : SndE K W tk fk) (hx : SndE K W tx fx) : SndE K W (tDSetd to tk tx) (fDSetd fo fk fx) := by
  intro wf w S σd σv Q s h
  refine ho.run (Le.refl w) s h fun r S1 w1 v1 L1 st1 R1 h1 => ?_
  revert h1
  split
  · rename_i n
    split
    · rename_i ks0 ds0 hS
      intro h1
      cases R1 with
      | cell hm =>
        rename_i a
        obtain ⟨kvs0, g0, _⟩ := st1.at_ n a _ hm hS
        refine ⟨a, rfl, .inl ⟨kvs0, .inl g0⟩, hk.run L1 (s.step L1 st1) h1 fun q S2 w2 v2 L2 st2 R2 h2 => hx.run (L1.trans L2) (s.step (L1.trans L2) st2) h2 fun z S3 w3 v3 L3 st3 R3 h3 => ?_⟩
        unfold onD at h3
        cases ez : z.toD with
        | none => rw [ez] at h3; exact h3.elim
        | some x =>
          rw [ez] at h3
          obtain ⟨k, rfl, h4⟩ := onK_of (R2.le L3) h3
          revert h4
          split
          · rename_i ks ds e
            intro h4
            split at h4
            · rename_i hz
              have hm1 : (w2.frz w3).m[n]? = some a := pre_at (L2.trans L3).pre hm
              have st4 : StoR K (w2.frz w3) S3 := st3.frz
              obtain ⟨kvs, g1, g2, g3⟩ := st4.at_ n a _ hm1 e
              have hkl : kvs.length = ks.length := by rw [← g2, List.length_map]
              have hl : kvs.length < sizeLine := sz_lt (by omega)
              have Lf3 : Le w (w2.frz w3) := (L1.trans L2).trans L3.frz
              have rx : Rep K (w2.frz w3) x v3 := R3.frz ez
              obtain ⟨q1, q2⟩ := getK_of (k := k) g2 g3
              refine ⟨kvs, k, g1, rfl, hl, fun v hv => ?_, fun hn => ?_⟩
              · cases hg : getK ks ds k with
                | none => rw [q2 hg] at hv; cases hv
                | some d =>
                  rw [hg] at h4
                  obtain ⟨v', h6, h7⟩ := q1 d hg
                  rw [hv] at h6
                  cases h6
                  exact h4 (w2.frz w3) v Lf3 st4 h7
              · cases hg : getK ks ds k with
                | some d =>
                  obtain ⟨v', h6, _⟩ := q1 d hg
                  rw [hn] at h6; cases h6
                | none =>
                  rw [hg] at h4
                  obtain ⟨p1, p2⟩ := put_rel (k := k) g2 g3 rx
                  have sim := (s.step Lf3 st4).putC (o := .dK (putK kvs k v3)) (d' := .dic (putKs ks k) (putDs ks ds k x)) hm1 ⟨putK kvs k v3, upd_same, p1, p2.lf (lf_putC hm1)⟩
                  exact h4 { w2.frz w3 with H := upd (w2.frz w3).H a (.dK (putK kvs k v3)) } v3 (Lf3.trans (le_putC hm1)) sim.st (rx.lf (lf_putC hm1))
            · exact h4.elim
          · intro h4; exact h4.elim
    · intro h1; exact h1.elim
  · intro h1; exact h1.elim
def fListV (fo : FE) : FE := fun σ S => (fo σ S).bd fun r S1 => match r.rd S1 with
  | .dic _ ds => .ok (.fr (.lst ds)) S1
  | _ => .bad
theorem snd_listV {to : TE} {fo : FE} (ho : SndE K W to fo) : SndE K W (tListV to) (fListV fo) := by
  intro wf w S σd σv Q s h
  refine ho.run (Le.refl w) s h fun r S1 w1 v1 L1 st1 R1 h1 => ?_
  revert h1
  split
  · rename_i ks ds e
    intro h1
    obtain ⟨a, kvs, rfl, g1, g2, g3⟩ := dicOf st1 R1 e
    refine ⟨a, kvs, rfl, g1, fun p hp => ?_⟩
    exact h1 (w1.new p (.lst (kvs.map Prod.snd)) True) _ (L1.trans (le_new hp)) (st1.new hp) ⟨p, rfl, L1.none st1 hp, ⟨kvs.map Prod.snd, upd_same, g3.le (le_new hp)⟩, .inl ⟨rfl, True.intro⟩, (st1.fresh hp).1⟩
  · intro h1; exact h1.elim
end
end Cl

/-! ## Fun23 -/
namespace Cl
open PySem PySem.Spec PyProof.Rows L2
/-! ## raise X(xs), X with self.f = list(f) -/
section
variable {K : PySem.W.Frag} {W : Cw}
def fRaiseL (C f : Str) (fa : FA) : FS := fun σ S => (fa σ S).so σ fun rs S1 => match rs with
  | [r] => match r.rd S1 with
    | .lst ds => .ex ⟨C, [f], [.lst ds]⟩ σ S1
    | _ => .bad
  | _ => .bad
theorem snd_raiseL {C f : Str} {ta : TA} {fa : FA} (ha : SndA K W ta fa) : SndS K W (tRaise (tMkL K (He.ga K C) f ta) W.W) (fRaiseL C f fa) := by
  intro wf w S σd σv D s h
  refine ha.runS (Lf.refl w) s h fun rs S1 w1 vs L1 st1 R1 h1 => ?_
  revert h1
  split
  · rename_i r
    split
    · rename_i ds e
      intro h1
      obtain ⟨v, rfl, R⟩ := R1.one
      obtain ⟨a, us, rfl, g1, g2⟩ := lstOf st1 R e
      refine ⟨a, us, rfl, SqL.of g1, fun p d hp hd hpd => ?_⟩
      have st : StoR K (w.frz w1) S1 := st1.frz
      have g2' : Reps K (w.frz w1) ds us := g2.lf lf_frz
      have hp' : (w.frz w1).H p = none := hp
      have Lp : Le w ((w.frz w1).new p (.lst us) False) := L1.frz.trans (le_new hp')
      have sp : StoR K ((w.frz w1).new p (.lst us) False) S1 := st.new hp'
      have hd' : ((w.frz w1).new p (.lst us) False).H d = none := by
        show upd w1.H p _ d = none
        rw [upd_ne (Ne.symm hpd)]; exact hd
      have fzp : ((w.frz w1).new p (.lst us) False).fz p := ⟨(st.fresh hp').1, fun z => z.elim (·.2) fun z => z.1 rfl⟩
      have Ld : Le ((w.frz w1).new p (.lst us) False) (((w.frz w1).new p (.lst us) False).new d (.xd [(f, .ref p)]) False) := le_new hd'
      have rp : Rep K ((w.frz w1).new p (.lst us) False) (.lst ds) (.ref p) := .lst upd_same fzp (g2'.le (le_new hp'))
      refine h1 (((w.frz w1).new p (.lst us) False).new d (.xd [(f, .ref p)]) False) σv _ _ (Lp.trans Ld).lf (s.step (Lp.trans Ld) (sp.new hd')) ⟨rfl, .inl ⟨d, [(f, .ref p)], rfl, upd_same, ⟨(sp.fresh hd').1, fun z => z.elim (·.2) fun z => z.1 rfl⟩, rfl, .cons (rp.le Ld) .nil⟩⟩
    · intro h1; exact h1.elim
  · intro h1; exact h1.elim
end
end Cl

/-! ## Fun24 -/
namespace Cl
open PySem PySem.Spec PyProof.Rows L2
/-! ## x is True -/
section
variable {K : PySem.W.Frag} {W : Cw}
def rIsBl : V → V → Hp → VK → Prop := fun x y H Q => ∃ a b, x = .bl a ∧ y = .bl b ∧ Q (.bl (decide (a = b))) H
def rNotBl : V → V → Hp → VK → Prop := fun x y H Q => ∃ a b, x = .bl a ∧ y = .bl b ∧ Q (.bl (!decide (a = b))) H
theorem op_isB1 {X : Cx} : OpR X (compareOp .Is) rIsBl := op_is_bl
theorem op_notB1 {X : Cx} : OpR X (compareOp .IsNot) rNotBl := op_isnot_bl
def xIsB (neg : Bool) : FO2 := fun r1 r2 S => match r1, r2 with
  | .v (.bl a), .v (.bl b) => .ok (.v (.bl (if neg then !decide (a = b) else decide (a = b)))) S
  | _, _ => .bad
theorem sIsB : OpS K W rIsBl (xIsB false) := by
  intro wf w w2 S σd σv r1 r2 v1 v2 Q s L R1 R2 h
  unfold xIsB at h
  split at h
  · rename_i a b
    cases R1
    cases R2
    exact ⟨a, b, rfl, rfl, h w2 _ L s.st (.bl _)⟩
  · exact h.elim
theorem sNotB : OpS K W rNotBl (xIsB true) := by
  intro wf w w2 S σd σv r1 r2 v1 v2 Q s L R1 R2 h
  unfold xIsB at h
  split at h
  · rename_i a b
    cases R1
    cases R2
    exact ⟨a, b, rfl, rfl, h w2 _ L s.st (.bl _)⟩
  · exact h.elim
end
end Cl

/-! ## Fun25 -/
namespace Cl
open PySem PySem.Spec PyProof.Rows L2
/-! ## isinstance(e, C), isinstance(e, (C, D, ..)) in an except suite: e with fields or without -/
section
variable {K : PySem.W.Frag}
def rIsX2 (K : PySem.W.Frag) (D a : Addr) (cls : Value) (d : Option Addr) : List V → Hp → VK → Prop := fun xs H Q => ∃ (c : V) (cv : Value) (b : Bool), xs = [.ref a, c] ∧ cls = .ref D ∧ ((∃ dd fs, d = some dd ∧ H dd = some (.xd fs)) ∨ d = none) ∧ (∀ u, RelV c u → u = cv) ∧ PySem.W.kitOne K (.ref D) cv = some b ∧ Q (.bl b) H
theorem call_isX2 {X : Cx} {a D : Addr} {oe : Obj} {cls : Value} {d : Option Addr} {pn : List (Addr × Obj)} (C : ExcC X.K D) (hz : Zc cls d oe) (hf : ∃ vs, oe.data = .fields vs) : CallR (X.suite a ((a, oe) :: pn)) (.builtin "isinstance") (rIsX2 X.K D a cls d) := by
  intro pins s σ H xs us Q I r h
  obtain ⟨c, cv, b, rfl, ecl, hd, hcv, e, q⟩ := h
  subst ecl
  rcases hd with ⟨dd, fs, rfl, hH⟩ | rfl
  · exact call_isX C hz hf pins s σ H _ us Q I r ⟨c, cv, b, dd, fs, rfl, rfl, rfl, hH, hcv, e, q⟩
  · exact call_isE C hz hf pins s σ H _ us Q I r ⟨c, cv, b, rfl, hcv, e, q⟩
def rIsXs2 (K : PySem.W.Frag) (D a : Addr) (cls : Value) (d : Option Addr) : List V → Hp → VK → Prop := fun xs H Q => ∃ (tp : Addr) (cs : List V) (cvs : List Value) (b : Bool), xs = [.ref a, .ref tp] ∧ cls = .ref D ∧ ((∃ dd fs, d = some dd ∧ H dd = some (.xd fs)) ∨ d = none) ∧ H tp = some (.tup cs) ∧ (∀ us, Vals cs us → us = cvs) ∧ PySem.W.kitAny K (.ref D) cvs = some b ∧ Q (.bl b) H
theorem call_isXs2 {X : Cx} {a D : Addr} {oe : Obj} {cls : Value} {d : Option Addr} {pn : List (Addr × Obj)} (C : ExcC X.K D) (hz : Zc cls d oe) (hf : ∃ vs, oe.data = .fields vs) : CallR (X.suite a ((a, oe) :: pn)) (.builtin "isinstance") (rIsXs2 X.K D a cls d) := by
  intro pins s σ H xs us Q I r h
  obtain ⟨tp, cs, cvs, b, rfl, ecl, hd, hT, hcv, e, q⟩ := h
  subst ecl
  rcases hd with ⟨dd, fs, rfl, hH⟩ | rfl
  · exact call_isXs C hz hf pins s σ H _ us Q I r ⟨tp, cs, cvs, b, dd, fs, rfl, rfl, rfl, hH, hT, hcv, e, q⟩
  · cases r with
    | cons rx rr =>
      cases rr with
      | cons rt rr =>
        cases rr
        cases rx
        cases rt
        obtain ⟨hget, _⟩ := I.pin (a, oe) (List.mem_append.mpr (.inl List.mem_cons_self))
        obtain ⟨vs, hv⟩ := hf
        have J : PySem.W.InstAt s.heap a oe D none := by
          obtain ⟨oc, od, oda, osl⟩ := oe
          obtain ⟨h1, h2⟩ := hz
          dsimp only at h1 h2 hv
          subst h1 h2 hv
          exact ⟨hget, rfl, rfl, trivial⟩
        have hsq : SqT X.K H tp cs := SqT.of hT
        obtain ⟨its, rv, ⟨⟨c0, d0, da0, sl0⟩, ho2, hc2, n2, hd2⟩, _⟩ := I.tuple hsq
        simp only at hc2 hd2
        subst hc2 hd2
        have ev := hcv _ rv
        subst ev
        exact PySem.W.kia_tup (PySem.W.handS_kitx_exc C.hg C.hk C.hs C.hd C.ha C.hn C.ht C.hm) I.kIn J ho2 e (fun z => nomatch z) fun tk => ⟨.bl b, H, I.kept (t' := tk) fun _ _ z => z, rfl, q⟩
def fIsE (C : Str) (b : Bool) (e : Exn) (i : Nat) : FE := fun σ S => match σ[i]? with
  | some (some .exn) => if e.C = C then .ok (.v (.bl b)) S else .bad
  | _ => .bad
theorem snd_isE {Wo : WX} {a : Addr} {d : Option Addr} {e : Exn} {C : Str} {b : Bool} {i : Nat} {c : V} {cv : Value} (hc : ∀ u, RelV c u → u = cv) (hk : PySem.W.kitOne K (.ref (He.ga K C)) cv = some b) : SndE K ⟨Wo, some (a, d, e)⟩ (tCB (rIsX2 K (He.ga K C) a (.ref (He.ga K e.C)) d) (tCons (tVar i) (tCons (tC c) tNil))) (fIsE C b e i) := by
  intro wf w S σd σv Q s h
  unfold fIsE at h
  split at h
  · rename_i e1
    obtain ⟨hC, h2⟩ := h.ite
    subst hC
    obtain ⟨hx, hs⟩ := s.cx a d e rfl
    exact ⟨_, hs i e1, c, cv, b, rfl, rfl, xdR_or hx, hc, hk, h2 w _ (Le.refl _) s.st (.bl _)⟩
  · exact h.elim
theorem snd_isEs {Wo : WX} {a : Addr} {d : Option Addr} {e : Exn} {C : Str} {b : Bool} {i : Nat} {ta : TA} {cs : List V} {cvs : List Value} (ht : ∀ σ H Q, Q cs H → ta σ H Q) (hl : cs.length ≤ 1000) (hc : ∀ us, Vals cs us → us = cvs) (hk : PySem.W.kitAny K (.ref (He.ga K C)) cvs = some b) : SndE K ⟨Wo, some (a, d, e)⟩ (tCB (rIsXs2 K (He.ga K C) a (.ref (He.ga K e.C)) d) (tCons (tVar i) (tCons (tTup ta) tNil))) (fIsE C b e i) := by
  intro wf w S σd σv Q s h
  unfold fIsE at h
  split at h
  · rename_i e1
    obtain ⟨hC, h2⟩ := h.ite
    subst hC
    obtain ⟨hx, hs⟩ := s.cx a d e rfl
    refine ⟨_, hs i e1, ht _ _ _ ⟨sz_le (by omega), fun p hp => ?_⟩⟩
    have L : Le w (w.new p (.tup cs) False) := le_new hp
    refine ⟨p, cs, cvs, b, rfl, rfl, ?_, upd_same, hc, hk, h2 (w.new p (.tup cs) False) _ L (s.st.new hp) (.bl _)⟩
    rcases hx with ⟨d', fs, h0, h1, h3, _⟩ | z
    · exact .inl ⟨d', fs, h0, (L.lf.kp _ _ h1 h3).1⟩
    · exact .inr z.1
  · exact h.elim
end
end Cl

/-! ## OwnOp -/
namespace Cl
open PySem PySem.Spec PyProof.Rows L2
/-! ## own operators: o + p, o * n, o[i], o[i] = v, x in o, truth, abs, o += p -/
section
variable {X : Cx} {n : Nat} {ps : List Str} {sp : Sp} {C m : Str} {W : WX} {a b c : Expr} {ta tb tc : TE} {pos : Pos}
theorem run_ownX {pins : List (Addr × Obj)} {σ : L2.St} {H : Hp} {s : Shared} {A : Around} {Q : VK} {us : List Value} {vs : List V} {f : Addr} {fd : FuncData} (F : FnOk X.prog X.w X.K X.mg X.base (L2.CX X.prog X.w) n f fd ps sp) (hr : Room n A) (hf : A.frames = X.A.frames) (hb : Binds X.K fd ps []) (tk : Takes X W)
    (I : Inv X pins σ H s) (r : Vals vs us) (h : sp vs H Q (WE W σ)) : wpAny (model X.prog X.w) A (call (.ref f) us) (EP X pins σ Q) X.xe s := by
  have hl : us.length = ps.length := by rw [← r.length]; exact F.len _ _ _ _ h
  have b := hb s us I.kIn (by rw [List.append_nil]; exact hl)
  rw [List.append_nil] at b
  refine wpAny_call (codeAny_mono (F.run A X.stack s H ⟨us, []⟩ us vs Q (WE W σ) hr (env_at I hf) b r h) fun z s' hq => ?_)
  cases z with
  | error e => exact passAt tk σ pins H s e s' I hq
  | ok fl =>
    cases fl with
    | ret u => exact I.after hq
    | next => exact False.elim hq
    | brk => exact False.elim hq
    | cont => exact False.elim hq
theorem cmpBack_of {pins : List (Addr × Obj)} {σ : L2.St} {Q : VK} {u : Value} {s : Shared} (h : EP X pins σ Q u s) : PySem.W.CmpBack (EP X pins σ Q) u s := by
  obtain ⟨v, H', I, rv, q⟩ := h
  cases v with
  | non => cases rv; exact ⟨.non, _, I, rfl, q⟩
  | bl b => cases rv; exact ⟨.bl b, _, I, rfl, q⟩
  | int i => obtain ⟨t, rfl⟩ := rv; exact ⟨.int i, _, I, ⟨t, rfl⟩, q⟩
  | str i => obtain ⟨t, rfl⟩ := rv; exact ⟨.str i, _, I, ⟨t, rfl⟩, q⟩
  | byt i => obtain ⟨t, rfl⟩ := rv; exact ⟨.byt i, _, I, ⟨t, rfl⟩, q⟩
  | flt i => obtain ⟨t, rfl⟩ := rv; exact ⟨.flt i, _, I, ⟨t, rfl⟩, q⟩
  | ref a => cases rv; exact ⟨.ref a, _, I, rfl, q⟩
  | ty n => cases rv; exact ⟨.ty n, _, I, rfl, q⟩
/-- o op p, both of the class C -/
def tOwn2 (C : Addr) (sp : Sp) (E : L2.St → XK) (ta tb : TE) : TE := fun σ H Q => ta σ H fun x H1 => tb σ H1 fun y H2 => ∃ a b dx dy fs gs, x = .ref a ∧ y = .ref b ∧ H2 a = some (.ins C dx fs) ∧ H2 b = some (.ins C dy gs) ∧ sp [x, y] H2 Q (E σ)
theorem pe_own2 {op : Operator} {nm : Str} (hs : PySem.W.selfFirst X.K (He.ga X.K C) = true) (hm : Meth X.K (He.ga X.K C) nm (He.ma X.K (He.ga X.K C) nm)) (F : FnX X.prog X.w X.K X.mg X.base (L2.CX X.prog X.w) n (C, some nm) ps sp) (hr : Room n X.A) (tk : Takes X W)
    (ha : PE X a ta) (hb : PE X b tb) (hn : PySem.dunder op.info.2 = nm := by rfl) : PE X (.BinOp a op b pos) (tOwn2 (He.ga X.K C) sp (WE W) ta tb) := by
  obtain ⟨⟨fd, F, bn⟩, kp⟩ := F
  refine ⟨fun pins s σ H Q I h => wpAny_BinOp (binT ha hb I h fun v u s2 x y H2 I2 rx ry q => ?_)⟩
  obtain ⟨p, q', dx, dy, fs, gs, rfl, rfl, hp, hq, hsp⟩ := q
  cases rx
  cases ry
  obtain ⟨mA, J, _⟩ := ins_get I2.hok hp
  obtain ⟨mB, J', _⟩ := ins_get I2.hok hq
  obtain ⟨od, J, _⟩ := J.look
  obtain ⟨od', J', _⟩ := J'.look
  obtain ⟨m, hF⟩ := I2.fr
  refine PySem.W.binop_K hF I2.ok.mod.kin J J'.type hs (by rw [hn]; exact hm.at_) hm.fn ?_
  exact thn (run_ownX (vs := [.ref p, .ref q']) F hr rfl bn tk I2 (.cons rfl (.cons rfl .nil)) hsp) fun z s' hz => cmpBack_of hz
/-- o op i -/
def tOwnI (C : Addr) (sp : Sp) (E : L2.St → XK) (ta tb : TE) : TE := fun σ H Q => ta σ H fun x H1 => tb σ H1 fun y H2 => ∃ a dx fs i, x = .ref a ∧ y = .int i ∧ H2 a = some (.ins C dx fs) ∧ sp [x, y] H2 Q (E σ)
theorem pe_ownI {op : Operator} {nm : Str} {nm0 : String} (hs : PySem.W.selfFirst X.K (He.ga X.K C) = true) (ho : OpI X.K (He.ga X.K C) nm0) (hm : Meth X.K (He.ga X.K C) nm (He.ma X.K (He.ga X.K C) nm)) (F : FnX X.prog X.w X.K X.mg X.base (L2.CX X.prog X.w) n (C, some nm) ps sp) (hr : Room n X.A) (tk : Takes X W)
    (ha : PE X a ta) (hb : PE X b tb) (h0 : op.info.2 = nm0 := by rfl) (hn : PySem.dunder op.info.2 = nm := by rfl) : PE X (.BinOp a op b pos) (tOwnI (He.ga X.K C) sp (WE W) ta tb) := by
  obtain ⟨⟨fd, F, bn⟩, kp⟩ := F
  subst h0
  obtain ⟨⟨rc, hrc, hp'⟩, ⟨fo, hfo⟩, ⟨ro, hro⟩, hsub, _⟩ := ho
  refine ⟨fun pins s σ H Q I h => wpAny_BinOp (binT ha hb I h fun v u s2 x y H2 I2 rx ry q => ?_)⟩
  obtain ⟨p, dx, fs, i, rfl, rfl, hp, hsp⟩ := q
  cases rx
  obtain ⟨t, rfl⟩ := ry
  obtain ⟨mA, J, _⟩ := ins_get I2.hok hp
  obtain ⟨od, J, _⟩ := J.look
  obtain ⟨m, hF⟩ := I2.fr
  refine PySem.W.ksp_binT (T := "int") hF I2.ok.mod.kin J rfl hs (by rw [hn]; exact hm.at_) hm.fn hrc hp' hfo hro hsub ?_
  exact thn (run_ownX (vs := [.ref p, .int i]) F hr rfl bn tk I2 (.cons rfl (.cons ⟨t, rfl⟩ .nil)) hsp) fun z s' hz => cmpBack_of hz
/-- o[i] -/
def tOwnIx (C : Addr) (sp : Sp) (E : L2.St → XK) (ta tb : TE) : TE := fun σ H Q => ta σ H fun x H1 => tb σ H1 fun y H2 => ∃ a dx fs, x = .ref a ∧ H2 a = some (.ins C dx fs) ∧ sp [x, y] H2 Q (E σ)
theorem pe_ownIx (hfn : PySem.W.fnIn X.K (He.ma X.K (He.ga X.K C) "__getitem__") = true) (hm : Meth X.K (He.ga X.K C) "__getitem__" (He.ma X.K (He.ga X.K C) "__getitem__")) (F : FnX X.prog X.w X.K X.mg X.base (L2.CX X.prog X.w) n (C, some "__getitem__") ps sp) (hr : Room (n + 1) X.A) (tk : Takes X W)
    (ha : PE X a ta) (hb : PE X b tb) (pl : ∀ o i, subscripted b true o i = runValue (.builtin "lifetime.subscript" ⟨[o, i], []⟩) := by intro _ _; with_unfolding_all rfl) : PE X (.Subscript a b pos) (tOwnIx (He.ga X.K C) sp (WE W) ta tb) := by
  obtain ⟨⟨fd, F, bn⟩, kp⟩ := F
  refine ⟨fun pins s σ H Q I h => Subscript_ (binT ha hb I h fun v u s2 x y H2 I2 rx ry q => ?_)⟩
  obtain ⟨p, dx, fs, rfl, hp, hsp⟩ := q
  cases rx
  obtain ⟨mA, J, _⟩ := ins_get I2.hok hp
  obtain ⟨od, J, _⟩ := J.look
  obtain ⟨m, hF⟩ := I2.fr
  refine PySem.W.sub_K hF I2.ok.mod.kin J hm.at_ hfn hm.fn ?_ (pl _ _)
  exact run_ownX (A := X.A.in1) (vs := [.ref p, y]) F hr.in1 rfl bn tk I2 (.cons rfl (.cons ry .nil)) hsp
/-- o[i] = v -/
def tOwnSet (C : Addr) (sp : Sp) (E : L2.St → XK) (te ta tb : TE) : TS := fun D σ H => te σ H fun z H0 => ta σ H0 fun x H1 => tb σ H1 fun y H2 => ∃ a dx fs, x = .ref a ∧ H2 a = some (.ins C dx fs) ∧ sp [x, y, z] H2 (fun _ H3 => D.nx σ H3) (E σ)
theorem ps_ownSet {p' : Pos} {C : Str} (hq : PySem.W.noSeq X.K (He.ga X.K C) = true) (hm : Meth X.K (He.ga X.K C) "__setitem__" (He.ma X.K (He.ga X.K C) "__setitem__")) (F : FnX X.prog X.w X.K X.mg X.base (L2.CX X.prog X.w) n (C, some "__setitem__") ps sp) (hr : Room n X.A) (tk : Takes X W)
    (hc : PE X c tc) (ha : PE X a ta) (hb : PE X b tb) (hs : swapsWithSole [.Subscript a b p'] c pos.line X.env = pure false := by rfl) (hw : swappedStores [.Subscript a b p'] c X.env = pure none := by rfl)
    (h1 : (assignEach [.Subscript a b p'] X.env).map (·.2) = [assign (.Subscript a b p') X.env] := by rfl)
    (hA : ∀ v, assign (.Subscript a b p') X.env v = (do
      let ov ← holding [v] (eval a X.env)
      let iv ← holding [v, ov] (eval b X.env)
      standAt p'
      holding [v, ov, iv] (setItem ov iv v)
      release [v, ov, iv] []) := by intro _; rfl) : PS X (.Assign [.Subscript a b p'] c pos) (tOwnSet (He.ga X.K C) sp (WE W) tc ta tb) := by
  obtain ⟨⟨fd, F, bn⟩, kp⟩ := F
  refine ⟨fun pins s σ H D I h => ?_⟩
  refine wpAny_Assign_stores (thn (hc.run pins s σ H _ I h) fun v s1 ⟨x, H1, I1, r1, q1⟩ => ?_) hs hw
  rw [h1]
  show wpAny _ _ (assign (.Subscript a b p') X.env v) _ _ _
  rw [hA]
  refine wpAny_bind (wpAny_holding (thn (ha.run pins s1 σ H1 _ I1 q1) fun ov s2 ⟨y, H2, I2, r2, q2⟩ => ?_))
  refine wpAny_bind (wpAny_holding (thn (hb.run pins s2 σ H2 _ I2 q2) fun iv s3 ⟨z, H3, I3, r3, q3⟩ => ?_))
  obtain ⟨p, dx, fs, rfl, hp, hsp⟩ := q3
  cases r2
  obtain ⟨mA, J, _⟩ := ins_get I3.hok hp
  obtain ⟨od, J, _⟩ := J.look
  obtain ⟨m, hF⟩ := I3.fr
  refine wpAny_bind (wpAny_standAt (wpAny_bind (wpAny_holding (PySem.W.ksp_setItem hF I3.ok.mod.kin J hq hm.at_ hm.fn ?_))))
  refine thn (run_ownX (vs := [.ref p, z, x]) F hr rfl bn tk I3 (.cons rfl (.cons r3 (.cons r1 .nil))) hsp) fun _ s4 ⟨_, H4, I4, _, q4⟩ => wpAny_release ⟨σ, H4, I4, q4⟩
/-- x in o -/
def tOwnIn (neg : Bool) (C : Addr) (sp : Sp) (ta tb : TE) : TE := fun σ H Q => ta σ H fun x H1 => tb σ H1 fun y H2 => ∃ a dx fs, y = .ref a ∧ H2 a = some (.ins C dx fs) ∧ sp [y, x] H2 (fun v H3 => ∃ k, v = .bl k ∧ Q (.bl (k ^^ neg)) H3) E0
theorem truthy_bl {M : Model} {A : Around} {k : Bool} {Q : Bool → Shared → Prop} {E : Value → Shared → Prop} {s : Shared} (h : Q k s) : wpAny M A (truthy (.bool k)) Q E s := wpAny_pure h
theorem pe_ownIn (hm : Meth X.K (He.ga X.K C) "__contains__" (He.ma X.K (He.ga X.K C) "__contains__")) (F : FnX X.prog X.w X.K X.mg X.base CX0 n (C, some "__contains__") ps sp) (hr : Room n X.A)
    (ha : PE X a ta) (hb : PE X b tb) (hk : behindInMarks .In b = false := by rfl) : PE X (.Compare a [.In] [b] pos) (tOwnIn false (He.ga X.K C) sp ta tb) := by
  obtain ⟨⟨fd, F, bn⟩, kp⟩ := F
  have ho : OpR X (compareOp .In) (fun x y H2 Q => ∃ a dx fs, y = .ref a ∧ H2 a = some (.ins (He.ga X.K C) dx fs) ∧ sp [y, x] H2 (fun v H3 => ∃ k, v = .bl k ∧ Q (.bl (k ^^ false)) H3) E0) := by
    intro pins s σ H x y v u Q I rx ry h
    obtain ⟨p, dx, fs, rfl, hp, hsp⟩ := h
    cases ry
    obtain ⟨mA, J, _⟩ := ins_get I.hok hp
    obtain ⟨od, J, _⟩ := J.look
    obtain ⟨m, hF⟩ := I.fr
    refine PySem.W.in_K hF I.ok.mod.kin J hm.at_ hm.fn ?_
    refine thn (run_own (A := X.A) (vs := [.ref p, x]) F hr rfl bn I (.cons rfl (.cons rx .nil)) hsp) fun z s' hz => ?_
    obtain ⟨w, H', I', rv, k, rfl, q⟩ := hz
    cases rv
    exact truthy_bl ⟨.bl k, H', I', rfl, by simpa using q⟩
  exact pe_cmpR ho ha hb hk
/-- a value's truth by __bool__ -/
def tOwnTru (C : Addr) (sp : Sp) (ta : TE) : TT := fun σ H Q => ta σ H fun x H1 => ∃ a dx fs, x = .ref a ∧ H1 a = some (.ins C dx fs) ∧ sp [x] H1 (fun v H3 => ∃ k, v = .bl k ∧ Q k H3) E0
theorem tru_own (hm : Meth X.K (He.ga X.K C) "__bool__" (He.ma X.K (He.ga X.K C) "__bool__")) (F : FnX X.prog X.w X.K X.mg X.base CX0 n (C, some "__bool__") ps sp) {A : Around} (hr : Room n A) (hf : A.frames = X.A.frames) {pins : List (Addr × Obj)} {s : Shared} {σ : L2.St} {H : Hp} {p dx : Addr} {fs : List (Str × V)} {Q : Bool → Hp → Prop}
    (I : Inv X pins σ H s) (hp : H p = some (.ins (He.ga X.K C) dx fs)) (hsp : sp [.ref p] H (fun v H3 => ∃ k, v = .bl k ∧ Q k H3) E0) : wpAny (model X.prog X.w) A (truthy (.ref p)) (TP X pins σ Q) X.xe s := by
  obtain ⟨⟨fd, F, bn⟩, kp⟩ := F
  obtain ⟨mA, J, _⟩ := ins_get I.hok hp
  obtain ⟨od, J, _⟩ := J.look
  obtain ⟨m, hF⟩ := I.fr
  refine PySem.W.truthy_K hF I.ok.mod.kin J hm.at_ hm.fn ?_
  refine thn (run_own (A := A) (vs := [.ref p]) F hr hf bn I (.cons rfl .nil) hsp) fun z s' hz => ?_
  obtain ⟨w, H', I', rv, k, rfl, q⟩ := hz
  cases rv
  exact ⟨H', I', q⟩
theorem pt_own (hm : Meth X.K (He.ga X.K C) "__bool__" (He.ma X.K (He.ga X.K C) "__bool__")) (F : FnX X.prog X.w X.K X.mg X.base CX0 n (C, some "__bool__") ps sp) (hr : Room n X.A)
    (ha : PE X a ta) (he : ∀ whole, isTrue a X.env whole = (do let v ← whole; standAt a.pos; holding [v] (truthy v))) : PT X a (tOwnTru (He.ga X.K C) sp ta) := by
  refine ⟨fun pins s σ H Q I h => ?_⟩
  refine isTrue_plain (thn (ha.run pins s σ H _ I h) fun v s1 ⟨x, H1, I1, r1, p, dx, fs, e, hp, hsp⟩ => ?_) (he _)
  subst e
  cases r1
  exact tru_own hm F hr rfl I1 hp hsp
end
section
open PySem.W
variable {prog : Program} {w : World} {A : Around} {E : Value → Shared → Prop} {s : Shared} {x : Addr}
theorem ksb_call {Q : Value → Shared → Prop} (h : wpAny (model prog w) A.in1.in1 (truthy (.ref x)) (fun b s₁ => Q (.bool b) s₁) E s) : wpAny (model prog w) A (call (.type "bool") [.ref x]) Q E s := by
  refine callType_codes (T := "bool") (Bi := Builtin.«object.__init__») (Q₁ := fun r s₁ => ∃ b, r = .bool b ∧ Q r s₁) PySem.F.called_bool (PySem.F.typeCall_bool_1 _) PySem.F.entry_object_init ?_ ?_
  · refine codeAny_of_tree ?_
    show wpAny _ A.in1.in1 (do checkBuiltinCall "bool.__new__" ⟨[.type "bool", .ref x], []⟩; again (.builtin "bool.__new__" ⟨[.type "bool", .ref x], []⟩)) _ _ s
    refine wpAny_bind (wpAny_of_eq (PySem.F.newCall_bool_1 _) (wpAny_pure ⟨plainId_quiet (by decide +kernel) _, codeAny_builtin PySem.F.entry_bool_new ?_⟩))
    rw [Around.under_plainId (by decide +kernel) _]
    unfold Builtin.«bool.__new__»
    refine wpAny_bind (wpAny_pure ?_)
    refine wpAny_bind (wpAny_of_eq PySem.F.conv_sub_bool ?_)
    refine wpAny_bind (wpAny_of_eq (a := [Value.ref x]) rfl ?_)
    refine wpAny_bind (wpAny_mono h (fun b s₁ hb => wpAny_pure ⟨b, rfl, hb⟩) fun _ _ y => y)
  · rintro obj s₁ ⟨b, rfl, hq⟩
    exact ⟨rfl, PySem.F.args_object_init_2 _ _, object_init_meets PySem.F.called_bool.init.lookup PySem.F.called_bool.made (by decide) prog w A.in1 _ s₁ ⟨rfl, rfl, hq⟩⟩
end
section
variable {X : Cx} {n : Nat} {ps : List Str} {sp : Sp} {C m : Str}
/-- bool(o) -/
def rBoolO (C : Addr) (sp : Sp) : List V → Hp → VK → Prop := fun xs H Q => ∃ a dx fs, xs = [.ref a] ∧ H a = some (.ins C dx fs) ∧ sp [.ref a] H (fun v H' => ∃ k, v = .bl k ∧ Q (.bl k) H') E0
theorem cl_boolO (hm : Meth X.K (He.ga X.K C) "__bool__" (He.ma X.K (He.ga X.K C) "__bool__")) (F : FnX X.prog X.w X.K X.mg X.base CX0 n (C, some "__bool__") ps sp) (hr : Room (n + 2) X.A) : CallR X (.type "bool") (rBoolO (He.ga X.K C) sp) := by
  intro pins s σ H xs us Q I r h
  obtain ⟨a, dx, fs, rfl, ha, hsp⟩ := h
  cases r with
  | cons rx rr =>
    cases rr
    cases rx
    refine ksb_call (thn (tru_own (Q := fun b H' => Q (.bl b) H') hm F (A := X.A.in1.in1) hr.in1.in1 rfl I ha ?_) fun b s1 ⟨H1, I1, q⟩ => ⟨.bl b, H1, I1, rfl, q⟩)
    exact hsp
end
section
variable {K : PySem.W.Frag} {W : Cw}
def fBoolO (C : Str) (f : Fn) (fa : FE) : FE := fun σ S => (fa σ S).bd fun r1 S1 => match r1.rd S1 with
  | .obj C1 _ _ => if C1 = C then onDs [r1] fun ds => (f ds S1).noX.bd fun r S3 => onB r fun b => .ok (.v (.bl b)) S3 else .bad
  | _ => .bad
theorem snd_boolO {C : Str} {f : Fn} {ta : TE} {fa : FE} (ha : SndE K W ta fa) : SndE K W (tCB (rBoolO (He.ga K C) (spOf K f)) (tCons ta tNil)) (fBoolO C f fa) := by
  intro wf w S σd σv Q s h
  refine ha.run (Le.refl w) s h fun r1 S1 w1 v1 L1 st1 R1 h1 => ?_
  revert h1
  split
  · rename_i C1 ns1 ds1 e1
    intro h2
    obtain ⟨rfl, h3⟩ := h2.ite
    obtain ⟨a, dx, fs, rfl, g1, _⟩ := objOf st1 R1 e1
    obtain ⟨ds, e3, h4⟩ := onDs_of h3
    refine ⟨a, dx, fs, rfl, g1, w.frz w1, S1, ds, rfl, st1.frz, RepRs.frz (rs := [r1]) (xs := [.ref a]) ⟨R1, True.intro⟩ e3, ?_⟩
    revert h4
    cases f ds S1 with
    | ex e S2 => exact fun h2 => h2.elim
    | bad => exact fun h2 => h2
    | ok r S3 =>
      intro h4 w' v L st R
      obtain ⟨k, rfl, h5⟩ := onB_of R h4
      exact ⟨k, rfl, h5 w' _ (L1.frz.trans L) st (.bl _)⟩
  · intro h2; exact h2.elim
def fOwn2 (C : Str) (f : Fn) (fa fb : FE) : FE := fun σ S => (fa σ S).bd fun r1 S1 => (fb σ S1).bd fun r2 S2 => match r1.rd S2, r2.rd S2 with
  | .obj C1 _ _, .obj C2 _ _ => if C1 = C ∧ C2 = C then onDs [r1, r2] fun ds => f ds S2 else .bad
  | _, _ => .bad
theorem snd_own2 {C : Str} {f : Fn} {ta tb : TE} {fa fb : FE} (ha : SndE K W ta fa) (hb : SndE K W tb fb) : SndE K W (tOwn2 (He.ga K C) (spOf K f) (WE W.W) ta tb) (fOwn2 C f fa fb) := by
  intro wf w S σd σv Q s h
  refine ha.run (Le.refl w) s h fun r1 S1 w1 v1 L1 st1 R1 h1 => hb.run L1 (s.step L1 st1) h1 fun r2 S2 w2 v2 L2 st2 R2 h2 => ?_
  have L02 := L1.trans L2
  have R1' := R1.le L2
  have R2' := R2.back L1 st1
  revert h2
  split
  · rename_i C1 ns1 ds1 C2 ns2 ds2 e1 e2
    intro h2
    obtain ⟨⟨rfl, rfl⟩, h3⟩ := h2.ite
    obtain ⟨a, dx, fs, rfl, g1, _⟩ := objOf st2 R1' e1
    obtain ⟨b, dy, gs, rfl, k1, _⟩ := objOf st2 R2' e2
    obtain ⟨ds, e3, h4⟩ := onDs_of h3
    refine ⟨a, b, dx, dy, fs, gs, rfl, rfl, g1, k1, w.frz w2, S2, ds, rfl, st2.frz, RepRs.frz (rs := [r1, r2]) (xs := [.ref a, .ref b]) ⟨R1', R2', True.intro⟩ e3, ?_⟩
    revert h4
    cases f ds S2 with
    | ok r S2 => exact fun h2 w' v L st R => h2 w' v (L02.frz.trans L) st (RepR.called s.le L02 st2 R)
    | ex e S2 => exact fun h2 w' c dd L st R => h2 w' c dd (L02.frz.trans L) st R
    | bad => exact fun h2 => h2
  · intro h2; exact h2.elim
def nox (f : Fn) : Fn := fun ds S => (f ds S).noX
def fOwn2N (C : Str) (f : Fn) (fa fb : FE) : FE := fOwn2 C (nox f) fa fb
theorem snd_own2N {C : Str} {f : Fn} {ta tb : TE} {fa fb : FE} (ha : SndE K W ta fa) (hb : SndE K W tb fb) : SndE K W (tOwn2 (He.ga K C) (spOf K f) (WE WF) ta tb) (fOwn2N C f fa fb) := by
  intro wf w S σd σv Q s h
  refine ha.run (Le.refl w) s h fun r1 S1 w1 v1 L1 st1 R1 h1 => hb.run L1 (s.step L1 st1) h1 fun r2 S2 w2 v2 L2 st2 R2 h2 => ?_
  have L02 := L1.trans L2
  have R1' := R1.le L2
  have R2' := R2.back L1 st1
  revert h2
  split
  · rename_i C1 ns1 ds1 C2 ns2 ds2 e1 e2
    intro h2
    obtain ⟨⟨rfl, rfl⟩, h3⟩ := h2.ite
    obtain ⟨a, dx, fs, rfl, g1, _⟩ := objOf st2 R1' e1
    obtain ⟨b, dy, gs, rfl, k1, _⟩ := objOf st2 R2' e2
    obtain ⟨ds, e3, h4⟩ := onDs_of h3
    refine ⟨a, b, dx, dy, fs, gs, rfl, rfl, g1, k1, w.frz w2, S2, ds, rfl, st2.frz, RepRs.frz (rs := [r1, r2]) (xs := [.ref a, .ref b]) ⟨R1', R2', True.intro⟩ e3, ?_⟩
    revert h4
    unfold nox
    cases f ds S2 with
    | ok r S2 => exact fun h2 w' v L st R => h2 w' v (L02.frz.trans L) st (RepR.called s.le L02 st2 R)
    | ex e S2 => exact fun h2 => h2.elim
    | bad => exact fun h2 => h2
  · intro h2; exact h2.elim
def fOwnI (C : Str) (f : Fn) (fa fb : FE) : FE := fun σ S => (fa σ S).bd fun r1 S1 => (fb σ S1).bd fun r2 S2 => match r1.rd S2, r2 with
  | .obj C1 _ _, .v (.int i) => if C1 = C then onDs [r1, .v (.int i)] fun ds => f ds S2 else .bad
  | _, _ => .bad
theorem snd_ownI {C : Str} {f : Fn} {ta tb : TE} {fa fb : FE} (ha : SndE K W ta fa) (hb : SndE K W tb fb) : SndE K W (tOwnI (He.ga K C) (spOf K f) (WE W.W) ta tb) (fOwnI C f fa fb) := by
  intro wf w S σd σv Q s h
  refine ha.run (Le.refl w) s h fun r1 S1 w1 v1 L1 st1 R1 h1 => hb.run L1 (s.step L1 st1) h1 fun r2 S2 w2 v2 L2 st2 R2 h2 => ?_
  have L02 := L1.trans L2
  have R1' := R1.le L2
  have R2' := R2.back L1 st1
  revert h2
  split
  · rename_i C1 ns1 ds1 i e1
    intro h2
    obtain ⟨rfl, h3⟩ := h2.ite
    obtain ⟨a, dx, fs, rfl, g1, _⟩ := objOf st2 R1' e1
    obtain ⟨ds, e3, h4⟩ := onDs_of h3
    cases R2
    refine ⟨a, dx, fs, i, rfl, rfl, g1, w.frz w2, S2, ds, rfl, st2.frz, RepRs.frz (rs := [r1, .v (.int i)]) (xs := [.ref a, .int i]) ⟨R1', R2', True.intro⟩ e3, ?_⟩
    revert h4
    cases f ds S2 with
    | ok r S2 => exact fun h2 w' v L st R => h2 w' v (L02.frz.trans L) st (RepR.called s.le L02 st2 R)
    | ex e S2 => exact fun h2 w' c dd L st R => h2 w' c dd (L02.frz.trans L) st R
    | bad => exact fun h2 => h2
  · intro h2; exact h2.elim
def fOwnIx (C : Str) (f : Fn) (fa fb : FE) : FE := fun σ S => (fa σ S).bd fun r1 S1 => (fb σ S1).bd fun r2 S2 => match r1.rd S2 with
  | .obj C1 _ _ => if C1 = C then onDs [r1, r2] fun ds => f ds S2 else .bad
  | _ => .bad
theorem snd_ownIx {C : Str} {f : Fn} {ta tb : TE} {fa fb : FE} (ha : SndE K W ta fa) (hb : SndE K W tb fb) : SndE K W (tOwnIx (He.ga K C) (spOf K f) (WE W.W) ta tb) (fOwnIx C f fa fb) := by
  intro wf w S σd σv Q s h
  refine ha.run (Le.refl w) s h fun r1 S1 w1 v1 L1 st1 R1 h1 => hb.run L1 (s.step L1 st1) h1 fun r2 S2 w2 v2 L2 st2 R2 h2 => ?_
  have L02 := L1.trans L2
  have R1' := R1.le L2
  have R2' := R2.back L1 st1
  revert h2
  split
  · rename_i C1 ns1 ds1 e1
    intro h2
    obtain ⟨rfl, h3⟩ := h2.ite
    obtain ⟨a, dx, fs, rfl, g1, _⟩ := objOf st2 R1' e1
    obtain ⟨ds, e3, h4⟩ := onDs_of h3
    refine ⟨a, dx, fs, rfl, g1, w.frz w2, S2, ds, rfl, st2.frz, RepRs.frz (rs := [r1, r2]) (xs := [.ref a, v2]) ⟨R1', R2', True.intro⟩ e3, ?_⟩
    revert h4
    cases f ds S2 with
    | ok r S2 => exact fun h2 w' v L st R => h2 w' v (L02.frz.trans L) st (RepR.called s.le L02 st2 R)
    | ex e S2 => exact fun h2 w' c dd L st R => h2 w' c dd (L02.frz.trans L) st R
    | bad => exact fun h2 => h2
  · intro h2; exact h2.elim
def fOwnSet (C : Str) (f : Fn) (fc fa fb : FE) : FS := fun σ S => (fc σ S).so σ fun r S1 => (fa σ S1).so σ fun ro S2 => (fb σ S2).so σ fun q S3 => match ro.rd S3, toDs [ro, q, r] with
  | .obj C1 _ _, some ds => if C1 = C then (f ds S3).so σ fun _ S4 => .nx σ S4 else .bad
  | _, _ => .bad
theorem snd_ownSet {C : Str} {f : Fn} {tc ta tb : TE} {fc fa fb : FE} (hc : SndE K W tc fc) (ha : SndE K W ta fa) (hb : SndE K W tb fb) : SndS K W (tOwnSet (He.ga K C) (spOf K f) (WE W.W) tc ta tb) (fOwnSet C f fc fa fb) := by
  intro wf w S σd σv D s h
  refine hc.runS (Lf.refl w) s h fun r S1 w1 v L1 st1 R1 h1 => ha.runS L1.lf (s.step L1 st1) h1 fun ro S2 w2 v2 L2 st2 R2 h2 => hb.runS (L1.trans L2).lf (s.step (L1.trans L2) st2) h2 fun q S3 w3 u L3 st3 R3 h3 => ?_
  have L := (L1.trans L2).trans L3
  revert h3
  split
  · rename_i C1 ns1 ds1 ds e1 e3
    intro h3
    by_cases hC : C1 = C
    · rw [if_pos hC] at h3
      subst hC
      have R2' := (R2.back L1 st1).le L3
      have R3' := R3.back (L1.trans L2) st2
      have R1' := R1.le (L2.trans L3)
      obtain ⟨a, dx, fs, rfl, g1, _⟩ := objOf st3 R2' e1
      refine ⟨a, dx, fs, rfl, g1, w.frz w3, S3, ds, rfl, st3.frz, RepRs.frz (rs := [ro, q, r]) (xs := [.ref a, u, v]) ⟨R2', R3', R1', True.intro⟩ e3, ?_⟩
      revert h3
      cases f ds S3 with
      | ok r4 S4 => exact fun h3 w' v' L' st R => h3 w' σv (L.frz.trans L').lf (s.step (L.frz.trans L') st)
      | ex e S4 => exact fun h3 w' c dd L' st R => h3 w' σv c dd (L.frz.trans L').lf (s.step (L.frz.trans L') st) R
      | bad => exact fun h3 => h3
    · rw [if_neg hC] at h3; exact h3.elim
  · intro h3; exact h3.elim
def fOwnIn (C : Str) (f : Fn) (fa fb : FE) : FE := fun σ S => (fa σ S).bd fun r1 S1 => (fb σ S1).bd fun r2 S2 => match r2.rd S2 with
  | .obj C1 _ _ => if C1 = C then onDs [r2, r1] fun ds => (f ds S2).noX.bd fun r S3 => onB r fun b => .ok (.v (.bl b)) S3 else .bad
  | _ => .bad
theorem snd_ownIn {C : Str} {f : Fn} {ta tb : TE} {fa fb : FE} (ha : SndE K W ta fa) (hb : SndE K W tb fb) : SndE K W (tOwnIn false (He.ga K C) (spOf K f) ta tb) (fOwnIn C f fa fb) := by
  intro wf w S σd σv Q s h
  refine ha.run (Le.refl w) s h fun r1 S1 w1 v1 L1 st1 R1 h1 => hb.run L1 (s.step L1 st1) h1 fun r2 S2 w2 v2 L2 st2 R2 h2 => ?_
  have L02 := L1.trans L2
  have R1' := R1.le L2
  have R2' := R2.back L1 st1
  revert h2
  split
  · rename_i C1 ns1 ds1 e1
    intro h2
    obtain ⟨rfl, h3⟩ := h2.ite
    obtain ⟨a, dx, fs, rfl, g1, _⟩ := objOf st2 R2' e1
    obtain ⟨ds, e3, h4⟩ := onDs_of h3
    refine ⟨a, dx, fs, rfl, g1, w.frz w2, S2, ds, rfl, st2.frz, RepRs.frz (rs := [r2, r1]) (xs := [.ref a, v1]) ⟨R2', R1', True.intro⟩ e3, ?_⟩
    revert h4
    cases f ds S2 with
    | ex e S2 => exact fun h2 => h2.elim
    | bad => exact fun h2 => h2
    | ok r S3 =>
      intro h4 w' v L st R
      obtain ⟨k, rfl, h5⟩ := onB_of R h4
      exact ⟨k, rfl, by rw [Bool.xor_false]; exact h5 w' _ (L02.frz.trans L) st (.bl _)⟩
  · intro h2; exact h2.elim
def fOwnTru (C : Str) (f : Fn) (fa : FE) : FT := fun σ S => (fa σ S).bd fun r1 S1 => match r1.rd S1 with
  | .obj C1 _ _ => if C1 = C then onDs [r1] fun ds => (f ds S1).noX.bd fun r S3 => onB r fun b => .ok b S3 else .bad
  | _ => .bad
theorem snd_ownTru {C : Str} {f : Fn} {ta : TE} {fa : FE} (ha : SndE K W ta fa) : SndT K W (tOwnTru (He.ga K C) (spOf K f) ta) (fOwnTru C f fa) := by
  intro wf w S σd σv Q s h
  refine ha.run (Le.refl w) s h fun r1 S1 w1 v1 L1 st1 R1 h1 => ?_
  revert h1
  split
  · rename_i C1 ns1 ds1 e1
    intro h2
    obtain ⟨rfl, h3⟩ := h2.ite
    obtain ⟨a, dx, fs, rfl, g1, _⟩ := objOf st1 R1 e1
    obtain ⟨ds, e3, h4⟩ := onDs_of h3
    refine ⟨a, dx, fs, rfl, g1, w.frz w1, S1, ds, rfl, st1.frz, RepRs.frz (rs := [r1]) (xs := [.ref a]) ⟨R1, True.intro⟩ e3, ?_⟩
    revert h4
    cases f ds S1 with
    | ex e S2 => exact fun h2 => h2.elim
    | bad => exact fun h2 => h2
    | ok r S3 =>
      intro h4 w' v L st R
      obtain ⟨k, rfl, h5⟩ := onB_of R h4
      exact ⟨k, rfl, h5 w' (L1.frz.trans L) st⟩
  · intro h2; exact h2.elim
end
end Cl

/-! ## LzT -/
namespace Cl
open PySem PySem.Spec PyProof.Rows L2
/-! ## list(zip(xs, ys)) of two lists -/
theorem lz_noLen : typeLookup (.type "zip") "__len__" = pure none := am_miss_of_fast (by decide +kernel)
theorem lz_noHint : typeLookup (.type "zip") "__length_hint__" = pure none := am_miss_of_fast (by decide +kernel)
/-- the list at q holds acc, these pairs are to come -/
def ZipN (q : Addr) (Q : VK) : List (V × V) → List V → Hp → Prop
  | [], _, H => Q (.ref q) H
  | p :: r, acc, H => ∀ T, H T = none → ZipN q Q r (acc ++ [.ref T]) (upd (upd H T (.tup [p.1, p.2])) q (.lst (acc ++ [.ref T])))
def tListZ (K : PySem.W.Frag) (ta : TA) : TE := fun σ H Q => ta σ H fun vs H1 => ∃ a b xs ys, vs = [.ref a, .ref b] ∧ SqL K H1 a xs ∧ SqL K H1 b ys ∧ (xs.zip ys).length ≤ 1000 ∧ ∀ q, H1 q = none → ZipN q Q (xs.zip ys) [] (upd H1 q (.lst []))
def SqQ (q : Addr) (K : PySem.W.Frag) (H : Hp) (a : Addr) (xs : List V) : Prop := (a ≠ q ∧ Rd H a (.lst xs)) ∨ KL K a xs
theorem SqQ.sq {q : Addr} {K : PySem.W.Frag} {H : Hp} {a : Addr} {xs : List V} (h : SqQ q K H a xs) : SqL K H a xs := h.elim (fun h => .inl h.2) .inr
theorem rd_upd {H : Hp} {a T : Addr} {u o : HO} (h : Rd H a u) (n : a ≠ T) : Rd (upd H T o) a u := by
  rcases h with h | ⟨v, h⟩
  · exact .inl (by rw [upd_ne n]; exact h)
  · exact .inr ⟨v, by rw [upd_ne n]; exact h⟩
theorem rd_ne {H : Hp} {a T : Addr} {u : HO} (h : Rd H a u) (n : H T = none) : a ≠ T := fun z => by
  subst z
  rcases h with h | ⟨v, h⟩ <;> rw [n] at h <;> cases h
theorem SqQ.upd2 {q T : Addr} {K : PySem.W.Frag} {H : Hp} {a : Addr} {xs : List V} {o o' : HO} (h : SqQ q K H a xs) (n : H T = none) : SqQ q K (upd (upd H T o) q o') a xs := h.imp (fun h => ⟨h.1, rd_upd (rd_upd h.2 (rd_ne h.2 n)) h.1⟩) id
structure ZSt (z TI TO i1 i2 a b q : Addr) (i : Nat) (h : Heap) : Prop where
  zip : IsZip h z TI TO .none ∨ ∃ T f oT, IsZipHeld h z TI TO T f ∧ h.get? T = some oT ∧ T ≠ z ∧ T ≠ i1 ∧ T ≠ i2 ∧ T ≠ q
  ti : IsPair h TI (.ref i1) (.ref i2)
  to : ∃ x y, IsPair h TO x y
  i1 : h.IsListIter i1 a i
  i2 : h.IsListIter i2 b i
section
variable {z TI TO i1 i2 a b q : Addr} {i : Nat} {h h' : Heap}
theorem ZSt.keep (s : ZSt z TI TO i1 i2 a b q i h) (hq : ∀ c ∈ [z, TI, TO, i1, i2], c ≠ q) (k : ∀ c, c ≠ q → ∀ o, h.get? c = some o → h'.get? c = some o) : ZSt z TI TO i1 i2 a b q i h' := by
  obtain ⟨s1, s2, ⟨x, y, s3⟩, s4, s5⟩ := s
  refine ⟨?_, k _ (hq _ (by simp)) _ s2, ⟨x, y, k _ (hq _ (by simp)) _ s3⟩, s4.at fun o e => k _ (hq _ (by simp)) o e, s5.at fun o e => k _ (hq _ (by simp)) o e⟩
  rcases s1 with s1 | ⟨T, f, oT, h1, h2, h3, h4, h5, h6⟩
  · exact .inl (k _ (hq _ (by simp)) _ s1)
  · exact .inr ⟨T, f, oT, k _ (hq _ (by simp)) _ h1, k _ h6 _ h2, h3, h4, h5, h6⟩
theorem ZSt.lt (s : ZSt z TI TO i1 i2 a b q i h) : ∀ c ∈ [z, TI, TO, i1, i2], c < h.objs.size := by
  obtain ⟨s1, s2, ⟨x, y, s3⟩, ⟨_, s4, _⟩, ⟨_, s5, _⟩⟩ := s
  intro c hc
  have e : c = z ∨ c = TI ∨ c = TO ∨ c = i1 ∨ c = i2 := by simpa using hc
  rcases e with e | e | e | e | e
  · rw [e]
    rcases s1 with s1 | ⟨T, f, oT, h1, _⟩
    · exact Heap.lt_size s1
    · exact Heap.lt_size h1
  · rw [e]; exact Heap.lt_size s2
  · rw [e]; exact Heap.lt_size s3
  · rw [e]; exact Heap.lt_size s4
  · rw [e]; exact Heap.lt_size s5
end
section
variable {X : Cx} {pins : List (Addr × Obj)} {σ : L2.St} {z TI TO i1 i2 a b q : Addr} {H : Hp} {s : Shared} {A : Around} {E : Value → Shared → Prop} {xs ys : List V} {x y : V} {i : Nat}
theorem lz_next (D : ZipApart z TI TO i1 i2 a b) (I : Inv X pins σ H s) (st : ZSt z TI TO i1 i2 a b q i s.heap) (hf : ∀ c ∈ [z, TI, TO, i1, i2], FpOk X pins H c) (ha : SqL X.K H a xs) (hb : SqL X.K H b ys) (hql : q < s.heap.objs.size) (hx : xs[i]? = some x) (hy : ys[i]? = some y) :
    wpAny (model X.prog X.w) A (pyNext (.ref z)) (fun r s' => ∃ T, r = some (.ref T) ∧ H T = none ∧ T ≠ q ∧ (∀ c ∈ [z, TI, TO, i1, i2], c ≠ T) ∧ Inv X pins σ (upd H T (.tup [x, y])) s' ∧ ZSt z TI TO i1 i2 a b q (i + 1) s'.heap) E s := by
  have hlt := st.lt
  obtain ⟨hz, hTI, ⟨x0, y0, hTO⟩, h1, h2⟩ := st
  obtain ⟨its, rv, p, _⟩ := I.list ha
  obtain ⟨its2, rv2, p2, _⟩ := I.list hb
  obtain ⟨u, hu, ru⟩ := rv.get hx
  obtain ⟨u2, hu2, ru2⟩ := rv2.get hy
  have ne : ∀ c ∈ [z, TI, TO, i1, i2], c ≠ s.heap.objs.size := fun c hc => Nat.ne_of_lt (hlt c hc)
  have new : ∀ h' : Heap, IsPair h' s.heap.objs.size u u2 → ObjOk X.prog X.w (upd H s.heap.objs.size (.tup [x, y])) h' s.heap.objs.size (.tup [x, y]) := fun h' hT =>
    ⟨by show 2 ≤ sizeLine; decide, [u, u2], .cons ru (.cons ru2 .nil), ⟨_, hT, rfl, _, rfl⟩⟩
  rcases hz with hz | ⟨T, f, oT, hz, hT0, t1, t2, t3, t4⟩
  · refine wpAny_pyNext_zip_item D hz hTI hTO h1 h2 p.isList p2.isList (x := u) (y := u2) (by simpa using hu) (by simpa using hu2) fun h' z' TO' h1' h2' hT hsz hk => ?_
    have I1 : Inv X pins σ (upd H s.heap.objs.size (.tup [x, y])) { s with heap := h' } :=
      I.turnedNew (t' := s.toks) (ch := [z, TI, TO, i1, i2]) (fun c o hb q => hk c o (fun q' => hb (by simp [q'])) (fun q' => hb (by simp [q'])) (fun q' => hb (by simp [q'])) (fun q' => hb (by simp [q'])) q) hf (Nat.le_refl _) (new h' hT)
    refine ⟨_, rfl, I.hok.fresh (Nat.le_refl _), Nat.ne_of_gt hql, ne, I1, ⟨.inr ⟨_, false, _, z', hT, (ne z (by simp)).symm, (ne i1 (by simp)).symm, (ne i2 (by simp)).symm, Nat.ne_of_gt hql⟩, ?_, ⟨u, u2, TO'⟩, h1', h2'⟩⟩
    exact hk _ _ D.TIz D.TITO D.TIi1 D.TIi2 hTI
  · refine wpAny_pyNext_zip_item_held D hz hT0 hTI h1 h2 p.isList p2.isList (x := u) (y := u2) (by simpa using hu) (by simpa using hu2) fun h' z' h1' h2' hT hsz hk => ?_
    have I1 : Inv X pins σ (upd H s.heap.objs.size (.tup [x, y])) { s with heap := h' } :=
      I.turnedNew (t' := s.toks) (ch := [z, TI, TO, i1, i2]) (fun c o hb q => hk c o (fun q' => hb (by simp [q'])) (fun q' => hb (by simp [q'])) (fun q' => hb (by simp [q'])) q) hf (Nat.le_refl _) (new h' hT)
    exact ⟨_, rfl, I.hok.fresh (Nat.le_refl _), Nat.ne_of_gt hql, ne, I1, ⟨.inr ⟨T, true, oT, z', hk _ _ t1 t2 t3 hT0, t1, t2, t3, t4⟩, hk _ _ D.TIz D.TIi1 D.TIi2 hTI, ⟨x0, y0, hk _ _ D.TOz D.TOi1 D.TOi2 hTO⟩, h1', h2'⟩⟩
theorem lz_end (hh : A.handled = none) (D : ZipApart z TI TO i1 i2 a b) (I : Inv X pins σ H s) (st : ZSt z TI TO i1 i2 a b q i s.heap) (hf : ∀ c ∈ [z, TI, TO, i1, i2], FpOk X pins H c) (ha : SqL X.K H a xs) (hb : SqL X.K H b ys) (hend : xs.length ≤ i ∨ ys.length ≤ i) :
    wpAny (model X.prog X.w) A (pyNext (.ref z)) (fun r s' => r = none ∧ Inv X pins σ H s') E s := by
  obtain ⟨hz, hTI, ⟨x0, y0, hTO⟩, h1, h2⟩ := st
  obtain ⟨its, rv, p, _⟩ := I.list ha
  obtain ⟨its2, rv2, p2, _⟩ := I.list hb
  have l1 := rv.length
  have l2 := rv2.length
  have he : its.toArray[i]? = none ∨ its2.toArray[i]? = none := by
    rcases hend with q | q
    · exact .inl (by simp; omega)
    · exact .inr (by simp; omega)
  rcases hz with hz | ⟨T, f, oT, hz, hT0, t1, t2, t3, t4⟩
  · exact wpAny_pyNext_zip_end hh D hz hTI hTO h1 h2 p.isList p2.isList he fun h' hk => ⟨rfl, I.turnedL (t' := s.toks) (ch := [z, TI, TO, i1, i2]) (fun c o hb q =>
      hk c o (fun q' => hb (by simp [q'])) (fun q' => hb (by simp [q'])) (fun q' => hb (by simp [q'])) (fun q' => hb (by simp [q'])) q) hf⟩
  · exact wpAny_pyNext_zip_end_held hh D hz hT0 hTI h1 h2 p.isList p2.isList he fun h' hk => ⟨rfl, I.turnedL (t' := s.toks) (ch := [z, TI, TO, i1, i2]) (fun c o hb q =>
      hk c o (fun q' => hb (by simp [q'])) (fun q' => hb (by simp [q'])) (fun q' => hb (by simp [q'])) q) hf⟩
theorem lz_loop (D : ZipApart z TI TO i1 i2 a b) (hqn : ∀ c ∈ [z, TI, TO, i1, i2], c ≠ q) {A1 : Around} (hh : A1.in1.handled = none) {Q : VK} {Rs : Result → Shared → Prop} (hdone : ∀ H s, Inv X pins σ H s → Q (.ref q) H → Rs (.ok (.ret .none)) s) :
    ∀ (ps : List (V × V)) (i : Nat) (acc : List V) (H : Hp) (s : Shared), Inv X pins σ H s → ZSt z TI TO i1 i2 a b q i s.heap → (∀ c ∈ [z, TI, TO, i1, i2], FpOk X pins H c) → SqQ q X.K H a xs → SqQ q X.K H b ys → H q = some (.lst acc) → (xs.zip ys).drop i = ps → acc.length + ps.length ≤ 1000 → ZipN q Q ps acc H →
      codeAny (model X.prog X.w) A1 (.builtin "list.extend.loop" ⟨[.ref q, .ref z, .none], []⟩) Rs s := by
  intro ps
  induction ps with
  | nil =>
    intro i acc H s I st hf ha hb hq hd hl hZ
    refine codeAny_builtin PySem.F.entry_extend_loop ?_
    rw [Around.under_plainId PySem.F.plain_extend_loop _]
    show wpAny _ A1.in1 (pyNext (.ref z) >>= _) _ _ s
    have he : xs.length ≤ i ∨ ys.length ≤ i := by
      have e := List.drop_eq_nil_iff.mp hd
      rw [List.length_zip] at e
      omega
    refine wpAny_bind (wpAny_mono (lz_end hh D I st hf ha.sq hb.sq he) (fun r s' hr => ?_) fun e s' he => he)
    obtain ⟨rfl, I'⟩ := hr
    exact wpAny_pure (hdone H s' I' hZ)
  | cons p r ih =>
    intro i acc H s I st hf ha hb hq hd hl hZ
    refine codeAny_builtin PySem.F.entry_extend_loop ?_
    rw [Around.under_plainId PySem.F.plain_extend_loop _]
    show wpAny _ A1.in1 (pyNext (.ref z) >>= _) _ _ s
    have hp : (xs.zip ys)[i]? = some p := by
      have e := congrArg (fun l => l[0]?) hd
      simpa using e
    obtain ⟨hx, hy⟩ : xs[i]? = some p.1 ∧ ys[i]? = some p.2 := by
      obtain ⟨px, py⟩ := p
      exact List.getElem?_zip_eq_some.mp hp
    have hd' : (xs.zip ys).drop (i + 1) = r := by
      rw [← List.drop_drop, hd, List.drop_one]; rfl
    have hql : q < s.heap.objs.size := by
      obtain ⟨_, _, _, _, _, e⟩ := I.lstM hq
      exact Heap.lt_size e
    refine wpAny_bind (wpAny_mono (lz_next D I st hf ha.sq hb.sq hql hx hy) (fun r' s' hr => ?_) fun e s' he => he)
    obtain ⟨T, rfl, hT, hTq, hTc, I', st'⟩ := hr
    show wpAny _ A1.in1 (updateSeq q (·.push (.ref T)) >>= _) _ _ _
    have hq' : upd H T (.tup [p.1, p.2]) q = some (.lst acc) := by rw [upd_ne hTq.symm]; exact hq
    obtain ⟨zz, its, k, r2, hl2, e⟩ := I'.lstM hq'
    simp only [List.length_cons] at hl
    have hsz : its.length ≤ 1000 := by omega
    refine wpAny_bind (wpAny_updateSeq e rfl (wpAny_pure ⟨plainId_quiet PySem.F.plain_extend_loop _, ?_⟩) (by rw [List.size_toArray, sizeLine_eq]; omega) (by show (its.toArray.push (.ref T)).size ≤ sizeLine + 1; rw [Array.size_push, List.size_toArray, sizeLine_eq]; omega))
    refine ih (i + 1) (acc ++ [.ref T]) _ _ (I'.lset (ys := acc ++ [.ref T]) (its' := its ++ [.ref T]) (t' := s'.toks) hq' e (by simp) (r2.append (.cons (show RelV (.ref T) (.ref T) from rfl) .nil)) (by rw [List.length_append, List.length_singleton, sizeLine_eq]; omega)) (st'.keep hqn fun c hc o ho => (Heap.get?_update_other s'.heap (Obj.mapSeq _) (Ne.symm hc)).trans ho) (fun c hc => ?_) (ha.upd2 hT) (hb.upd2 hT) upd_same hd' (by rw [List.length_append, List.length_singleton]; omega) (hZ T hT)
    obtain ⟨f0, f1⟩ := hf c hc
    exact ⟨by rw [upd_ne (hqn c hc), upd_ne (hTc c hc)]; exact f0, f1⟩
theorem lz_hint {M : Model} {Q : Bool → Shared → Prop} (hT : s.TypeIs (.ref z) "zip") (h : Q true s) : wpAny M A (Builtin.List.listLengthHint (.ref z)) Q E s := by
  unfold Builtin.List.listLengthHint
  refine wpAny_bind (wpAny_specialOf (name := Str.ofString "__len__") (r := none) hT lz_noLen ?_)
  refine PySem.W.KFB.if_not rfl ?_
  refine PySem.W.KFB.if_not rfl ?_
  refine wpAny_bind (wpAny_specialOf (name := Str.ofString "__length_hint__") (r := none) hT lz_noHint ?_)
  exact wpAny_pure h
theorem ZSt.type (st : ZSt z TI TO i1 i2 a b q i s.heap) : s.TypeIs (.ref z) "zip" := by
  rcases st.zip with h | ⟨T, f, oT, h, _⟩
  · exact ⟨_, h, rfl⟩
  · exact ⟨_, h, rfl⟩
theorem lz_extend (D : ZipApart z TI TO i1 i2 a b) (hqn : ∀ c ∈ [z, TI, TO, i1, i2], c ≠ q) {A1 : Around} (hh : A1.in1.handled = none) {Q : VK} {Rs : Result → Shared → Prop} (hdone : ∀ H s, Inv X pins σ H s → Q (.ref q) H → Rs (.ok (.ret .none)) s)
    (I : Inv X pins σ H s) (hz : IsZip s.heap z TI TO .none) (st : ZSt z TI TO i1 i2 a b q 0 s.heap) (hf : ∀ c ∈ [z, TI, TO, i1, i2], FpOk X pins H c) (ha : SqQ q X.K H a xs) (hb : SqQ q X.K H b ys) (hq : H q = some (.lst [])) (hl : (xs.zip ys).length ≤ 1000) (hZ : ZipN q Q (xs.zip ys) [] H) :
    wpAny (model X.prog X.w) A1.in1 (Builtin.List.listExtendWith (.ref q) (.ref z) .none)
      (fun fin s' => match fin with | .done f => Rs (.ok f) s' | .again c' => c'.quiet = true ∧ codeAny (model X.prog X.w) A1 c' Rs s') (fun e s' => Rs (.error e) s') s := by
  unfold Builtin.List.listExtendWith
  have hT := st.type
  refine wpAny_bind (wpAny_typeOf hT ?_)
  have h1 : Builtin.List.listSameRef (.ref q) (.ref z) = false := by simp [Builtin.List.listSameRef, (hqn z (by simp)).symm]
  have h2 : (Value.type "zip" == Value.type "list") = false := by decide
  have h3 : (Value.type "zip" == Value.type "tuple") = false := by decide
  simp only [h1, h2, h3, Bool.or_false, Bool.false_eq_true, if_false]
  refine wpAny_bind (wpAny_pyIter_zip hz ?_)
  refine wpAny_bind (wpAny_holding (lz_hint hT ?_))
  obtain ⟨zz, its, k, r3, hl3, e3⟩ := I.lstM hq
  cases r3
  refine wpAny_ite_split (fun _ => ?_) (fun _ => wpAny_pure ⟨plainId_quiet PySem.F.plain_extend_loop _, lz_loop D hqn hh hdone (xs.zip ys) 0 [] H s I st hf ha hb hq (by simp) (by simpa using hl) hZ⟩)
  refine wpAny_bind (wpAny_rule ?_)
  refine wpAny_bind ?_
  show wpAny _ _ (updateSeq q (·.push .none) >>= fun _ => updateSeq q (·.pop)) _ _ _
  refine wpAny_bind (wpAny_updateSeq e3 rfl ?_)
  have I2 := I.lset (f := (·.push Value.none)) (its' := [Value.none]) (ys := [.non]) (t' := s.toks) hq e3 (by simp) (.cons rfl .nil) (by rw [List.length_singleton, sizeLine_eq]; decide)
  have st2 := st.keep hqn fun c hc o ho => (Heap.get?_update_other s.heap (Obj.mapSeq (·.push Value.none)) (Ne.symm hc)).trans ho
  obtain ⟨z4, its4, k4, r4, hl4, e4⟩ := I2.lstM upd_same
  obtain ⟨u4, rfl, ru4⟩ := r4.one
  refine wpAny_updateSeq e4 rfl ?_ (by show 1 ≤ sizeLine; rw [sizeLine_eq]; decide) (by show 0 ≤ sizeLine + 1; exact Nat.zero_le _)
  have st3 := st2.keep hqn fun c hc o ho => (Heap.get?_update_other _ (Obj.mapSeq (·.pop)) (Ne.symm hc)).trans ho
  have I3 := I2.lset (f := (·.pop)) (its := [u4]) (its' := []) (ys := []) (t' := s.toks) upd_same e4 (by rfl) .nil (Nat.zero_le _)
  rw [upd_upd] at I3
  have hH : upd H q (.lst []) = H := by
    funext b
    by_cases hb : b = q
    · rw [hb, upd_same, hq]
    · rw [upd_ne hb]
  rw [hH] at I3
  exact wpAny_pure ⟨plainId_quiet PySem.F.plain_extend_loop _, lz_loop D hqn hh hdone (xs.zip ys) 0 [] H _ I3 st3 hf ha hb hq (by simp) (by simpa using hl) hZ⟩
theorem lz_call (hc : X.calm = true) (D : ZipApart z TI TO i1 i2 a b) {Q : VK} (I : Inv X pins σ H s) (hz : IsZip s.heap z TI TO .none) (hTI : IsPair s.heap TI (.ref i1) (.ref i2)) (hTO : ∃ x y, IsPair s.heap TO x y) (h1 : s.heap.IsListIter i1 a 0) (h2 : s.heap.IsListIter i2 b 0) (hf : ∀ c ∈ [z, TI, TO, i1, i2], FpOk X pins H c)
    (ha : SqL X.K H a xs) (hb : SqL X.K H b ys) (hl : (xs.zip ys).length ≤ 1000) (hZ : ∀ q, H q = none → ZipN q Q (xs.zip ys) [] (upd H q (.lst []))) : wpAny (model X.prog X.w) X.A (call (.type "list") [.ref z]) (EP X pins σ Q) X.xe s := by
  refine callType_codes (Q₁ := fun obj s₁ => obj = .ref s.heap.objs.size ∧ s₁ = { s with heap := s.heap.push { cls := .type "list", data := .seq #[] } }) PySem.F.called_list (PySem.F.typeCall_list_1 _) PySem.F.entry_list_init
    (code_list_new _ ⟨rfl, rfl⟩) fun obj s₁ h₁ => ?_
  obtain ⟨rfl, rfl⟩ := h₁
  have hS : (s.heap.push { cls := .type "list", data := .seq #[] }).get? s.heap.objs.size = some { cls := .type "list", data := .seq #[] } := Heap.get?_push_size _ rfl
  refine ⟨⟨_, hS, rfl⟩, PySem.F.args_list_init_2 _ _, ?_⟩
  have fr : H s.heap.objs.size = none := I.hok.fresh (Nat.le_refl _)
  have hlt : ∀ c ∈ [z, TI, TO, i1, i2], c < s.heap.objs.size := (ZSt.lt (q := s.heap.objs.size) (i := 0) ⟨.inl hz, hTI, hTO, h1, h2⟩)
  have hqn : ∀ c ∈ [z, TI, TO, i1, i2], c ≠ s.heap.objs.size := fun c hc => Nat.ne_of_lt (hlt c hc)
  have I1 : Inv X pins σ (upd H s.heap.objs.size (.lst [])) { s with heap := s.heap.push { cls := .type "list", data := .seq #[] } } := I.lnew (its := []) (t' := s.toks) .nil (Nat.zero_le _)
  have st1 : ZSt z TI TO i1 i2 a b s.heap.objs.size 0 (s.heap.push { cls := .type "list", data := .seq #[] }) := ZSt.keep (h := s.heap) ⟨.inl hz, hTI, hTO, h1, h2⟩ hqn fun c hc o ho => Heap.get?_push_of_some _ ho
  show wpAny _ _ (do let old ← Builtin.List.listItems (.ref s.heap.objs.size); Builtin.List.listUpdate (.ref s.heap.objs.size) (fun _ => #[]); letGo old.toList.reverse; Builtin.List.listExtendWith (.ref s.heap.objs.size) (.ref z) .none) _ _ _
  refine wpAny_bind ?_
  unfold Builtin.List.listItems
  refine wpAny_bind (wpAny_seqItems hS rfl (wpAny_pure ?_))
  show wpAny _ _ (updateSeq s.heap.objs.size (fun _ => #[]) >>= fun _ => letGo (#[] : Array Value).toList.reverse >>= fun _ => Builtin.List.listExtendWith (.ref s.heap.objs.size) (.ref z) .none) _ _ _
  refine wpAny_bind (wpAny_updateSeq hS rfl ?_)
  have I2 := I1.lset (f := fun _ => #[]) (its := []) (its' := []) (ys := []) (t' := s.toks) upd_same hS rfl .nil (Nat.zero_le _)
  rw [upd_upd] at I2
  have st2 := st1.keep hqn fun c hc o ho => (Heap.get?_update_other _ (Obj.mapSeq (fun _ => #[])) (Ne.symm hc)).trans ho
  refine wpAny_bind (wpAny_letGo ?_)
  have hf2 : ∀ c ∈ [z, TI, TO, i1, i2], FpOk X pins (upd H s.heap.objs.size (.lst [])) c := fun c hc => by
    obtain ⟨f0, f1⟩ := hf c hc
    exact ⟨by rw [upd_ne (hqn c hc)]; exact f0, f1⟩
  have sq : ∀ {c zs}, SqL X.K H c zs → SqQ s.heap.objs.size X.K (upd H s.heap.objs.size (.lst [])) c zs := fun h => h.imp (fun h => ⟨rd_ne h fr, rd_upd h (rd_ne h fr)⟩) id
  have hz2 : IsZip (Heap.update (s.heap.push { cls := .type "list", data := .seq #[] }) s.heap.objs.size (Obj.mapSeq (fun _ => #[]))) z TI TO .none := (Heap.get?_update_other _ (Obj.mapSeq (fun _ => #[])) (Ne.symm (hqn z (by simp)))).trans (Heap.get?_push_of_some _ hz)
  exact lz_extend (A1 := X.A.in1) (Rs := wants (fun r s₂ => r = .none ∧ EP X pins σ Q (.ref s.heap.objs.size) s₂) X.xe) D hqn (I.ok.hd hc)
    (fun H' s' I' hR => ⟨rfl, .ref s.heap.objs.size, H', I', rfl, hR⟩) I2 hz2 st2 hf2 (sq ha) (sq hb) upd_same hl (hZ _ fr)
theorem pe_listZip {e e2 : Expr} {ta : TA} {p p2 pos pos2 : Pos} (hc : X.calm = true) (hgl : Gl X "list") (hml : X.mg "list" = none) (hgz : Gl X "zip") (hmz : X.mg "zip" = none) (ha : PA X [e, e2] ta)
    (na : starEach [.Call (.Name "zip" p2) [e, e2] [] pos2] X.env = (false, eval (.Call (.Name "zip" p2) [e, e2] [] pos2) X.env) :: starEach [] X.env := by rfl)
    (hs : starEach [e, e2] X.env = (false, eval e X.env) :: starEach [e2] X.env := by rfl) (hpl : (backTo pos2 (starEach [e2] X.env)).any (·.1) = false := by rfl) :
    PE X (.Call (.Name "list" p) [.Call (.Name "zip" p2) [e, e2] [] pos2] [] pos) (tListZ X.K ta) := by
  refine ⟨fun pins s σ H Q I h => ?_⟩
  refine Call_ (ld_blt I hgl hml PyProof.Rows.boot_list (PyProof.Rows.callWith_type1 (args_cons (Call_ (ld_blt I hgz hmz PyProof.Rows.boot_zip (PyProof.Rows.callWith_type1 (thn (ha.run pos2 pins s σ H _ I h) fun us s1 ⟨vs, H1, I1, r1, q1⟩ => ?_) hs hpl))) na) na))
  obtain ⟨a, b, xs, ys, ex, hqx, hqy, hl, q⟩ := q1
  subst ex
  cases r1 with
  | cons r rr =>
    cases rr with
    | cons r' rr =>
      cases rr
      cases r
      cases r'
      obtain ⟨its, rv, p1, _⟩ := I1.list hqx
      obtain ⟨its2, rv2, p2, _⟩ := I1.list hqy
      have la : a < s1.heap.objs.size := p1.lt
      have lb : b < s1.heap.objs.size := p2.lt
      refine call_zip_2 p1.isList p2.isList fun h' hz hTI hTO h1 h2 hsz hk => args_nil ?_
      have I2 : Inv X pins σ H1 { s1 with heap := h' } := I1.kept (t' := s1.toks) hk
      refine lz_call (s := { s1 with heap := h' }) hc (PySem.W.ktu_apart s1.heap.objs.size a b la lb) I2 hz hTI ⟨_, _, hTO⟩ h1 h2 (fun c hcm => ?_) hqx hqy hl q
      have e' : c = s1.heap.objs.size + 4 ∨ c = s1.heap.objs.size + 2 ∨ c = s1.heap.objs.size + 3 ∨ c = s1.heap.objs.size ∨ c = s1.heap.objs.size + 1 := by simpa using hcm
      have hle : s1.heap.objs.size ≤ c := by
        rcases e' with z | z | z | z | z
        · rw [z]; exact Nat.le_add_right _ _
        · rw [z]; exact Nat.le_add_right _ _
        · rw [z]; exact Nat.le_add_right _ _
        · rw [z]; exact Nat.le_refl _
        · rw [z]; exact Nat.le_add_right _ _
      exact I1.fpOk hle (I1.hok.fresh hle)
end
section
variable {K : PySem.W.Frag} {W : Cw}
theorem zipN_ok {w1 : Wd} {S : Sto} {q : Addr} {Q : VK} (hq0 : w1.H q = none) : ∀ (vs us : List V) (ds es : List Da) (w : Wd) (acc : List V) (done : List Da), Reps K w1 ds vs → Reps K w1 es us → Le w1 w → StoR K w S → w.H q = some (.lst acc) → w.ow q → q ∉ w.m → Reps K w done acc →
    (∀ w2 v, Le w1 w2 → StoR K w2 S → OwnR K w1 w2 (.lst (done ++ zpD ds es)) v → Q v w2.H) → ZipN q Q (vs.zip us) acc w.H
  | [], us, ds, es, w, acc, done, r1, r2, L, st, hq, ow, nm, R, h => by
    cases r1
    exact h w _ L st ⟨q, rfl, hq0, ⟨acc, hq, by simpa [zpD] using R⟩, ow, nm⟩
  | x :: vs, [], ds, es, w, acc, done, r1, r2, L, st, hq, ow, nm, R, h => by
    cases r2
    cases r1
    exact h w _ L st ⟨q, rfl, hq0, ⟨acc, hq, by simpa [zpD] using R⟩, ow, nm⟩
  | x :: vs, y :: us, _, _, w, acc, done, .cons (d := d) (ds := ds) a1 r1, .cons (d := e) (ds := es) a2 r2, L, st, hq, ow, nm, R, h => by
    rw [List.zip_cons_cons]
    intro T hT
    have hne : q ≠ T := fun z => by rw [← z, hq] at hT; cases hT
    have LT : Le w (w.new T (.tup [x, y]) False) := le_new hT
    have stT : StoR K (w.new T (.tup [x, y]) False) S := st.new hT
    have rep : Rep K (w.new T (.tup [x, y]) False) (.tup [d, e]) (.ref T) := .tup (.inl ⟨Rd.of upd_same, (st.fresh hT).1, fun z => z.elim (·.2) fun z => z.1 rfl⟩) (.cons (a1.le (L.trans LT)) (.cons (a2.le (L.trans LT)) .nil))
    have owT : (w.new T (.tup [x, y]) False).ow q := .inr ⟨hne, ow⟩
    have lf := own_put (o := .lst (acc ++ [.ref T])) owT
    refine zipN_ok hq0 vs us ds es { w.new T (.tup [x, y]) False with H := upd (w.new T (.tup [x, y]) False).H q (.lst (acc ++ [.ref T])) } (acc ++ [.ref T]) (done ++ [.tup [d, e]]) r1 r2 (le_put (L.trans LT) hq0) (sto_put stT owT) upd_same owT nm (((R.le LT).app (.cons rep .nil)).lf lf) ?_
    intro w2 v L2 st2 R2
    rw [List.append_assoc] at R2
    exact h w2 v L2 st2 R2
def fListZ (fa : FA) : FE := fun σ S => (fa σ S).bd fun rs S1 => match rs with
  | [r1, r2] => (match r1.rd S1, r2.rd S1 with
    | .lst ds, .lst es => if ds.length ≤ 1000 then .ok (.fr (.lst (zpD ds es))) S1 else .bad
    | _, _ => .bad)
  | _ => .bad
theorem snd_listZ {ta : TA} {fa : FA} (ha : SndA K W ta fa) : SndE K W (tListZ K ta) (fListZ fa) := by
  intro wf w S σd σv Q s h
  refine ha.run (Le.refl w) s h fun rs S1 w1 vs L1 st1 R1 h1 => ?_
  revert h1
  split
  · rename_i r1 r2
    split
    · rename_i ds es e1 e2
      intro h1
      obtain ⟨hl, h2⟩ := h1.ite
      match vs, R1 with
      | [x1, x2], R1 =>
        obtain ⟨q1, q2, _⟩ := R1
        obtain ⟨a, us, rfl, g1, g2⟩ := lstOf st1 q1 e1
        obtain ⟨b, ws, rfl, k1, k2⟩ := lstOf st1 q2 e2
        refine ⟨a, b, us, ws, rfl, SqL.of g1, SqL.of k1, by rw [List.length_zip, g2.length]; omega, fun q hq => ?_⟩
        have Lq : Le w1 (w1.new q (.lst []) True) := le_new hq
        refine zipN_ok (K := K) (w1 := w1) (S := S1) hq us ws ds es (w1.new q (.lst []) True) [] [] g2 k2 Lq (st1.new hq) upd_same (.inl ⟨rfl, True.intro⟩) (st1.fresh hq).1 .nil ?_
        intro w2 v L2 st2 R2
        exact h2 w2 v (L1.trans L2) st2 (OwnR.back R2 L1 st1)
    · intro h1; exact h1.elim
  · intro h1; exact h1.elim
end
end Cl

/-! ## OwnR -/
namespace Cl
open PySem PySem.Spec PyProof.Rows L2
/-! ## i * o by o's __rmul__ -/
section
open PySem.W
variable {prog : Program} {w : World} {A : Around} {E : Value → Shared → Prop} {s : Shared} {K : Frag} {x C L f g dx : Addr} {h₀ : Heap} {m : Str → Option Value} {ox : Obj} {od : Option Obj}
theorem int_mul_obj {i : Int} {t : Tok} {Q : Value → Shared → Prop} (hx : s.heap.get? x = some (instObj C dx)) (hq : Q .notImplemented s) : wpAny (model prog w) A (call (.builtin "int.__mul__") [.int i t, .ref x]) Q E s := by
  refine wpAny_call_entry PySem.F.slot_int_mul (typeIs_int s i t) PySem.F.entry_int_mul ?_ (PySem.F.args_int_mul_2 _ _)
  show wpAny _ _ (Builtin.Int.intBinary "__mul__" _ false ⟨[.int i t, .ref x], []⟩) _ _ _
  unfold Builtin.Int.intBinary
  refine wpAny_bind (wpAny_of_eq (a := ((Value.int i t : Value), [Value.ref x])) (by first | rfl | (simp only [slotArgs]; rfl)) ?_)
  refine wpAny_bind (wpAny_of_eq (a := i) (by first | rfl | (simp [Builtin.Int.intOfSelf]; rfl)) ?_)
  refine wpAny_bind ?_
  show wpAny _ _ (load x >>= _) _ _ _
  refine wpAny_bind (wpAny_load hx ?_)
  refine wpAny_pure ?_
  exact wpAny_bind (wpAny_rule (wpAny_pure ⟨_, rfl, hq⟩))
theorem mul_refl {i : Int} {t : Tok} {Q : Value → Shared → Prop} (F : Fr h₀ L s.heap m) (X₀ : K.In h₀) (I : InstAt s.heap x ox C od) (hx : s.heap.get? x = some (instObj C dx)) (hc : selfFirst K C = true)
    (hs : findIn K (.ref C) "__mul__" = some (some (.ref f))) (hr : findIn K (.ref C) "__rmul__" = some (some (.ref g))) (hf : isFn K (.ref g) = true) (hsub : subIn K (.ref C) (.type "int") = some false)
    (h : wpAny (model prog w) A (call (.ref g) [.ref x, .int i t]) (PySem.W.CmpBack Q) E s) : wpAny (model prog w) A (binaryOp .Mult (.int i t) (.ref x)) Q E s := by
  have X := X₀.keeps F.keep
  obtain ⟨cd, rest, hcd, hm⟩ := ksp_first hc
  have one := ksp_try (b := .int i t) X I hr hf h
  have zero : ∀ {Q' : Option Value → Shared → Prop}, Q' none s → wpAny (model prog w) A (tryMethod (.int i t) "__mul__" (.ref x)) Q' E s := fun q => by
    unfold tryMethod
    exact wpAny_bind (wpAny_callSpecial?_slot (typeIs_int s i t) PySem.F.slot_int_mul (int_mul_obj hx (wpAny_pure q)))
  obtain ⟨hh, gg, d, tt, os⟩ := s
  have L1 : Looks (model prog w) hh (typeOf (.ref x)) (.ref C) := I.type
  have L2 : Looks (model prog w) hh (typeOf (.int i t)) (.type "int") := Looks.of_pure rfl
  have L3 : Looks (model prog w) hh (fillsNumberSlot (.ref C) "mul") true := fills_K X hcd hm hs
  have L4 : Looks (model prog w) hh (fillsNumberSlot (.type "int") "mul") true := Looks.of_pure PySem.F.fills_int_mul
  have L5 : Looks (model prog w) hh (isSubtype (.ref C) (.type "int")) false := looks_subIn X hsub
  have L7 : Looks (model prog w) hh (numberSlotInPython (.type "int") "mul") false := Looks.of_pure rfl
  have hne : (Value.type "int" == Value.ref C) = false := Bool.eq_false_iff.mpr fun q => by cases beq_iff_eq.mp q
  have hi : Operator.Mult.info = ("*", "mul") := rfl
  simp only [binaryOp, hi]
  refine wpAny_holding (wpAny_bind ?_)
  unfold binaryOp1
  refine wpAny_bind (L2.at (wpAny_bind (L1.at (wpAny_bind (L4.at ?_)))))
  simp only [hne, Bool.false_eq_true, if_false]
  refine wpAny_bind (L3.at ?_)
  simp only [Bool.and_self, if_true]
  refine wpAny_bind (L5.at ?_)
  simp only [Bool.false_eq_true, if_false, pure_bind, Bool.not_false, Bool.and_self, if_true]
  refine wpAny_bind (L7.at ?_)
  simp only [Bool.false_eq_true, if_false, pure_bind, if_true]
  refine wpAny_bind (zero ?_)
  simp only [Bool.false_eq_true, if_false, pure_bind, if_true]
  refine wpAny_bind (wpAny_mono one (fun r s' hr' => ?_) fun _ _ e => e)
  obtain ⟨v, rfl, hq⟩ := hr'
  exact wpAny_bind (wpAny_rule (wpAny_pure (wpAny_pure hq)))
end
section
variable {X : Cx} {n : Nat} {ps : List Str} {sp : Sp} {C m : Str} {W : WX} {a b c : Expr} {ta tb tc : TE} {pos : Pos}
/-- i * o -/
def tOwnR (C : Addr) (sp : Sp) (E : L2.St → XK) (ta tb : TE) : TE := fun σ H Q => ta σ H fun x H1 => tb σ H1 fun y H2 => ∃ i a dx fs, x = .int i ∧ y = .ref a ∧ H2 a = some (.ins C dx fs) ∧ sp [y, x] H2 Q (E σ)
theorem pe_ownR {nm0 : String} (hs : PySem.W.selfFirst X.K (He.ga X.K C) = true) (ho : OpI X.K (He.ga X.K C) nm0) (hm : Meth X.K (He.ga X.K C) "__mul__" (He.ma X.K (He.ga X.K C) "__mul__")) (hmr : Meth X.K (He.ga X.K C) "__rmul__" (He.ma X.K (He.ga X.K C) "__rmul__")) (F : FnX X.prog X.w X.K X.mg X.base (L2.CX X.prog X.w) n (C, some "__rmul__") ps sp) (hr : Room n X.A) (tk : Takes X W)
    (ha : PE X a ta) (hb : PE X b tb) : PE X (.BinOp a .Mult b pos) (tOwnR (He.ga X.K C) sp (WE W) ta tb) := by
  obtain ⟨⟨fd, F, bn⟩, kp⟩ := F
  refine ⟨fun pins s σ H Q I h => wpAny_BinOp (binT ha hb I h fun v u s2 x y H2 I2 rx ry q => ?_)⟩
  obtain ⟨i, p, dx, fs, rfl, rfl, hp, hsp⟩ := q
  cases ry
  obtain ⟨t, rfl⟩ := rx
  obtain ⟨mA, J, _⟩ := ins_get I2.hok hp
  have hobj := J.1
  obtain ⟨od, J, _⟩ := J.look
  obtain ⟨m, hF⟩ := I2.fr
  refine mul_refl hF I2.ok.mod.kin J hobj hs hm.at_ hmr.at_ hmr.fn ho.sub2 ?_
  exact thn (run_ownX (vs := [.ref p, .int i]) F hr rfl bn tk I2 (.cons rfl (.cons ⟨t, rfl⟩ .nil)) hsp) fun z s' hz => cmpBack_of hz
end
section
variable {K : PySem.W.Frag} {W : Cw}
def fOwnR (C : Str) (f : Fn) (fa fb : FE) : FE := fun σ S => (fa σ S).bd fun r1 S1 => (fb σ S1).bd fun r2 S2 => match r1, r2.rd S2 with
  | .v (.int i), .obj C1 _ _ => if C1 = C then onDs [r2, .v (.int i)] fun ds => f ds S2 else .bad
  | _, _ => .bad
theorem snd_ownR {C : Str} {f : Fn} {ta tb : TE} {fa fb : FE} (ha : SndE K W ta fa) (hb : SndE K W tb fb) : SndE K W (tOwnR (He.ga K C) (spOf K f) (WE W.W) ta tb) (fOwnR C f fa fb) := by
  intro wf w S σd σv Q s h
  refine ha.run (Le.refl w) s h fun r1 S1 w1 v1 L1 st1 R1 h1 => hb.run L1 (s.step L1 st1) h1 fun r2 S2 w2 v2 L2 st2 R2 h2 => ?_
  have L02 := L1.trans L2
  have R1' := R1.le L2
  have R2' := R2.back L1 st1
  revert h2
  split
  · rename_i i C1 ns1 ds1 e1
    intro h2
    obtain ⟨rfl, h3⟩ := h2.ite
    obtain ⟨a, dx, fs, rfl, g1, _⟩ := objOf st2 R2' e1
    obtain ⟨ds, e3, h4⟩ := onDs_of h3
    cases R1
    refine ⟨i, a, dx, fs, rfl, rfl, g1, w.frz w2, S2, ds, rfl, st2.frz, RepRs.frz (rs := [r2, .v (.int i)]) (xs := [.ref a, .int i]) ⟨R2', R1', True.intro⟩ e3, ?_⟩
    revert h4
    cases f ds S2 with
    | ok r S2 => exact fun h2 w' v L st R => h2 w' v (L02.frz.trans L) st (RepR.called s.le L02 st2 R)
    | ex e S2 => exact fun h2 w' c dd L st R => h2 w' c dd (L02.frz.trans L) st R
    | bad => exact fun h2 => h2
  · intro h2; exact h2.elim
end
end Cl

/-! ## OwnL -/
namespace Cl
open PySem PySem.Spec PyProof.Rows L2
/-! ## abs(o); __iter__ that gives iter(self.f), and list(o) by it -/
section
variable {X : Cx} {n : Nat} {ps : List Str} {sp : Sp} {C : Str} {a b : Expr} {ta tb : TE} {pos : Pos}
/-- x in o, as a test -/
theorem pt_ownIn (hm : Meth X.K (He.ga X.K C) "__contains__" (He.ma X.K (He.ga X.K C) "__contains__")) (F : FnX X.prog X.w X.K X.mg X.base CX0 n (C, some "__contains__") ps sp) (hr : Room n X.A)
    (ha : PE X a ta) (hb : PE X b tb) (hk : behindInMarks .In b = false := by rfl) : PT X (.Compare a [.In] [b] pos) (tTest (tOwnIn false (He.ga X.K C) sp ta tb)) := by
  obtain ⟨⟨fd, F, bn⟩, kp⟩ := F
  have ho : OpR X (compareOp .In) (fun x y H2 Q => ∃ a dx fs, y = .ref a ∧ H2 a = some (.ins (He.ga X.K C) dx fs) ∧ sp [y, x] H2 (fun v H3 => ∃ k, v = .bl k ∧ Q (.bl (k ^^ false)) H3) E0) := by
    intro pins s σ H x y v u Q I rx ry h
    obtain ⟨p, dx, fs, rfl, hp, hsp⟩ := h
    cases ry
    obtain ⟨mA, J, _⟩ := ins_get I.hok hp
    obtain ⟨od, J, _⟩ := J.look
    obtain ⟨m, hF⟩ := I.fr
    refine PySem.W.in_K hF I.ok.mod.kin J hm.at_ hm.fn ?_
    refine thn (run_own (A := X.A) (vs := [.ref p, x]) F hr rfl bn I (.cons rfl (.cons rx .nil)) hsp) fun z s' hz => ?_
    obtain ⟨w, H', I', rv, k, rfl, q⟩ := hz
    cases rv
    exact truthy_bl ⟨.bl k, H', I', rfl, by simpa using q⟩
  exact pt_cmpR ho ha hb hk
end
section
variable {X : Cx} {n : Nat} {ps : List Str} {sp : Sp} {C : Str}
def rAbsO (C : Addr) (sp : Sp) : List V → Hp → VK → Prop := fun xs H Q => ∃ a dx fs, xs = [.ref a] ∧ H a = some (.ins C dx fs) ∧ sp [.ref a] H Q E0
theorem cl_absO (hm : Meth X.K (He.ga X.K C) "__abs__" (He.ma X.K (He.ga X.K C) "__abs__")) (F : FnX X.prog X.w X.K X.mg X.base CX0 n (C, some "__abs__") ps sp) (hr : Room (n + 2) X.A) : CallR X (.builtin "abs") (rAbsO (He.ga X.K C) sp) := by
  obtain ⟨⟨fd, F, hb⟩, kp⟩ := F
  intro pins s σ H xs us Q I r h
  obtain ⟨a, dx, fs, rfl, ha, hsp⟩ := h
  cases r with
  | cons rx rr =>
    cases rr
    cases rx
    obtain ⟨mA, J, _⟩ := ins_get I.hok ha
    obtain ⟨od, J, _⟩ := J.look
    have hK : X.K.In s.heap := I.kIn
    have hr2 : Room n X.A.in1 := (hr.mono (Nat.le_succ _)).in1
    refine Calls.call_function_entry kind_abs plain_abs entry_abs (args_abs _) ?_
    unfold Builtin.«abs»
    refine wpAny_bind (m := oneArg "abs" _) (wpAny_pure ?_)
    refine wpAny_bind (m := callSpecial? (.ref a) (Str.ofString "__abs__")) (PySem.W.special_fn hK J hm.at_ (beq_iff_eq.mp hm.fn) ?_)
    refine thn (run_own (A := X.A.in1) (vs := [.ref a]) F hr2 rfl hb I (.cons rfl .nil) hsp) fun z s' hz => ?_
    exact wpAny_pure ⟨z, rfl, hz⟩
end
theorem upd_turn {H : Hp} {a b : Addr} {x y z : HO} (n : b ≠ a) : upd (upd (upd H a x) b y) a z = upd (upd H a z) b y := by
  funext c
  by_cases h1 : c = a
  · subst h1
    rw [upd_same, upd_ne (Ne.symm n), upd_same]
  · rw [upd_ne h1]
    by_cases h2 : c = b
    · subst h2; rw [upd_same, upd_same]
    · rw [upd_ne h2, upd_ne h2, upd_ne h1, upd_ne h1]
section
variable {X : Cx} {pins : List (Addr × Obj)} {σ : L2.St} {H : Hp} {s : Shared} {A : Around} {E : Value → Shared → Prop} {it l q p : Addr} {xs : List V} {x : V} {i : Nat}
theorem ol_item (I : Inv X pins σ H s) (ei : H it = some (ItO l it i)) (hl : SqL X.K H l xs) (hx : xs[i]? = some x) :
    wpAny (model X.prog X.w) A (pyNext (.ref it)) (fun r s' => ∃ u, r = some u ∧ RelV x u ∧ Inv X pins σ (upd H it (ItO l it (i + 1))) s') E s := by
  obtain ⟨its, rv, pl, hz⟩ := I.list hl
  obtain ⟨u, hu, ru⟩ := rv.get hx
  have eo := itO_get I ei
  have hT : s.TypeIs (.ref it) "list_iterator" := ⟨_, eo, rfl⟩
  have mu : Mut (H it) := by rw [ei]; exact True.intro
  have core : wpAny (model X.prog X.w) A.in1 (Builtin.«list_iterator.__next__» ⟨[.ref it], []⟩) (fun fin s' => ∃ v, fin = .done (.ret v) ∧ (v = u ∧ Inv X pins σ (upd H it (ItO l it (i + 1))) s')) (fun _ _ => False) s :=
    GNX.next_item eo pl.isList (by rw [List.getElem?_toArray]; exact hu) fun h' e' sb => ⟨rfl, I.write (x := it) (e := it) (t' := s.toks) mu (.inl rfl) (fun b o nb z => (sb.2 b nb).trans z) ⟨_, e'⟩ (itO_ok e')⟩
  unfold pyNext
  refine wpAny_bind (wpAny_attempt ?_)
  refine wpAny_callSpecial?_slot (name := Str.ofString "__next__") hT slot_listiter_next ?_
  refine wpAny_call_entry slot_listiter_next hT entry_listiter_next ?_ (args_listiter_next _)
  refine wpAny_mono core (fun fin s' hq => ?_) fun _ _ z => z.elim
  obtain ⟨v, rfl, rfl, I'⟩ := hq
  exact ⟨v, rfl, wpAny_pure ⟨v, rfl, ru, I'⟩⟩
theorem ol_end (hh : A.handled = none) (I : Inv X pins σ H s) (ei : H it = some (ItO l it i)) (hl : SqL X.K H l xs) (hx : xs[i]? = none) :
    wpAny (model X.prog X.w) A (pyNext (.ref it)) (fun r s' => r = none ∧ Inv X pins σ (upd H it (ItE it i)) s') E s := by
  obtain ⟨its, rv, pl, hz⟩ := I.list hl
  have eo := itO_get I ei
  have hT : s.TypeIs (.ref it) "list_iterator" := ⟨_, eo, rfl⟩
  have mu : Mut (H it) := by rw [ei]; exact True.intro
  have core : wpAny (model X.prog X.w) A.in1 (Builtin.«list_iterator.__next__» ⟨[.ref it], []⟩) (fun fin s' => ∃ v, fin = .done (.ret v) ∧ False) (fun e s' => ∃ a, e = .ref a ∧ (∃ vs, s'.heap.get? a = some { cls := .type "StopIteration", data := .fields vs }) ∧ Inv X pins σ (upd H it (ItE it i)) s') s := by
    refine GNX.next_end hh eo pl.isList (by rw [List.getElem?_toArray]; exact rv.none_of hx) fun h1 h' e vs e1 sb k ne he' hv => ?_
    refine ⟨e, rfl, ⟨vs, he'⟩, ?_⟩
    exact I.write (x := it) (e := it) (t' := s.toks) mu (.inl rfl) (fun b o nb z => k b o ((sb.2 b nb).trans z)) ⟨_, k _ _ e1⟩ (itE_ok (k _ _ e1))
  unfold pyNext
  refine wpAny_bind (wpAny_attempt ?_)
  refine wpAny_callSpecial?_slot (name := Str.ofString "__next__") hT slot_listiter_next ?_
  refine wpAny_call_entry slot_listiter_next hT entry_listiter_next ?_ (args_listiter_next _)
  refine wpAny_mono core (fun fin s' hq => ?_) fun e s' hq => ?_
  · obtain ⟨_, _, z⟩ := hq; exact z.elim
  · obtain ⟨a, rfl, ⟨vs, he⟩, I'⟩ := hq
    refine wpAny_bind (wpAny_isInstance (T := "StopIteration") (b := true) ⟨_, he, rfl⟩ isSubtype_stop ?_)
    exact wpAny_pure ⟨rfl, I'⟩
/-- the list at l holds xs, whatever stands at q and at it -/
def SqI (q it : Addr) (K : PySem.W.Frag) (H : Hp) (l : Addr) (xs : List V) : Prop := (l ≠ q ∧ l ≠ it ∧ Rd H l (.lst xs)) ∨ KL K l xs
theorem SqI.at {K : PySem.W.Frag} {o o' : HO} (h : SqI q it K H l xs) : SqL K (upd (upd H it o) q o') l xs := h.elim (fun h => .inl (rd_upd (rd_upd h.2.2 h.2.1) h.1)) .inr
theorem ol_loop (hqi : q ≠ it) {A1 : Around} (hh : A1.in1.handled = none) {Rs : Result → Shared → Prop} (hs : SqI q it X.K H l xs) (hn : xs.length ≤ 1000)
    (hdone : ∀ s, Inv X pins σ (upd (upd H it (ItE it xs.length)) q (.lst xs)) s → Rs (.ok (.ret .none)) s) :
    ∀ (k i : Nat) (s : Shared), i + k = xs.length → Inv X pins σ (upd (upd H it (ItO l it i)) q (.lst (xs.take i))) s → codeAny (model X.prog X.w) A1 (.builtin "list.extend.loop" ⟨[.ref q, .ref it, .none], []⟩) Rs s := by
  intro k
  induction k with
  | zero =>
    intro i s hi I
    refine codeAny_builtin PySem.F.entry_extend_loop ?_
    rw [Around.under_plainId PySem.F.plain_extend_loop _]
    show wpAny _ A1.in1 (pyNext (.ref it) >>= _) _ _ s
    obtain rfl : i = xs.length := by omega
    have ei : upd (upd H it (ItO l it xs.length)) q (.lst (xs.take xs.length)) it = some (ItO l it xs.length) := by rw [upd_ne (Ne.symm hqi), upd_same]
    refine wpAny_bind (wpAny_mono (ol_end hh I ei hs.at (by simp)) (fun r s' hr => ?_) fun e s' he => he)
    obtain ⟨rfl, I'⟩ := hr
    rw [upd_turn hqi, List.take_length] at I'
    exact wpAny_pure (hdone s' I')
  | succ k ih =>
    intro i s hi I
    refine codeAny_builtin PySem.F.entry_extend_loop ?_
    rw [Around.under_plainId PySem.F.plain_extend_loop _]
    show wpAny _ A1.in1 (pyNext (.ref it) >>= _) _ _ s
    have hlt : i < xs.length := by omega
    have hx : xs[i]? = some xs[i] := List.getElem?_eq_getElem hlt
    have ei : upd (upd H it (ItO l it i)) q (.lst (xs.take i)) it = some (ItO l it i) := by rw [upd_ne (Ne.symm hqi), upd_same]
    refine wpAny_bind (wpAny_mono (ol_item I ei hs.at hx) (fun r s' hr => ?_) fun e s' he => he)
    obtain ⟨u, rfl, ru, I'⟩ := hr
    rw [upd_turn hqi] at I'
    show wpAny _ A1.in1 (updateSeq q (·.push u) >>= _) _ _ _
    have hl' : (xs.take i).length = i := by rw [List.length_take]; omega
    obtain ⟨zz, its, k1, r2, hl2, e⟩ := I'.lstM upd_same
    have hsz : its.length = i := by rw [← r2.length]; exact hl'
    have ht : xs.take (i + 1) = xs.take i ++ [xs[i]] := by rw [List.take_succ, hx]; rfl
    refine wpAny_bind (wpAny_updateSeq e rfl (wpAny_pure ⟨plainId_quiet PySem.F.plain_extend_loop _, ?_⟩) (by rw [List.size_toArray, sizeLine_eq]; omega) (by show (its.toArray.push u).size ≤ sizeLine + 1; rw [Array.size_push, List.size_toArray, sizeLine_eq]; omega))
    have I2 := I'.lset (f := (·.push u)) (ys := xs.take i ++ [xs[i]]) (its' := its ++ [u]) (t' := s'.toks) upd_same e (by simp) (r2.append (.cons ru .nil)) (by rw [List.length_append, List.length_singleton, sizeLine_eq]; omega)
    rw [upd_upd, ← ht] at I2
    exact ih (i + 1) _ (by omega) I2
/-- a call that raises nothing, whatever is wished of an exception -/
theorem run_ownE {n : Nat} {ps : List Str} {sp : Sp} {Q : VK} {us : List Value} {vs : List V} {f : Addr} {fd : FuncData} (F : FnOk X.prog X.w X.K X.mg X.base CX0 n f fd ps sp) (hr : Room n A) (hf : A.frames = X.A.frames) (hb : Binds X.K fd ps [])
    (I : Inv X pins σ H s) (r : Vals vs us) (h : sp vs H Q E0) : wpAny (model X.prog X.w) A (call (.ref f) us) (EP X pins σ Q) E s := by
  have hl : us.length = ps.length := by rw [← r.length]; exact F.len _ _ _ _ h
  have b := hb s us I.kIn (by rw [List.append_nil]; exact hl)
  rw [List.append_nil] at b
  refine wpAny_call (codeAny_mono (F.run A X.stack s H ⟨us, []⟩ us vs Q E0 hr (env_at I hf) b r h) fun z s' hq => ?_)
  cases z with
  | error e => exact hq.elim
  | ok fl =>
    cases fl with
    | ret u => exact I.after hq
    | next => exact False.elim hq
    | brk => exact False.elim hq
    | cont => exact False.elim hq
/-- the length is asked by the own __len__ -/
theorem ol_hint {n : Nat} {ps : List Str} {sp : Sp} {C : Str} {dx : Addr} {fs : List (Str × V)} {R : Hp → Prop} {Q : Bool → Shared → Prop} (hm : Meth X.K (He.ga X.K C) "__len__" (He.ma X.K (He.ga X.K C) "__len__")) (F : FnX X.prog X.w X.K X.mg X.base CX0 n (C, some "__len__") ps sp) (hr : Room (n + 1) A) (hf : A.frames = X.A.frames)
    (I : Inv X pins σ H s) (hp : H p = some (.ins (He.ga X.K C) dx fs)) (hsp : sp [.ref p] H (fun v H' => ∃ k : Nat, v = .int k ∧ k ≤ 1000 ∧ R H') E0) (h : ∀ b H' s', Inv X pins σ H' s' → R H' → Q b s') :
    wpAny (model X.prog X.w) A (Builtin.List.listLengthHint (.ref p)) Q X.xe s := by
  obtain ⟨⟨fd, F, hb⟩, kp⟩ := F
  obtain ⟨mA, J, _⟩ := ins_get I.hok hp
  obtain ⟨od, J, _⟩ := J.look
  obtain ⟨m, hF⟩ := I.fr
  unfold Builtin.List.listLengthHint
  refine wpAny_bind (wpAny_bind (J.type.here ((PySem.W.looks_findIn I.kIn hm.at_).here ?_)))
  refine PySem.W.KFB.if_not rfl ?_
  refine wpAny_bind (wpAny_rule ?_)
  refine wpAny_bind (wpAny_attempt ?_)
  refine PySem.W.len_K hF I.ok.mod.kin J hm.at_ hm.fn ?_
  refine thn (run_ownE (A := A.in1) (vs := [.ref p]) F hr.in1 hf hb I (.cons rfl .nil) hsp) fun z s' hz => ?_
  obtain ⟨v, H', I', rv, k, rfl, hk, hR⟩ := hz
  obtain ⟨t, rfl⟩ := rv
  refine ⟨⟨by omega, by omega⟩, ?_⟩
  refine wpAny_bind (wpAny_pure ?_)
  show wpAny _ _ (if Builtin.List.listTooLong (Int.toNat (k : Int)) = true then _ else _) _ _ _
  have hnl : Builtin.List.listTooLong (Int.toNat (k : Int)) = false := by
    have e : sizeLine = _ := sizeLine_eq
    simp only [Builtin.List.listTooLong, Int.toNat_natCast, decide_eq_false_iff_not]
    rw [e]; omega
  rw [hnl, if_neg Bool.false_ne_true]
  exact wpAny_pure (h _ _ _ (I'.tok _) hR)

/-- what an __iter__ promises that gives iter(self.f) -/
def spIt (K : PySem.W.Frag) (C : Addr) (f : Str) : Sp := fun vs H Q _ => ∃ a dx fs l xs, vs = [.ref a] ∧ H a = some (.ins C dx fs) ∧ fs.lookup f = some (.ref l) ∧ SqL K H l xs ∧ ∀ it, H it = none → Q (.ref it) (upd H it (ItO l it 0))
/-- list(o) by the own __iter__ and __len__ -/
def rListO (K : PySem.W.Frag) (C : Addr) (f : Str) (spL : Sp) : List V → Hp → VK → Prop := fun xs H Q => ∃ a dx fs l ys, xs = [.ref a] ∧ H a = some (.ins C dx fs) ∧ fs.lookup f = some (.ref l) ∧ Rd H l (.lst ys) ∧
  ∀ q, H q = none → ∀ it, upd H q (.lst []) it = none → spL [.ref a] (upd (upd H q (.lst [])) it (ItO l it 0)) (fun v H2 => ∃ k : Nat, v = .int k ∧ k ≤ 1000 ∧ ∃ zs : List V, zs.length ≤ 1000 ∧ H2 it = some (ItO l it 0) ∧ H2 q = some (.lst []) ∧ SqI q it K H2 l zs ∧ Q (.ref q) (upd (upd H2 it (ItE it zs.length)) q (.lst zs))) E0
section
variable {n nI : Nat} {ps psI : List Str} {spL : Sp} {C fld : Str} {a dx : Addr} {fs : List (Str × V)} {ys : List V}
theorem ol_extend {A1 : Around} {Q : VK} {Rs : Result → Shared → Prop} (hh : A1.in1.handled = none) (hm : Meth X.K (He.ga X.K C) "__len__" (He.ma X.K (He.ga X.K C) "__len__")) (F : FnX X.prog X.w X.K X.mg X.base CX0 n (C, some "__len__") ps spL) (hr : Room (n + 1) A1.in1)
    (hmI : Meth X.K (He.ga X.K C) "__iter__" (He.ma X.K (He.ga X.K C) "__iter__")) (FI : FnX X.prog X.w X.K X.mg X.base CX0 nI (C, some "__iter__") psI (spIt X.K (He.ga X.K C) fld)) (hrI : Room nI A1.in1) (hf : A1.frames = X.A.frames)
    (hdone : ∀ H s, Inv X pins σ H s → Q (.ref q) H → Rs (.ok (.ret .none)) s) (herr : ∀ e s, X.xe e s → Rs (.error e) s)
    (I : Inv X pins σ (upd H q (.lst [])) s) (hq : H q = none) (ha : H a = some (.ins (He.ga X.K C) dx fs)) (hl : fs.lookup fld = some (.ref l)) (hy : Rd H l (.lst ys))
    (h : ∀ it, upd H q (.lst []) it = none → spL [.ref a] (upd (upd H q (.lst [])) it (ItO l it 0)) (fun v H2 => ∃ k : Nat, v = .int k ∧ k ≤ 1000 ∧ ∃ zs : List V, zs.length ≤ 1000 ∧ H2 it = some (ItO l it 0) ∧ H2 q = some (.lst []) ∧ SqI q it X.K H2 l zs ∧ Q (.ref q) (upd (upd H2 it (ItE it zs.length)) q (.lst zs))) E0) :
    wpAny (model X.prog X.w) A1.in1 (Builtin.List.listExtendWith (.ref q) (.ref a) .none)
      (fun fin s' => match fin with | .done f => Rs (.ok f) s' | .again c' => c'.quiet = true ∧ codeAny (model X.prog X.w) A1 c' Rs s') (fun e s' => Rs (.error e) s') s := by
  have hne : q ≠ a := fun z => by rw [z, ha] at hq; cases hq
  have ha1 : upd H q (.lst []) a = some (.ins (He.ga X.K C) dx fs) := by rw [upd_ne hne.symm]; exact ha
  obtain ⟨mA, J, _⟩ := ins_get I.hok ha1
  obtain ⟨od, J, _⟩ := J.look
  obtain ⟨m0, hF⟩ := I.fr
  obtain ⟨⟨fdI, FI, hbI⟩, kpI⟩ := FI
  unfold Builtin.List.listExtendWith
  refine wpAny_bind (J.type.here ?_)
  have h1 : Builtin.List.listSameRef (.ref q) (.ref a) = false := by simp [Builtin.List.listSameRef, hne]
  have h2 : (Value.ref (He.ga X.K C) == Value.type "list") = false := rfl
  have h3 : (Value.ref (He.ga X.K C) == Value.type "tuple") = false := rfl
  simp only [h1, h2, h3, Bool.or_false, Bool.false_eq_true, if_false]
  refine wpAny_bind (PySem.W.owit_iter hF I.ok.mod.kin J hmI.at_ hmI.fn ?_)
  have nql : l ≠ q := rd_ne hy hq
  have hsp : spIt X.K (He.ga X.K C) fld [.ref a] (upd H q (.lst [])) (fun v H' => ∃ it, v = .ref it ∧ upd H q (.lst []) it = none ∧ H' = upd (upd H q (.lst [])) it (ItO l it 0)) E0 :=
    ⟨a, dx, fs, l, ys, rfl, ha1, hl, .inl (rd_upd hy nql), fun it hit => ⟨it, rfl, hit, rfl⟩⟩
  refine thn (run_ownE (E := fun e s' => Rs (.error e) s') (A := A1.in1) (vs := [.ref a]) FI hrI hf hbI I (.cons rfl .nil) hsp) fun u s1 hz => ?_
  obtain ⟨v, H1, I1, rv, it, rfl, hit, rfl⟩ := hz
  cases rv
  have eo := itO_get I1 upd_same
  have hT : s1.TypeIs (.ref it) "list_iterator" := ⟨_, eo, rfl⟩
  unfold PySem.W.OwitIt
  refine wpAny_specialOf (name := Str.ofString "__next__") hT slot_listiter_next.lookup ?_
  have nai : a ≠ it := fun z => by rw [← z, ha1] at hit; cases hit
  have nqi : q ≠ it := fun z => by rw [← z, upd_same] at hit; cases hit
  have ha2 : upd (upd H q (.lst [])) it (ItO l it 0) a = some (.ins (He.ga X.K C) dx fs) := by rw [upd_ne nai]; exact ha1
  refine wpAny_bind (wpAny_holding (wpAny_mono (ol_hint (R := fun H2 => ∃ zs : List V, zs.length ≤ 1000 ∧ H2 it = some (ItO l it 0) ∧ H2 q = some (.lst []) ∧ SqI q it X.K H2 l zs ∧ Q (.ref q) (upd (upd H2 it (ItE it zs.length)) q (.lst zs))) (Q := fun b s' => ∃ H2 zs, Inv X pins σ H2 s' ∧ zs.length ≤ 1000 ∧ H2 it = some (ItO l it 0) ∧ H2 q = some (.lst []) ∧ SqI q it X.K H2 l zs ∧ Q (.ref q) (upd (upd H2 it (ItE it zs.length)) q (.lst zs))) (A := A1.in1) hm F hr hf I1 ha2 ?_ ?_) (fun b s' hb => ?_) fun e s' he => herr e s' he))
  · exact h it hit
  · rintro b H' s' I' ⟨zs, r⟩
    exact ⟨H', zs, I', r⟩
  · obtain ⟨H2, zs, I2, hz, e1, e2, sq, hQ⟩ := hb
    have hH : upd (upd H2 it (ItO l it 0)) q (.lst (zs.take 0)) = H2 := by
      funext b
      by_cases h1 : b = q
      · rw [h1, upd_same, e2]; rfl
      · rw [upd_ne h1]
        by_cases h2 : b = it
        · rw [h2, upd_same, e1]
        · rw [upd_ne h2]
    have go : ∀ s2, Inv X pins σ H2 s2 → codeAny (model X.prog X.w) A1 (.builtin "list.extend.loop" ⟨[.ref q, .ref it, .none], []⟩) Rs s2 := fun s2 J2 =>
      ol_loop nqi hh sq hz (fun s3 J3 => hdone _ s3 J3 hQ) zs.length 0 s2 (Nat.zero_add _) (by rw [hH]; exact J2)
    obtain ⟨zz, its, k, r3, hl3, e3⟩ := I2.lstM e2
    cases r3
    refine wpAny_ite_split (fun _ => ?_) (fun _ => wpAny_pure ⟨plainId_quiet PySem.F.plain_extend_loop _, go _ I2⟩)
    refine wpAny_bind (wpAny_rule ?_)
    refine wpAny_bind ?_
    show wpAny _ _ (updateSeq q (·.push .none) >>= fun _ => updateSeq q (·.pop)) _ _ _
    refine wpAny_bind (wpAny_updateSeq e3 rfl ?_)
    have I4 := I2.lset (f := (·.push Value.none)) (its' := [Value.none]) (ys := [.non]) (t' := s'.toks) e2 e3 (by simp) (.cons rfl .nil) (by rw [List.length_singleton, sizeLine_eq]; decide)
    obtain ⟨z4, its4, k4, r4, hl4, e4⟩ := I4.lstM upd_same
    obtain ⟨u4, rfl, ru4⟩ := r4.one
    refine wpAny_updateSeq e4 rfl ?_ (by show 1 ≤ sizeLine; rw [sizeLine_eq]; decide) (by show 0 ≤ sizeLine + 1; exact Nat.zero_le _)
    have I5 := I4.lset (f := (·.pop)) (its := [u4]) (its' := []) (ys := []) (t' := s'.toks) upd_same e4 (by rfl) .nil (Nat.zero_le _)
    rw [upd_upd] at I5
    have hH2 : upd H2 q (.lst []) = H2 := by
      funext b
      by_cases hb : b = q
      · rw [hb, upd_same, e2]
      · rw [upd_ne hb]
    rw [hH2] at I5
    exact wpAny_pure ⟨plainId_quiet PySem.F.plain_extend_loop _, go _ I5⟩
theorem cl_listO (hc : X.calm = true) (hm : Meth X.K (He.ga X.K C) "__len__" (He.ma X.K (He.ga X.K C) "__len__")) (F : FnX X.prog X.w X.K X.mg X.base CX0 n (C, some "__len__") ps spL) (hr : Room (n + 3) X.A)
    (hmI : Meth X.K (He.ga X.K C) "__iter__" (He.ma X.K (He.ga X.K C) "__iter__")) (FI : FnX X.prog X.w X.K X.mg X.base CX0 nI (C, some "__iter__") psI (spIt X.K (He.ga X.K C) fld)) (hrI : Room (nI + 2) X.A) : CallR X (.type "list") (rListO X.K (He.ga X.K C) fld spL) := by
  intro pins s σ H xs us Q I r h
  obtain ⟨a, dx, fs, l, ys, rfl, ha, hl, hy, h⟩ := h
  cases r with
  | cons rx rr =>
  cases rr
  cases rx
  refine callType_codes (Q₁ := fun obj s₁ => obj = .ref s.heap.objs.size ∧ s₁ = { s with heap := s.heap.push { cls := .type "list", data := .seq #[] } }) PySem.F.called_list (PySem.F.typeCall_list_1 _) PySem.F.entry_list_init
    (code_list_new _ ⟨rfl, rfl⟩) fun obj s₁ h₁ => ?_
  obtain ⟨rfl, rfl⟩ := h₁
  have hS : (s.heap.push { cls := .type "list", data := .seq #[] }).get? s.heap.objs.size = some { cls := .type "list", data := .seq #[] } := Heap.get?_push_size _ rfl
  refine ⟨⟨_, hS, rfl⟩, PySem.F.args_list_init_2 _ _, ?_⟩
  have fr : H s.heap.objs.size = none := I.hok.fresh (Nat.le_refl _)
  have I1 : Inv X pins σ (upd H s.heap.objs.size (.lst [])) { s with heap := s.heap.push { cls := .type "list", data := .seq #[] } } := I.lnew (its := []) (t' := s.toks) .nil (Nat.zero_le _)
  show wpAny _ _ (do let old ← Builtin.List.listItems (.ref s.heap.objs.size); Builtin.List.listUpdate (.ref s.heap.objs.size) (fun _ => #[]); letGo old.toList.reverse; Builtin.List.listExtendWith (.ref s.heap.objs.size) (.ref a) .none) _ _ _
  refine wpAny_bind ?_
  unfold Builtin.List.listItems
  refine wpAny_bind (wpAny_seqItems hS rfl (wpAny_pure ?_))
  show wpAny _ _ (updateSeq s.heap.objs.size (fun _ => #[]) >>= fun _ => letGo (#[] : Array Value).toList.reverse >>= fun _ => Builtin.List.listExtendWith (.ref s.heap.objs.size) (.ref a) .none) _ _ _
  refine wpAny_bind (wpAny_updateSeq hS rfl ?_)
  have I2 := I1.lset (f := fun _ => #[]) (its := []) (its' := []) (ys := []) (t' := s.toks) upd_same hS rfl .nil (Nat.zero_le _)
  rw [upd_upd] at I2
  refine wpAny_bind (wpAny_letGo ?_)
  exact ol_extend (A1 := X.A.in1) (Q := Q) (Rs := wants (fun r s₂ => r = .none ∧ EP X pins σ Q (.ref s.heap.objs.size) s₂) X.xe) (I.ok.hd hc) hm F hr.in1.in1 hmI FI hrI.in1.in1 rfl
    (fun H' s' I' hR => ⟨rfl, .ref s.heap.objs.size, H', I', rfl, hR⟩) (fun e s' he => he) I2 fr ha hl hy (h _ fr)
end
end
section
variable {K : PySem.W.Frag} {W : Cw}
def fAbsO (C : Str) (f : Fn) (fa : FE) : FE := fun σ S => (fa σ S).bd fun r1 S1 => match r1.rd S1 with
  | .obj C1 _ _ => if C1 = C then onDs [r1] fun ds => (f ds S1).noX else .bad
  | _ => .bad
theorem snd_absO {C : Str} {f : Fn} {ta : TE} {fa : FE} (ha : SndE K W ta fa) : SndE K W (tCB (rAbsO (He.ga K C) (spOf K f)) (tCons ta tNil)) (fAbsO C f fa) := by
  intro wf w S σd σv Q s h
  refine ha.run (Le.refl w) s h fun r1 S1 w1 v1 L1 st1 R1 h1 => ?_
  revert h1
  split
  · rename_i C1 ns1 ds1 e1
    intro h2
    obtain ⟨rfl, h3⟩ := h2.ite
    obtain ⟨a, dx, fs, rfl, g1, _⟩ := objOf st1 R1 e1
    obtain ⟨ds, e3, h4⟩ := onDs_of h3
    refine ⟨a, dx, fs, rfl, g1, w.frz w1, S1, ds, rfl, st1.frz, RepRs.frz (rs := [r1]) (xs := [.ref a]) ⟨R1, True.intro⟩ e3, ?_⟩
    revert h4
    cases f ds S1 with
    | ex e S2 => exact fun h2 => h2.elim
    | bad => exact fun h2 => h2
    | ok r S3 => exact fun h2 w' v L st R => h2 w' v (L1.frz.trans L) st (RepR.called s.le L1 st1 R)
  · intro h2; exact h2.elim
def onLst (d : Da) (r : Rv) (S : Sto) : Ev Rv := match r, (Rv.v d).rd S with
  | .v (.int k), .lst es => if 0 ≤ k ∧ k ≤ 1000 ∧ es.length ≤ 1000 then .ok (.fr (.lst es)) S else .bad
  | _, _ => .bad
def fListO (C fld : Str) (f : Fn) (fa : FE) : FE := fun σ S => (fa σ S).bd fun r S1 => match r with
  | .v d => (match (Rv.v d).rd S1 with
    | .obj C1 ns ds => (match getF ns ds fld with
      | some d2 => (match (Rv.v d2).rd S1 with
        | .lst _ => if C1 = C then (f [d] S1).noX.bd (onLst d2) else .bad
        | _ => .bad)
      | none => .bad)
    | _ => .bad)
  | _ => .bad
theorem snd_listO {C fld : Str} {f : Fn} {ta : TE} {fa : FE} (ha : SndE K W ta fa) : SndE K W (tCB (rListO K (He.ga K C) fld (spOf K f)) (tCons ta tNil)) (fListO C fld f fa) := by
  intro wf w S σd σv Q s h
  refine ha.run (Le.refl w) s h fun r S1 w1 v1 L1 st1 R1 h1 => ?_
  revert h1
  split
  · rename_i d
    split
    · rename_i C1 ns ds e
      split
      · rename_i d2 e2
        split
        · rename_i es0 e3
          intro h1
          obtain ⟨rfl, h2⟩ := h1.ite
          obtain ⟨a, dx, fs, rfl, g1, g2, g3⟩ := objOf st1 R1 e
          obtain ⟨v, g4, g5⟩ := getF_of g2 g3 e2
          obtain ⟨l, ys, rfl, k1, k2⟩ := lstOf (wf := wf) (w0 := w) (r := .v d2) st1 g5 e3
          refine ⟨a, dx, fs, l, ys, rfl, g1, g4, Rd.of k1, fun q hq it hit => ?_⟩
          have Lq : Le w1 (w1.new q (.lst []) True) := le_new hq
          have stq : StoR K (w1.new q (.lst []) True) S1 := st1.new hq
          have Li : Le (w1.new q (.lst []) True) ((w1.new q (.lst []) True).new it (ItO l it 0) True) := le_new hit
          have sti : StoR K ((w1.new q (.lst []) True).new it (ItO l it 0) True) S1 := stq.new hit
          have nqi : q ≠ it := fun z => by
            have hit' : upd w1.H q (.lst []) it = none := hit
            rw [← z, upd_same] at hit'; cases hit'
          refine ⟨(w1.new q (.lst []) True).new it (ItO l it 0) True, S1, [d], rfl, sti, .cons (Rep.le (Lq.trans Li) R1) .nil, ?_⟩
          revert h2
          cases f [d] S1 with
          | ex e S2 => exact fun h2 => h2.elim
          | bad => exact fun h2 => h2
          | ok r3 S3 =>
            intro h2 w' v L st R
            have LL : Le w w' := L1.trans (Lq.trans (Li.trans L))
            have hit1 : w1.H it = none := Lq.none stq hit
            have hit0 : w.H it = none := L1.none st1 hit1
            have hq0 : w.H q = none := L1.none st1 hq
            have kq := L.kp q (.lst []) (by show upd (upd w1.H q (.lst [])) it (ItO l it 0) q = _; rw [upd_ne nqi, upd_same]) (st1.fresh hq).1
            have ki := L.kp it (ItO l it 0) (by show upd (upd w1.H q (.lst [])) it (ItO l it 0) it = _; rw [upd_same]) (st1.fresh hit1).1
            have owq : w'.ow q := kq.2.2.mpr (.inr ⟨nqi, .inl ⟨rfl, True.intro⟩⟩)
            have owi : w'.ow it := ki.2.2.mpr (.inl ⟨rfl, True.intro⟩)
            have h2' : Po (fun r S' => ∀ w' v, Le w w' → StoR K w' S' → RepR K wf w w' r v → Q v w'.H) (XP K W w σv) (onLst d2 r3 S3) := h2
            revert h2'
            unfold onLst
            split
            · rename_i k es e5
              intro h3
              obtain ⟨⟨hk0, hk1, hk2⟩, h4⟩ := h3.ite
              cases R
              obtain ⟨l', zs, el, m1, m2⟩ := lstOf (wf := wf) (w0 := w) (r := .v d2) st (Rep.le (Lq.trans (Li.trans L)) g5) e5
              cases el
              have nlq : l ≠ q := fun z => by rw [z, hq] at k1; cases k1
              have nli : l ≠ it := fun z => by rw [z, hit1] at k1; cases k1
              refine ⟨k.toNat, by rw [Int.toNat_of_nonneg hk0], by omega, zs, by rw [m2.length]; exact hk2, ki.1, kq.1, .inl ⟨nlq, nli, Rd.of m1⟩, ?_⟩
              have lf1 : Lf w' { w' with H := upd w'.H it (ItE it zs.length) } := own_put owi
              have lf2 : Lf { w' with H := upd w'.H it (ItE it zs.length) } { w' with H := upd (upd w'.H it (ItE it zs.length)) q (.lst zs) } := own_put (w := { w' with H := upd w'.H it (ItE it zs.length) }) owq
              exact h4 { w' with H := upd (upd w'.H it (ItE it zs.length)) q (.lst zs) } _ (le_put (w := { w' with H := upd w'.H it (ItE it zs.length) }) (le_put LL hit0) hq0) (sto_put (w := { w' with H := upd w'.H it (ItE it zs.length) }) (sto_put st owi) owq)
                ⟨q, rfl, hq0, ⟨zs, upd_same, (m2.lf lf1).lf lf2⟩, owq, kq.2.1⟩
            · intro h3; exact h3.elim
        · intro h1; exact h1.elim
      · intro h1; exact h1.elim
    · intro h1; exact h1.elim
  · intro h1; exact h1.elim
/-- the def: return iter(self.f) -/
theorem it_len {C f : Str} {vs : List V} {H : Hp} {Q : VK} {E : XK} (h : spIt K (He.ga K C) f vs H Q E) : vs.length = 1 := by
  obtain ⟨a, dx, fs, l, xs, rfl, _⟩ := h; rfl
theorem it_pure {C f x : Str} {vs : List V} {H : Hp} {Q : VK} {E : XK} (hc : Cls K (He.ga K C)) (hn : NoAttr K (He.ga K C) f) (h : spIt K (He.ga K C) f vs H Q E) :
    tRet (tCB (rIter K) (tCons (tFld K (tVar 0) f) tNil)) { nx := fun _ H' => Q .non H', rt := Q } (L2.start [x] vs) H := by
  obtain ⟨a, dx, fs, l, xs, rfl, h1, h2, h3, h4⟩ := h
  exact ⟨.ref a, rfl, a, _, dx, fs, _, rfl, h1, hc, hn, h2, l, xs, rfl, h3, h4⟩
end
end Cl

/-! ## StM -/
namespace Cl
open PySem PySem.Spec PyProof.Rows L2
/-! ## staticmethods and classmethods, called on the class; the class in a slot, called -/
structure FnW (P : Program) (w : World) (K : PySem.W.Frag) (mg : Str → Option Value) (base : Heap) (CX : CXT) (k : Nat) (e : Hz.ExD) (ps : List Str) (sp : Sp) : Prop where
  ex : ∃ fd, FnOk P w K mg base CX k (e.ad K) fd ps sp ∧ Binds K fd ps []
  kp : PySem.W.keepIn K (.ref (e.ad K)) = true
def tMakeXV (i : Nat) (C : Addr) (sp : Sp) (E : L2.St → XK) (t : TA) : TE := fun σ H Q => σ[i]? = some (some (.ref C)) ∧ tMakeX C sp E t σ H Q
/-- a classmethod's promise: the class comes first -/
def spCl (C : Addr) (sp : Sp) : Sp := fun vs H Q E => ∃ us, vs = .ref C :: us ∧ sp us H Q E
section
variable {X : Cx} {k i : Nat} {ps : List Str} {sp : Sp} {W : WX} {x m : Str} {e : Hz.ExD} {p pos apos : Pos} {a : Expr} {as : List Expr} {t : TA} {pl : Sem Bool}
theorem pe_smeth (hx : e.x = x) (hn : e.m = m) (hw : e.wr = some .st) (wb : Hz.wrB X.K e .st = true) (F : FnW X.prog X.w X.K X.mg X.base (L2.CX X.prog X.w) k e ps sp) (hr : Room k X.A) (hg : Gl X x) (hm : X.mg x = some (.ref (He.ga X.K x))) (tk : Takes X W) (ha : PA X (a :: as) t)
    (hd : (x == ("__debug__" : Str)) = false := by decide) (he : starEach (a :: as) X.env = (false, eval a X.env) :: starEach as X.env := by rfl) (hpl : (backTo pos (starEach as X.env)).any (·.1) = false := by rfl)
    (ht : eval (.Call (.Attribute (.Name x p) m apos) (a :: as) [] pos) X.env = (do let ov ← eval (.Name x p) X.env; standAt apos.atName; let (f, q) ← holding [ov] (getMethod ov m pl); callWith pos f q (backTo pos (starEach (a :: as) X.env)) (backToKw pos (keywordEach [] X.env))) := by rfl) :
    PE X (.Call (.Attribute (.Name x p) m apos) (a :: as) [] pos) (tCallS sp (WE W) t) := by
  obtain ⟨⟨fd, F, b⟩, kp⟩ := F
  obtain ⟨ex, ens, eq_, est, em, ew⟩ := e
  dsimp only at hx hn hw
  subst hx hn hw
  obtain ⟨w1, w2⟩ := He.ba wb
  obtain ⟨w2, w3⟩ := He.ba w2
  obtain ⟨f1, rest, f2⟩ := He5.wrapB_ok w1
  refine ⟨fun pins s σ H Q I h => ?_⟩
  refine PySem.W.methodCall_KW (pl := pl) (thn ((pgc (pos := p) hg hm hd).run pins s σ H (fun v H1 => v = .ref (He.ga X.K ex) ∧ H1 = H) I ⟨rfl, rfl⟩) fun u s1 ⟨v, H1, I1, rx, ev, eH⟩ => ?_) ht
  subst ev eH
  obtain rfl : u = Value.ref (He.ga X.K ex) := rx
  refine PySem.W.method_cls I1.kIn (He.eqO_ok w3) (PySem.W.cls_bind I1.kIn w2 f1 ?_)
  refine wpAny_call (PySem.W.sm_get (s := { s1 with toks := s1.toks + 1 }) I1.kIn f2 (PySem.W.handed_on rfl ?_))
  have I2 := I1.tok (s1.toks + 1)
  refine PySem.W.callWith_K (h₀ := X.base) I2.ok.mod.kin kp (thn (ha.run pos pins _ σ H1 _ I2 h) fun us s3 ⟨vs, H2, I3, r, q⟩ => ⟨I3.kIn, ?_⟩) he hpl
  exact run_fnS (E := WE W) F hr b (passAt tk σ) I3 r q
theorem pe_clmeth (hx : e.x = x) (hn : e.m = m) (hw : e.wr = some .cl) (wb : Hz.wrB X.K e .cl = true) (F : FnW X.prog X.w X.K X.mg X.base (L2.CX X.prog X.w) k e ps (spCl (He.ga X.K x) sp)) (hr : Room k X.A) (hg : Gl X x) (hm : X.mg x = some (.ref (He.ga X.K x))) (tk : Takes X W) (ha : PA X (a :: as) t)
    (hd : (x == ("__debug__" : Str)) = false := by decide) (he : starEach (a :: as) X.env = (false, eval a X.env) :: starEach as X.env := by rfl) (hpl : (backTo pos (starEach as X.env)).any (·.1) = false := by rfl)
    (ht : eval (.Call (.Attribute (.Name x p) m apos) (a :: as) [] pos) X.env = (do let ov ← eval (.Name x p) X.env; standAt apos.atName; let (f, q) ← holding [ov] (getMethod ov m pl); callWith pos f q (backTo pos (starEach (a :: as) X.env)) (backToKw pos (keywordEach [] X.env))) := by rfl) :
    PE X (.Call (.Attribute (.Name x p) m apos) (a :: as) [] pos) (tCallS sp (WE W) t) := by
  obtain ⟨⟨fd, F, b⟩, kp⟩ := F
  obtain ⟨ex, ens, eq_, est, em, ew⟩ := e
  dsimp only at hx hn hw
  subst hx hn hw
  obtain ⟨w1, w2⟩ := He.ba wb
  obtain ⟨w2, w3⟩ := He.ba w2
  obtain ⟨w3, w4⟩ := He.ba w3
  obtain ⟨f1, f2⟩ := He5.wrapB_ok w1
  have cr : ClX.CRead X.K (He.ga X.K ex) (.type "type") := ⟨w2, He.eqO_ok w3⟩
  have cm : ClX.CMet X.K (He.ga X.K ex) (.type "type") em (He.ma X.K (He.ga X.K ex) em) (He5.wf X.K (He.ga X.K ex) "classmethod" em) := ⟨f1, f2, w4⟩
  refine ⟨fun pins s σ H Q I h => ?_⟩
  refine PySem.W.methodCall_KW (pl := pl) (thn ((pgc (pos := p) hg hm hd).run pins s σ H (fun v H1 => v = .ref (He.ga X.K ex) ∧ H1 = H) I ⟨rfl, rfl⟩) fun u s1 ⟨v, H1, I1, rx, ev, eH⟩ => ?_) ht
  subst ev eH
  obtain rfl : u = Value.ref (He.ga X.K ex) := rx
  refine ClX.getmethcm_ok I1 cr cm fun s2 I2 => ?_
  refine ClX.callwith_cm I2 (ClX.base_none I1 (Nat.le_refl _)) cm.fi (thn (ha.run pos _ s2 σ H1 _ I2 h) fun us s3 ⟨vs, H2, I3, rv, q⟩ => ⟨⟨ClX.pin_at I3, I3.kIn⟩, ?_⟩) he hpl
  have r2 : Vals (V.ref (He.ga X.K ex) :: vs) (Value.ref (He.ga X.K ex) :: us) := .cons rfl rv
  have hl : (Value.ref (He.ga X.K ex) :: us).length = ps.length := by rw [← r2.length]; exact F.len (V.ref (He.ga X.K ex) :: vs) H2 Q (WE W σ) ⟨vs, rfl, q⟩
  have bb := b s3 (Value.ref (He.ga X.K ex) :: us) I3.kIn (by rw [List.append_nil]; exact hl)
  rw [List.append_nil] at bb
  have z : wpAny (model X.prog X.w) X.A (call (.ref _) us) (EP X ((_, PySem.W.methodObj (.ref (He5.wf X.K (He.ga X.K ex) "classmethod" em)) (.ref (He.ga X.K ex))) :: pins) σ Q) X.xe s3 :=
    wpAny_call (PySem.W.method_call (ClX.pin_at I3) (codeAny_mono (F.run X.A X.stack s3 H2 ⟨Value.ref (He.ga X.K ex) :: us, []⟩ _ _ Q (WE W σ) hr I3.env0 bb r2 ⟨vs, rfl, q⟩) fun r s' hq => by
      cases r with
      | error er => exact passAt tk σ _ _ s3 er s' I3 hq
      | ok fl =>
        cases fl with
        | ret u => exact I3.after hq
        | next => exact False.elim hq
        | brk => exact False.elim hq
        | cont => exact False.elim hq))
  exact thn z fun _ _ y => ClX.unpinE y
/-- x(..), the slot x holds a class -/
theorem pmakeXV {C : Str} (M : Mk X.K (He.ga X.K C) (He.ma X.K (He.ga X.K C) "__init__")) (F : FnX X.prog X.w X.K X.mg X.base (L2.CX X.prog X.w) k (C, some "__init__") ps sp) (hr : Room (k + 1) X.A) (hN : X.N[i]? = some x) (hv : Vis X.env.scope x) (tk : Takes X W)
    (ha : PA X (a :: as) t) (hd : (x == ("__debug__" : Str)) = false := by decide) (hcd : (x == ("__classdict__" : Str)) = false := by decide) (h1 : starEach (a :: as) X.env = (false, eval a X.env) :: starEach as X.env := by rfl) (h2 : (backTo pos (starEach as X.env)).any (·.1) = false := by rfl) :
    PE X (.Call (.Name x p) (a :: as) [] pos) (tMakeXV i (He.ga X.K C) sp (WE W) t) := by
  obtain ⟨⟨fd, F, b⟩, kp⟩ := F
  refine ⟨fun pins s σ H Q I h => ?_⟩
  obtain ⟨hs, h⟩ := h
  refine wpAny_Call_Name_kw (thn ((pe_var (pos := p) (i := i) hN hv hd hcd).run pins s σ H (fun v H1 => v = .ref (He.ga X.K C) ∧ H1 = H) I ⟨.ref (He.ga X.K C), hs, rfl, rfl⟩) fun u s1 ⟨v, H1, I1, r1, ev, eH⟩ => ?_)
  subst ev eH
  cases r1
  exact PySem.W.callWith_K (h₀ := X.base) I1.ok.mod.kin M.kp (thn (ha.run pos pins s1 σ H1 _ I1 h) fun us s2 ⟨vs, H2, I2, r, q⟩ => ⟨I2.kIn, run_makeX M F hr b tk I2 r q⟩) h1 h2
end
section
variable {K : PySem.W.Frag} {W : Cw}
def fMakeXV (i : Nat) (f : FIn) (fa : FA) : FE := fun σ S => match σ[i]? with
  | some (some .exn) => fMakeX f fa σ S
  | _ => .bad
theorem snd_makeXV {i : Nat} {C : Str} {f : FIn} {ta : TA} {fa : FA} {d : Option Addr} {e : Exn} (hW : W.ex = some (He.ga K C, d, e)) (ha : SndA K W ta fa) : SndE K W (tMakeXV i (He.ga K C) (spIn K C f) (WE W.W) ta) (fMakeXV i f fa) := by
  intro wf w S σd σv Q s h
  unfold fMakeXV at h
  split at h
  · rename_i e1
    obtain ⟨_, hs⟩ := s.cx _ _ _ hW
    exact ⟨hs i e1, snd_makeX ha wf w S σd σv Q s h⟩
  · exact h.elim
abbrev exC : Exn := ⟨"", [], []⟩
/-- a classmethod's def: the first slot is the class -/
def fnOfC (n k : Nat) (body : FS) : Fn := fun ds S => if ds.length + 1 = n then (match body (some .exn :: (ds.map (fun d => some (.v d)) ++ List.replicate (k - n) none)) S with
  | .nx _ S' => .ok (.v .non) S'
  | .rt r S' => .ok r S'
  | .ex e _ S' => .ex e S'
  | _ => .bad) else .bad
theorem fn_pureC {C : Addr} {n : Nat} {N : List Str} {body : FS} {t : TS} {vs : List V} {H : Hp} {Q : VK} {E : XK} (hb : SndS K ⟨W0 E, some (C, none, exC)⟩ t body) (h : spCl C (spOf K (fnOfC n N.length body)) vs H Q E) : t { nx := fun _ H' => Q .non H', rt := Q } (L2.start N vs) H := by
  obtain ⟨us, rfl, w, S, ds, rfl, st, r, h⟩ := h
  unfold fnOfC at h
  obtain ⟨hl, h2⟩ := h.ite
  subst hl
  have s0 := sim_start (W := ⟨W0 E, none⟩) (N := N) (ds := .non :: ds) (vs := .non :: us) st (.cons .non r)
  have s1 := s0.enter (a := C) (d := none) (e := exC) (i := 0) (.inr ⟨rfl, rfl⟩) (fun j z => by
    by_cases hj : j < (Da.non :: ds).length
    · rw [List.getElem?_append_left (by simpa using hj), List.getElem?_map, List.getElem?_eq_getElem hj] at z
      cases z
    · rw [List.getElem?_append_right (by simpa using hj), List.getElem?_replicate] at z
      split at z <;> cases z)
  refine hb w w S (some .exn :: (ds.map (fun d => some (.v d)) ++ List.replicate (N.length - (ds.length + 1)) none)) _ _ ?_ ?_
  · exact s1
  revert h2
  cases body (some .exn :: (ds.map (fun d => some (.v d)) ++ List.replicate (N.length - (ds.length + 1)) none)) S with
  | nx σ1 S1 => exact fun h2 w' σv' L s' => h2 w' _ s'.le s'.st .non
  | rt r S1 => exact fun h2 w' v L s' R => h2 w' v L s' R
  | bk σ1 S1 => exact fun h2 => h2.elim
  | ct σ1 S1 => exact fun h2 => h2.elim
  | ex e σ1 S1 => exact fun h2 w' σv' c dd L s' R => h2 w' c dd s'.le s'.st R
  | bad => exact fun h2 => h2
theorem fn_lenC {C : Addr} {n k : Nat} {body : FS} {vs : List V} {H : Hp} {Q : VK} {E : XK} (h : spCl C (spOf K (fnOfC n k body)) vs H Q E) : vs.length = n := by
  obtain ⟨us, rfl, w, S, ds, rfl, st, r, h⟩ := h
  unfold fnOfC at h
  obtain ⟨hl, h2⟩ := h.ite
  rw [List.length_cons, r.length, hl]
end
/-! ## o += p by the own __iadd__, o a name -/
def tOwnAug (i : Nat) (C : Addr) (sp : Sp) (E : L2.St → XK) (tb : TE) : TS := fun D σ H => ∃ x, σ[i]? = some (some x) ∧ tb σ H fun y H1 => ∃ a dx fs, x = .ref a ∧ H1 a = some (.ins C dx fs) ∧ sp [x, y] H1 (fun z H2 => D.nx (σ.set i (some z)) H2) (E σ)
section
variable {X : Cx} {n i : Nat} {ps : List Str} {sp : Sp} {W : WX} {C x : Str} {b : Expr} {tb : TE} {pos pos' : Pos} {op : Operator} {nm : Str}
theorem cmpBack_aug {pins : List (Addr × Obj)} {σ : L2.St} {Q : VK} {u : Value} {s : Shared} {R : Value → Shared → Prop} (h : EP X pins σ Q u s) (k : ∀ v H', Inv X pins σ H' s → RelV v u → Q v H' → R u s) : PySem.W.CmpBack R u s := by
  obtain ⟨v, H', I, rv, q⟩ := h
  have z := k v H' I rv q
  cases v with
  | non => cases rv; exact z
  | bl b => cases rv; exact z
  | int i => obtain ⟨t, rfl⟩ := rv; exact z
  | str i => obtain ⟨t, rfl⟩ := rv; exact z
  | byt i => obtain ⟨t, rfl⟩ := rv; exact z
  | flt i => obtain ⟨t, rfl⟩ := rv; exact z
  | ref a => cases rv; exact z
  | ty n => cases rv; exact z
theorem ps_ownAug (hs : PySem.W.selfFirst X.K (He.ga X.K C) = true) (hm : Meth X.K (He.ga X.K C) nm (He.ma X.K (He.ga X.K C) nm)) (F : FnX X.prog X.w X.K X.mg X.base (L2.CX X.prog X.w) n (C, some nm) ps sp) (hr : Room n X.A) (tk : Takes X W)
    (hN : X.N.Nodup) (hi : X.N[i]? = some x) (hx : Loc X.env.scope x) (hb : PE X b tb) (hf : X.fn x = true ∨ X.env.scope.names.lookup x = some .local := by first | exact .inl rfl | exact .inr rfl | assumption) (hn : dunderI op.info.2 = nm := by rfl) :
    PS X (.AugAssign (.Name x pos') op b pos) (tOwnAug i (He.ga X.K C) sp (WE W) tb) := by
  obtain ⟨⟨fd, F, bn⟩, kp⟩ := F
  refine ⟨fun pins s σ H D I ⟨v, e1, h⟩ => ?_⟩
  obtain ⟨m, hmem, hl⟩ := I.loc
  have vis : Vis X.env.scope x := hx.elim .inl fun k => .inr (.inl k)
  obtain ⟨u, r, l⟩ := hl i x v hi e1 vis
  have body : wpAny (model X.prog X.w) X.A (eval b X.env) (fun y s2 => wpAny (model X.prog X.w) X.A (inplaceOp op u y) (fun z s3 => wpAny (model X.prog X.w) X.A (storeName X.env x z) (fun _ => SP X pins D .next) X.xe s3) X.xe s2) X.xe s := by
    refine thn (hb.run pins s σ H _ I h) fun y s1 ⟨yv, H1, I1, r1, a, dx, fs, ea, ha, hsp⟩ => ?_
    subst ea
    cases r
    obtain ⟨mA, J, _⟩ := ins_get I1.hok ha
    obtain ⟨od, J, _⟩ := J.look
    obtain ⟨m1, hF⟩ := I1.fr
    refine PySem.W.ksp_inplace hF I1.ok.mod.kin J hs (by rw [hn]; exact hm.at_) hm.fn ?_
    refine thn (run_ownX (vs := [.ref a, yv]) F hr rfl bn tk I1 (.cons rfl (.cons r1 .nil)) hsp) fun z s2 hz => cmpBack_aug hz fun zv H2 I2 r2 q2 => ?_
    exact store_ok I2 hN hi hx r2 (fun s3 I3 => ⟨_, H2, I3, q2⟩) hf
  refine wpAny_AugAssign_Name ?_
  rcases l with ⟨hk, hm'⟩ | ⟨hk, c, hc, hcell⟩
  · exact wpAny_loadName_local I.ok.kind hk hmem hm' body
  · have free : X.env.scope.names.lookup x = some .free → False := fun z => by
      rcases hx with k | k <;> rw [k] at z <;> cases z
    exact hk.elim (fun hk => wpAny_loadName_cell I.ok.kind hk hc hcell body) fun hk => (free hk).elim
end
section
variable {K : PySem.W.Frag} {W : Cw}
def augV (i : Nat) (σ : Env) (r : Rv) (S : Sto) : So := match r with
  | .v z => .nx (σ.set i (some (.v z))) S
  | _ => .bad
def fOwnAug (C : Str) (f : Fn) (i : Nat) (fb : FE) : FS := fun σ S => match σ[i]? with
  | some (some (.v d)) => (fb σ S).so σ fun r2 S2 => match (Rv.v d).rd S2, toDs [.v d, r2] with
    | .obj C1 _ _, some ds => if C1 = C then (f ds S2).so σ (augV i σ) else .bad
    | _, _ => .bad
  | _ => .bad
theorem snd_ownAug {C : Str} {f : Fn} {i : Nat} {tb : TE} {fb : FE} (hb : SndE K W tb fb) : SndS K W (tOwnAug i (He.ga K C) (spOf K f) (WE W.W) tb) (fOwnAug C f i fb) := by
  intro wf w S σd σv D s h
  unfold fOwnAug at h
  split at h
  · rename_i d e0
    obtain ⟨v0, ev0, R0⟩ := s.sl i (.v d) e0
    refine ⟨v0, ev0, hb.runS (Lf.refl w) s h fun r2 S2 w2 v2 L2 st2 R2 h2 => ?_⟩
    revert h2
    split
    · rename_i C1 ns1 ds1 ds e1 e3
      intro h2
      by_cases hC : C1 = C
      · rw [if_pos hC] at h2
        subst hC
        have R0' : Rep K w2 d v0 := Rep.le L2 R0
        obtain ⟨a, dx, fs, rfl, g1, _⟩ := objOf (wf := wf) (w0 := w) (r := .v d) st2 R0' e1
        refine ⟨a, dx, fs, rfl, g1, w.frz w2, S2, ds, rfl, st2.frz, RepRs.frz (rs := [.v d, r2]) (xs := [.ref a, v2]) ⟨R0', R2, True.intro⟩ e3, ?_⟩
        revert h2
        cases f ds S2 with
        | ok r S3 =>
          intro h2 w' v L' st R
          cases r with
          | v z => exact (show PostS K W wf w D (.nx (σd.set i (some (.v z))) S3) from h2) w' _ (L2.frz.trans L').lf ((s.step (L2.frz.trans L') st).setV R)
          | fr z => exact (show False from h2).elim
          | bo z => exact (show False from h2).elim
        | ex e S3 => exact fun h2 w' c dd L' st R => h2 w' σv c dd (L2.frz.trans L').lf (s.step (L2.frz.trans L') st) R
        | bad => exact fun h2 => h2
      · rw [if_neg hC] at h2; exact h2.elim
    · intro h2; exact h2.elim
  · exact h.elim
end
end Cl

/-! ## AugI -/
namespace Cl
open PySem PySem.Spec PyProof.Rows L2
/-! ## x += e, x -= e, x *= e of a name that holds an int -/
def ipM : TIp := fun x y H Q => ∃ i j, x = .int i ∧ y = .int j ∧ CMulW i j ∧ Q (.int (i * j)) H
theorem ip_mulW {X : Cx} : PIp X .Mult ipM := by
  intro pins s σ H x y v u Q I r1 r2 h
  obtain ⟨i, j, e1, e2, hc, q⟩ := h
  subst e1; subst e2
  obtain ⟨t, rfl⟩ := r1
  obtain ⟨t', rfl⟩ := r2
  exact imul_int ⟨.int _, H, I.tok _, ⟨_, rfl⟩, q⟩ hc.ok
section
variable {K : PySem.W.Frag} {W : Cw}
def augI (C : Int → Int → Bool) (f : Int → Int → Int) (i : Nat) (σ : Env) (a : Int) (r : Rv) (S : Sto) : So := match r with
  | .v (.int b) => if C a b = true then .nx (σ.set i (some (.v (.int (f a b))))) S else .bad
  | _ => .bad
def fAugI (C : Int → Int → Bool) (f : Int → Int → Int) (i : Nat) (fb : FE) : FS := fun σ S => match σ[i]? with
  | some (some (.v (.int a))) => (fb σ S).so σ fun r2 S2 => augI C f i σ a r2 S2
  | _ => .bad
def cAny (_ _ : Int) : Bool := true
abbrev fAugA : Nat → FE → FS := fAugI cAny fun a b => a + b
abbrev fAugS : Nat → FE → FS := fAugI cAny fun a b => a - b
abbrev fAugM : Nat → FE → FS := fAugI cMulW fun a b => a * b
theorem snd_augI {C : Int → Int → Bool} {f : Int → Int → Int} {ip : TIp} {i : Nat} {tb : TE} {fb : FE} (hip : ∀ a b H Q, C a b = true → Q (.int (f a b)) H → ip (.int a) (.int b) H Q) (hb : SndE K W tb fb) : SndS K W (tAug i tb ip) (fAugI C f i fb) := by
  intro wf w S σd σv D s h
  unfold fAugI at h
  split at h
  · rename_i a e0
    obtain ⟨v0, ev0, R0⟩ := s.sl i (.v (.int a)) e0
    cases R0
    refine ⟨_, ev0, hb.runS (Lf.refl w) s h fun r2 S2 w2 v2 L2 st2 R2 h2 => ?_⟩
    unfold augI at h2
    split at h2
    · rename_i b
      cases R2
      by_cases e : C a b = true
      · rw [if_pos e] at h2
        exact hip _ _ _ _ e (h2 w2 _ L2.lf ((s.step L2 st2).setV (.int _)))
      · rw [if_neg e] at h2; exact h2.elim
    · exact h2.elim
  · exact h.elim
theorem snd_augA {i : Nat} {tb : TE} {fb : FE} (hb : SndE K W tb fb) : SndS K W (tAug i tb (ipI fun a b => a + b)) (fAugA i fb) := snd_augI (fun _ _ _ _ _ q => ⟨_, _, rfl, rfl, q⟩) hb
theorem snd_augS {i : Nat} {tb : TE} {fb : FE} (hb : SndE K W tb fb) : SndS K W (tAug i tb (ipI fun a b => a - b)) (fAugS i fb) := snd_augI (fun _ _ _ _ _ q => ⟨_, _, rfl, rfl, q⟩) hb
theorem snd_augM {i : Nat} {tb : TE} {fb : FE} (hb : SndE K W tb fb) : SndS K W (tAug i tb ipM) (fAugM i fb) := snd_augI (fun a b _ _ e q => ⟨_, _, rfl, rfl, (by unfold cMulW at e; have h2 : a.natAbs.log2 + b.natAbs.log2 < 1000000 := of_decide_eq_true e; exact h2), q⟩) hb
/-! ## tuple(range(n)) -/
def fTupRg (fe : FE) : FE := fun σ S => (fe σ S).bd fun r S1 => match r with
  | .v (.int n) => if 0 ≤ n ∧ n ≤ 1000000 then .ok (.v (.tup (rgD n))) S1 else .bad
  | _ => .bad
theorem snd_tupRg {te : TE} {fe : FE} (he : SndE K W te fe) : SndE K W (tTupRg (tRg1 te)) (fTupRg fe) := by
  intro wf w S σd σv Q s h
  refine he.run (Le.refl w) s h fun r S1 w1 v L1 st1 R1 h1 => ?_
  revert h1
  split
  · rename_i n
    intro h1
    obtain ⟨hz, h2⟩ := h1.ite
    cases R1
    refine ⟨n, rfl, RgOk.of_le (by decide) (by omega) (by decide) hz.1, fun p hp => ?_⟩
    have e : rgV 0 n = (List.range n.toNat).map fun i => V.int (i : Nat) := by unfold rgV; simp
    rw [e]
    exact h2 (w1.new p _ False) _ (L1.trans (le_new hp)) (st1.new hp) (rep_newT st1 hp (reps_rg _))
  · intro h1; exact h1.elim
end
end Cl

/-! ## GeL -/
namespace Cl
open PySem PySem.Spec PyProof.Rows L2
/-! ## >= of lists of ints; min(list) -/
def geI (ns ms : List Int) : Bool := SeqAt.firstLt (fun j => decide (ns.getD j 0 = ms.getD j 0)) (fun j => decide (ms.getD j 0 ≤ ns.getD j 0)) (decide (ns.length ≥ ms.length)) (List.range (min ns.length ms.length))
def rGeL (K : PySem.W.Frag) : R2 := fun x y H Q => ∃ (a b : Addr) (ns ms : List Int), x = .ref a ∧ y = .ref b ∧ SqL K H a (ns.map V.int) ∧ SqL K H b (ms.map V.int) ∧ Q (.bl (geI ns ms)) H
theorem op_geL {X : Cx} (hu : X.A.units < cLine) : OpR X (compareOp .GtE) (rGeL X.K) := by
  intro pins s σ H x y v u Q I rx ry h
  obtain ⟨a, b, ns, ms, rfl, rfl, ha, hb, q⟩ := h
  cases rx
  cases ry
  obtain ⟨its, r1, p1, _⟩ := I.list ha
  obtain ⟨its2, r2, p2, _⟩ := I.list hb
  have i1 : IntsAre its ns := Vals.ints r1
  have i2 : IntsAre its2 ms := Vals.ints r2
  have e1 : its.toArray.size = ns.length := by rw [List.size_toArray]; exact i1.length
  have e2 : its2.toArray.size = ms.length := by rw [List.size_toArray]; exact i2.length
  have at1 : ∀ j (h1 : j < its.toArray.size), ∃ t, its.toArray[j] = .int (ns.getD j 0) t := fun j h1 => PyProof.Rows.IntsAre.int_at i1 _ _ (by simp at h1; simp [h1])
  have at2 : ∀ j (h1 : j < its2.toArray.size), ∃ t, its2.toArray[j] = .int (ms.getD j 0) t := fun j h1 => PyProof.Rows.IntsAre.int_at i2 _ _ (by simp at h1; simp [h1])
  have R := SeqAt.RcOp.lists_ge (A := X.A) (s := s) (e := fun j => decide (ns.getD j 0 = ms.getD j 0)) (r := fun j => decide (ms.getD j 0 ≤ ns.getD j 0)) p1.isList p2.isList hu (fun j h1 h2 => by
    obtain ⟨t, et⟩ := at1 j h1
    obtain ⟨t', et'⟩ := at2 j h2
    rw [et, et']
    have z : (ns.getD j 0 == ms.getD j 0) = decide (ns.getD j 0 = ms.getD j 0) := by
      by_cases q : ns.getD j 0 = ms.getD j 0
      · rw [decide_eq_true q]; exact beq_iff_eq.mpr q
      · rw [decide_eq_false q]; exact beq_eq_false_iff_ne.mpr q
    rw [← z]
    exact SeqAt.EqAt.int_int _ _ _ _) (fun j h1 h2 _ => by
    obtain ⟨t, et⟩ := at1 j h1
    obtain ⟨t', et'⟩ := at2 j h2
    rw [et, et']
    exact fun _ _ _ _ h => PyProof.Rows.ge_int h)
  rw [e1, e2] at R
  have z : wpAny (model X.prog X.w) X.A (compareOp .GtE (.ref a) (.ref b)) (EP X pins σ Q) X.xe s := R X.prog X.w X.xe (EP X pins σ Q) ⟨.bl _, H, I, rfl, q⟩
  exact z
section
variable {K : PySem.W.Frag} {W : Cw}
def xGeL : FO2 := fun r1 r2 S => match r1.rd S, r2.rd S with
  | .lst ds, .lst es => match intsD ds, intsD es with
    | some ns, some ms => .ok (.v (.bl (geI ns ms))) S
    | _, _ => .bad
  | _, _ => .bad
theorem sGeL : OpS K W (rGeL K) xGeL := by
  intro wf w w2 S σd σv r1 r2 v1 v2 Q s L R1 R2 h
  unfold xGeL at h
  split at h
  · rename_i ds es e1 e2
    split at h
    · rename_i ns ms q1 q2
      obtain ⟨a, us, rfl, g1, g2⟩ := lstOf s.st R1 e1
      obtain ⟨b, vs, rfl, g3, g4⟩ := lstOf s.st R2 e2
      have := intsD_of g2 q1
      subst this
      have := intsD_of g4 q2
      subst this
      exact ⟨a, b, ns, ms, rfl, rfl, SqL.of g1, SqL.of g3, h w2 _ L s.st (.bl _)⟩
    · exact h.elim
  · exact h.elim
def bMinL : FB
  | [r], S => match r.rd S with
    | .lst ds => match intsD ds with
      | some bs => if 0 < bs.length then .ok (.v (.int (mnI bs))) S else .bad
      | none => .bad
    | _ => .bad
  | _, _ => .bad
theorem sMinL : CbS K W (rMin K) bMinL := by
  intro wf w w2 S σd σv rs vs Q s L R h
  unfold bMinL at h
  split at h
  · obtain ⟨v, rfl, R1⟩ := R.one
    split at h
    · rename_i ds e
      split at h
      · rename_i bs e2
        obtain ⟨a, us, rfl, g1, g2⟩ := lstOf s.st R1 e
        have := intsD_of g2 e2
        subst this
        obtain ⟨hc, h2⟩ := h.ite
        have hne : bs ≠ [] := fun q => by rw [q] at hc; exact absurd hc (by decide)
        obtain ⟨m1, m2⟩ := mn_mem hne
        refine ⟨a, bs, rfl, SqL.of g1, hc, fun m h3 h4 => ?_⟩
        have : m = mnI bs := Int.le_antisymm (h4 _ m1) (m2 m h3)
        subst this
        exact h2 w2 _ L s.st (.int _)
      · exact h.elim
    · exact h.elim
  · exact h.elim
end
end Cl

/-! ## ClsC -/
namespace Cl
open PySem PySem.Spec PyProof.Rows L2
/-! ## constants of a class (tuples of texts); staticmethods without arguments, of the class or of a slot that holds it; new objects inside comprehensions -/
structure CVok (K : PySem.W.Frag) (C f : Str) (zs : List Str) (a : Addr) : Prop where
  rd : ClX.CRead K (He.ga K C) (.type "type")
  cv : ClX.CVal K (He.ga K C) (.type "type") f (.ref a) (.ref a)
  tp : ∃ (o : Obj) (its : Array Value) (n : Nat), K.lookup a = some o ∧ o.cls = .type "tuple" ∧ o.dict = none ∧ o.data = .seq its n ∧ its.size ≤ sizeLine ∧ Vals (zs.map V.str) its.toList
theorem cvs_ok {K : PySem.W.Frag} {C f : Str} {zs : List Str} (h : CVb K C f zs = true) : ∃ a, CVok K C f zs a := by
  unfold CVb at h
  obtain ⟨h1, h⟩ := Bool.and_eq_true_iff.mp h
  obtain ⟨h2, h⟩ := Bool.and_eq_true_iff.mp h
  split at h
  · rename_i a e
    refine ⟨a, ⟨h1, He.eqO_ok h2⟩, ⟨e, rfl⟩, ?_⟩
    unfold ATb at h
    split at h
    · rename_i o e
      obtain ⟨a1, q⟩ := Bool.and_eq_true_iff.mp h
      obtain ⟨a2, q⟩ := Bool.and_eq_true_iff.mp q
      split at q
      · rename_i its n e2
        obtain ⟨a3, a4⟩ := Bool.and_eq_true_iff.mp q
        exact ⟨o, its, n, e, of_decide_eq_true a1, by simpa using a2, e2, of_decide_eq_true a3, vals_str (of_decide_eq_true a4)⟩
      · cases q
    · cases h
  · cases h
def tCV (K : PySem.W.Frag) (C f : Str) (zs : List Str) : TE := ClX.tCVal K (tC (.ref (He.ga K C))) f
section
variable {X : Cx} {k i : Nat} {ps : List Str} {sp : Sp} {W : WX} {x m f : Str} {e : Hz.ExD} {p pos apos : Pos} {pl : Sem Bool}
theorem pgCV (zs : List Str) (hg : Gl X x) (hm : X.mg x = some (.ref (He.ga X.K x))) (hd : (x == ("__debug__" : Str)) = false := by decide) (hb : attributeBase (.Name x p) f X.env (eval (.Name x p) X.env) = eval (.Name x p) X.env := by rfl) : PE X (.Attribute (.Name x p) f pos) (tCV X.K x f zs) :=
  ClX.pe_cval (pgc (pos := p) hg hm hd) hb
theorem sm0_core {C : Str} (hx : e.x = C) (hn : e.m = m) (hw : e.wr = some .st) (wb : Hz.wrB X.K e .st = true) (F : FnW X.prog X.w X.K X.mg X.base (L2.CX X.prog X.w) k e ps sp) (hr : Room k X.A) (tk : Takes X W) {o : Expr} (ta : TE) (he : PE X o ta)
    (ht : eval (.Call (.Attribute o m apos) [] [] pos) X.env = (do let ov ← eval o X.env; standAt apos.atName; let (f, q) ← holding [ov] (getMethod ov m pl); callWith pos f q (backTo pos (starEach [] X.env)) (backToKw pos (keywordEach [] X.env)))) :
    PE X (.Call (.Attribute o m apos) [] [] pos) (fun σ H Q => ta σ H fun v H1 => v = .ref (He.ga X.K C) ∧ sp [] H1 Q (WE W σ)) := by
  obtain ⟨⟨fd, F, b⟩, kp⟩ := F
  obtain ⟨ex, ens, eq_, est, em, ew⟩ := e
  dsimp only at hx hn hw
  subst hx hn hw
  obtain ⟨w1, w2⟩ := He.ba wb
  obtain ⟨w2, w3⟩ := He.ba w2
  obtain ⟨f1, rest, f2⟩ := He5.wrapB_ok w1
  refine ⟨fun pins s σ H Q I h => ?_⟩
  refine PySem.W.methodCall_KW (pl := pl) (thn (he.run pins s σ H _ I h) fun u s1 ⟨v, H1, I1, rx, ev, q⟩ => ?_) ht
  subst ev
  obtain rfl : u = Value.ref (He.ga X.K ex) := rx
  refine PySem.W.method_cls I1.kIn (He.eqO_ok w3) (PySem.W.cls_bind I1.kIn w2 f1 ?_)
  refine wpAny_call (PySem.W.sm_get (s := { s1 with toks := s1.toks + 1 }) I1.kIn f2 (PySem.W.handed_on rfl ?_))
  have I2 := I1.tok (s1.toks + 1)
  exact PySem.W.callWith_K0 I2.kIn kp (run_fnS (us := []) (E := WE W) F hr b (passAt tk σ) I2 .nil q)
theorem pe_smeth0 (hx : e.x = x) (hn : e.m = m) (hw : e.wr = some .st) (wb : Hz.wrB X.K e .st = true) (F : FnW X.prog X.w X.K X.mg X.base (L2.CX X.prog X.w) k e ps sp) (hr : Room k X.A) (hg : Gl X x) (hm : X.mg x = some (.ref (He.ga X.K x))) (tk : Takes X W)
    (hd : (x == ("__debug__" : Str)) = false := by decide)
    (ht : eval (.Call (.Attribute (.Name x p) m apos) [] [] pos) X.env = (do let ov ← eval (.Name x p) X.env; standAt apos.atName; let (f, q) ← holding [ov] (getMethod ov m pl); callWith pos f q (backTo pos (starEach [] X.env)) (backToKw pos (keywordEach [] X.env))) := by rfl) :
    PE X (.Call (.Attribute (.Name x p) m apos) [] [] pos) (tCallS sp (WE W) tNil) := by
  refine ⟨fun pins s σ H Q I h => ?_⟩
  exact (sm0_core hx hn hw wb F hr tk (tC (.ref (He.ga X.K x))) (pgc (pos := p) hg hm hd) ht).run pins s σ H Q I ⟨rfl, h⟩
def tCallV0 (i : Nat) (C : Addr) (sp : Sp) (E : L2.St → XK) : TE := fun σ H Q => σ[i]? = some (some (.ref C)) ∧ tCallS sp E tNil σ H Q
theorem pe_smethV0 {C : Str} (hx : e.x = C) (hn : e.m = m) (hw : e.wr = some .st) (wb : Hz.wrB X.K e .st = true) (F : FnW X.prog X.w X.K X.mg X.base (L2.CX X.prog X.w) k e ps sp) (hr : Room k X.A) (hN : X.N[i]? = some x) (hv : Vis X.env.scope x) (tk : Takes X W)
    (hd : (x == ("__debug__" : Str)) = false := by decide) (hcd : (x == ("__classdict__" : Str)) = false := by decide)
    (ht : eval (.Call (.Attribute (.Name x p) m apos) [] [] pos) X.env = (do let ov ← eval (.Name x p) X.env; standAt apos.atName; let (f, q) ← holding [ov] (getMethod ov m pl); callWith pos f q (backTo pos (starEach [] X.env)) (backToKw pos (keywordEach [] X.env))) := by rfl) :
    PE X (.Call (.Attribute (.Name x p) m apos) [] [] pos) (tCallV0 i (He.ga X.K C) sp (WE W)) := by
  refine ⟨fun pins s σ H Q I h => ?_⟩
  exact (sm0_core hx hn hw wb F hr tk (tVar i) (pe_var (pos := p) (i := i) hN hv hd hcd) ht).run pins s σ H Q I ⟨.ref (He.ga X.K C), h.1, rfl, h.2⟩
end
section
variable {K : PySem.W.Frag} {W : Cw}
theorem snd_cv {C f : Str} {zs : List Str} (h : CVb K C f zs = true) : SndE K W (tCV K C f zs) (fGT zs) := by
  obtain ⟨a, r, c, o, its, n, h1, h2, h3, h4, h5, h6⟩ := cvs_ok h
  intro wf w S σd σv Q s h
  exact ⟨He.ga K C, .type "type", .ref a, .ref a, rfl, r, c, h w _ (Le.refl w) s.st (.tup (.inr ⟨o, its, n, h1, h2, h4, h5, h6⟩) (reps_strs zs))⟩
def fCallV0 (i : Nat) (f : Fn) : FE := fun σ S => match σ[i]? with
  | some (some .exn) => fCallS f fNil σ S
  | _ => .bad
theorem snd_callV0 {i : Nat} {C : Str} {f : Fn} {d : Option Addr} {e : Exn} (hW : W.ex = some (He.ga K C, d, e)) : SndE K W (tCallV0 i (He.ga K C) (spOf K f) (WE W.W)) (fCallV0 i f) := by
  intro wf w S σd σv Q s h
  unfold fCallV0 at h
  split at h
  · rename_i e1
    obtain ⟨_, hs⟩ := s.cx _ _ _ hW
    exact ⟨hs i e1, snd_callS snd_nil wf w S σd σv Q s h⟩
  · exact h.elim
/-- a new object whose making may raise, where nothing may -/
theorem snd_makeN {C : Str} {f : FIn} {ta : TA} {fa : FA} (ha : SndA K W ta fa) : SndE K W (tMakeX (He.ga K C) (spIn K C f) (WE WF) ta) (fMake f fa) := by
  intro wf w S σd σv Q s h
  refine ha.run (Le.refl w) s h fun rs S1 w1 vs L1 st1 R1 h1 => ?_
  obtain ⟨ds, e, h2⟩ := onDs_of h1
  intro x dx hx hdx hne
  refine ⟨w.frz w1, S1, ds, x, dx, vs, rfl, rfl, hx, hdx, hne, st1.frz, R1.frz e, ?_⟩
  revert h2
  cases f ds S1 with
  | ok d S2 =>
    intro h2 w' L st ⟨a, e1, n, c⟩
    exact ⟨rfl, h2 w' _ (L1.frz.trans L) st ⟨a, e1, L1.none st1 n, c⟩⟩
  | ex e S2 => exact fun h2 => h2.elim
  | bad => exact fun h2 => h2
end
end Cl

/-! ## EqTO -/
namespace Cl
/-! ## == of two tuples whose items compare by calls -/
section
open PySem PySem.SeqAt
open AutoSeq1 (wpAny_loadPart')
open MeetsSeq MeetsSeq2 MeetsSeq3 SeqRoads2
theorem tuple_eq_run (prog : Program) (w : World) (A : Around) (R : Result → Shared → Prop) (l b : Addr) (items items2 : Array Value) (n n2 : Nat) (dd dd2 : Option Addr) (sl sl2 : Array (Option Value)) (J : Nat → Shared → Prop) (B : Shared → Prop)
    (step : ∀ (i : Nat) (h1 : i < items.size) (h2 : i < items2.size) (s : Shared), J i s → ∀ (Q : Bool → Shared → Prop), (∀ s', J (i + 1) s' → Q true s') → (∀ s', B s' → Q false s') → wpAny (model prog w) A.in1 (eqBool items[i] items2[i]) Q (fun e s' => R (.error e) s') s)
    (fin : ∀ s, J (min items.size items2.size) s → R (.ok (.ret (.bool (items.size == items2.size)))) s) (bad : ∀ s, B s → R (.ok (.ret (.bool false))) s) (s : Shared)
    (hl : s.heap.get? l = some { cls := .type "tuple", dict := dd, data := .seq items n, slots := sl }) (hb : s.heap.get? b = some { cls := .type "tuple", dict := dd2, data := .seq items2 n2, slots := sl2 }) (h : J 0 s) :
    wpAny (model prog w) A.in1 (Builtin.«tuple.__eq__» ⟨[.ref l, .ref b], []⟩) (fun fin s' => ∃ v, fin = .done (.ret v) ∧ R (.ok (.ret v)) s') (fun e s' => R (.error e) s') s := by
  obtain ⟨hp, g, d, tk, os⟩ := s
  have f2 := AutoSeq1.sub_tuple_tuple
  have hZ : (items.toList.zip items2.toList).length = min items.size items2.size := by simp
  wp_walk using wpAny_loadPart' hl, wpAny_loadPart' hb, wpAny_forIn_list _ (fun rest b s' => b.1 = none ∧ ∃ i, rest = (items.toList.zip items2.toList).drop i ∧ i ≤ min items.size items2.size ∧ J i s') _
  case turn =>
    rintro ⟨y, x⟩ rest b s' ⟨hb', i, hz, him, hJ⟩
    have hlt : i < (items.toList.zip items2.toList).length := by
      rcases Nat.lt_or_ge i (items.toList.zip items2.toList).length with h' | h'
      · exact h'
      · rw [List.drop_of_length_le h'] at hz; cases hz
    have hm : i < min items.size items2.size := hZ ▸ hlt
    have h1 : i < items.size := Nat.lt_of_lt_of_le hm (Nat.min_le_left _ _)
    have h2 : i < items2.size := Nat.lt_of_lt_of_le hm (Nat.min_le_right _ _)
    rw [List.drop_eq_getElem_cons hlt] at hz
    injection hz with hyx hrest
    have hy : y = items[i] := by have := congrArg Prod.fst hyx; simpa using this
    have hx : x = items2[i] := by have := congrArg Prod.snd hyx; simpa using this
    subst hy hx
    refine wpAny_bind (step i h1 h2 s' hJ _ (fun s2 hJ2 => ?_) (fun s2 hB => ?_))
    · wp_walk
      exact ⟨rfl, i + 1, hrest, hm, hJ2⟩
    · wp_walk
      exact ⟨_, rfl, bad _ hB⟩
  case fin =>
    rintro ⟨b1, b2⟩ s' ⟨hb', i, hz, him, hJ⟩
    simp only at hb'
    subst hb'
    have hge : min items.size items2.size ≤ i := by
      rcases Nat.lt_or_ge i (items.toList.zip items2.toList).length with h' | h'
      · rw [List.drop_eq_getElem_cons h'] at hz; cases hz
      · exact hZ ▸ h'
    have hi : i = min items.size items2.size := Nat.le_antisymm him hge
    subst hi
    wp_walk
    exact ⟨_, rfl, by simpa [Builtin.Tuple.tupleCompareSizes] using fin _ hJ⟩
  case h =>
    exact ⟨rfl, 0, rfl, Nat.zero_le _, h⟩
end

open PySem PySem.Spec PyProof.Rows L2
def tEqs (C : Addr) (sp : Sp) : List V → List V → (Bool → Hp → Prop) → Hp → Prop
  | x :: xs, y :: ys, Q, H => ∃ a b dx dy fs gs, x = .ref a ∧ y = .ref b ∧ H a = some (.ins C dx fs) ∧ H b = some (.ins C dy gs) ∧ (a = b → tEqs C sp xs ys Q H) ∧ (a ≠ b → sp [x, y] H (fun v H' => ∃ k, v = .bl k ∧ (k = true → tEqs C sp xs ys Q H') ∧ (k = false → Q false H')) E0)
  | [], [], Q, H => Q true H
  | [], _ :: _, Q, H => Q false H
  | _ :: _, [], Q, H => Q false H
def rEqTO (K : PySem.W.Frag) (C : Addr) (sp : Sp) : R2 := fun x y H Q => ∃ a b xs ys, x = .ref a ∧ y = .ref b ∧ SqT K H a xs ∧ SqT K H b ys ∧ tEqs C sp xs ys (fun k H' => Q (.bl k) H') H
section
variable {X : Cx} {n : Nat} {ps : List Str} {sp : Sp} {C : Str}
theorem op_eqTO (hm : Meth X.K (He.ga X.K C) "__eq__" (He.ma X.K (He.ga X.K C) "__eq__")) (F : FnX X.prog X.w X.K X.mg X.base CX0 n (C, some "__eq__") ps sp) (hr : Room (n + 1) X.A) : OpR X (compareOp .Eq) (rEqTO X.K (He.ga X.K C) sp) := by
  obtain ⟨⟨fd, F, hb⟩, kp⟩ := F
  intro pins s σ H x y u v Q I rx ry h
  obtain ⟨a, b, xs, ys, rfl, rfl, hx, hy, ht⟩ := h
  cases rx
  cases ry
  obtain ⟨its, r1, ht1, hz1⟩ := I.tuple hx
  obtain ⟨its2, r2, ht2, hz2⟩ := I.tuple hy
  obtain ⟨⟨cls, dd, data, sl⟩, ho, hc, m, hd⟩ := id ht1
  obtain ⟨⟨cls2, dd2, data2, sl2⟩, ho2, hc2, m2, hd2⟩ := id ht2
  simp only at hc hd hc2 hd2
  subst hc hd hc2 hd2
  show wpAny (model X.prog X.w) X.A (richCompare .Eq (.ref a) (.ref b)) (EP X pins σ Q) X.xe s
  have l1 : its.toArray.size = xs.length := by rw [List.size_toArray]; exact r1.length.symm
  have l2 : its2.toArray.size = ys.length := by rw [List.size_toArray]; exact r2.length.symm
  have hfin := tuple_eq_run X.prog X.w X.A (wants (fun v s' => v ≠ .notImplemented ∧ EP X pins σ Q v s') X.xe) a b its.toArray its2.toArray m m2 dd dd2 sl sl2
    (fun i s' => ∃ H', Inv X pins σ H' s' ∧ tEqs (He.ga X.K C) sp (xs.drop i) (ys.drop i) (fun k H' => Q (.bl k) H') H') (fun s' => ∃ H', Inv X pins σ H' s' ∧ Q (.bl false) H')
    (by
      rintro i h1 h2 s1 ⟨H1, I1, hq⟩ Q1 hT hF
      have g1 : i < xs.length := by omega
      have g2 : i < ys.length := by omega
      rw [List.drop_eq_getElem_cons g1, List.drop_eq_getElem_cons g2] at hq
      obtain ⟨a', b', dx, dy, fs, gs, ea, eb, ha, hb', hs, hd⟩ := hq
      obtain ⟨u1, eu1, ra⟩ := r1.get (List.getElem?_eq_getElem g1)
      obtain ⟨u2, eu2, rb⟩ := r2.get (List.getElem?_eq_getElem g2)
      have k1 : its.toArray[i] = u1 := by
        obtain ⟨_, e⟩ := List.getElem?_eq_some_iff.mp eu1
        simpa using e
      have k2 : its2.toArray[i] = u2 := by
        obtain ⟨_, e⟩ := List.getElem?_eq_some_iff.mp eu2
        simpa using e
      rw [ea] at ra
      rw [eb] at rb
      have ra' : its.toArray[i] = .ref a' := k1.trans ra
      have rb' : its2.toArray[i] = .ref b' := k2.trans rb
      rw [ra', rb']
      by_cases hab : a' = b'
      · subst hab
        exact PySem.SeqAt.EqAt.same (A := X.A.in1) (s := s1) (.ref a') X.prog X.w _ Q1 (hT _ ⟨H1, I1, hs rfl⟩)
      · unfold eqBool
        refine wpAny_holding ?_
        refine wpAny_ite_split (fun z => absurd (by have := eq_of_beq z; injection this) hab) (fun _ => ?_)
        refine wpAny_bind ?_
        obtain ⟨mA, J, _⟩ := ins_get I1.hok ha
        obtain ⟨mB, J', _⟩ := ins_get I1.hok hb'
        obtain ⟨od, J, _⟩ := J.look
        obtain ⟨od', J', _⟩ := J'.look
        obtain ⟨fm, hF'⟩ := I1.fr
        refine PySem.W.cmp_K (op := .Eq) (tb := .ref (He.ga X.K C)) hr.in1.units0 hF' I1.ok.mod.kin J J'.type (by simp [PySem.W.notFirst]) hm.at_ hm.fn ?_
        have hcall := run_own (A := X.A.in1) (vs := [.ref a', .ref b']) F hr.in1 rfl hb I1 (.cons rfl (.cons rfl .nil)) (by
          have := hd hab
          rw [ea, eb] at this
          exact this)
        refine wpAny_mono hcall (fun z s' hz => ?_) (fun _ _ z => ?_)
        · obtain ⟨v, H', I', rv, k, rfl, q1, q2⟩ := hz
          cases rv
          cases k with
          | true => exact PySem.wpAny_truthy_bool (hT _ ⟨H', I', q1 rfl⟩)
          | false => exact PySem.wpAny_truthy_bool (hF _ ⟨H', I', q2 rfl⟩)
        · exact z)
    (by
      rintro s1 ⟨H1, I1, hq⟩
      refine ⟨(fun x => nomatch x), .bl (its.toArray.size == its2.toArray.size), H1, I1, rfl, ?_⟩
      rw [l1, l2] at hq ⊢
      by_cases hl : xs.length ≤ ys.length
      · rw [Nat.min_eq_left hl, List.drop_length] at hq
        by_cases he : xs.length = ys.length
        · rw [he, List.drop_length] at hq
          rw [he, beq_self_eq_true]
          exact hq
        · cases hd : ys.drop xs.length with
          | nil => exact absurd (List.drop_eq_nil_iff.mp hd) (by omega)
          | cons y r =>
            rw [hd] at hq
            rw [beq_eq_false_iff_ne.mpr he]
            exact hq
      · rw [Nat.min_eq_right (by omega), List.drop_length] at hq
        cases hd : xs.drop ys.length with
        | nil => exact absurd (List.drop_eq_nil_iff.mp hd) (by omega)
        | cons y r =>
          rw [hd] at hq
          rw [beq_eq_false_iff_ne.mpr (by omega : ¬ xs.length = ys.length)]
          exact hq)
    (by
      rintro s1 ⟨H1, I1, hq⟩
      exact ⟨(fun x => nomatch x), .bl false, H1, I1, rfl, hq⟩)
    s ho ho2 ⟨H, I, by simpa using ht⟩
  refine wpAny_richCompare_same_room (op := .Eq) ⟨_, ho, rfl⟩ ⟨_, ho2, rfl⟩ PySem.F.slot_tuple_eq (wpAny_call (codeAny_call_builtin PySem.F.slot_tuple_eq.plain PySem.F.entry_tuple_eq (PySem.F.slot_tuple_eq.check _ _ _ _ _ _ _ _ ⟨_, ho, rfl⟩ (PySem.F.args_tuple_eq_2 _ _) ?_))) hr.units0
  exact wpAny_mono hfin (fun fin s' h' => by obtain ⟨v, rfl, hv⟩ := h'; exact hv) fun _ _ x => x
end

/-! ## the reading by values -/
def Da.apart : Da → Da → Bool
  | .obj _ _ ds, .obj _ _ es => (ds.zip es).any fun p => match p.1.sv, p.2.sv with
    | some x, some y => !decide (x = y)
    | _, _ => false
  | _, _ => false
def Da.isO (C : Str) : Da → Bool
  | .obj C1 _ _ => decide (C1 = C)
  | _ => false
open Classical in
noncomputable def eqsF (C : Str) (f : Fn) : List Da → List Da → Sto → Option Bool
  | d :: ds, e :: es, S => if d.isO C = true ∧ e.isO C = true then
      (if f [d, e] S = .ok (.v (.bl true)) S then eqsF C f ds es S else if f [d, e] S = .ok (.v (.bl false)) S ∧ d.apart e = true then some false else none) else none
  | [], [], _ => some true
  | [], _ :: _, _ => some false
  | _ :: _, [], _ => some false
noncomputable def fEqTO (C : Str) (f : Fn) (fa fb : FE) : FE := fun σ S => (fa σ S).bd fun r1 S1 => (fb σ S1).bd fun r2 S2 => match r1.rd S2, r2.rd S2 with
  | .tup ds, .tup es => match eqsF C f ds es S2 with
    | some b => .ok (.v (.bl b)) S2
    | none => .bad
  | _, _ => .bad
theorem e_fEqTO (C : Str) (f : Fn) (fa fb : FE) (σ : Env) (S : Sto) : fEqTO C f fa fb σ S = ((fa σ S).bd fun r1 S1 => (fb σ S1).bd fun r2 S2 => match r1.rd S2, r2.rd S2 with
  | .tup ds, .tup es => match eqsF C f ds es S2 with
    | some b => .ok (.v (.bl b)) S2
    | none => .bad
  | _, _ => .bad) := id rfl
section
variable {K : PySem.W.Frag} {W : Cw}
theorem reps_apart {w : Wd} : ∀ {ds es : List Da} {vs : List V}, Reps K w ds vs → Reps K w es vs → ((ds.zip es).any fun p => match p.1.sv, p.2.sv with
    | some x, some y => !decide (x = y)
    | _, _ => false) = true → False
  | _, _, _, .nil, .nil, h => by simp at h
  | _, _, _, .cons (d := d) h1 r1, .cons (d := e) h2 r2, h => by
    rw [List.zip_cons_cons, List.any_cons, Bool.or_eq_true] at h
    rcases h with h | h
    · cases e1 : d.sv with
      | none => rw [e1] at h; simp at h
      | some x =>
        cases e2 : e.sv with
        | none => rw [e1, e2] at h; simp at h
        | some y =>
          rw [e1, e2] at h
          have x1 := rep_sv h1 e1
          have x2 := rep_sv h2 e2
          rw [← x1, ← x2] at h
          simp at h
    · exact reps_apart r1 r2 h
theorem apart_ne {w : Wd} {d e : Da} {a : Addr} (h : d.apart e = true) (h1 : Rep K w d (.ref a)) (h2 : Rep K w e (.ref a)) : False := by
  cases d with
  | obj C ns ds =>
    cases e with
    | obj C' ns' es =>
      cases h1 with
      | obj g1 g2 g3 g4 =>
        cases h2 with
        | obj k1 k2 k3 k4 =>
          have e := Option.some.inj (g1.symm.trans k1)
          injection e with _ _ hfs
          rw [← hfs] at k4
          exact reps_apart g4 k4 h
    | _ => cases h
  | _ => cases h
theorem isO_ref {w : Wd} {C : Str} {d : Da} {v : V} (h : d.isO C = true) (r : Rep K w d v) : ∃ a dx fs, v = .ref a ∧ w.H a = some (.ins (He.ga K C) dx fs) := by
  cases d with
  | obj C1 ns ds =>
    have e : C1 = C := of_decide_eq_true h
    subst e
    cases r with
    | obj g1 g2 g3 g4 => exact ⟨_, _, _, rfl, g1⟩
  | _ => cases h
open Classical in
theorem eqs_snd {w : Wd} {S : Sto} {C : Str} {f : Fn} {Qk : Bool → Hp → Prop} {b : Bool} : ∀ {ds es : List Da} {vs us : List V} {wc : Wd}, Le w wc → StoR K wc S → Reps K wc ds vs → Reps K wc es us → eqsF C f ds es S = some b →
    (∀ wc', Le w wc' → StoR K wc' S → Qk b wc'.H) → tEqs (He.ga K C) (spOf K f) vs us Qk wc.H
  | _, _, _, _, wc, L, st, .nil, .nil, h, q => by
    simp only [eqsF, Option.some.injEq] at h
    subst h
    exact q wc L st
  | _, _, _, _, wc, L, st, .nil, .cons _ _, h, q => by
    simp only [eqsF, Option.some.injEq] at h
    subst h
    exact q wc L st
  | _, _, _, _, wc, L, st, .cons _ _, .nil, h, q => by
    simp only [eqsF, Option.some.injEq] at h
    subst h
    exact q wc L st
  | d :: _, e :: _, _ :: vs', _ :: us', wc, L, st, .cons h1 r1, .cons h2 r2, h, q => by
    unfold eqsF at h
    by_cases hc : d.isO C = true ∧ e.isO C = true
    · rw [if_pos hc] at h
      obtain ⟨a, dx, fs, rfl, g1⟩ := isO_ref hc.1 h1
      obtain ⟨a', dy, gs, rfl, g2⟩ := isO_ref hc.2 h2
      have call : ∀ k, f [d, e] S = .ok (.v (.bl k)) S → (∀ wc', Le wc wc' → StoR K wc' S → (k = true → tEqs (He.ga K C) (spOf K f) vs' us' Qk wc'.H) ∧ (k = false → Qk false wc'.H)) → spOf K f [.ref a, .ref a'] wc.H (fun v H' => ∃ k, v = .bl k ∧ (k = true → tEqs (He.ga K C) (spOf K f) vs' us' Qk H') ∧ (k = false → Qk false H')) E0 := by
        intro k hf hk
        refine ⟨wc, S, [d, e], rfl, st, .cons h1 (.cons h2 .nil), ?_⟩
        rw [hf]
        intro w' v L' st' R
        cases R
        exact ⟨k, rfl, hk w' L' st'⟩
      by_cases ht : f [d, e] S = .ok (.v (.bl true)) S
      · rw [if_pos ht] at h
        refine ⟨a, a', dx, dy, fs, gs, rfl, rfl, g1, g2, fun _ => eqs_snd L st r1 r2 h q, fun _ => call true ht fun wc' L' st' => ⟨fun _ => eqs_snd (L.trans L') st' (r1.le L') (r2.le L') h q, fun z => by cases z⟩⟩
      · rw [if_neg ht] at h
        by_cases hf : f [d, e] S = .ok (.v (.bl false)) S ∧ d.apart e = true
        · rw [if_pos hf] at h
          simp only [Option.some.injEq] at h
          subst h
          refine ⟨a, a', dx, dy, fs, gs, rfl, rfl, g1, g2, fun z => ?_, fun _ => call false hf.1 fun wc' L' st' => ⟨fun z => (by cases z), fun _ => q wc' (L.trans L') st'⟩⟩
          subst z
          exact (apart_ne hf.2 h1 h2).elim
        · rw [if_neg hf] at h; cases h
    · rw [if_neg hc] at h; cases h
theorem snd_eqTO {C : Str} {f : Fn} {ta tb : TE} {fa fb : FE} (ha : SndE K W ta fa) (hb : SndE K W tb fb) : SndE K W (tOp (rEqTO K (He.ga K C) (spOf K f)) ta tb) (fEqTO C f fa fb) := by
  intro wf w S σd σv Q s h
  refine ha.run (Le.refl w) s h fun r1 S1 w1 v1 L1 st1 R1 h1 => hb.run L1 (s.step L1 st1) h1 fun r2 S2 w2 v2 L2 st2 R2 h2 => ?_
  have L02 := L1.trans L2
  have R1' := R1.le L2
  have R2' := R2.back L1 st1
  revert h2
  split
  · rename_i ds es e1 e2
    split
    · rename_i b eb
      intro h2
      obtain ⟨a, vs, rfl, g1, g2⟩ := tupOf st2 R1' e1
      obtain ⟨a', us, rfl, k1, k2⟩ := tupOf st2 R2' e2
      refine ⟨a, a', vs, us, rfl, rfl, g1.sq, k1.sq, eqs_snd (w := w2) (Le.refl w2) st2 g2 k2 eb fun wc' L' st' => ?_⟩
      exact h2 wc' _ (L02.trans L') st' (.bl _)
    · intro h2; exact h2.elim
  · intro h2; exact h2.elim
end
end Cl

/-! ## Evl -/
namespace Cl
open PySem PySem.Spec PyProof.Rows L2
theorem e_fVar (i : Nat) (σ : Env) (S : Sto) : fVar i σ S = (match σ[i]? with
  | some (some (.v d)) => .ok (.v d) S
  | some (some (.own d _)) => .ok (.bo d) S
  | _ => .bad) := id rfl
theorem e_fC (d : Da) (σ : Env) (S : Sto) : fC d σ S = (.ok (.v d) S) := id rfl
theorem e_fOp (o : FO2) (fa fb : FE) (σ : Env) (S : Sto) : fOp o fa fb σ S = ((fa σ S).bd fun r1 S1 => (fb σ S1).bd fun r2 S2 => o r1 r2 S2) := id rfl
theorem e_fNotV (fa : FE) (σ : Env) (S : Sto) : fNotV fa σ S = ((fa σ S).bd fun r S1 => onB r fun b => .ok (.v (.bl (!b))) S1) := id rfl
theorem e_fAndV (fa fb : FE) (σ : Env) (S : Sto) : fAndV fa fb σ S = ((fa σ S).bd fun r S1 => onB r fun b => if b = true then fb σ S1 else .ok (.v (.bl false)) S1) := id rfl
theorem e_fOrV (fa fb : FE) (σ : Env) (S : Sto) : fOrV fa fb σ S = ((fa σ S).bd fun r S1 => onB r fun b => if b = true then .ok (.v (.bl true)) S1 else fb σ S1) := id rfl
theorem e_fIf (ft : FT) (fa fb : FE) (σ : Env) (S : Sto) : fIf ft fa fb σ S = ((ft σ S).bd fun b S1 => if b = true then fa σ S1 else fb σ S1) := id rfl
theorem e_fChain (o o' : FO2) (fa fb fc : FE) (σ : Env) (S : Sto) : fChain o o' fa fb fc σ S = ((fa σ S).bd fun r1 S1 => (fb σ S1).bd fun r2 S2 => (o r1 r2 S2).bd fun z S3 => onB z fun k => if k = true then (fc σ S3).bd fun r3 S4 => o' r2 r3 S4 else .ok (.v (.bl false)) S3) := id rfl
theorem e_fChain3 (o o' o'' : FO2) (fa fb fc fd : FE) (σ : Env) (S : Sto) : fChain3 o o' o'' fa fb fc fd σ S = ((fa σ S).bd fun r1 S1 => (fb σ S1).bd fun r2 S2 => (o r1 r2 S2).bd fun z S3 => onB z fun k => if k = true then (fc σ S3).bd fun r3 S4 => (o' r2 r3 S4).bd fun z' S5 => onB z' fun k' => if k' = true then (fd σ S5).bd fun r4 S6 => o'' r3 r4 S6 else .ok (.v (.bl false)) S5 else .ok (.v (.bl false)) S3) := id rfl
theorem e_fNil (σ : Env) (S : Sto) : fNil  σ S = (.ok [] S) := id rfl
theorem e_fCons (fe : FE) (fa : FA) (σ : Env) (S : Sto) : fCons fe fa σ S = ((fe σ S).bd fun r S1 => (fa σ S1).bd fun rs S2 => .ok (r :: rs) S2) := id rfl
theorem e_fTup (fa : FA) (σ : Env) (S : Sto) : fTup fa σ S = ((fa σ S).bd fun rs S1 => onDs rs fun ds => if ds.length ≤ 1000000 then .ok (.v (.tup ds)) S1 else .bad) := id rfl
theorem e_fLst (fa : FA) (σ : Env) (S : Sto) : fLst fa σ S = ((fa σ S).bd fun rs S1 => onDs rs fun ds => if ds.length ≤ 1000000 then .ok (.fr (.lst ds)) S1 else .bad) := id rfl
theorem e_fCell (fe : FE) (σ : Env) (S : Sto) : fCell fe σ S = ((fe σ S).bd fun r S1 => match r with
  | .fr d => .ok (.v (.cell S1.length)) (S1 ++ [d])
  | _ => .bad) := id rfl
theorem e_fNoP (σ : Env) (S : Sto) : fNoP  σ S = (.ok none S) := id rfl
theorem e_fPart (fe : FE) (σ : Env) (S : Sto) : fPart fe σ S = ((fe σ S).bd fun r S1 => match r with
  | .v (.int i) => .ok (some i) S1
  | _ => .bad) := id rfl
theorem e_fRev (fe : FE) (σ : Env) (S : Sto) : fRev fe σ S = ((fe σ S).bd fun r S1 => match r.rd S1 with
  | .lst ds => .ok (.fr (.lst ds.reverse)) S1
  | _ => .bad) := id rfl
theorem e_fFld (C f : Str) (fe : FE) (σ : Env) (S : Sto) : fFld C f fe σ S = ((fe σ S).bd fun r S1 => match r.rd S1 with
  | .obj C' ns ds => match getF ns ds f with
    | some d => if C' = C then .ok (.v d) S1 else .bad
    | none => .bad
  | _ => .bad) := id rfl
theorem e_fCB (b : FB) (fa : FA) (σ : Env) (S : Sto) : fCB b fa σ S = ((fa σ S).bd fun rs S1 => b rs S1) := id rfl
theorem e_fLstRg (fe : FE) (σ : Env) (S : Sto) : fLstRg fe σ S = ((fe σ S).bd fun r S1 => match r with
  | .v (.int n) => if 0 ≤ n ∧ n ≤ 1000000 then .ok (.fr (.lst (rgD n))) S1 else .bad
  | _ => .bad) := id rfl
theorem e_fIsi (T : String) (fe : FE) (σ : Env) (S : Sto) : fIsi T fe σ S = ((fe σ S).bd fun r S1 => match (r.rd S1).tyN with
  | some A => match kitB A T with
    | some b => .ok (.v (.bl b)) S1
    | none => .bad
  | none => .bad) := id rfl
theorem e_fTest (fe : FE) (σ : Env) (S : Sto) : fTest fe σ S = ((fe σ S).bd fun r S1 => onB r fun b => .ok b S1) := id rfl
theorem e_fTru (fe : FE) (σ : Env) (S : Sto) : fTru fe σ S = ((fe σ S).bd fun r S1 => match (r.rd S1).tru with
  | some b => .ok b S1
  | none => .bad) := id rfl
theorem e_fAnd (f g : FT) (σ : Env) (S : Sto) : fAnd f g σ S = ((f σ S).bd fun b S1 => if b = true then g σ S1 else .ok false S1) := id rfl
theorem e_fOr (f g : FT) (σ : Env) (S : Sto) : fOr f g σ S = ((f σ S).bd fun b S1 => if b = true then .ok true S1 else g σ S1) := id rfl
theorem e_fNot (f : FT) (σ : Env) (S : Sto) : fNot f σ S = ((f σ S).bd fun b S1 => .ok (!b) S1) := id rfl
theorem e_fYes (σ : Env) (S : Sto) : fYes  σ S = (.ok true S) := id rfl
theorem e_fCall (f : Fn) (fa : FA) (σ : Env) (S : Sto) : fCall f fa σ S = ((fa σ S).bd fun rs S1 => onDs rs fun ds => (f ds S1).noX) := id rfl
theorem e_fCallS (f : Fn) (fa : FA) (σ : Env) (S : Sto) : fCallS f fa σ S = ((fa σ S).bd fun rs S1 => onDs rs fun ds => f ds S1) := id rfl
theorem e_fMeth (C m : Str) (f : Fn) (fo : FE) (fa : FA) (σ : Env) (S : Sto) : fMeth C m f fo fa σ S = ((fo σ S).bd fun r S1 => match r.rd S1 with
  | .obj C' ns _ => if C' = C ∧ m ∉ ns then (fa σ S1).bd fun rs S2 => onDs (r :: rs) fun ds => (f ds S2).noX else .bad
  | _ => .bad) := id rfl
theorem e_fMake (f : FIn) (fa : FA) (σ : Env) (S : Sto) : fMake f fa σ S = ((fa σ S).bd fun rs S1 => onDs rs fun ds => (f ds S1).noX.bd fun d S2 => .ok (.fr d) S2) := id rfl
theorem e_fNext (σ : Env) (S : Sto) : fNext  σ S = (.nx σ S) := id rfl
theorem e_fBreak (σ : Env) (S : Sto) : fBreak  σ S = (.bk σ S) := id rfl
theorem e_fCont (σ : Env) (S : Sto) : fCont  σ S = (.ct σ S) := id rfl
theorem e_fNever (σ : Env) (S : Sto) : fNever  σ S = (.bad) := id rfl
theorem e_fRet (fe : FE) (σ : Env) (S : Sto) : fRet fe σ S = ((fe σ S).so σ fun r S1 => .rt r.out S1) := id rfl
theorem e_fRetN (σ : Env) (S : Sto) : fRetN  σ S = (.rt (.v .non) S) := id rfl
theorem e_fDrop (fe : FE) (σ : Env) (S : Sto) : fDrop fe σ S = ((fe σ S).so σ fun _ S1 => .nx σ S1) := id rfl
theorem e_fIfS (ft : FT) (f g : FS) (σ : Env) (S : Sto) : fIfS ft f g σ S = ((ft σ S).so σ fun b S1 => if b = true then f σ S1 else g σ S1) := id rfl
theorem e_fSet (i : Nat) (fe : FE) (σ : Env) (S : Sto) : fSet i fe σ S = ((fe σ S).so σ fun r S1 => match r with
  | .v d => .nx (σ.set i (some (.v d))) S1
  | .fr d => .nx (σ.set i (some (.own d false))) S1
  | .bo _ => .bad) := id rfl
theorem e_fSetD (i : Nat) (fe : FE) (σ : Env) (S : Sto) : fSetD i fe σ S = ((fe σ S).so σ fun r S1 => match r.toD with
  | some d => .nx (σ.set i (some (.v d))) S1
  | none => .bad) := id rfl
theorem e_fAsg (fe : FE) (fg : FG) (σ : Env) (S : Sto) : fAsg fe fg σ S = ((fe σ S).so σ fun r S1 => match r.toD with
  | some d => match fg d σ with
    | some σ1 => .nx σ1 S1
    | none => .bad
  | none => .bad) := id rfl
theorem e_fPar (i j : Nat) (fa : FA) (σ : Env) (S : Sto) : fPar i j fa σ S = ((fa σ S).so σ fun rs S1 => match rs with
  | [.v d, .v e] => .nx ((σ.set i (some (.v d))).set j (some (.v e))) S1
  | _ => .bad) := id rfl
theorem e_fFrz (i : Nat) (f : FS) (σ : Env) (S : Sto) : fFrz i f σ S = (match σ[i]? with
  | some (some (.own d false)) => f (σ.set i (some (.v d))) S
  | some (some (.v _)) => f σ S
  | _ => .bad) := id rfl
theorem e_fAppS (i : Nat) (fe : FE) (σ : Env) (S : Sto) : fAppS i fe σ S = (match σ[i]? with
  | some (some (.own (.lst ds) b)) => (fe σ S).so σ fun r S1 => match r.toD with
    | some d => if ds.length < 1000000 then .nx (σ.set i (some (.own (.lst (ds ++ [d])) b))) S1 else .bad
    | none => .bad
  | some (some (.v (.cell n))) => match S[n]? with
    | some (.lst _) => (fe σ S).so σ fun r S1 => match r.toD, S1[n]? with
      | some d, some (.lst ds) => if ds.length < 1000000 then .nx σ (S1.set n (.lst (ds ++ [d]))) else .bad
      | _, _ => .bad
    | _ => .bad
  | _ => .bad) := id rfl
theorem e_fSetI (i : Nat) (fe fi : FE) (σ : Env) (S : Sto) : fSetI i fe fi σ S = (match σ[i]? with
  | some (some (.own (.lst ds) b)) => (fe σ S).so σ fun r S1 => (fi σ S1).so σ fun q S2 => match q, r.toD with
    | .v (.int k), some d => match ixN ds.length k with
      | some j => .nx (σ.set i (some (.own (.lst (ds.set j d)) b))) S2
      | none => .bad
    | _, _ => .bad
  | some (some (.v (.cell n))) => (fe σ S).so σ fun r S1 => (fi σ S1).so σ fun q S2 => match q, r.toD, S2[n]? with
    | .v (.int k), some d, some (.lst ds) => match ixN ds.length k with
      | some j => .nx σ (S2.set n (.lst (ds.set j d)))
      | none => .bad
    | _, _, _ => .bad
  | _ => .bad) := id rfl
theorem e_fSFld (i : Nat) (C f : Str) (fe : FE) (σ : Env) (S : Sto) : fSFld i C f fe σ S = ((fe σ S).so σ fun r S1 => match σ[i]?, r.toD with
  | some (some (.own (.obj C' ns ds) b)), some d => if C' = C ∧ ns.length < 1000 then .nx (σ.set i (some (.own (.obj C (putN ns ds f d).1 (putN ns ds f d).2) b))) S1 else .bad
  | some (some (.v (.cell n))), some d => match S1[n]? with
    | some (.obj C' ns ds) => if C' = C ∧ ns.length < 1000 then .nx σ (S1.set n (.obj C (putN ns ds f d).1 (putN ns ds f d).2)) else .bad
    | _ => .bad
  | _, _ => .bad) := id rfl
theorem e_fiL (fe : FE) (σ : Env) (S : Sto) : fiL fe σ S = ((fe σ S).bd fun r S1 => match r.toD with
  | some (.lst ds) => .ok ds S1
  | _ => .bad) := id rfl
theorem e_fiB (fe : FE) (σ : Env) (S : Sto) : fiB fe σ S = ((fe σ S).bd fun r S1 => match r with
  | .v (.lst ds) => .ok ds S1
  | .fr (.lst ds) => .ok ds S1
  | .bo (.lst ds) => .ok ds S1
  | _ => .bad) := id rfl
theorem e_fiT (fe : FE) (σ : Env) (S : Sto) : fiT fe σ S = ((fe σ S).bd fun r S1 => match r with
  | .v (.tup ds) => .ok ds S1
  | _ => .bad) := id rfl
theorem e_fiR1 (fa : FA) (σ : Env) (S : Sto) : fiR1 fa σ S = ((fa σ S).bd fun rs S1 => match rs with
  | [.v (.int j)] => if -4611686018427387904 ≤ j ∧ j < 4611686018427387904 then .ok (rgD j) S1 else .bad
  | _ => .bad) := id rfl
theorem e_fiR2 (fa : FA) (σ : Env) (S : Sto) : fiR2 fa σ S = ((fa σ S).bd fun rs S1 => match rs with
  | [.v (.int i), .v (.int j)] => if (-4611686018427387904 ≤ i ∧ i < 4611686018427387904) ∧ -4611686018427387904 ≤ j ∧ j < 4611686018427387904 then .ok (rgD2 i j) S1 else .bad
  | _ => .bad) := id rfl
theorem e_fiS (fe : FE) (σ : Env) (S : Sto) : fiS fe σ S = ((fe σ S).bd fun r S1 => match r with
  | .v (.str z) => .ok (chD z) S1
  | _ => .bad) := id rfl
theorem e_fiE (fa : FA) (σ : Env) (S : Sto) : fiE fa σ S = ((fa σ S).bd fun rs S1 => onDs rs fun ds => match ds with
  | [.lst ds] => .ok (enD 0 ds) S1
  | _ => .bad) := id rfl
theorem e_fiET (fa : FA) (σ : Env) (S : Sto) : fiET fa σ S = ((fa σ S).bd fun rs S1 => onDs rs fun ds => match ds with
  | [.tup ds] => .ok (enD 0 ds) S1
  | _ => .bad) := id rfl
theorem e_fiZ (fa : FA) (σ : Env) (S : Sto) : fiZ fa σ S = ((fa σ S).bd fun rs S1 => onDs rs fun ds => match ds with
  | [.lst ds, .lst es] => .ok (zpD ds es) S1
  | _ => .bad) := id rfl
theorem e_fFor (fi : FI) (fg : FG) (fb : FS) (σ : Env) (S : Sto) : fFor fi fg fb σ S = ((fi σ S).so σ fun items S1 => foldFor fg fb items σ S1) := id rfl
theorem e_fLc (fi : FI) (fg : FG) (ft : FT) (fe : FE) (vs : List Nat) (σ : Env) (S : Sto) : fLc fi fg ft fe vs σ S = ((fi σ S).bd fun items S1 => (foldLc fg ft fe (wipeD σ vs) items [] S1).bd fun acc S2 => .ok (.fr (.lst acc)) S2) := id rfl
theorem e_fRaise (C : Str) (ns : List Str) (fa : FA) (σ : Env) (S : Sto) : fRaise C ns fa σ S = ((fa σ S).so σ fun rs S1 => match toDs rs with
  | some ds => if ds.length = ns.length ∧ ds.length ≤ 1000 ∧ ds.all Da.fmt = true then .ex ⟨C, ns.reverse, ds.reverse⟩ σ S1 else .bad
  | none => .bad) := id rfl
theorem e_fTry (tab : Tab) (fb : FS) (hs : List Fh) (σ : Env) (S : Sto) : fTry tab fb hs σ S = (match fb σ S with
  | .ex e σ1 S1 => fHand tab hs e σ1 S1
  | o => o) := id rfl
theorem e_fXf (C f : Str) (e : Exn) (i : Nat) (σ : Env) (S : Sto) : fXf C f e i σ S = (match σ[i]?, getF e.ns e.ds f with
  | some (some .exn), some d => if e.C = C then .ok (.v d) S else .bad
  | _, _ => .bad) := id rfl
theorem e_fIsX (C : Str) (b : Bool) (e : Exn) (i : Nat) (σ : Env) (S : Sto) : fIsX C b e i σ S = (match σ[i]?, e.ns with
  | some (some .exn), _ :: _ => if e.C = C then .ok (.v (.bl b)) S else .bad
  | _, _ => .bad) := id rfl
theorem e_fIsD (kt : Tab) (X : Str) (e : Exn) (i : Nat) (σ : Env) (S : Sto) : fIsD kt X e i σ S = (match σ[i]?, kt.lookup (e.C, X) with
  | some (some .exn), some b => .ok (.v (.bl b)) S
  | _, _ => .bad) := id rfl
theorem e_fRaiseP (C : Str) (σ : Env) (S : Sto) : fRaiseP C σ S = (.ex ⟨C, [], []⟩ σ S) := id rfl
theorem e_fNeg (fe : FE) (σ : Env) (S : Sto) : fNeg fe σ S = ((fe σ S).bd fun r S1 => match r with
  | .v (.int i) => .ok (.v (.int (-i))) S1
  | _ => .bad) := id rfl
theorem e_fMethX (C m : Str) (f : Fn) (fo : FE) (fa : FA) (σ : Env) (S : Sto) : fMethX C m f fo fa σ S = ((fo σ S).bd fun r S1 => match r.rd S1 with
  | .obj C' ns _ => if C' = C ∧ m ∉ ns then (fa σ S1).bd fun rs S2 => onDs (r :: rs) fun ds => f ds S2 else .bad
  | _ => .bad) := id rfl
theorem e_fMakeX (f : FIn) (fa : FA) (σ : Env) (S : Sto) : fMakeX f fa σ S = ((fa σ S).bd fun rs S1 => onDs rs fun ds => (f ds S1).bd fun d S2 => .ok (.fr d) S2) := id rfl
theorem e_fFmt (fe : FE) (σ : Env) (S : Sto) : fFmt fe σ S = ((fe σ S).bd fun r S1 => match r with
  | .v (.str y) => if y.length ≤ 1000000 then .ok (.v (.str y)) S1 else .bad
  | .v (.int i) => if i.natAbs.log2 < 1920 then .ok (.v (.str (toString i))) S1 else .bad
  | _ => .bad) := id rfl
theorem e_fJoined (fs : List FE) (σ : Env) (S : Sto) : fJoined fs σ S = ((foldJ fs Str.empty σ S).bd fun out S1 => .ok (.v (.str out)) S1) := id rfl
theorem e_fJoin (fo fe : FE) (σ : Env) (S : Sto) : fJoin fo fe σ S = ((fo σ S).bd fun r S1 => match r with
  | .v (.str a) => (fe σ S1).bd fun q S2 => match q.rd S2 with
    | .lst ds => match strsD ds with
      | some ys => if (ys.map (·.length)).sum + ys.length * a.length ≤ 16777216 then .ok (.v (.str (Txt.join a ys))) S2 else .bad
      | none => .bad
    | _ => .bad
  | _ => .bad) := id rfl
theorem e_fTryO (tab : Tab) (X : Str) (fb fh : FS) (σ : Env) (S : Sto) : fTryO tab X fb fh σ S = (match fb σ S with
  | .ex e σ1 S1 => match tab.lookup (e.C, X) with
    | some true => fh σ1 S1
    | some false => .ex e σ1 S1
    | none => .bad
  | o => o) := id rfl
theorem e_fParO (i j : Nat) (fe fg : FE) (σ : Env) (S : Sto) : fParO i j fe fg σ S = ((fe σ S).so σ fun r S1 => (fg σ S1).so σ fun q S2 => match r.sx, q.sx with
  | some x, some y => if i = j then .bad else .nx ((σ.set i (some x)).set j (some y)) S2
  | _, _ => .bad) := id rfl
theorem e_fCount (fo fe : FE) (σ : Env) (S : Sto) : fCount fo fe σ S = ((fo σ S).bd fun r S1 => match r.rd S1 with
  | .lst _ => (fe σ S1).bd fun q S2 => match r.rd S2, (q.rd S2).py with
    | .lst ds, some p => match pys ds with
      | some ps => if PyData.plainAll ps = true ∧ p.plain = true ∧ p.depth ≤ 60 then .ok (.v (.int ((ps.countP fun z => PyData.eqv z p : Nat) : Int))) S2 else .bad
      | none => .bad
    | _, _ => .bad
  | _ => .bad) := id rfl
theorem e_fOwnEq (C : Str) (f : Fn) (fa fb : FE) (σ : Env) (S : Sto) : fOwnEq C f fa fb σ S = ((fa σ S).bd fun r1 S1 => (fb σ S1).bd fun r2 S2 => match r1.rd S2, r2.rd S2 with
  | .obj C1 _ _, .obj C2 _ _ => if C1 = C ∧ C2 = C then onDs [r1, r2] fun ds => (f ds S2).noX.bd fun r S3 => onB r fun b => .ok (.v (.bl b)) S3 else .bad
  | _, _ => .bad) := id rfl
theorem e_fStrO (C : Str) (f : Fn) (fe : FE) (σ : Env) (S : Sto) : fStrO C f fe σ S = ((fe σ S).bd fun r S1 => match r.rd S1 with
  | .obj C1 _ _ => if C1 = C then onDs [r] fun ds => (f ds S1).noX.bd onStr else .bad
  | _ => .bad) := id rfl
theorem e_fIsC (C : Str) (fe : FE) (σ : Env) (S : Sto) : fIsC C fe σ S = ((fe σ S).bd fun r S1 => match r.rd S1 with
  | .obj C1 _ _ => if C1 = C then .ok (.v (.bl true)) S1 else .bad
  | _ => .bad) := id rfl
theorem e_fCallL (f : Fn) (fa : FA) (σ : Env) (S : Sto) : fCallL f fa σ S = ((fa σ S).bd fun rs S1 => onLs rs fun ds => (chkL (f ds S1)).noX) := id rfl
theorem e_fCallSL (f : Fn) (fa : FA) (σ : Env) (S : Sto) : fCallSL f fa σ S = ((fa σ S).bd fun rs S1 => onLs rs fun ds => chkL (f ds S1)) := id rfl
theorem e_fMakeL (f : FIn) (fa : FA) (σ : Env) (S : Sto) : fMakeL f fa σ S = ((fa σ S).bd fun rs S1 => onLs rs fun ds => (chkI (f ds S1)).noX.bd fun d S2 => .ok (.fr d) S2) := id rfl
theorem e_fMakeXL (f : FIn) (fa : FA) (σ : Env) (S : Sto) : fMakeXL f fa σ S = ((fa σ S).bd fun rs S1 => onLs rs fun ds => (chkI (f ds S1)).bd fun d S2 => .ok (.fr d) S2) := id rfl
theorem e_fDNew (σ : Env) (S : Sto) : fDNew  σ S = (.ok (.fr (.dic [] [])) S) := id rfl
theorem e_fDGet (fo fk : FE) (σ : Env) (S : Sto) : fDGet fo fk σ S = ((fo σ S).bd fun r S1 => (fk σ S1).bd fun q S2 => onK q fun k => match r.rd S2 with
  | .dic ks ds => match getK ks ds k with
    | some d => .ok (.v d) S2
    | none => .bad
  | _ => .bad) := id rfl
theorem e_fDIn (neg : Bool) (fk fo : FE) (σ : Env) (S : Sto) : fDIn neg fk fo σ S = ((fk σ S).bd fun q S1 => (fo σ S1).bd fun r S2 => onK q fun k => match r.rd S2 with
  | .dic ks ds => .ok (.v (.bl (if neg then !(getK ks ds k).isSome else (getK ks ds k).isSome))) S2
  | _ => .bad) := id rfl
theorem e_fDGet1 (fo fk : FE) (σ : Env) (S : Sto) : fDGet1 fo fk σ S = ((fo σ S).bd fun r S1 => match r.rd S1 with
  | .dic _ _ => (fk σ S1).bd fun q S2 => onK q fun k => match r.rd S2 with
    | .dic ks ds => .ok (.v ((getK ks ds k).getD .non)) S2
    | _ => .bad
  | _ => .bad) := id rfl
theorem e_fDPut (i : Nat) (fk fv : FE) (σ : Env) (S : Sto) : fDPut i fk fv σ S = (match σ[i]? with
  | some (some (.own (.dic ks ds) b)) => (fv σ S).so σ fun r S1 => (fk σ S1).so σ fun q S2 => match q, r.toD with
    | .v kd, some x => match kd.key with
      | some k => if ks.length < 1000000 then .nx (σ.set i (some (.own (.dic (putKs ks k) (putDs ks ds k x)) b))) S2 else .bad
      | none => .bad
    | _, _ => .bad
  | _ => .bad) := id rfl
theorem e_fDisp1 (fk fv : FE) (σ : Env) (S : Sto) : fDisp1 fk fv σ S = ((fk σ S).bd fun q S1 => (fv σ S1).bd fun r S2 => onK q fun k => onD r fun x => .ok (.fr (.dic [k] [x])) S2) := id rfl
theorem e_fPop (i j : Nat) (σ : Env) (S : Sto) : fPop i j σ S = (match σ[i]? with
  | some (some (.own (.lst ds) b)) => match ds[ds.length - 1]? with
    | some d => if i = j then .bad else .nx ((σ.set i (some (.own (.lst ds.dropLast) b))).set j (some (.v d))) S
    | none => .bad
  | _ => .bad) := id rfl
theorem e_fLendT (i : Nat) (ft : FT) (σ : Env) (S : Sto) : fLendT i ft σ S = (match σ[i]? with
  | some (some (.own d _)) => chkT (ft (σ.set i (some (.v d))) S)
  | some (some (.v _)) => ft σ S
  | _ => .bad) := id rfl
theorem e_fLenO (C : Str) (f : Fn) (fe : FE) (σ : Env) (S : Sto) : fLenO C f fe σ S = ((fe σ S).bd fun r S1 => match r.rd S1 with
  | .obj C1 _ _ => if C1 = C then onDs [r] fun ds => (f ds S1).noX.bd onLen else .bad
  | _ => .bad) := id rfl
theorem e_fiQ (fe : FE) (σ : Env) (S : Sto) : fiQ fe σ S = ((fe σ S).bd fun r S1 => match r with
  | .v (.lst ds) => .ok ds S1
  | .v (.tup ds) => .ok ds S1
  | _ => .bad) := id rfl
theorem e_fStar (fe : FE) (fa : FA) (σ : Env) (S : Sto) : fStar fe fa σ S = ((fe σ S).bd fun r S1 => match r with
  | .v (.tup ds) => (fa σ S1).bd fun rs S2 => .ok (ds.map Rv.v ++ rs) S2
  | _ => .bad) := id rfl
theorem e_fUpper (fe : FE) (σ : Env) (S : Sto) : fUpper fe σ S = ((fe σ S).bd fun r S1 => match r with
  | .v (.str y) => if y.length ≤ 5592405 then .ok (.v (.str (Txt.upper y))) S1 else .bad
  | _ => .bad) := id rfl
theorem e_fIdxS (fo fe : FE) (σ : Env) (S : Sto) : fIdxS fo fe σ S = ((fo σ S).bd fun r S1 => match r.rd S1 with
  | .lst _ => (fe σ S1).bd fun q S2 => match r.rd S2, q with
    | .lst ds, .v (.str z) => match strsD ds with
      | some ys => match idxS z ys with
        | some j => .ok (.v (.int (j : Nat))) S2
        | none => .bad
      | none => .bad
    | _, _ => .bad
  | _ => .bad) := id rfl
theorem e_fIdxT (zs : List Str) (fe : FE) (σ : Env) (S : Sto) : fIdxT zs fe σ S = ((fe σ S).bd fun q S1 => match q with
  | .v (.str z) => match idxS z zs with
    | some j => .ok (.v (.int (j : Nat))) S1
    | none => .bad
  | _ => .bad) := id rfl
theorem e_fiZM (fa : FA) (σ : Env) (S : Sto) : fiZM fa σ S = ((fa σ S).bd fun rs S1 => onDs rs fun ds => match ds with
  | [.lst ds, .tup es] => .ok (zpD ds es) S1
  | _ => .bad) := id rfl
theorem e_fiZT (fa : FA) (σ : Env) (S : Sto) : fiZT fa σ S = ((fa σ S).bd fun rs S1 => onDs rs fun ds => match ds with
  | [.tup ds, .lst es] => .ok (zpD ds es) S1
  | _ => .bad) := id rfl
theorem e_fiEQ (fa : FA) (σ : Env) (S : Sto) : fiEQ fa σ S = ((fa σ S).bd fun rs S1 => onDs rs fun ds => match ds with
  | [.lst ds] => .ok (enD 0 ds) S1
  | [.tup ds] => .ok (enD 0 ds) S1
  | _ => .bad) := id rfl
theorem e_fIdxV (fo fe : FE) (σ : Env) (S : Sto) : fIdxV fo fe σ S = ((fo σ S).bd fun r S1 => match r.rd S1 with
  | .lst _ => (fe σ S1).bd fun q S2 => match r.rd S2, q with
    | .lst ds, .v d => match svs ds, d.sv with
      | some xs, some x => if flatV x && xs.all flatV then match idxV x xs with
        | some j => .ok (.v (.int (j : Nat))) S2
        | none => .bad else .bad
      | _, _ => .bad
    | _, _ => .bad
  | _ => .bad) := id rfl
theorem e_fDfl (fa : FA) (ds : List Da) (σ : Env) (S : Sto) : fDfl fa ds σ S = ((fa σ S).bd fun rs S1 => .ok (rs ++ ds.map .v) S1) := id rfl
theorem e_fLenS (fe : FE) (σ : Env) (S : Sto) : fLenS fe σ S = ((fe σ S).bd fun r S1 => match r.rd S1 with
  | .lst ds => match strsD ds with
    | some xs => if xs.length ≤ 4000 then .ok (.v (.int (nd xs : Nat))) S1 else .bad
    | none => .bad
  | .tup ds => match strsD ds with
    | some xs => if xs.length ≤ 4000 then .ok (.v (.int (nd xs : Nat))) S1 else .bad
    | none => .bad
  | _ => .bad) := id rfl
theorem e_fLendE (i : Nat) (fe : FE) (σ : Env) (S : Sto) : fLendE i fe σ S = (match σ[i]? with
  | some (some (.own d _)) => chkE (fe (σ.set i (some (.v d))) S)
  | some (some (.v _)) => fe σ S
  | _ => .bad) := id rfl
theorem e_fClr (i : Nat) (σ : Env) (S : Sto) : fClr i σ S = (match σ[i]? with
  | some (some (.own (.lst _) b)) => .nx (σ.set i (some (.own (.lst []) b))) S
  | _ => .bad) := id rfl
theorem e_fExtS (i : Nat) (fe : FE) (σ : Env) (S : Sto) : fExtS i fe σ S = (match σ[i]? with
  | some (some (.own (.lst ds) b)) => (fe σ S).so σ fun r S1 => match r.rd S1 with
    | .lst es => if ds.length + es.length ≤ 1000000 then .nx (σ.set i (some (.own (.lst (ds ++ es)) b))) S1 else .bad
    | _ => .bad
  | _ => .bad) := id rfl
theorem e_fFind (fo fe : FE) (σ : Env) (S : Sto) : fFind fo fe σ S = ((fo σ S).bd fun r S1 => match r with
  | .v (.str a) => (fe σ S1).bd fun q S2 => match q with
    | .v (.str b) => .ok (.v (.int (Txt.find a b))) S2
    | _ => .bad
  | _ => .bad) := id rfl
theorem e_fAppE (fo fe : FE) (σ : Env) (S : Sto) : fAppE fo fe σ S = ((fo σ S).so σ fun ro S0 => match ro with
  | .v (.cell n) => match S0[n]? with
    | some (.lst _) => (fe σ S0).so σ fun r S1 => match r.toD, S1[n]? with
      | some d, some (.lst ds) => if ds.length < 1000000 then .nx σ (S1.set n (.lst (ds ++ [d]))) else .bad
      | _, _ => .bad
    | _ => .bad
  | _ => .bad) := id rfl
theorem e_fSetIE (fo fe fi : FE) (σ : Env) (S : Sto) : fSetIE fo fe fi σ S = ((fe σ S).so σ fun r S1 => (fo σ S1).so σ fun ro S2 => (fi σ S2).so σ fun q S3 => match ro, q, r.toD with
  | .v (.cell n), .v (.int k), some d => match S3[n]? with
    | some (.lst ds) => match ixN ds.length k with
      | some j => .nx σ (S3.set n (.lst (ds.set j d)))
      | none => .bad
    | _ => .bad
  | _, _, _ => .bad) := id rfl
theorem e_fDPutE (fo fk fv : FE) (σ : Env) (S : Sto) : fDPutE fo fk fv σ S = ((fv σ S).so σ fun r S1 => (fo σ S1).so σ fun ro S2 => (fk σ S2).so σ fun q S3 => match ro, q, r.toD with
  | .v (.cell n), .v kd, some x => match kd.key, S3[n]? with
    | some k, some (.dic ks ds) => if ks.length < 1000000 then .nx σ (S3.set n (.dic (putKs ks k) (putDs ks ds k x))) else .bad
    | _, _ => .bad
  | _, _, _ => .bad) := id rfl
theorem e_fDAug (i : Nat) (fk fv : FE) (σ : Env) (S : Sto) : fDAug i fk fv σ S = (match σ[i]? with
  | some (some (.own (.dic ks ds) b)) => (fk σ S).so σ fun q S1 => match q with
    | .v kd => match kd.key with
      | some k => match getK ks ds k with
        | some (.int m) => (fv σ S1).so σ fun r S2 => match r with
          | .v (.int n) => if ks.length < 1000000 then .nx (σ.set i (some (.own (.dic (putKs ks k) (putDs ks ds k (.int (m + n)))) b))) S2 else .bad
          | _ => .bad
        | _ => .bad
      | none => .bad
    | _ => .bad
  | _ => .bad) := id rfl
theorem e_fDc (fi : FI) (fg : FG) (ft : FT) (fk fv : FE) (vs : List Nat) (σ : Env) (S : Sto) : fDc fi fg ft fk fv vs σ S = ((fi σ S).bd fun items S1 => (foldDc fg ft fk fv (wipeD σ vs) items [] [] S1).bd fun acc S2 => .ok (.fr (.dic acc.1 acc.2)) S2) := id rfl
theorem e_fForC (fe : FE) (fg : FG) (fb : FS) (σ : Env) (S : Sto) : fForC fe fg fb σ S = ((fe σ S).so σ fun r S1 => match r with
  | .v (.cell n) => match S1[n]? with
    | some (.lst ds) => foldForC n ds fg fb ds σ S1
    | _ => .bad
  | _ => .bad) := id rfl
theorem e_fLcC (fc : FE) (fg : FG) (ft : FT) (fe : FE) (vs : List Nat) (σ : Env) (S : Sto) : fLcC fc fg ft fe vs σ S = ((fc σ S).bd fun r S1 => match r with
  | .v (.cell n) => match S1[n]? with
    | some (.lst ds) => (foldLcC n ds fg ft fe (wipeD σ vs) ds [] S1).bd fun acc S2 => .ok (.fr (.lst acc)) S2
    | _ => .bad
  | _ => .bad) := id rfl
theorem e_fDcC (fc : FE) (fg : FG) (ft : FT) (fk fv : FE) (vs : List Nat) (σ : Env) (S : Sto) : fDcC fc fg ft fk fv vs σ S = ((fc σ S).bd fun r S1 => match r with
  | .v (.cell n) => match S1[n]? with
    | some (.lst items) => (foldDcC n items fg ft fk fv (wipeD σ vs) items [] [] S1).bd fun acc S2 => .ok (.fr (.dic acc.1 acc.2)) S2
    | _ => .bad
  | _ => .bad) := id rfl
theorem e_fLc2 (fi : FI) (fg : FG) (ft : FT) (fi1 : FI) (fg1 : FG) (ft1 : FT) (fe : FE) (vs vs1 : List Nat) (σ : Env) (S : Sto) : fLc2 fi fg ft fi1 fg1 ft1 fe vs vs1 σ S = ((fi σ S).bd fun items S1 => (foldLc2 fg ft fi1 fg1 ft1 fe vs1 (wipeD σ vs) items [] S1).bd fun acc S2 => .ok (.fr (.lst acc)) S2) := id rfl
theorem e_fRevE (fo : FE) (σ : Env) (S : Sto) : fRevE fo σ S = ((fo σ S).so σ fun ro S0 => match ro with
  | .v (.cell n) => match S0[n]? with
    | some (.lst ds) => .nx σ (S0.set n (.lst ds.reverse))
    | _ => .bad
  | _ => .bad) := id rfl
theorem e_fSrtSet (fe : FE) (σ : Env) (S : Sto) : fSrtSet fe σ S = ((fe σ S).bd fun r S1 => match r.rd S1 with
  | .lst ds => match intsD ds with
    | some xs => if xs.length < 64 then .ok (.fr (.lst ((usrt xs).map Da.int))) S1 else .bad
    | none => .bad
  | .tup ds => match intsD ds with
    | some xs => if xs.length < 64 then .ok (.fr (.lst ((usrt xs).map Da.int))) S1 else .bad
    | none => .bad
  | _ => .bad) := id rfl
theorem e_fDGet2 (fo fk fx : FE) (σ : Env) (S : Sto) : fDGet2 fo fk fx σ S = ((fo σ S).bd fun r S1 => match r.rd S1 with
  | .dic _ _ => (fk σ S1).bd fun q S2 => (fx σ S2).bd fun z S3 => onD z fun x => onK q fun k => match r.rd S3 with
    | .dic ks ds => .ok (.v ((getK ks ds k).getD x)) S3
    | _ => .bad
  | _ => .bad) := id rfl
theorem e_fItems (j i : Nat) (σ : Env) (S : Sto) : fItems j i σ S = (match σ[j]? with
  | some (some (.v (.cell n))) => match S[n]? with
    | some (.dic ks ds) => if i < σ.length ∧ i ≠ j ∧ ks.length ≤ 1000 then .ok (.fr (.lst (itemsL ks ds))) S else .bad
    | _ => .bad
  | _ => .bad) := id rfl
theorem e_fDSetd (fo fk fx : FE) (σ : Env) (S : Sto) : fDSetd fo fk fx σ S = ((fo σ S).bd fun r S1 => match r with
  | .v (.cell n) => match S1[n]? with
    | some (.dic _ _) => (fk σ S1).bd fun q S2 => (fx σ S2).bd fun z S3 => onD z fun x => onK q fun k => match S3[n]? with
      | some (.dic ks ds) => if ks.length < 1000000 then (match getK ks ds k with
        | some d => .ok (.v d) S3
        | none => .ok (.v x) (S3.set n (.dic (putKs ks k) (putDs ks ds k x)))) else .bad
      | _ => .bad
    | _ => .bad
  | _ => .bad) := id rfl
theorem e_fListV (fo : FE) (σ : Env) (S : Sto) : fListV fo σ S = ((fo σ S).bd fun r S1 => match r.rd S1 with
  | .dic _ ds => .ok (.fr (.lst ds)) S1
  | _ => .bad) := id rfl
theorem e_fRaiseL (C f : Str) (fa : FA) (σ : Env) (S : Sto) : fRaiseL C f fa σ S = ((fa σ S).so σ fun rs S1 => match rs with
  | [r] => match r.rd S1 with
    | .lst ds => .ex ⟨C, [f], [.lst ds]⟩ σ S1
    | _ => .bad
  | _ => .bad) := id rfl
theorem e_fBoolO (C : Str) (f : Fn) (fa : FE) (σ : Env) (S : Sto) : fBoolO C f fa σ S = ((fa σ S).bd fun r1 S1 => match r1.rd S1 with
  | .obj C1 _ _ => if C1 = C then onDs [r1] fun ds => (f ds S1).noX.bd fun r S3 => onB r fun b => .ok (.v (.bl b)) S3 else .bad
  | _ => .bad) := id rfl
theorem e_fOwn2 (C : Str) (f : Fn) (fa fb : FE) (σ : Env) (S : Sto) : fOwn2 C f fa fb σ S = ((fa σ S).bd fun r1 S1 => (fb σ S1).bd fun r2 S2 => match r1.rd S2, r2.rd S2 with
  | .obj C1 _ _, .obj C2 _ _ => if C1 = C ∧ C2 = C then onDs [r1, r2] fun ds => f ds S2 else .bad
  | _, _ => .bad) := id rfl
theorem e_fOwnI (C : Str) (f : Fn) (fa fb : FE) (σ : Env) (S : Sto) : fOwnI C f fa fb σ S = ((fa σ S).bd fun r1 S1 => (fb σ S1).bd fun r2 S2 => match r1.rd S2, r2 with
  | .obj C1 _ _, .v (.int i) => if C1 = C then onDs [r1, .v (.int i)] fun ds => f ds S2 else .bad
  | _, _ => .bad) := id rfl
theorem e_fOwnIx (C : Str) (f : Fn) (fa fb : FE) (σ : Env) (S : Sto) : fOwnIx C f fa fb σ S = ((fa σ S).bd fun r1 S1 => (fb σ S1).bd fun r2 S2 => match r1.rd S2 with
  | .obj C1 _ _ => if C1 = C then onDs [r1, r2] fun ds => f ds S2 else .bad
  | _ => .bad) := id rfl
theorem e_fOwnSet (C : Str) (f : Fn) (fc fa fb : FE) (σ : Env) (S : Sto) : fOwnSet C f fc fa fb σ S = ((fc σ S).so σ fun r S1 => (fa σ S1).so σ fun ro S2 => (fb σ S2).so σ fun q S3 => match ro.rd S3, toDs [ro, q, r] with
  | .obj C1 _ _, some ds => if C1 = C then (f ds S3).so σ fun _ S4 => .nx σ S4 else .bad
  | _, _ => .bad) := id rfl
theorem e_fOwnIn (C : Str) (f : Fn) (fa fb : FE) (σ : Env) (S : Sto) : fOwnIn C f fa fb σ S = ((fa σ S).bd fun r1 S1 => (fb σ S1).bd fun r2 S2 => match r2.rd S2 with
  | .obj C1 _ _ => if C1 = C then onDs [r2, r1] fun ds => (f ds S2).noX.bd fun r S3 => onB r fun b => .ok (.v (.bl b)) S3 else .bad
  | _ => .bad) := id rfl
theorem e_fOwnTru (C : Str) (f : Fn) (fa : FE) (σ : Env) (S : Sto) : fOwnTru C f fa σ S = ((fa σ S).bd fun r1 S1 => match r1.rd S1 with
  | .obj C1 _ _ => if C1 = C then onDs [r1] fun ds => (f ds S1).noX.bd fun r S3 => onB r fun b => .ok b S3 else .bad
  | _ => .bad) := id rfl
theorem e_fListZ (fa : FA) (σ : Env) (S : Sto) : fListZ fa σ S = ((fa σ S).bd fun rs S1 => match rs with
  | [r1, r2] => (match r1.rd S1, r2.rd S1 with
    | .lst ds, .lst es => if ds.length ≤ 1000 then .ok (.fr (.lst (zpD ds es))) S1 else .bad
    | _, _ => .bad)
  | _ => .bad) := id rfl
theorem e_fOwnR (C : Str) (f : Fn) (fa fb : FE) (σ : Env) (S : Sto) : fOwnR C f fa fb σ S = ((fa σ S).bd fun r1 S1 => (fb σ S1).bd fun r2 S2 => match r1, r2.rd S2 with
  | .v (.int i), .obj C1 _ _ => if C1 = C then onDs [r2, .v (.int i)] fun ds => f ds S2 else .bad
  | _, _ => .bad) := id rfl
theorem e_fAbsO (C : Str) (f : Fn) (fa : FE) (σ : Env) (S : Sto) : fAbsO C f fa σ S = ((fa σ S).bd fun r1 S1 => match r1.rd S1 with
  | .obj C1 _ _ => if C1 = C then onDs [r1] fun ds => (f ds S1).noX else .bad
  | _ => .bad) := id rfl
theorem e_fListO (C fld : Str) (f : Fn) (fa : FE) (σ : Env) (S : Sto) : fListO C fld f fa σ S = ((fa σ S).bd fun r S1 => match r with
  | .v d => (match (Rv.v d).rd S1 with
    | .obj C1 ns ds => (match getF ns ds fld with
      | some d2 => (match (Rv.v d2).rd S1 with
        | .lst _ => if C1 = C then (f [d] S1).noX.bd (onLst d2) else .bad
        | _ => .bad)
      | none => .bad)
    | _ => .bad)
  | _ => .bad) := id rfl
theorem e_fMakeXV (i : Nat) (f : FIn) (fa : FA) (σ : Env) (S : Sto) : fMakeXV i f fa σ S = (match σ[i]? with
  | some (some .exn) => fMakeX f fa σ S
  | _ => .bad) := id rfl
theorem e_fOwnAug (C : Str) (f : Fn) (i : Nat) (fb : FE) (σ : Env) (S : Sto) : fOwnAug C f i fb σ S = (match σ[i]? with
  | some (some (.v d)) => (fb σ S).so σ fun r2 S2 => match (Rv.v d).rd S2, toDs [.v d, r2] with
    | .obj C1 _ _, some ds => if C1 = C then (f ds S2).so σ (augV i σ) else .bad
    | _, _ => .bad
  | _ => .bad) := id rfl
theorem e_fIsE (C : Str) (b : Bool) (e : Exn) (i : Nat) (σ : Env) (S : Sto) : fIsE C b e i σ S = (match σ[i]? with
  | some (some .exn) => if e.C = C then .ok (.v (.bl b)) S else .bad
  | _ => .bad) := id rfl
theorem e_fAugI (C : Int → Int → Bool) (f : Int → Int → Int) (i : Nat) (fb : FE) (σ : Env) (S : Sto) : fAugI C f i fb σ S = (match σ[i]? with
  | some (some (.v (.int a))) => (fb σ S).so σ fun r2 S2 => augI C f i σ a r2 S2
  | _ => .bad) := id rfl
theorem e_fTupRg (fe : FE) (σ : Env) (S : Sto) : fTupRg fe σ S = ((fe σ S).bd fun r S1 => match r with
  | .v (.int n) => if 0 ≤ n ∧ n ≤ 1000000 then .ok (.v (.tup (rgD n))) S1 else .bad
  | _ => .bad) := id rfl
theorem e_fCallV0 (i : Nat) (f : Fn) (σ : Env) (S : Sto) : fCallV0 i f σ S = (match σ[i]? with
  | some (some .exn) => fCallS f fNil σ S
  | _ => .bad) := id rfl
def So.sq (o : So) (g : FS) : So := match o with
  | .nx σ S => g σ S
  | o => o
section
variable {α β : Type} {σ : Env} {S : Sto} {r : Rv} {e : Exn} {a : α} {g : FS}
theorem e_fSeq (f g : FS) (σ : Env) (S : Sto) : fSeq f g σ S = (f σ S).sq g := id rfl
theorem sq_nx : (So.nx σ S).sq g = g σ S := id rfl
theorem sq_rt : (So.rt r S).sq g = .rt r S := id rfl
theorem sq_bk : (So.bk σ S).sq g = .bk σ S := id rfl
theorem sq_ct : (So.ct σ S).sq g = .ct σ S := id rfl
theorem sq_ex : (So.ex e σ S).sq g = .ex e σ S := id rfl
theorem sq_bad : So.bad.sq g = .bad := id rfl
theorem bd_ok {f : α → Sto → Ev β} : (Ev.ok a S).bd f = f a S := id rfl
theorem bd_ex {f : α → Sto → Ev β} : (Ev.ex e S).bd f = .ex e S := id rfl
theorem bd_bad {f : α → Sto → Ev β} : (Ev.bad : Ev α).bd f = .bad := id rfl
theorem so_ok {f : α → Sto → So} : (Ev.ok a S).so σ f = f a S := id rfl
theorem so_ex {f : α → Sto → So} : (Ev.ex e S).so σ f = .ex e σ S := id rfl
theorem so_bad {f : α → Sto → So} : (Ev.bad : Ev α).so σ f = .bad := id rfl
theorem noX_ok : (Ev.ok a S).noX = .ok a S := id rfl
theorem noX_ex : (Ev.ex e S : Ev α).noX = .bad := id rfl
theorem noX_bad : (Ev.bad : Ev α).noX = .bad := id rfl
theorem onB_bl {b : Bool} {f : Bool → Ev α} : onB (.v (.bl b)) f = f b := id rfl
theorem onD_v {d : Da} {f : Da → Ev α} : onD (.v d) f = f d := id rfl
theorem onD_fr {d : Da} {f : Da → Ev α} : onD (.fr d) f = f d := id rfl
theorem onDs_0 {f : List Da → Ev α} : onDs [] f = f [] := id rfl
theorem toDs_v {d : Da} {rs : List Rv} : toDs (.v d :: rs) = (toDs rs).map (d :: ·) := by
  show (match some d, toDs rs with | some d, some ds => some (d :: ds) | _, _ => none) = _
  cases toDs rs <;> rfl
theorem toDs_fr {d : Da} {rs : List Rv} : toDs (.fr d :: rs) = (toDs rs).map (d :: ·) := by
  show (match some d, toDs rs with | some d, some ds => some (d :: ds) | _, _ => none) = _
  cases toDs rs <;> rfl
theorem toDs_0 : toDs [] = some [] := id rfl
theorem ofString_inj {a b : String} : (Str.ofString a = Str.ofString b) = (a = b) := by
  refine propext ⟨fun h => ?_, fun h => h ▸ rfl⟩
  have h1 : cpsOfBytes 0 0 a.toByteArray.data.toList = cpsOfBytes 0 0 b.toByteArray.data.toList := by have h2 := congrArg Array.toList (Str.mk.inj h); simpa using h2
  rw [cpsOfBytes_string, cpsOfBytes_string] at h1
  have h2 : a.toList = b.toList := by
    have inj : ∀ (x y : List Char), x.map Char.toNat = y.map Char.toNat → x = y := by
      intro x
      induction x with
      | nil => intro y h; cases y <;> simp_all
      | cons c x ih =>
        intro y h
        cases y with
        | nil => simp at h
        | cons d y =>
          simp only [List.map_cons, List.cons.injEq] at h
          rw [ih y h.2, Char.toNat_inj.mp h.1]
    exact inj _ _ h1
  exact String.toList_inj.mp h2
theorem getF_cons {n f : Str} {ns : List Str} {d : Da} {ds : List Da} : getF (n :: ns) (d :: ds) f = if f = n then some d else getF ns ds f := by
  unfold getF
  rw [List.zip_cons_cons, List.lookup_cons]
  by_cases h : f = n
  · subst h; simp
  · rw [if_neg h, beq_eq_false_iff_ne.mpr h]
def onO (o : Option β) (f : β → Ev α) : Ev α := match o with
  | some x => f x
  | none => .bad
theorem e_onDs {rs : List Rv} {f : List Da → Ev α} : onDs rs f = onO (toDs rs) f := by unfold onDs onO; cases toDs rs <;> rfl
theorem e_onLs {rs : List Rv} {f : List Da → Ev α} : onLs rs f = onO (lendDs rs) f := by unfold onLs onO; cases lendDs rs <;> rfl
theorem lendDs_v {d : Da} {rs : List Rv} : lendDs (.v d :: rs) = (lendDs rs).map (d :: ·) := by
  show (match some d, lendDs rs with | some d, some ds => some (d :: ds) | _, _ => none) = _
  cases lendDs rs <;> rfl
theorem lendDs_fr {d : Da} {rs : List Rv} : lendDs (.fr d :: rs) = (lendDs rs).map (d :: ·) := by
  show (match some d, lendDs rs with | some d, some ds => some (d :: ds) | _, _ => none) = _
  cases lendDs rs <;> rfl
theorem lendDs_bo {l : List Da} {rs : List Rv} : lendDs (.bo (.lst l) :: rs) = (lendDs rs).map (.lst l :: ·) := by
  show (match some (Da.lst l), lendDs rs with | some d, some ds => some (d :: ds) | _, _ => none) = _
  cases lendDs rs <;> rfl
theorem lendDs_0 : lendDs [] = some [] := id rfl
theorem chkL_ok : chkL (.ok r S) = if r.noL = true ∧ stoNoL S = true then .ok r S else .bad := id rfl
theorem chkT_ok {b : Bool} : chkT (.ok b S) = if stoFlat S = true then .ok b S else .bad := id rfl
theorem onK_int {i : Int} {f : Key → Ev α} : onK (.v (.int i)) f = f (.inl i) := id rfl
theorem onK_str {s : Str} {f : Key → Ev α} : onK (.v (.str s)) f = f (.inr s) := id rfl
theorem onO_some {x : β} {f : β → Ev α} : onO (some x) f = f x := id rfl
theorem omap_some {f : α → β} : Option.map f (some a) = some (f a) := id rfl
theorem e_endO (i : Nat) : endO i (.nx σ S) = if noExn (σ.set i none) = true then .nx (σ.set i none) S else .bad := id rfl
theorem e_endOr (i : Nat) : endO i (.rt r S) = .rt r S := id rfl
/-- a def's body at its arguments -/
def So.fin : So → Ev Rv
  | .nx _ S' => .ok (.v .non) S'
  | .rt r S' => .ok r S'
  | .ex e _ S' => .ex e S'
  | _ => .bad
def So.fin0 : So → Ev Rv
  | .nx _ S' => .ok (.v .non) S'
  | .rt r S' => .ok r S'
  | _ => .bad
theorem fin_nx : (So.nx σ S).fin = .ok (.v .non) S := id rfl
theorem fin_rt : (So.rt r S).fin = .ok r S := id rfl
theorem fin_ex : (So.ex e σ S).fin = .ex e S := id rfl
theorem fin0_nx : (So.nx σ S).fin0 = .ok (.v .non) S := id rfl
theorem fin0_rt : (So.rt r S).fin0 = .ok r S := id rfl
theorem e_fnOf (n k : Nat) (body : FS) (ds : List Da) (S : Sto) : fnOf n k body ds S = if ds.length = n then (body (ds.map (fun d => some (.v d)) ++ List.replicate (k - n) none) S).fin else .bad := by
  unfold fnOf So.fin; rfl
theorem e_fnOf0 (n k : Nat) (body : FS) (ds : List Da) (S : Sto) : fnOf0 n k body ds S = if ds.length = n then (body (ds.map (fun d => some (.v d)) ++ List.replicate (k - n) none) S).fin0 else .bad := by
  unfold fnOf0 So.fin0; rfl
end
end Cl

/-! ## Evm -/
namespace Cl
open PySem PySem.Spec PyProof.Rows L2
/-! ## comprehensions, loops -/
section
variable {α : Type} {fg : FG} {ft : FT} {fe : FE} {σ : Env} {fb : FS}
/-- a comprehension whose parts change nothing -/
theorem lc_pure (F : α → Da) (g : α → Bool) (h : α → Da) (σ1 : α → Env) {S : Sto} : ∀ {l : List α} {acc : List Da}, (∀ x ∈ l, fg (F x) σ = some (σ1 x) ∧ ft (σ1 x) S = .ok (g x) S ∧ (g x = true → ∃ r, fe (σ1 x) S = .ok r S ∧ r.toD = some (h x))) → acc.length + l.length ≤ 1000000 →
    foldLc fg ft fe σ (l.map F) acc S = .ok (acc ++ (l.filter g).map h) S
  | [], acc, _, _ => by simp [foldLc]
  | x :: l, acc, hx, hz => by
    obtain ⟨h1, h2, h3⟩ := hx x (by simp)
    have hr := fun y hy => hx y (List.mem_cons_of_mem x hy)
    simp only [List.map_cons, foldLc, h1, h2, Ev.noX, Ev.bd]
    cases hg : g x with
    | true =>
      obtain ⟨r, h4, h5⟩ := h3 hg
      have hl : acc.length < 1000000 := by simp at hz; omega
      simp only [if_true, h4, Ev.noX, Ev.bd, onD, h5, hl]
      rw [lc_pure F g h σ1 hr (by simp at hz ⊢; omega)]
      simp [hg]
    | false =>
      simp only [Bool.false_eq_true, if_false]
      rw [lc_pure F g h σ1 hr (by simp at hz ⊢; omega)]
      simp [hg]
/-- a comprehension by an invariant -/
theorem lc_inv (P : Nat → List Da → Sto → Prop) : ∀ {items : List Da} {n : Nat} {acc : List Da} {S : Sto}, P n acc S → acc.length + items.length ≤ 1000000 →
    (∀ (i : Nat) d acc S, items[i]? = some d → P (n + i) acc S → ∃ σ1 b S1, fg d σ = some σ1 ∧ ft σ1 S = .ok b S1 ∧ (b = false → P (n + i + 1) acc S1) ∧ (b = true → ∃ r y S2, fe σ1 S1 = .ok r S2 ∧ r.toD = some y ∧ P (n + i + 1) (acc ++ [y]) S2)) →
    ∃ acc' S', foldLc fg ft fe σ items acc S = .ok acc' S' ∧ P (n + items.length) acc' S'
  | [], n, acc, S, h0, _, _ => ⟨acc, S, rfl, h0⟩
  | d :: items, n, acc, S, h0, hz, hs => by
    obtain ⟨σ1, b, S1, h1, h2, h3, h4⟩ := hs 0 d acc S rfl h0
    have hr : ∀ (i : Nat) d acc S, items[i]? = some d → P (n + 1 + i) acc S → _ := fun i d acc S e hp => hs (i + 1) d acc S (by simpa using e) (by rw [show n + (i + 1) = n + 1 + i by omega]; exact hp)
    have hr' : ∀ (i : Nat) d acc S, items[i]? = some d → P (n + 1 + i) acc S → ∃ σ1 b S1, fg d σ = some σ1 ∧ ft σ1 S = .ok b S1 ∧ (b = false → P (n + 1 + i + 1) acc S1) ∧ (b = true → ∃ r y S2, fe σ1 S1 = .ok r S2 ∧ r.toD = some y ∧ P (n + 1 + i + 1) (acc ++ [y]) S2) := fun i d acc S e hp => by
      have := hr i d acc S e hp
      rw [show n + (i + 1) + 1 = n + 1 + i + 1 by omega] at this
      exact this
    have el : n + (d :: items).length = n + 1 + items.length := by simp; omega
    rw [el]
    cases b with
    | true =>
      obtain ⟨r, y, S2, h5, h6, h7⟩ := h4 rfl
      have hl : acc.length < 1000000 := by simp at hz; omega
      obtain ⟨acc', S', h8, h9⟩ := lc_inv P (items := items) (n := n + 1) (acc := acc ++ [y]) (S := S2) h7 (by simp at hz ⊢; omega) hr'
      refine ⟨acc', S', ?_, h9⟩
      simp only [foldLc, h1, h2, Ev.noX, Ev.bd, if_true, h5, onD, h6, hl]
      exact h8
    | false =>
      obtain ⟨acc', S', h8, h9⟩ := lc_inv P (items := items) (n := n + 1) (acc := acc) (S := S1) (h3 rfl) (by simp at hz ⊢; omega) hr'
      refine ⟨acc', S', ?_, h9⟩
      simp only [foldLc, h1, h2, Ev.noX, Ev.bd, Bool.false_eq_true, if_false]
      exact h8
/-- a for that goes through -/
theorem for_inv (P : Nat → Env → Sto → Prop) : ∀ {items : List Da} {n : Nat} {σ : Env} {S : Sto}, P n σ S →
    (∀ (i : Nat) d σ S, items[i]? = some d → P (n + i) σ S → ∃ σ1 σ2 S2, fg d σ = some σ1 ∧ (fb σ1 S = .nx σ2 S2 ∨ fb σ1 S = .ct σ2 S2) ∧ P (n + i + 1) σ2 S2) →
    ∃ σ' S', foldFor fg fb items σ S = .nx σ' S' ∧ P (n + items.length) σ' S'
  | [], n, σ, S, h0, _ => ⟨σ, S, rfl, h0⟩
  | d :: items, n, σ, S, h0, hs => by
    obtain ⟨σ1, σ2, S2, h1, h2, h3⟩ := hs 0 d σ S rfl h0
    have hr : ∀ (i : Nat) d σ S, items[i]? = some d → P (n + 1 + i) σ S → ∃ σ1 σ2 S2, fg d σ = some σ1 ∧ (fb σ1 S = .nx σ2 S2 ∨ fb σ1 S = .ct σ2 S2) ∧ P (n + 1 + i + 1) σ2 S2 := fun i d σ S e hp => by
      have := hs (i + 1) d σ S (by simpa using e) (by rw [show n + (i + 1) = n + 1 + i by omega]; exact hp)
      rw [show n + (i + 1) + 1 = n + 1 + i + 1 by omega] at this
      exact this
    obtain ⟨σ', S', h4, h5⟩ := for_inv P (items := items) (n := n + 1) (σ := σ2) (S := S2) h3 hr
    refine ⟨σ', S', ?_, by rw [show n + (d :: items).length = n + 1 + items.length by simp; omega]; exact h5⟩
    rcases h2 with h2 | h2 <;> simp only [foldFor, h1, h2] <;> exact h4
/-- a turn goes on, and then Q holds -/
def NxP (Q : Env → Sto → Prop) : So → Prop
  | .nx σ S => Q σ S
  | .ct σ S => Q σ S
  | _ => False
theorem nx_of {Q : Env → Sto → Prop} {o : So} {σ : Env} {S : Sto} (h : o = .nx σ S) (q : Q σ S) : NxP Q o := by rw [h]; exact q
theorem ct_of {Q : Env → Sto → Prop} {o : So} {σ : Env} {S : Sto} (h : o = .ct σ S) (q : Q σ S) : NxP Q o := by rw [h]; exact q
theorem for_in (P : Nat → Env → Sto → Prop) {items : List Da} {σ : Env} {S : Sto} (h0 : P 0 σ S)
    (hs : ∀ (i : Nat) d σ S, items[i]? = some d → P i σ S → ∃ σ1, fg d σ = some σ1 ∧ NxP (P (i + 1)) (fb σ1 S)) :
    ∃ σ' S', foldFor fg fb items σ S = .nx σ' S' ∧ P items.length σ' S' := by
  have := for_inv (fg := fg) (fb := fb) P (items := items) (n := 0) (σ := σ) (S := S) h0 (fun i d σ S e hp => by
    rw [Nat.zero_add] at hp
    obtain ⟨σ1, h1, h2⟩ := hs i d σ S e hp
    rw [Nat.zero_add]
    revert h2
    cases h3 : fb σ1 S with
    | nx σ2 S2 => exact fun h2 => ⟨σ1, σ2, S2, h1, .inl h3, h2⟩
    | ct σ2 S2 => exact fun h2 => ⟨σ1, σ2, S2, h1, .inr h3, h2⟩
    | rt r S2 => exact fun h2 => h2.elim
    | bk σ2 S2 => exact fun h2 => h2.elim
    | ex e σ2 S2 => exact fun h2 => h2.elim
    | bad => exact fun h2 => h2.elim)
  rw [Nat.zero_add] at this
  exact this
/-- a for that may return, break or raise -/
def OutP (N B : Env → Sto → Prop) (R : Rv → Sto → Prop) (X : Exn → Sto → Prop) : So → Prop
  | .nx σ S => N σ S
  | .ct σ S => N σ S
  | .bk σ S => B σ S
  | .rt r S => R r S
  | .ex e _ S => X e S
  | .bad => False
theorem on_of {N B : Env → Sto → Prop} {R : Rv → Sto → Prop} {X : Exn → Sto → Prop} {o : So} {σ : Env} {S : Sto} (h : o = .nx σ S) (q : N σ S) : OutP N B R X o := by rw [h]; exact q
theorem oc_of {N B : Env → Sto → Prop} {R : Rv → Sto → Prop} {X : Exn → Sto → Prop} {o : So} {σ : Env} {S : Sto} (h : o = .ct σ S) (q : N σ S) : OutP N B R X o := by rw [h]; exact q
theorem ob_of {N B : Env → Sto → Prop} {R : Rv → Sto → Prop} {X : Exn → Sto → Prop} {o : So} {σ : Env} {S : Sto} (h : o = .bk σ S) (q : B σ S) : OutP N B R X o := by rw [h]; exact q
theorem or_of {N B : Env → Sto → Prop} {R : Rv → Sto → Prop} {X : Exn → Sto → Prop} {o : So} {r : Rv} {S : Sto} (h : o = .rt r S) (q : R r S) : OutP N B R X o := by rw [h]; exact q
theorem ox_of {N B : Env → Sto → Prop} {R : Rv → Sto → Prop} {X : Exn → Sto → Prop} {o : So} {e : Exn} {σ : Env} {S : Sto} (h : o = .ex e σ S) (q : X e S) : OutP N B R X o := by rw [h]; exact q
theorem for_out (P : Nat → Env → Sto → Prop) (B : Env → Sto → Prop) (R : Rv → Sto → Prop) (X : Exn → Sto → Prop) {items : List Da} {σ : Env} {S : Sto} (h0 : P 0 σ S)
    (hs : ∀ (i : Nat) d σ S, items[i]? = some d → P i σ S → ∃ σ1, fg d σ = some σ1 ∧ OutP (P (i + 1)) B R X (fb σ1 S)) :
    (∃ σ' S', foldFor fg fb items σ S = .nx σ' S' ∧ (P items.length σ' S' ∨ B σ' S')) ∨ (∃ r S', foldFor fg fb items σ S = .rt r S' ∧ R r S') ∨ (∃ e σ' S', foldFor fg fb items σ S = .ex e σ' S' ∧ X e S') := by
  have key : ∀ (items : List Da) (n : Nat) (σ : Env) (S : Sto), P n σ S → (∀ (i : Nat) d σ S, items[i]? = some d → P (n + i) σ S → ∃ σ1, fg d σ = some σ1 ∧ OutP (P (n + i + 1)) B R X (fb σ1 S)) →
      (∃ σ' S', foldFor fg fb items σ S = .nx σ' S' ∧ (P (n + items.length) σ' S' ∨ B σ' S')) ∨ (∃ r S', foldFor fg fb items σ S = .rt r S' ∧ R r S') ∨ (∃ e σ' S', foldFor fg fb items σ S = .ex e σ' S' ∧ X e S') := by
    intro items
    induction items with
    | nil => exact fun n σ S h0 _ => .inl ⟨σ, S, rfl, .inl h0⟩
    | cons d items ih =>
      intro n σ S h0 hs
      obtain ⟨σ1, h1, h2⟩ := hs 0 d σ S rfl h0
      have hr : ∀ (i : Nat) d σ S, items[i]? = some d → P (n + 1 + i) σ S → ∃ σ1, fg d σ = some σ1 ∧ OutP (P (n + 1 + i + 1)) B R X (fb σ1 S) := fun i d σ S e hp => by
        have := hs (i + 1) d σ S (by simpa using e) (by rw [show n + (i + 1) = n + 1 + i by omega]; exact hp)
        rw [show n + (i + 1) + 1 = n + 1 + i + 1 by omega] at this
        exact this
      have el : n + (d :: items).length = n + 1 + items.length := by simp; omega
      rw [el]
      simp only [foldFor, h1]
      revert h2
      cases h3 : fb σ1 S with
      | nx σ2 S2 => exact fun h2 => ih (n + 1) σ2 S2 h2 hr
      | ct σ2 S2 => exact fun h2 => ih (n + 1) σ2 S2 h2 hr
      | rt r S2 => exact fun h2 => .inr (.inl ⟨r, S2, rfl, h2⟩)
      | bk σ2 S2 => exact fun h2 => .inl ⟨σ2, S2, rfl, .inr h2⟩
      | ex e σ2 S2 => exact fun h2 => .inr (.inr ⟨e, σ2, S2, rfl, h2⟩)
      | bad => exact fun h2 => h2.elim
  have := key items 0 σ S h0 (fun i d σ S e hp => by
    rw [Nat.zero_add] at hp ⊢
    exact hs i d σ S e hp)
  rw [Nat.zero_add] at this
  exact this
/-- a for that may return or break: Q says so -/
def StepP (N B : Env → Sto → Prop) (R : Rv → Sto → Prop) : So → Prop
  | .nx σ S => N σ S
  | .ct σ S => N σ S
  | .bk σ S => B σ S
  | .rt r S => R r S
  | _ => False
theorem sx_of {N B : Env → Sto → Prop} {R : Rv → Sto → Prop} {o : So} {σ : Env} {S : Sto} (h : o = .nx σ S) (q : N σ S) : StepP N B R o := by rw [h]; exact q
theorem sc_of {N B : Env → Sto → Prop} {R : Rv → Sto → Prop} {o : So} {σ : Env} {S : Sto} (h : o = .ct σ S) (q : N σ S) : StepP N B R o := by rw [h]; exact q
theorem sb_of {N B : Env → Sto → Prop} {R : Rv → Sto → Prop} {o : So} {σ : Env} {S : Sto} (h : o = .bk σ S) (q : B σ S) : StepP N B R o := by rw [h]; exact q
theorem sr_of {N B : Env → Sto → Prop} {R : Rv → Sto → Prop} {o : So} {r : Rv} {S : Sto} (h : o = .rt r S) (q : R r S) : StepP N B R o := by rw [h]; exact q
theorem for_st (P : Nat → Env → Sto → Prop) (B : Env → Sto → Prop) (R : Rv → Sto → Prop) : ∀ {items : List Da} {n : Nat} {σ : Env} {S : Sto}, P n σ S →
    (∀ (i : Nat) d σ S, items[i]? = some d → P (n + i) σ S → ∃ σ1, fg d σ = some σ1 ∧ StepP (P (n + i + 1)) B R (fb σ1 S)) →
    (∃ σ' S', foldFor fg fb items σ S = .nx σ' S' ∧ (P (n + items.length) σ' S' ∨ B σ' S')) ∨ (∃ r S', foldFor fg fb items σ S = .rt r S' ∧ R r S')
  | [], n, σ, S, h0, _ => .inl ⟨σ, S, rfl, .inl h0⟩
  | d :: items, n, σ, S, h0, hs => by
    obtain ⟨σ1, h1, h2⟩ := hs 0 d σ S rfl h0
    have hr : ∀ (i : Nat) d σ S, items[i]? = some d → P (n + 1 + i) σ S → ∃ σ1, fg d σ = some σ1 ∧ StepP (P (n + 1 + i + 1)) B R (fb σ1 S) := fun i d σ S e hp => by
      have := hs (i + 1) d σ S (by simpa using e) (by rw [show n + (i + 1) = n + 1 + i by omega]; exact hp)
      rw [show n + (i + 1) + 1 = n + 1 + i + 1 by omega] at this
      exact this
    have el : n + (d :: items).length = n + 1 + items.length := by simp; omega
    rw [el]
    simp only [foldFor, h1]
    revert h2
    cases h3 : fb σ1 S with
    | nx σ2 S2 => exact fun h2 => for_st P B R (items := items) (n := n + 1) (σ := σ2) (S := S2) h2 hr
    | ct σ2 S2 => exact fun h2 => for_st P B R (items := items) (n := n + 1) (σ := σ2) (S := S2) h2 hr
    | rt r S2 => exact fun h2 => .inr ⟨r, S2, rfl, h2⟩
    | bk σ2 S2 => exact fun h2 => .inl ⟨σ2, S2, rfl, .inr h2⟩
    | ex e σ2 S2 => exact fun h2 => h2.elim
    | bad => exact fun h2 => h2.elim
/-- a while that ends: P at each test; its number falls -/
theorem while_ix {fc : FT} (P : Nat → Env → Sto → Prop) : ∀ {n k : Nat} {σ : Env} {S : Sto}, P k σ S → k < n →
    (∀ k σ S, P k σ S → ∃ b S1, fc σ S = .ok b S1 ∧ (b = false → S1 = S) ∧ (b = true → NxP (fun σ2 S2 => ∃ k', k' < k ∧ P k' σ2 S2) (fb σ S1))) →
    ∃ k' σ' S', foldWh fc fb n σ S = .nx σ' S' ∧ P k' σ' S' ∧ fc σ' S' = .ok false S'
  | 0, _, _, _, _, h, _ => absurd h (by omega)
  | n + 1, k, σ, S, h0, hm, hs => by
    obtain ⟨b, S1, h1, h2, h3⟩ := hs k σ S h0
    simp only [foldWh, h1, Ev.so]
    cases b with
    | false =>
      have := h2 rfl
      subst this
      exact ⟨k, σ, S1, rfl, h0, h1⟩
    | true =>
      simp only [if_true]
      have h4 := h3 rfl
      revert h4
      cases h5 : fb σ S1 with
      | nx σ2 S2 => exact fun ⟨k', h6, h7⟩ => while_ix P (n := n) (k := k') h7 (by omega) hs
      | ct σ2 S2 => exact fun ⟨k', h6, h7⟩ => while_ix P (n := n) (k := k') h7 (by omega) hs
      | rt r S2 => exact fun h4 => h4.elim
      | bk σ2 S2 => exact fun h4 => h4.elim
      | ex e σ2 S2 => exact fun h4 => h4.elim
      | bad => exact fun h4 => h4.elim
/-- a while that ends: P at each test; m falls -/
theorem while_in {fc : FT} (P : Env → Sto → Prop) (m : Env → Sto → Nat) : ∀ {n : Nat} {σ : Env} {S : Sto}, P σ S → m σ S < n →
    (∀ σ S, P σ S → ∃ b S1, fc σ S = .ok b S1 ∧ (b = false → S1 = S) ∧ (b = true → NxP (fun σ2 S2 => P σ2 S2 ∧ m σ2 S2 < m σ S) (fb σ S1))) →
    ∃ σ' S', foldWh fc fb n σ S = .nx σ' S' ∧ P σ' S' ∧ fc σ' S' = .ok false S'
  | 0, _, _, _, h, _ => absurd h (by omega)
  | n + 1, σ, S, h0, hm, hs => by
    obtain ⟨b, S1, h1, h2, h3⟩ := hs σ S h0
    simp only [foldWh, h1, Ev.so]
    cases b with
    | false =>
      have := h2 rfl
      subst this
      exact ⟨σ, S1, rfl, h0, h1⟩
    | true =>
      simp only [if_true]
      have h4 := h3 rfl
      revert h4
      cases h5 : fb σ S1 with
      | nx σ2 S2 => exact fun h4 => while_in P m (n := n) h4.1 (by have := h4.2; omega) hs
      | ct σ2 S2 => exact fun h4 => while_in P m (n := n) h4.1 (by have := h4.2; omega) hs
      | rt r S2 => exact fun h4 => h4.elim
      | bk σ2 S2 => exact fun h4 => h4.elim
      | ex e σ2 S2 => exact fun h4 => h4.elim
      | bad => exact fun h4 => h4.elim
end
section
variable {α : Type}
theorem bools_map (p : α → Bool) : ∀ l : List α, bools (l.map fun x => .bl (p x)) = some (l.map p)
  | [] => rfl
  | x :: l => by simp [bools, bools_map p l]
theorem intsD_map (p : α → Int) : ∀ l : List α, intsD (l.map fun x => .int (p x)) = some (l.map p)
  | [] => rfl
  | x :: l => by simp [intsD, intsD_map p l]
theorem strsD_map (p : α → Str) : ∀ l : List α, strsD (l.map fun x => .str (p x)) = some (l.map p)
  | [] => rfl
  | x :: l => by simp [strsD, strsD_map p l]
theorem rgD_at {n : Int} {i : Nat} {d : Da} (h : (rgD n)[i]? = some d) : d = .int (i : Nat) ∧ (i : Int) < n := by
  unfold rgD at h
  rw [List.getElem?_map] at h
  cases e : (List.range n.toNat)[i]? with
  | none => rw [e] at h; cases h
  | some k =>
    rw [e] at h
    have hi := (List.getElem?_eq_some_iff.mp e).1
    rw [List.length_range] at hi
    rw [List.getElem?_range hi] at e
    cases e; cases h
    exact ⟨rfl, by omega⟩
theorem rgD_len (n : Int) : (rgD n).length = n.toNat := by unfold rgD; simp
end
end Cl

/-! ## ComTx -/

namespace Cl
open PySem PySem.Spec PyProof.Rows L2
abbrev N_l_same : List Str := ["_law_got", "_law_due", "_law_k"]
def t_l_same (K : PySem.W.Frag) (sp : Sp) : TS :=
  (tSeq (tIfS (tOr (tB (tCB (rIsi K) (tCons (tVar 0) (tCons (tC (.ty "bool")) tNil)))) (tB (tCB (rIsi K) (tCons (tVar 1) (tCons (tC (.ty "bool")) tNil))))) (tRet (tAndV (tCB (rIsi K) (tCons (tVar 0) (tCons (tC (.ty "bool")) tNil))) (tAndV (tCB (rIsi K) (tCons (tVar 1) (tCons (tC (.ty "bool")) tNil))) (tOp rEq (tVar 0) (tVar 1))))) tNext)
    (tSeq (tIfS (tOr (tTest (tOp rIsN (tVar 0) (tC .non))) (tTest (tOp rIsN (tVar 1) (tC .non)))) (tRet (tAndV (tOp rIsN (tVar 0) (tC .non)) (tOp rIsN (tVar 1) (tC .non)))) tNext)
    (tSeq (tIfS (tB (tCB (rIsi K) (tCons (tVar 1) (tCons (tC (.ty "int")) tNil)))) (tRet (tAndV (tCB (rIsi K) (tCons (tVar 0) (tCons (tC (.ty "int")) tNil))) (tOp rEq (tVar 0) (tVar 1)))) tNext)
    (tSeq (tIfS (tB (tCB (rIsi K) (tCons (tVar 1) (tCons (tC (.ty "str")) tNil)))) (tRet (tAndV (tCB (rIsi K) (tCons (tVar 0) (tCons (tC (.ty "str")) tNil))) (tOp rEq (tVar 0) (tVar 1)))) tNext)
    (tSeq (tIfS (tAnd (tB (tCB (rIsi K) (tCons (tVar 1) (tCons (tC (.ty "list")) tNil)))) (tNot (tB (tCB (rIsi K) (tCons (tVar 0) (tCons (tC (.ty "list")) tNil)))))) (tRet (tC (.bl false))) tNext)
    (tSeq (tIfS (tAnd (tB (tCB (rIsi K) (tCons (tVar 1) (tCons (tC (.ty "tuple")) tNil)))) (tNot (tB (tCB (rIsi K) (tCons (tVar 0) (tCons (tC (.ty "tuple")) tNil)))))) (tRet (tC (.bl false))) tNext)
    (tSeq (tIfS (tTest (tOp rNe (tCB (rLen K) (tCons (tVar 0) tNil)) (tCB (rLen K) (tCons (tVar 1) tNil)))) (tRet (tC (.bl false))) tNext)
    (tSeq (tFor (iRng1 (tCons (tCB (rLen K) (tCons (tVar 1) tNil)) tNil)) (gName 2) (tIfS (tNot (tB (tCall (sp) [] E0 (tCons (tOp (rIx K) (tVar 0) (tVar 2)) (tCons (tOp (rIx K) (tVar 1) (tVar 2)) tNil))))) (tRet (tC (.bl false))) tNext))
    (tRet (tC (.bl true)))))))))))
end Cl

/-! ## Same -/
namespace Cl
open PySem PySem.Spec PyProof.Rows L2
/-! ### the walk's own lines: "c" a side condition, "h" what stands at an address, "s" a list that is read, "at" an item, "v" a value, "a" an answer, "ar" arguments -/
local macro_rules | `(tactic| walk_at "c") => `(tactic| first | assumption | (with_reducible rfl) | decide | omega | exact Or.inr ⟨by first | decide | omega, by first | decide | omega⟩ | exact Or.inl ⟨by first | decide | omega, by first | decide | omega⟩ | exact ⟨by first | decide | omega, by first | decide | omega⟩ | exact ⟨by decide, by decide, by decide⟩)
local macro_rules | `(tactic| walk_at "ne") => `(tactic| first | assumption | (exact Ne.symm (by assumption)) | (exact ne_of_none (by assumption) (by assumption)) | (exact Ne.symm (ne_of_none (by assumption) (by assumption))))
local macro_rules | `(tactic| walk_at "h") => `(tactic| first | assumption | exact upd_same | (refine Eq.trans (upd_ne ?_) ?_; walk_at "ne"; walk_at "h"))
local macro_rules | `(tactic| walk_at "s") => `(tactic| first | assumption | (exact SqL.of (by walk_at "h")) | (exact SqT.of (by walk_at "h")))
local macro_rules | `(tactic| walk_at "at") => `(tactic| first | rfl | exact atI_ints (by omega) (by omega))
local macro_rules | `(tactic| walk_at "ty") => `(tactic| first | assumption | exact .base (.int _) | exact .base (.bl _) | exact .base .non | exact .base (.str _) | exact .base (.lst (by walk_at "h")) | exact .base (.tup (by walk_at "h")))
local macro_rules | `(tactic| walk_at "v") => `(tactic| first
  | (with_reducible exact val_c)
  | ((with_reducible apply val_var); rfl)
  | ((with_reducible apply v_I0); walk_at "v"; walk_at "v")
  | ((with_reducible apply v_I); walk_at "v"; walk_at "v"; walk_at "c")
  | ((with_reducible apply v_U); walk_at "v")
  | ((with_reducible apply v_eq); walk_at "v"; walk_at "v"; rfl)
  | ((with_reducible apply v_ne); walk_at "v"; walk_at "v"; rfl)
  | ((with_reducible apply v_ixL); walk_at "v"; walk_at "v"; walk_at "s"; walk_at "at")
  | ((with_reducible apply v_ixT); walk_at "v"; walk_at "v"; walk_at "s"; walk_at "at")
  | ((with_reducible apply v_ixS); walk_at "v"; walk_at "v"; assumption; walk_at "at")
  | ((with_reducible apply v_fld); walk_at "v"; walk_at "h"; assumption; assumption; walk_at "fl")
  | ((with_reducible apply v_len); walk_at "ar"; walk_at "s")
  | ((with_reducible apply v_lenS); walk_at "ar"; assumption)
  | ((with_reducible apply v_lenT); walk_at "ar"; walk_at "s")
  | ((with_reducible apply v_abs); walk_at "ar")
  | ((with_reducible apply v_max2); walk_at "ar")
  | ((with_reducible apply v_min2); walk_at "ar")
  | ((with_reducible apply v_intI); walk_at "ar")
  | ((with_reducible apply v_intB); walk_at "ar")
  | ((with_reducible apply v_chain); walk_at "v"; walk_at "v"; walk_at "v"; exact i_B0; exact i_B0)
  | ((with_reducible apply v_chain3); walk_at "v"; walk_at "v"; walk_at "v"; walk_at "v"; exact i_B0; exact i_B0; exact i_B0)
  | ((with_reducible apply v_andV); walk_at "v"; (intro _; walk_at "v"))
  | ((with_reducible apply v_orV); walk_at "v"; (intro _; walk_at "v"))
  | ((with_reducible apply v_notV); walk_at "v")
  | ((with_reducible apply v_isN); walk_at "v")
  | ((with_reducible apply v_notN); walk_at "v")
  | ((with_reducible apply v_isiT); walk_at "ar"; walk_at "ty"; decide +kernel)
  | ((with_reducible apply v_isiF); walk_at "ar"; walk_at "ty"; decide +kernel)
  | ((with_reducible apply v_if); walk_at "a"; (intro _; walk_at "v"); (intro _; walk_at "v")))
local macro_rules | `(tactic| walk_at "ar") => `(tactic| first
  | (with_reducible exact ar_nil)
  | ((with_reducible apply ar_cons); walk_at "v"; walk_at "ar"))
local macro_rules | `(tactic| walk_at "a") => `(tactic| first
  | ((with_reducible apply a_test); walk_at "v")
  | ((with_reducible apply a_B); walk_at "v")
  | ((with_reducible apply a_not); walk_at "a")
  | ((with_reducible apply a_and); walk_at "a"; (intro _; walk_at "a"))
  | ((with_reducible apply a_or); walk_at "a"; (intro _; walk_at "a")))
local macro_rules | `(tactic| walk_at "fl") => `(tactic| first | exact fl_events _ _ _ | exact fl_spans _ _ _ | exact fl_round _ _ _)
local macro_rules | `(tactic| walk_at "call") => `(tactic| refine g_call (g_args (by walk_at "ar") ?_))
/-! ## _law_same of the same data -/
def Da.dep : Nat → Da → Bool
  | _, .non => true
  | _, .bl _ => true
  | _, .int _ => true
  | _, .str _ => true
  | n + 1, .lst ds => decide (ds.length ≤ 1000000) && ds.all (Da.dep n)
  | n + 1, .tup ds => decide (ds.length ≤ 1000000) && ds.all (Da.dep n)
  | _, _ => false
mutual
/-- what stands there now, to be read only -/
inductive RepO (K : PySem.W.Frag) (H : Hp) : Da → V → Prop
  | non : RepO K H .non .non
  | bl (b : Bool) : RepO K H (.bl b) (.bl b)
  | int (i : Int) : RepO K H (.int i) (.int i)
  | str (s : Str) : RepO K H (.str s) (.str s)
  | tup {a : Addr} {vs : List V} {ds : List Da} : (Rd H a (.tup vs) ∨ KT K a vs) → RepOs K H ds vs → RepO K H (.tup ds) (.ref a)
  | lst {a : Addr} {vs : List V} {ds : List Da} : H a = some (.lst vs) → RepOs K H ds vs → RepO K H (.lst ds) (.ref a)
inductive RepOs (K : PySem.W.Frag) (H : Hp) : List Da → List V → Prop
  | nil : RepOs K H [] []
  | cons {d : Da} {v : V} {ds : List Da} {vs : List V} : RepO K H d v → RepOs K H ds vs → RepOs K H (d :: ds) (v :: vs)
end
theorem RepOs.length {K : PySem.W.Frag} {H : Hp} : ∀ {ds : List Da} {vs : List V}, RepOs K H ds vs → vs.length = ds.length
  | _, _, .nil => rfl
  | _, _, .cons _ r => by simp [RepOs.length r]
theorem RepOs.at' {K : PySem.W.Frag} {H : Hp} : ∀ {ds : List Da} {vs : List V}, RepOs K H ds vs → ∀ {i : Nat} {v : V}, vs[i]? = some v → ∃ d, ds[i]? = some d ∧ RepO K H d v
  | _, _, .nil, i, d, e => by simp at e
  | _, _, .cons h r, 0, d, e => by simp at e; subst e; exact ⟨_, rfl, h⟩
  | _, _, .cons h r, i + 1, d, e => by simpa using RepOs.at' r (i := i) (by simpa using e)
/-- cells read through -/
def res (S : Sto) : Nat → Da → Da
  | 0, d => d
  | k + 1, .cell n => res S k (S.getD n .non)
  | k + 1, .lst ds => .lst (ds.map (res S k))
  | k + 1, .tup ds => .tup (ds.map (res S k))
  | _, d => d
theorem res_dep {S : Sto} : ∀ {n : Nat} {d : Da} {k : Nat}, d.dep n = true → res S k d = d
  | n, .non, k, _ => by cases k <;> rfl
  | n, .bl _, k, _ => by cases k <;> rfl
  | n, .int _, k, _ => by cases k <;> rfl
  | n, .str _, k, _ => by cases k <;> rfl
  | 0, .lst _, k, h => by cases h
  | 0, .tup _, k, h => by cases h
  | n + 1, .lst ds, 0, _ => rfl
  | n + 1, .tup ds, 0, _ => rfl
  | n + 1, .lst ds, k + 1, h => by
    simp only [Da.dep, Bool.and_eq_true, decide_eq_true_eq, List.all_eq_true] at h
    have : ds.map (res S k) = ds := by
      conv => rhs; rw [← List.map_id ds]
      exact List.map_congr_left fun d hd => res_dep (n := n) (h.2 d hd)
    simp only [res, this]
  | n + 1, .tup ds, k + 1, h => by
    simp only [Da.dep, Bool.and_eq_true, decide_eq_true_eq, List.all_eq_true] at h
    have : ds.map (res S k) = ds := by
      conv => rhs; rw [← List.map_id ds]
      exact List.map_congr_left fun d hd => res_dep (n := n) (h.2 d hd)
    simp only [res, this]
  | n, .frl _, k, h => by cases n <;> cases h
  | n, .obj _ _ _, k, h => by cases n <;> cases h
  | n, .dic _ _, k, h => by cases n <;> cases h
  | n, .cell _, k, h => by cases n <;> cases h
section
variable {K : PySem.W.Frag} {w : Wd} {S : Sto}
theorem reps_o {f : Da → Da} {n : Nat} : ∀ {ds : List Da} {vs : List V}, Reps K w ds vs → (∀ d v, Rep K w d v → (f d).dep n = true → RepO K w.H (f d) v) → (ds.map f).all (Da.dep n) = true → RepOs K w.H (ds.map f) vs
  | _, _, .nil, _, _ => .nil
  | _, _, .cons h r, hf, hd => by
    simp only [List.map_cons, List.all_cons, Bool.and_eq_true] at hd
    exact .cons (hf _ _ h hd.1) (reps_o r hf hd.2)
theorem rep_o0 : ∀ {n : Nat} {d : Da} {v : V}, Rep K w d v → d.dep n = true → RepO K w.H d v := by
  intro n
  induction n with
  | zero =>
    intro d v h hd
    cases h with
    | non => exact .non
    | bl b => exact .bl b
    | int i => exact .int i
    | str s => exact .str s
    | _ => cases hd
  | succ n ih =>
    intro d v h hd
    cases h with
    | non => exact .non
    | bl b => exact .bl b
    | int i => exact .int i
    | str s => exact .str s
    | tup f r =>
      rename_i a vs ds
      simp only [Da.dep, Bool.and_eq_true, decide_eq_true_eq] at hd
      have := reps_o (f := id) r (fun d v h hd => ih h hd) (by rw [List.map_id]; exact hd.2)
      rw [List.map_id] at this
      exact .tup (f.elim (fun z => .inl z.1) .inr) this
    | lst e f r =>
      rename_i a vs ds
      simp only [Da.dep, Bool.and_eq_true, decide_eq_true_eq] at hd
      have := reps_o (f := id) r (fun d v h hd => ih h hd) (by rw [List.map_id]; exact hd.2)
      rw [List.map_id] at this
      exact .lst e this
    | _ => cases hd
theorem rep_o (st : StoR K w S) : ∀ {k n : Nat} {d : Da} {v : V}, Rep K w d v → (res S k d).dep n = true → RepO K w.H (res S k d) v := by
  intro k
  induction k using Nat.strongRecOn with
  | ind k ih =>
    intro n d v h hd
    cases k with
    | zero => exact rep_o0 h hd
    | succ k =>
      cases h with
      | non => exact .non
      | bl b => exact .bl b
      | int i => exact .int i
      | str s => exact .str s
      | tup f r =>
        rename_i a vs ds
        cases n with
        | zero => cases hd
        | succ n =>
          simp only [res, Da.dep, Bool.and_eq_true, decide_eq_true_eq] at hd
          exact .tup (f.elim (fun z => .inl z.1) .inr) (reps_o (f := res S k) r (fun d v h hd => ih k (Nat.lt_succ_self k) h hd) hd.2)
      | lst e f r =>
        rename_i a vs ds
        cases n with
        | zero => cases hd
        | succ n =>
          simp only [res, Da.dep, Bool.and_eq_true, decide_eq_true_eq] at hd
          exact .lst e (reps_o (f := res S k) r (fun d v h hd => ih k (Nat.lt_succ_self k) h hd) hd.2)
      | cell e =>
        rename_i a j
        have hj : j < S.length := by rw [← st.len]; exact (List.getElem?_eq_some_iff.mp e).1
        have hg : S[j]? = some (S.getD j .non) := by simp [List.getD_eq_getElem?_getD, hj]
        have c := st.at_ j a _ e hg
        show RepO K w.H (res S k (S.getD j .non)) (.ref a)
        have hd' : (res S k (S.getD j .non)).dep n = true := hd
        generalize S.getD j .non = x at c hd'
        cases x with
        | lst ds =>
          obtain ⟨vs, e2, r⟩ := c
          cases n with
          | zero => cases k <;> cases hd'
          | succ n =>
            cases k with
            | zero =>
              simp only [res, Da.dep, Bool.and_eq_true, decide_eq_true_eq] at hd'
              have := reps_o (f := id) r (fun d v h hd => rep_o0 h hd) (by rw [List.map_id]; exact hd'.2)
              rw [List.map_id] at this
              exact .lst e2 this
            | succ k =>
              simp only [res, Da.dep, Bool.and_eq_true, decide_eq_true_eq] at hd'
              exact .lst e2 (reps_o (f := res S k) r (fun d v h hd => ih k (by omega) h hd) hd'.2)
        | obj C ns ds => cases k <;> cases n <;> cases hd'
        | dic ks ds => cases k <;> cases n <;> cases hd'
        | _ => exact c.elim
      | _ => cases n <;> cases hd
end
def sp_l_same2_n (K : PySem.W.Frag) (n : Nat) : Sp := fun vs H Q _ => ∃ (x y : V) (d : Da), vs = [x, y] ∧ RepO K H d x ∧ RepO K H d y ∧ d.dep n = true ∧ Q (.bl true) H
def sp_l_same2_r (K : PySem.W.Frag) : Nat → Sp
  | 0 => fun _ _ _ _ => False
  | n + 1 => sp_l_same2_n K n
def sp_l_same2 (K : PySem.W.Frag) : Sp := fun vs H Q E => ∃ n, n < 8 ∧ sp_l_same2_n K n vs H Q E
theorem len_l_same2 {K : PySem.W.Frag} {n vs H Q E} (h : sp_l_same2_n K n vs H Q E) : vs.length = 2 := by obtain ⟨_, _, _, rfl, _⟩ := h; rfl
open Classical in
noncomputable def f_l_same : Fn := fun ds S => match ds with
  | [x, y] => if res S 12 x = res S 12 y ∧ (res S 12 x).dep 7 = true then .ok (.v (.bl true)) S else .bad
  | _ => .bad
theorem same_ok {x : Da} {S : Sto} (h : x.dep 7 = true) : f_l_same [x, x] S = .ok (.v (.bl true)) S := by
  simp [f_l_same, h, res_dep h]
theorem same_res {x y z : Da} {S : Sto} (h1 : res S 12 x = z) (h2 : res S 12 y = z) (h : z.dep 7 = true) : f_l_same [x, y] S = .ok (.v (.bl true)) S := by
  simp [f_l_same, h, h1, h2]
open Classical in
theorem same_of {K : PySem.W.Frag} {vs H Q E} (h : spOf K f_l_same vs H Q E) : sp_l_same2 K vs H Q E := by
  obtain ⟨w, S, ds, e, st, r, h⟩ := h
  unfold f_l_same at h
  split at h
  · rename_i x y
    obtain ⟨⟨hxy, hd⟩, h2⟩ := h.ite
    cases r with
    | cons r1 r2 =>
      cases r2 with
      | cons r2 r3 =>
        cases r3
        subst e
        exact ⟨7, by decide, _, _, res S 12 x, rfl, rep_o st r1 hd, by rw [hxy] at hd ⊢; exact rep_o st r2 hd, hd, h2 w _ (Le.refl _) st (.bl _)⟩
  · exact h.elim
theorem tyT {K : PySem.W.Frag} {H : Hp} {a : Addr} {vs : List V} (h : Rd H a (.tup vs) ∨ KT K a vs) : TyX K H (.ref a) (.type "tuple") := by
  rcases h with (h1 | ⟨o, h1⟩) | ⟨o, its, n, h1, h2, _⟩
  · exact .base (.tup h1)
  · exact .fTuple h1
  · exact .kTuple h1 h2
theorem same2_scal {K : PySem.W.Frag} {H : Hp} {Q : VK} {sp : Sp} {x : V} {A : String} (ht : TyX K H x (.type A)) (hq : Q (.bl true) H) (hA : (x = .non ∧ A = "NoneType") ∨ ((∃ b, x = .bl b) ∧ A = "bool") ∨ ((∃ i, x = .int i) ∧ A = "int") ∨ ((∃ s, x = .str s) ∧ A = "str")) :
    t_l_same K sp { nx := fun _ H' => Q .non H', rt := Q } [some x, some x, none] H := by
  rcases hA with ⟨rfl, rfl⟩ | ⟨⟨b, rfl⟩, rfl⟩ | ⟨⟨i, rfl⟩, rfl⟩ | ⟨⟨s, rfl⟩, rfl⟩
  · refine q_no (by walk_at "a") (by rfl) (q_yes (by walk_at "a") (by rfl) (g_ret (g_val (by walk_at "v") ?_)))
    simpa using hq
  · refine q_yes (by walk_at "a") (by rfl) (g_ret (g_val (by walk_at "v") ?_))
    simpa using hq
  · refine q_no (by walk_at "a") (by rfl) (q_no (by walk_at "a") (by rfl) (q_yes (by walk_at "a") (by rfl) (g_ret (g_val (by walk_at "v") ?_))))
    simpa using hq
  · refine q_no (by walk_at "a") (by rfl) (q_no (by walk_at "a") (by rfl) (q_no (by walk_at "a") (by rfl) (q_yes (by walk_at "a") (by rfl) (g_ret (g_val (by walk_at "v") ?_)))))
    simpa using hq
theorem same2_seq {K : PySem.W.Frag} {n : Nat} {H0 : Hp} {Q : VK} {a b : Addr} {us ws : List V} {ds : List Da} (hz : ds.length ≤ 1000000) (hd : ds.all (Da.dep n) = true) (ra : RepOs K H0 ds us) (rb : RepOs K H0 ds ws) (sa : SqL K H0 a us ∨ SqT K H0 a us) (sb : SqL K H0 b ws ∨ SqT K H0 b ws) (q : Q (.bl true) H0) :
    (tSeq (tIfS (tTest (tOp rNe (tCB (rLen K) (tCons (tVar 0) tNil)) (tCB (rLen K) (tCons (tVar 1) tNil)))) (tRet (tC (.bl false))) tNext)
    (tSeq (tFor (iRng1 (tCons (tCB (rLen K) (tCons (tVar 1) tNil)) tNil)) (gName 2) (tIfS (tNot (tB (tCall (sp_l_same2_n K n) [] E0 (tCons (tOp (rIx K) (tVar 0) (tVar 2)) (tCons (tOp (rIx K) (tVar 1) (tVar 2)) tNil))))) (tRet (tC (.bl false))) tNext))
    (tRet (tC (.bl true))))) { nx := fun _ H' => Q .non H', rt := Q } [some (.ref a), some (.ref b), none] H0 := by
  have la := ra.length
  have lb := rb.length
  have el : us.length = ws.length := la.trans lb.symm
  refine q_no (a_test (v_ne (v_lenS (ar_cons (val_var rfl) ar_nil) sa) (v_lenS (ar_cons (val_var rfl) ar_nil) sb) rfl)) ?_ ?_
  · simp [el]
  refine q_forR (ar_cons (v_lenS (ar_cons (val_var rfl) ar_nil) sb) ar_nil) ?_ (fun i σ' H' => H' = H0 ∧ ∃ k, σ' = [some (.ref a), some (.ref b), k]) ⟨rfl, _, rfl⟩ ?_ ?_
  · omega
  · rintro i σ' H' hi ⟨rfl, k, rfl⟩
    have h1 : i < us.length := by omega
    have h2 : i < ws.length := by omega
    have h3 : i < ds.length := by omega
    refine g_no (b := !true) (a_not ?_) rfl ⟨rfl, _, rfl⟩
    intro Q' q'
    refine g_B (g_call (g_args (ar_cons (v_ixS (v := us[i]) (val_var rfl) (val_var rfl) sa (atI_nat (List.getElem?_eq_getElem h1))) (ar_cons (v_ixS (v := ws[i]) (val_var rfl) (val_var rfl) sb (atI_nat (List.getElem?_eq_getElem h2))) ar_nil)) ?_))
    obtain ⟨d, e1, r1⟩ := ra.at' (List.getElem?_eq_getElem h1)
    obtain ⟨d', e2, r2⟩ := rb.at' (List.getElem?_eq_getElem h2)
    rw [e1] at e2; cases e2
    exact ⟨_, _, d, rfl, r1, r2, List.all_eq_true.mp hd d (List.mem_of_getElem? e1), true, rfl, q'⟩
  · rintro σ' H' ⟨rfl, k, rfl⟩
    exact q
theorem pure_l_same2 {K : PySem.W.Frag} {n : Nat} {vs H Q E} (h : sp_l_same2_n K n vs H Q E) : t_l_same K (sp_l_same2_r K n) { nx := fun _ H' => Q .non H', rt := Q } (L2.start N_l_same vs) H := by
  obtain ⟨x, y, d, rfl, hx, hy, hd, q⟩ := h
  show t_l_same K (sp_l_same2_r K n) _ [some x, some y, none] H
  cases d with
  | non => cases hx; cases hy; exact same2_scal (.base .non) q (.inl ⟨rfl, rfl⟩)
  | bl b => cases hx; cases hy; exact same2_scal (.base (.bl _)) q (.inr (.inl ⟨⟨_, rfl⟩, rfl⟩))
  | int b => cases hx; cases hy; exact same2_scal (.base (.int _)) q (.inr (.inr (.inl ⟨⟨_, rfl⟩, rfl⟩)))
  | str b => cases hx; cases hy; exact same2_scal (.base (.str _)) q (.inr (.inr (.inr ⟨⟨_, rfl⟩, rfl⟩)))
  | lst ds =>
    cases n with
    | zero => cases hd
    | succ n =>
      simp only [Da.dep, Bool.and_eq_true, decide_eq_true_eq] at hd
      cases hx with
      | lst ha ra =>
        rename_i a us
        cases hy with
        | lst hb rb =>
          rename_i b ws
          have tx : TyX K H (.ref a) (.type "list") := .base (.lst ha)
          have ty : TyX K H (.ref b) (.type "list") := .base (.lst hb)
          refine q_no (by walk_at "a") (by rfl) (q_no (by walk_at "a") (by rfl) (q_no (by walk_at "a") (by rfl) (q_no (by walk_at "a") (by rfl) (q_no (by walk_at "a") (by rfl) (q_no (by walk_at "a") (by rfl) ?_)))))
          exact same2_seq hd.1 hd.2 ra rb (.inl (SqL.of ha)) (.inl (SqL.of hb)) q
  | tup ds =>
    cases n with
    | zero => cases hd
    | succ n =>
      simp only [Da.dep, Bool.and_eq_true, decide_eq_true_eq] at hd
      cases hx with
      | tup ha ra =>
        rename_i a us
        cases hy with
        | tup hb rb =>
          rename_i b ws
          have tx : TyX K H (.ref a) (.type "tuple") := tyT ha
          have ty : TyX K H (.ref b) (.type "tuple") := tyT hb
          refine q_no (by walk_at "a") (by rfl) (q_no (by walk_at "a") (by rfl) (q_no (by walk_at "a") (by rfl) (q_no (by walk_at "a") (by rfl) (q_no (by walk_at "a") (by rfl) (q_no (by walk_at "a") (by rfl) ?_)))))
          exact same2_seq hd.1 hd.2 ra rb (.inr ha) (.inr hb) q
  | _ => cases n <;> cases hd
end Cl

/-! ## Fx -/

namespace Cl
open PySem PySem.Spec PyProof.Rows L2
def tab : Tab := [(("BadRule", "BadRule"), true)]
abbrev N_l_cell : List Str := ["_law_script", "_law_k"]
noncomputable def fb_l_cell : FS :=
  (fSeq (fIfS (fTest (fOp xLt (fVar 1) (fCB bLen (fCons (fVar 0) fNil)))) (fRet (fCB bAbs (fCons (fOp (xIx true false) (fVar 0) (fVar 1)) fNil))) fNext)
    (fRet (fC (.int 0))))
noncomputable def f_l_cell : Fn := fnOf0 2 N_l_cell.length fb_l_cell
abbrev N_l_pool : List Str := ["_law_script", "_law_k", "_law_cell_here"]
noncomputable def fb_l_pool : FS :=
  (fSeq (fSetD 2 (fCall f_l_cell (fCons (fVar 0) (fCons (fVar 1) fNil))))
    (fRet (fCell (fLst (fCons (fVar 2) (fCons (fCB bInt1 (fCons (fOp xGe (fVar 2) (fOp xPow (fC (.int 10)) (fC (.int 18)))) fNil)) (fCons (fOp xMul (fC (.int 1000)) (fVar 1)) fNil)))))))
noncomputable def f_l_pool : Fn := fnOf0 2 N_l_pool.length fb_l_pool
abbrev N_l_take : List Str := ["_law_pool_here", "_law_many", "_law_mixed", "_law_drawn"]
noncomputable def fb_l_take : FS :=
  (fSeq (fIfS (fAnd (fTest (fOp (xEq false) (fOp (xIx true false) (fVar 0) (fC (.int 1))) (fC (.int 1)))) (fTest (fOp xGt (fOp (xIx true false) (fVar 0) (fC (.int 0))) (fC (.int 1))))) (fSeq (fSetD 3 (fOp xMod (fCB bInt1 (fCons (fOp (xIx true false) (fVar 0) (fC (.int 0))) fNil)) (fVar 1)))
    (fSeq (fSetI 0 (fOp xDiv (fOp (xIx true false) (fVar 0) (fC (.int 0))) (fVar 1)) (fC (.int 0)))
    (fRet (fVar 3)))) fNext)
    (fSeq (fSetI 0 (fOp xAdd (fOp (xIx true false) (fVar 0) (fC (.int 2))) (fC (.int 1))) (fC (.int 2)))
    (fSeq (fSetD 2 (fOp xMod (fCB bInt1 (fCons (fOp xAdd (fOp xMul (fOp xAdd (fOp (xIx true false) (fVar 0) (fC (.int 0))) (fC (.int 7))) (fC (.int 48271))) (fOp xMul (fOp (xIx true false) (fVar 0) (fC (.int 2))) (fC (.int 69621)))) fNil)) (fC (.int 2147483629))))
    (fSeq (fSetD 2 (fOp xMod (fCB bInt1 (fCons (fOp xAdd (fOp xMul (fVar 2) (fC (.int 16807))) (fOp xMul (fOp (xIx true false) (fVar 0) (fC (.int 2))) (fC (.int 7919)))) fNil)) (fC (.int 2147483587))))
    (fSeq (fIfS (fTest (fOp xGt (fOp (xIx true false) (fVar 0) (fC (.int 0))) (fC (.int 15)))) (fSetD 2 (fOp xMod (fCB bInt1 (fCons (fOp xMul (fOp xDiv (fVar 2) (fC (.int 7))) (fOp xAdd (fOp xAdd (fOp xDiv (fVar 2) (fC (.int 1009))) (fOp (xIx true false) (fVar 0) (fC (.int 2)))) (fC (.int 3)))) fNil)) (fC (.int 2147483563)))) fNext)
    (fRet (fOp xMod (fCB bInt1 (fCons (fOp xDiv (fVar 2) (fC (.int 11))) fNil)) (fVar 1))))))))
noncomputable def f_l_take : Fn := fnOf0 2 N_l_take.length fb_l_take
abbrev N_Rule___init__ : List Str := ["self", "send_word", "charge_word"]
noncomputable def fb_Rule___init__ : FS :=
  (fSeq (fIfS (fTest (fOp (xIn true) (fVar 1) (fGT ["first", "last", "fullest", "emptiest"]))) (fRaise "BadRule" ["part"] (fCons (fC (.str "send")) fNil)) fNext)
    (fSeq (fIfS (fTest (fOp (xIn true) (fVar 2) (fGT ["first", "last", "fullest", "emptiest"]))) (fRaise "BadRule" ["part"] (fCons (fC (.str "charge")) fNil)) fNext)
    (fSeq (fSFld 0 "Rule" "send_word" (fVar 1))
    (fSFld 0 "Rule" "charge_word" (fVar 2)))))
noncomputable def f_Rule___init__ : FIn := inOf "Rule" 3 N_Rule___init__.length fb_Rule___init__
abbrev N_l_written : List Str := ["_law_first", "_law_second"]
noncomputable def fb_l_written : FS :=
  (fRet (fOp xAddS (fOp xAddS (fOp xAddS (fC (.str "send ")) (fVar 0)) (fC (.str ", charge "))) (fVar 1)))
noncomputable def f_l_written : Fn := fnOf0 2 N_l_written.length fb_l_written
abbrev N_Rule___str__ : List Str := ["self"]
noncomputable def fb_Rule___str__ : FS :=
  (fRet (fJoined [(fC (.str "send ")), (fFmt (fFld "Rule" "send_word" (fVar 0))), (fC (.str ", charge ")), (fFmt (fFld "Rule" "charge_word" (fVar 0)))]))
noncomputable def f_Rule___str__ : Fn := fnOf0 1 N_Rule___str__.length fb_Rule___str__
abbrev N_l_is : List Str := ["_law_rule", "_law_first", "_law_second"]
noncomputable def fb_l_is : FS :=
  (fSeq (fIfS (fOr (fNot (fTest (fIsC "Rule" (fVar 0)))) (fNot (fTest (fCall f_l_same (fCons (fStrO "Rule" f_Rule___str__ (fVar 0)) (fCons (fCall f_l_written (fCons (fVar 1) (fCons (fVar 2) fNil))) fNil)))))) (fRet (fC (.bl false))) fNext)
    (fRet (fAndV (fCall f_l_same (fCons (fFld "Rule" "send_word" (fVar 0)) (fCons (fVar 1) fNil))) (fCall f_l_same (fCons (fFld "Rule" "charge_word" (fVar 0)) (fCons (fVar 2) fNil))))))
noncomputable def f_l_is : Fn := fnOf0 3 N_l_is.length fb_l_is
abbrev N_Rule_every : List Str := ["send_word", "charge_word"]
noncomputable def fe_Rule_every_0 : FE :=
  (fMake f_Rule___init__ (fCons (fVar 0) (fCons (fVar 1) fNil)))
noncomputable def fi_Rule_every_0 : FI :=
  (fiT (fGT ["first", "last", "fullest", "emptiest"]))
noncomputable def fb_Rule_every : FS :=
  (fRet (fLc2 (fiT (fGT ["first", "last", "fullest", "emptiest"])) (fgName 0) fYes fi_Rule_every_0 (fgName 1) fYes fe_Rule_every_0 [0, 1] [1]))
noncomputable def f_Rule_every : Fn := fnOf 0 N_Rule_every.length fb_Rule_every
abbrev N_l_row : List Str := ["_law_words", "_law_rows", "_law_k"]
noncomputable def fl_l_row_0 : FS :=
  (fIfS (fNot (fTest (fCall f_l_is (fCons (fOp (xIx true false) (fVar 1) (fVar 2)) (fCons (fOp (xIx true false) (fVar 0) (fOp xDiv (fVar 2) (fC (.int 4)))) (fCons (fOp (xIx true false) (fVar 0) (fOp xSub (fVar 2) (fOp xMul (fC (.int 4)) (fOp xDiv (fVar 2) (fC (.int 4)))))) fNil)))))) (fRet (fC (.bl false))) fNext)
noncomputable def fb_l_row : FS :=
  (fSeq (fSet 1 (fCallS f_Rule_every fNil))
    (fSeq (fIfS (fOr (fNot (fTest (fIsi "list" (fVar 1)))) (fTest (fOp (xEq true) (fCB bLen (fCons (fVar 1) fNil)) (fC (.int 16))))) (fRet (fC (.bl false))) fNext)
    (fSeq (fFor (fiR1 (fCons (fC (.int 16)) fNil)) (fgName 2) fl_l_row_0)
    (fSeq (fClr 1)
    (fRet (fC (.bl true)))))))
noncomputable def f_l_row : Fn := fnOf0 1 N_l_row.length fb_l_row
abbrev N_Rule___eq__ : List Str := ["self", "other"]
noncomputable def fb_Rule___eq__ : FS :=
  (fRet (fAndV (fIsC "Rule" (fVar 1)) (fAndV (fOp (xEq false) (fFld "Rule" "send_word" (fVar 0)) (fFld "Rule" "send_word" (fVar 1))) (fOp (xEq false) (fFld "Rule" "charge_word" (fVar 0)) (fFld "Rule" "charge_word" (fVar 1))))))
noncomputable def f_Rule___eq__ : Fn := fnOf0 2 N_Rule___eq__.length fb_Rule___eq__
abbrev N_Rule_parse : List Str := ["cls", "text", "rule"]
noncomputable def fl_Rule_parse_0 : FS :=
  (fIfS (fTest (fOp (xEq false) (fStrO "Rule" f_Rule___str__ (fVar 2)) (fVar 1))) (fRet (fVar 2)) fNext)
noncomputable def fb_Rule_parse : FS :=
  (fSeq (fFor (fiL (fCallV0 0 f_Rule_every)) (fgName 2) fl_Rule_parse_0)
    (fRaise "BadRule" ["part"] (fCons (fC (.str "text")) fNil)))
noncomputable def f_Rule_parse : Fn := fnOfC 2 N_Rule_parse.length fb_Rule_parse
abbrev N_l_parsed : List Str := ["_law_text_here", "_law_rule", "_law_part", "e"]
noncomputable def fb_l_parsed : FS :=
  (fSeq (fSetD 1 (fC .non))
    (fSeq (fSetD 2 (fC .non))
    (fSeq (fTry tab (fSetD 1 (fCallS f_Rule_parse (fCons (fVar 0) fNil))) [("BadRule", 3, fun e => (fSetD 2 (fTup (fCons (fXf "BadRule" "part" e 3) (fCons (fAndV (fIsE "BadRule" true e 3) (fAndV (fIsE "BadRule" true e 3) (fNotV (fIsE "BadRule" false e 3)))) fNil)))))])
    (fRet (fTup (fCons (fVar 1) (fCons (fVar 2) fNil)))))))
noncomputable def f_l_parsed : Fn := fnOf0 1 N_l_parsed.length fb_l_parsed
abbrev N_l_reads : List Str := ["_law_text_here", "_law_words", "_law_back", "_law_first", "_law_second"]
noncomputable def fl_l_reads_0 : FS :=
  (fIfS (fTest (fOp (xEq false) (fVar 0) (fCall f_l_written (fCons (fVar 3) (fCons (fVar 4) fNil))))) (fRet (fAndV (fOp (xIsN false) (fOp (xIx false true) (fVar 2) (fC (.int 1))) (fC .non)) (fAndV (fCall f_l_is (fCons (fOp (xIx false true) (fVar 2) (fC (.int 0))) (fCons (fVar 3) (fCons (fVar 4) fNil)))) (fOwnEq "Rule" f_Rule___eq__ (fOp (xIx false true) (fVar 2) (fC (.int 0))) (fMakeX f_Rule___init__ (fCons (fVar 3) (fCons (fVar 4) fNil))))))) fNext)
noncomputable def fl_l_reads_1 : FS :=
  (fFor (fiL (fVar 1)) (fgName 4) fl_l_reads_0)
noncomputable def fb_l_reads : FS :=
  (fSeq (fSetD 2 (fCall f_l_parsed (fCons (fVar 0) fNil)))
    (fSeq (fFor (fiL (fVar 1)) (fgName 3) fl_l_reads_1)
    (fRet (fAndV (fOp (xIsN false) (fOp (xIx false true) (fVar 2) (fC (.int 0))) (fC .non)) (fCall f_l_same (fCons (fOp (xIx false true) (fVar 2) (fC (.int 1))) (fCons (fTup (fCons (fC (.str "text")) (fCons (fC (.bl true)) fNil))) fNil)))))))
noncomputable def f_l_reads : Fn := fnOf0 2 N_l_reads.length fb_l_reads
abbrev N_l_char : List Str := ["_law_place", "_law_chars"]
noncomputable def fb_l_char : FS :=
  (fSeq (fSetD 1 (fC (.str " !\"#$&'()*+,-./0123456789:;<=>?@ABCDEFGHIJKLMNOPQRSTUVWXYZ[\\]^_`")))
    (fSeq (fSetD 1 (fOp xAddS (fVar 1) (fC (.str "abcdefghijklmnopqrstuvwxyz{|}~"))))
    (fRet (fOp xIxS (fVar 1) (fVar 0)))))
noncomputable def f_l_char : Fn := fnOf0 1 N_l_char.length fb_l_char
abbrev N_l_text : List Str := ["_law_pool_here", "_law_first", "_law_second", "_law_good", "_law_kind", "_law_place", "_law_char_here", "_law_odd", "_law_near", "_law_many", "_law_k"]
noncomputable def fe_l_text_0 : FE :=
  (fCall f_l_char (fCons (fCall f_l_take (fCons (fVar 0) (fCons (fC (.int 94)) fNil))) fNil))
noncomputable def fb_l_text : FS :=
  (fSeq (fSetD 3 (fCall f_l_written (fCons (fVar 1) (fCons (fVar 2) fNil))))
    (fSeq (fSetD 4 (fCall f_l_take (fCons (fVar 0) (fCons (fC (.int 8)) fNil))))
    (fSeq (fSetD 5 (fCall f_l_take (fCons (fVar 0) (fCons (fOp xAdd (fCB bLenS (fCons (fVar 3) fNil)) (fC (.int 1))) fNil))))
    (fSeq (fSetD 6 (fCall f_l_char (fCons (fCall f_l_take (fCons (fVar 0) (fCons (fC (.int 94)) fNil))) fNil)))
    (fSeq (fIfS (fTest (fOp (xEq false) (fVar 4) (fC (.int 0)))) (fRet (fOp xAddS (fOp xAddS (fSl xSlS (fVar 3) fNoP (fPart (fVar 5))) (fVar 6)) (fSl xSlS (fVar 3) (fPart (fVar 5)) fNoP))) fNext)
    (fSeq (fIfS (fTest (fOp (xEq false) (fVar 4) (fC (.int 1)))) (fRet (fOp xAddS (fSl xSlS (fVar 3) fNoP (fPart (fVar 5))) (fSl xSlS (fVar 3) (fPart (fOp xAdd (fVar 5) (fC (.int 1)))) fNoP))) fNext)
    (fSeq (fIfS (fTest (fOp (xEq false) (fVar 4) (fC (.int 2)))) (fRet (fOp xAddS (fOp xAddS (fSl xSlS (fVar 3) fNoP (fPart (fVar 5))) (fVar 6)) (fSl xSlS (fVar 3) (fPart (fOp xAdd (fVar 5) (fC (.int 1)))) fNoP))) fNext)
    (fSeq (fIfS (fTest (fOp (xEq false) (fVar 4) (fC (.int 3)))) (fRet (fOp xAddS (fOp xAddS (fOp xAddS (fC (.str "charge ")) (fVar 2)) (fC (.str ", send "))) (fVar 1))) fNext)
    (fSeq (fIfS (fTest (fOp (xEq false) (fVar 4) (fC (.int 4)))) (fSeq (fSetD 7 (fLst (fCons (fC (.str "")) (fCons (fC (.str "send first")) (fCons (fC (.str "send first, charge")) (fCons (fC (.str "send first,charge last")) (fCons (fC (.str "send first charge last")) (fCons (fC (.str "first, last")) fNil))))))))
    (fSeq (fSetD 7 (fOp xCat (fVar 7) (fLst (fCons (fC (.str "send  first, charge last")) (fCons (fC (.str " send first, charge last")) (fCons (fC (.str "send first, charge last ")) (fCons (fC (.str "charge last")) fNil)))))))
    (fSeq (fSetD 7 (fOp xCat (fVar 7) (fLst (fCons (fC (.str "send first, charge last, charge last")) (fCons (fC (.str "send first; charge last")) (fCons (fC (.str "SEND first, CHARGE last")) fNil))))))
    (fRet (fOp (xIx true false) (fVar 7) (fCall f_l_take (fCons (fVar 0) (fCons (fC (.int 13)) fNil)))))))) fNext)
    (fSeq (fIfS (fTest (fOp (xEq false) (fVar 4) (fC (.int 5)))) (fSeq (fSetD 8 (fLst (fCons (fC (.str "first")) (fCons (fC (.str "last")) (fCons (fC (.str "fullest")) (fCons (fC (.str "emptiest")) (fCons (fC (.str "")) (fCons (fC (.str "First")) (fCons (fC (.str "full")) (fCons (fC (.str "empty")) (fCons (fC (.str "fulles")) (fCons (fC (.str "lastt")) fNil))))))))))))
    (fRet (fCall f_l_written (fCons (fOp (xIx true false) (fVar 8) (fCall f_l_take (fCons (fVar 0) (fCons (fC (.int 10)) fNil)))) (fCons (fOp (xIx true false) (fVar 8) (fCall f_l_take (fCons (fVar 0) (fCons (fC (.int 10)) fNil)))) fNil))))) fNext)
    (fSeq (fIfS (fTest (fOp (xEq false) (fVar 4) (fC (.int 6)))) (fSeq (fSetD 9 (fCall f_l_take (fCons (fVar 0) (fCons (fC (.int 41)) fNil))))
    (fRet (fJoin (fC (.str "")) (fLc (fiR1 (fCons (fVar 9) fNil)) (fgName 10) fYes fe_l_text_0 [10])))) fNext)
    (fRet (fVar 3)))))))))))))
noncomputable def f_l_text : Fn := fnOf0 3 N_l_text.length fb_l_text
abbrev N_law : List Str := ["_law_script", "_law_shape", "_law_words", "_law_first", "_law_second", "_law_rule", "_law_one", "_law_pool_here", "_law_k", "_law_other"]
noncomputable def fl_law_0 : FS :=
  (fSeq (fIfS (fTest (fOp (xEq true) (fCB bBool1 (fCons (fOwnEq "Rule" f_Rule___eq__ (fVar 5) (fMakeX f_Rule___init__ (fCons (fVar 6) (fCons (fVar 9) fNil)))) fNil)) (fAndV (fOp (xEq false) (fVar 6) (fVar 3)) (fOp (xEq false) (fVar 9) (fVar 4))))) (fRet (fC (.bl false))) fNext)
    (fIfS (fNot (fTest (fCall f_l_reads (fCons (fCall f_l_written (fCons (fVar 6) (fCons (fVar 9) fNil))) (fCons (fVar 2) fNil))))) (fRet (fC (.bl false))) fNext))
noncomputable def fl_law_1 : FS :=
  (fFor (fiL (fVar 2)) (fgName 9) fl_law_0)
noncomputable def fl_law_2 : FS :=
  (fIfS (fNot (fTest (fCall f_l_reads (fCons (fCall f_l_text (fCons (fVar 7) (fCons (fVar 3) (fCons (fVar 4) fNil)))) (fCons (fVar 2) fNil))))) (fRet (fC (.bl false))) fNext)
noncomputable def fb_law : FS :=
  (fSeq (fSetD 1 (fCall f_l_pool (fCons (fVar 0) (fCons (fC (.int 0)) fNil))))
    (fSeq (fSetD 2 (fLst (fCons (fC (.str "first")) (fCons (fC (.str "last")) (fCons (fC (.str "fullest")) (fCons (fC (.str "emptiest")) fNil))))))
    (fSeq (fSetD 3 (fOp (xIx true false) (fVar 2) (fCall f_l_take (fCons (fVar 1) (fCons (fC (.int 4)) fNil)))))
    (fSeq (fSetD 4 (fOp (xIx true false) (fVar 2) (fCall f_l_take (fCons (fVar 1) (fCons (fC (.int 4)) fNil)))))
    (fSeq (fSetD 5 (fMakeX f_Rule___init__ (fCons (fVar 3) (fCons (fVar 4) fNil))))
    (fSeq (fIfS (fOr (fNot (fTest (fCall f_l_same (fCons (fGT ["first", "last", "fullest", "emptiest"]) (fCons (fCB bTup (fCons (fVar 2) fNil)) fNil))))) (fOr (fNot (fTest (fCall f_l_is (fCons (fVar 5) (fCons (fVar 3) (fCons (fVar 4) fNil)))))) (fNot (fTest (fCall f_l_row (fCons (fVar 2) fNil)))))) (fRet (fC (.bl false))) fNext)
    (fSeq (fFor (fiL (fVar 2)) (fgName 6) fl_law_1)
    (fSeq (fSetD 7 (fCall f_l_pool (fCons (fVar 0) (fCons (fC (.int 1)) fNil))))
    (fSeq (fFor (fiR1 (fCons (fC (.int 4)) fNil)) (fgName 8) fl_law_2)
    (fRet (fAndV (fCall f_l_is (fCons (fVar 5) (fCons (fVar 3) (fCons (fVar 4) fNil)))) (fCall f_l_row (fCons (fVar 2) fNil)))))))))))))
noncomputable def f_law : Fn := fnOf0 1 N_law.length fb_law
end Cl

/-! ## Tx -/

namespace Cl
open PySem PySem.Spec PyProof.Rows L2
def t_l_cell (K : PySem.W.Frag) : TS :=
  (tSeq (tIfS (tTest (tOp oLt (tVar 1) (tCB (rLen K) (tCons (tVar 0) tNil)))) (tRet (tCB rAbs (tCons (tOp (rIxL K) (tVar 0) (tVar 1)) tNil))) tNext)
    (tRet (tC (.int 0))))
def t_l_pool (K : PySem.W.Frag) : TS :=
  (tSeq (tAsg (tCall (spOf K f_l_cell) [] E0 (tCons (tVar 0) (tCons (tVar 1) tNil))) (gName 2))
    (tRet (tLst (tCons (tVar 2) (tCons (tCB rInt1 (tCons (tOp oGe (tVar 2) (tOp oPow (tC (.int 10)) (tC (.int 18)))) tNil)) (tCons (tOp oMul (tC (.int 1000)) (tVar 1)) tNil))))))
def t_l_take (K : PySem.W.Frag) : TS :=
  (tSeq (tIfS (tAnd (tTest (tOp rEq (tOp (rIxL K) (tVar 0) (tC (.int 1))) (tC (.int 1)))) (tTest (tOp oGt (tOp (rIxL K) (tVar 0) (tC (.int 0))) (tC (.int 1))))) (tSeq (tAsg (tOp oMod (tCB rInt1 (tCons (tOp (rIxL K) (tVar 0) (tC (.int 0))) tNil)) (tVar 1)) (gName 3))
    (tSeq (tAsg (tOp oDiv (tOp (rIxL K) (tVar 0) (tC (.int 0))) (tVar 1)) (gSub (tVar 0) (tC (.int 0)) rSetL))
    (tRet (tVar 3)))) tNext)
    (tSeq (tAsg (tOp oAdd (tOp (rIxL K) (tVar 0) (tC (.int 2))) (tC (.int 1))) (gSub (tVar 0) (tC (.int 2)) rSetL))
    (tSeq (tAsg (tOp oMod (tCB rInt1 (tCons (tOp oAdd (tOp oMul (tOp oAdd (tOp (rIxL K) (tVar 0) (tC (.int 0))) (tC (.int 7))) (tC (.int 48271))) (tOp oMul (tOp (rIxL K) (tVar 0) (tC (.int 2))) (tC (.int 69621)))) tNil)) (tC (.int 2147483629))) (gName 2))
    (tSeq (tAsg (tOp oMod (tCB rInt1 (tCons (tOp oAdd (tOp oMul (tVar 2) (tC (.int 16807))) (tOp oMul (tOp (rIxL K) (tVar 0) (tC (.int 2))) (tC (.int 7919)))) tNil)) (tC (.int 2147483587))) (gName 2))
    (tSeq (tIfS (tTest (tOp oGt (tOp (rIxL K) (tVar 0) (tC (.int 0))) (tC (.int 15)))) (tAsg (tOp oMod (tCB rInt1 (tCons (tOp oMul (tOp oDiv (tVar 2) (tC (.int 7))) (tOp oAdd (tOp oAdd (tOp oDiv (tVar 2) (tC (.int 1009))) (tOp (rIxL K) (tVar 0) (tC (.int 2)))) (tC (.int 3)))) tNil)) (tC (.int 2147483563))) (gName 2)) tNext)
    (tRet (tOp oMod (tCB rInt1 (tCons (tOp oDiv (tVar 2) (tC (.int 11))) tNil)) (tVar 1))))))))
def t_Rule___init__ (K : PySem.W.Frag) (E : XK) : TS :=
  (tSeq (tIfS (tTest (tOp (rIn K true) (tVar 1) (tCV K "Rule" "WORDS" ["first", "last", "fullest", "emptiest"]))) (tRaise (tMkE (He.ga K "BadRule") ["part"] (tCons (tC (.str "send")) tNil)) (W0 E)) tNext)
    (tSeq (tIfS (tTest (tOp (rIn K true) (tVar 2) (tCV K "Rule" "WORDS" ["first", "last", "fullest", "emptiest"]))) (tRaise (tMkE (He.ga K "BadRule") ["part"] (tCons (tC (.str "charge")) tNil)) (W0 E)) tNext)
    (tSeq (sFld K (tVar 0) (tVar 1) "send_word")
    (sFld K (tVar 0) (tVar 2) "charge_word"))))
def t_l_written (K : PySem.W.Frag) : TS :=
  (tRet (tOp rAddStr (tOp rAddStr (tOp rAddStr (tC (.str "send ")) (tVar 0)) (tC (.str ", charge "))) (tVar 1)))
def t_Rule___str__ (K : PySem.W.Frag) : TS :=
  (tRet (tJoined [(tC (.str "send ")), (tFmt (tFld K (tVar 0) "send_word")), (tC (.str ", charge ")), (tFmt (tFld K (tVar 0) "charge_word"))]))
def t_l_is (K : PySem.W.Frag) : TS :=
  (tSeq (tIfS (tOr (tNot (tB (tCB (rIsi K) (tCons (tVar 0) (tCons (tC (.ref (He.ga K "Rule"))) tNil))))) (tNot (tB (tCall (spOf K f_l_same) [] E0 (tCons (tCB (rStrO (He.ga K "Rule") (spOf K f_Rule___str__)) (tCons (tVar 0) tNil)) (tCons (tCall (spOf K f_l_written) [] E0 (tCons (tVar 1) (tCons (tVar 2) tNil))) tNil)))))) (tRet (tC (.bl false))) tNext)
    (tRet (tAndV (tCall (spOf K f_l_same) [] E0 (tCons (tFld K (tVar 0) "send_word") (tCons (tVar 1) tNil))) (tCall (spOf K f_l_same) [] E0 (tCons (tFld K (tVar 0) "charge_word") (tCons (tVar 2) tNil))))))
def t_Rule_every (K : PySem.W.Frag) (E : XK) : TS :=
  (tRet (tLc2 (iTup K (tCV K "Rule" "WORDS" ["first", "last", "fullest", "emptiest"])) (gName 0) tYes (iTup K (tCV K "Rule" "WORDS" ["first", "last", "fullest", "emptiest"])) (gName 1) tYes (tMakeX (He.ga K "Rule") (spIn K "Rule" f_Rule___init__) (WE WF) (tCons (tVar 0) (tCons (tVar 1) tNil))) [0, 1] [1]))
def t_l_row (K : PySem.W.Frag) : TS :=
  (tSeq (tAsg (tCallS (spOf K f_Rule_every) (WE WF) tNil) (gName 1))
    (tSeq (tIfS (tOr (tNot (tB (tCB (rIsi K) (tCons (tVar 1) (tCons (tC (.ty "list")) tNil))))) (tTest (tOp rNe (tCB (rLen K) (tCons (tVar 1) tNil)) (tC (.int 16))))) (tRet (tC (.bl false))) tNext)
    (tSeq (tFor (iRng1 (tCons (tC (.int 16)) tNil)) (gName 2) (tIfS (tNot (tB (tCall (spOf K f_l_is) [] E0 (tCons (tOp (rIxL K) (tVar 1) (tVar 2)) (tCons (tOp (rIxL K) (tVar 0) (tOp oDiv (tVar 2) (tC (.int 4)))) (tCons (tOp (rIxL K) (tVar 0) (tOp oSub (tVar 2) (tOp oMul (tC (.int 4)) (tOp oDiv (tVar 2) (tC (.int 4)))))) tNil)))))) (tRet (tC (.bl false))) tNext))
    (tSeq (tDrop (tBM K "list" rClear (tVar 1) tNil))
    (tRet (tC (.bl true)))))))
def t_Rule___eq__ (K : PySem.W.Frag) : TS :=
  (tRet (tAndV (tCB (rIsi K) (tCons (tVar 1) (tCons (tC (.ref (He.ga K "Rule"))) tNil))) (tAndV (tOp rEq (tFld K (tVar 0) "send_word") (tFld K (tVar 1) "send_word")) (tOp rEq (tFld K (tVar 0) "charge_word") (tFld K (tVar 1) "charge_word")))))
def t_Rule_parse (K : PySem.W.Frag) (E : XK) : TS :=
  (tSeq (tFor (iList K (tCallV0 0 (He.ga K "Rule") (spOf K f_Rule_every) (WE (W0 E)))) (gName 2) (tIfS (tTest (tOp rEq (tCB (rStrO (He.ga K "Rule") (spOf K f_Rule___str__)) (tCons (tVar 2) tNil)) (tVar 1))) (tRet (tVar 2)) tNext))
    (tRaise (tMkE (He.ga K "BadRule") ["part"] (tCons (tC (.str "text")) tNil)) (W0 E)))
def t_l_parsed (K : PySem.W.Frag) : TS :=
  (tSeq (tAsg (tC .non) (gName 1))
    (tSeq (tAsg (tC .non) (gName 2))
    (tSeq (tTryA K (fun W => (tAsg (tCallS (spOf K f_Rule_parse) (WE W) (tCons (tVar 0) tNil)) (gName 1))) WF [(.ref (He.ga K "BadRule"), 3, fun a cls d => (tAsg (tTup (tCons (tXf a cls d (He.ga K "BadRule") "part" (tVar 3)) (tCons (tAndV (tCB (rIsX2 K (He.ga K "BadRule") a cls d) (tCons (tVar 3) (tCons (tC (.ref (He.ga K "DepotError"))) tNil))) (tAndV (tCB (rIsX2 K (He.ga K "BadRule") a cls d) (tCons (tVar 3) (tCons (tC (.ty "ValueError")) tNil))) (tNotV (tCB (rIsX2 K (He.ga K "BadRule") a cls d) (tCons (tVar 3) (tCons (tC (.ref (He.ga K "BadCable"))) tNil)))))) tNil))) (gName 2)))])
    (tRet (tTup (tCons (tVar 1) (tCons (tVar 2) tNil)))))))
def t_l_reads (K : PySem.W.Frag) : TS :=
  (tSeq (tAsg (tCall (spOf K f_l_parsed) [] E0 (tCons (tVar 0) tNil)) (gName 2))
    (tSeq (tFor (iList K (tVar 1)) (gName 3) (tFor (iList K (tVar 1)) (gName 4) (tIfS (tTest (tOp rEq (tVar 0) (tCall (spOf K f_l_written) [] E0 (tCons (tVar 3) (tCons (tVar 4) tNil))))) (tRet (tAndV (tOp rIsN (tOp (rIxT K) (tVar 2) (tC (.int 1))) (tC .non)) (tAndV (tCall (spOf K f_l_is) [] E0 (tCons (tOp (rIxT K) (tVar 2) (tC (.int 0))) (tCons (tVar 3) (tCons (tVar 4) tNil)))) (tOp (rOwnEq (He.ga K "Rule") (spOf K f_Rule___eq__)) (tOp (rIxT K) (tVar 2) (tC (.int 0))) (tMakeX (He.ga K "Rule") (spIn K "Rule" f_Rule___init__) (WE WF) (tCons (tVar 3) (tCons (tVar 4) tNil))))))) tNext)))
    (tRet (tAndV (tOp rIsN (tOp (rIxT K) (tVar 2) (tC (.int 0))) (tC .non)) (tCall (spOf K f_l_same) [] E0 (tCons (tOp (rIxT K) (tVar 2) (tC (.int 1))) (tCons (tTup (tCons (tC (.str "text")) (tCons (tC (.bl true)) tNil))) tNil)))))))
def t_l_char (K : PySem.W.Frag) : TS :=
  (tSeq (tAsg (tC (.str " !\"#$&'()*+,-./0123456789:;<=>?@ABCDEFGHIJKLMNOPQRSTUVWXYZ[\\]^_`")) (gName 1))
    (tSeq (tAsg (tOp rAddStr (tVar 1) (tC (.str "abcdefghijklmnopqrstuvwxyz{|}~"))) (gName 1))
    (tRet (tOp rIxS (tVar 1) (tVar 0)))))
def t_l_text (K : PySem.W.Frag) : TS :=
  (tSeq (tAsg (tCall (spOf K f_l_written) [] E0 (tCons (tVar 1) (tCons (tVar 2) tNil))) (gName 3))
    (tSeq (tAsg (tCall (spOf K f_l_take) [] E0 (tCons (tVar 0) (tCons (tC (.int 8)) tNil))) (gName 4))
    (tSeq (tAsg (tCall (spOf K f_l_take) [] E0 (tCons (tVar 0) (tCons (tOp oAdd (tCB qLenS (tCons (tVar 3) tNil)) (tC (.int 1))) tNil))) (gName 5))
    (tSeq (tAsg (tCall (spOf K f_l_char) [] E0 (tCons (tCall (spOf K f_l_take) [] E0 (tCons (tVar 0) (tCons (tC (.int 94)) tNil))) tNil)) (gName 6))
    (tSeq (tIfS (tTest (tOp rEq (tVar 4) (tC (.int 0)))) (tRet (tOp rAddStr (tOp rAddStr (tSl rSlS (tVar 3) tNoPart (tPart (tVar 5))) (tVar 6)) (tSl rSlS (tVar 3) (tPart (tVar 5)) tNoPart))) tNext)
    (tSeq (tIfS (tTest (tOp rEq (tVar 4) (tC (.int 1)))) (tRet (tOp rAddStr (tSl rSlS (tVar 3) tNoPart (tPart (tVar 5))) (tSl rSlS (tVar 3) (tPart (tOp oAdd (tVar 5) (tC (.int 1)))) tNoPart))) tNext)
    (tSeq (tIfS (tTest (tOp rEq (tVar 4) (tC (.int 2)))) (tRet (tOp rAddStr (tOp rAddStr (tSl rSlS (tVar 3) tNoPart (tPart (tVar 5))) (tVar 6)) (tSl rSlS (tVar 3) (tPart (tOp oAdd (tVar 5) (tC (.int 1)))) tNoPart))) tNext)
    (tSeq (tIfS (tTest (tOp rEq (tVar 4) (tC (.int 3)))) (tRet (tOp rAddStr (tOp rAddStr (tOp rAddStr (tC (.str "charge ")) (tVar 2)) (tC (.str ", send "))) (tVar 1))) tNext)
    (tSeq (tIfS (tTest (tOp rEq (tVar 4) (tC (.int 4)))) (tSeq (tAsg (tLst (tCons (tC (.str "")) (tCons (tC (.str "send first")) (tCons (tC (.str "send first, charge")) (tCons (tC (.str "send first,charge last")) (tCons (tC (.str "send first charge last")) (tCons (tC (.str "first, last")) tNil))))))) (gName 7))
    (tSeq (tAsg (tOp rCat (tVar 7) (tLst (tCons (tC (.str "send  first, charge last")) (tCons (tC (.str " send first, charge last")) (tCons (tC (.str "send first, charge last ")) (tCons (tC (.str "charge last")) tNil)))))) (gName 7))
    (tSeq (tAsg (tOp rCat (tVar 7) (tLst (tCons (tC (.str "send first, charge last, charge last")) (tCons (tC (.str "send first; charge last")) (tCons (tC (.str "SEND first, CHARGE last")) tNil))))) (gName 7))
    (tRet (tOp (rIxL K) (tVar 7) (tCall (spOf K f_l_take) [] E0 (tCons (tVar 0) (tCons (tC (.int 13)) tNil)))))))) tNext)
    (tSeq (tIfS (tTest (tOp rEq (tVar 4) (tC (.int 5)))) (tSeq (tAsg (tLst (tCons (tC (.str "first")) (tCons (tC (.str "last")) (tCons (tC (.str "fullest")) (tCons (tC (.str "emptiest")) (tCons (tC (.str "")) (tCons (tC (.str "First")) (tCons (tC (.str "full")) (tCons (tC (.str "empty")) (tCons (tC (.str "fulles")) (tCons (tC (.str "lastt")) tNil))))))))))) (gName 8))
    (tRet (tCall (spOf K f_l_written) [] E0 (tCons (tOp (rIxL K) (tVar 8) (tCall (spOf K f_l_take) [] E0 (tCons (tVar 0) (tCons (tC (.int 10)) tNil)))) (tCons (tOp (rIxL K) (tVar 8) (tCall (spOf K f_l_take) [] E0 (tCons (tVar 0) (tCons (tC (.int 10)) tNil)))) tNil))))) tNext)
    (tSeq (tIfS (tTest (tOp rEq (tVar 4) (tC (.int 6)))) (tSeq (tAsg (tCall (spOf K f_l_take) [] E0 (tCons (tVar 0) (tCons (tC (.int 41)) tNil))) (gName 9))
    (tRet (tBM K "str" (qJoin K) (tC (.str "")) (tCons (tLc (iRng1 (tCons (tVar 9) tNil)) (gName 10) tYes (tCall (spOf K f_l_char) [] E0 (tCons (tCall (spOf K f_l_take) [] E0 (tCons (tVar 0) (tCons (tC (.int 94)) tNil))) tNil)) [10]) tNil)))) tNext)
    (tRet (tVar 3)))))))))))))
def t_law (K : PySem.W.Frag) : TS :=
  (tSeq (tAsg (tCall (spOf K f_l_pool) [] E0 (tCons (tVar 0) (tCons (tC (.int 0)) tNil))) (gName 1))
    (tSeq (tAsg (tLst (tCons (tC (.str "first")) (tCons (tC (.str "last")) (tCons (tC (.str "fullest")) (tCons (tC (.str "emptiest")) tNil))))) (gName 2))
    (tSeq (tAsg (tOp (rIxL K) (tVar 2) (tCall (spOf K f_l_take) [] E0 (tCons (tVar 1) (tCons (tC (.int 4)) tNil)))) (gName 3))
    (tSeq (tAsg (tOp (rIxL K) (tVar 2) (tCall (spOf K f_l_take) [] E0 (tCons (tVar 1) (tCons (tC (.int 4)) tNil)))) (gName 4))
    (tSeq (tAsg (tMakeX (He.ga K "Rule") (spIn K "Rule" f_Rule___init__) (WE WF) (tCons (tVar 3) (tCons (tVar 4) tNil))) (gName 5))
    (tSeq (tIfS (tOr (tNot (tB (tCall (spOf K f_l_same) [] E0 (tCons (tCV K "Rule" "WORDS" ["first", "last", "fullest", "emptiest"]) (tCons (tCB (rTupOf K) (tCons (tVar 2) tNil)) tNil))))) (tOr (tNot (tB (tCall (spOf K f_l_is) [] E0 (tCons (tVar 5) (tCons (tVar 3) (tCons (tVar 4) tNil)))))) (tNot (tB (tCall (spOf K f_l_row) [] E0 (tCons (tVar 2) tNil)))))) (tRet (tC (.bl false))) tNext)
    (tSeq (tFor (iList K (tVar 2)) (gName 6) (tFor (iList K (tVar 2)) (gName 9) (tSeq (tIfS (tTest (tOp rNe (tCB rBool1 (tCons (tOp (rOwnEq (He.ga K "Rule") (spOf K f_Rule___eq__)) (tVar 5) (tMakeX (He.ga K "Rule") (spIn K "Rule" f_Rule___init__) (WE WF) (tCons (tVar 6) (tCons (tVar 9) tNil)))) tNil)) (tAndV (tOp rEq (tVar 6) (tVar 3)) (tOp rEq (tVar 9) (tVar 4))))) (tRet (tC (.bl false))) tNext)
    (tIfS (tNot (tB (tCall (spOf K f_l_reads) [] E0 (tCons (tCall (spOf K f_l_written) [] E0 (tCons (tVar 6) (tCons (tVar 9) tNil))) (tCons (tVar 2) tNil))))) (tRet (tC (.bl false))) tNext))))
    (tSeq (tAsg (tCall (spOf K f_l_pool) [] E0 (tCons (tVar 0) (tCons (tC (.int 1)) tNil))) (gName 7))
    (tSeq (tFor (iRng1 (tCons (tC (.int 4)) tNil)) (gName 8) (tIfS (tNot (tB (tCall (spOf K f_l_reads) [] E0 (tCons (tCall (spOf K f_l_text) [] E0 (tCons (tVar 7) (tCons (tVar 3) (tCons (tVar 4) tNil)))) (tCons (tVar 2) tNil))))) (tRet (tC (.bl false))) tNext))
    (tRet (tAndV (tCall (spOf K f_l_is) [] E0 (tCons (tVar 5) (tCons (tVar 3) (tCons (tVar 4) tNil)))) (tCall (spOf K f_l_row) [] E0 (tCons (tVar 2) tNil)))))))))))))
end Cl

/-! ## Hd2 -/

namespace Cl
open PySem PySem.Spec PyProof.Rows L2
open HeadE
theorem sc_l_cell : FnScope N_l_cell ["_law_script", "_law_k"] (defScope s_l_cell) := ⟨rfl, rfl, rfl, by decide +kernel, rfl, by decide +kernel, by decide +kernel⟩
theorem sc_l_pool : FnScope N_l_pool ["_law_script", "_law_k"] (defScope s_l_pool) := ⟨rfl, rfl, rfl, by decide +kernel, rfl, by decide +kernel, by decide +kernel⟩
theorem sc_l_take : FnScope N_l_take ["_law_pool_here", "_law_many"] (defScope s_l_take) := ⟨rfl, rfl, rfl, by decide +kernel, rfl, by decide +kernel, by decide +kernel⟩
theorem sc_Rule___init__ : FnScope N_Rule___init__ ["self", "send_word", "charge_word"] (defScope s_Rule___init__) := ⟨rfl, rfl, rfl, by decide +kernel, rfl, by decide +kernel, by decide +kernel⟩
theorem sc_l_same : FnScope N_l_same ["_law_got", "_law_due"] (defScope s_l_same) := ⟨rfl, rfl, rfl, by decide +kernel, rfl, by decide +kernel, by decide +kernel⟩
theorem sc_l_written : FnScope N_l_written ["_law_first", "_law_second"] (defScope s_l_written) := ⟨rfl, rfl, rfl, by decide +kernel, rfl, by decide +kernel, by decide +kernel⟩
theorem sc_Rule___str__ : FnScope N_Rule___str__ ["self"] (defScope s_Rule___str__) := ⟨rfl, rfl, rfl, by decide +kernel, rfl, by decide +kernel, by decide +kernel⟩
theorem sc_l_is : FnScope N_l_is ["_law_rule", "_law_first", "_law_second"] (defScope s_l_is) := ⟨rfl, rfl, rfl, by decide +kernel, rfl, by decide +kernel, by decide +kernel⟩
theorem sc_Rule_every : FnScope N_Rule_every [] (defScope s_Rule_every) := ⟨rfl, rfl, rfl, by decide +kernel, rfl, by decide +kernel, by decide +kernel⟩
theorem sc_l_row : FnScope N_l_row ["_law_words"] (defScope s_l_row) := ⟨rfl, rfl, rfl, by decide +kernel, rfl, by decide +kernel, by decide +kernel⟩
theorem sc_Rule___eq__ : FnScope N_Rule___eq__ ["self", "other"] (defScope s_Rule___eq__) := ⟨rfl, rfl, rfl, by decide +kernel, rfl, by decide +kernel, by decide +kernel⟩
theorem sc_Rule_parse : FnScope N_Rule_parse ["cls", "text"] (defScope s_Rule_parse) := ⟨rfl, rfl, rfl, by decide +kernel, rfl, by decide +kernel, by decide +kernel⟩
theorem sc_l_parsed : FnScope N_l_parsed ["_law_text_here"] (defScope s_l_parsed) := ⟨rfl, rfl, rfl, by decide +kernel, rfl, by decide +kernel, by decide +kernel⟩
theorem sc_l_reads : FnScope N_l_reads ["_law_text_here", "_law_words"] (defScope s_l_reads) := ⟨rfl, rfl, rfl, by decide +kernel, rfl, by decide +kernel, by decide +kernel⟩
theorem sc_l_char : FnScope N_l_char ["_law_place"] (defScope s_l_char) := ⟨rfl, rfl, rfl, by decide +kernel, rfl, by decide +kernel, by decide +kernel⟩
theorem sc_l_text : FnScope N_l_text ["_law_pool_here", "_law_first", "_law_second"] (defScope s_l_text) := ⟨rfl, rfl, rfl, by decide +kernel, rfl, by decide +kernel, by decide +kernel⟩
theorem sc_law : FnScope N_law ["_law_script"] (defScope s_law) := ⟨rfl, rfl, rfl, by decide +kernel, rfl, by decide +kernel, by decide +kernel⟩
abbrev FZ (K : PySem.W.Frag) (mg : Str → Option Value) : Prop := Fz (PP.main.file : Str) fe xf fa fn K mg
theorem tab_ok {K : PySem.W.Frag} {mg : Str → Option Value} (c : FZ K mg) : TabOk K tab := (tab_cons (c.exm 8) tab_nil)
theorem wr_Rule_every {K : PySem.W.Frag} {mg : Str → Option Value} (c : FZ K mg) : Hz.wrB K e_Rule_every .st = true := by
  obtain ⟨h1, h2⟩ := c.more.e 1 (e := e_Rule_every) rfl
  exact (Hz.wr_of rfl h1 h2).2
theorem wr_Rule_parse {K : PySem.W.Frag} {mg : Str → Option Value} (c : FZ K mg) : Hz.wrB K e_Rule_parse .cl = true := by
  obtain ⟨h1, h2⟩ := c.more.e 2 (e := e_Rule_parse) rfl
  exact (Hz.wr_of rfl h1 h2).2
theorem xk_BadRule {w : World} {K : PySem.W.Frag} {mg : Str → Option Value} (c : FZ K mg) : ExcK PP w K mg "BadRule" ["part"] := by
  obtain ⟨h1, h2⟩ := c.more.e 0 (e := e_BadRule) rfl
  obtain ⟨cc, cda, T, C0, hno, g1, g2⟩ := Hz.tx_of (prog := PP) (h1 := h1) (h2 := h2)
  refine ⟨c.glo 5, c.free 6, C0, fun us hl hf => ?_⟩
  match us, hl, hf with
  | [v0], _, hf =>
    intro A R hp g d t os mg mb x t0 X G hx hnx hxC hroom hq
    exact Exs.init1 (f := "part") T ⟨⟨_, rfl, rfl⟩, rfl, rfl, rfl, rfl, by decide +kernel⟩ (hno _ (by simp [e_BadRule])) rfl (by decide) (by decide) (by decide) (by decide +kernel) rfl rfl (fun _ _ _ _ _ => rfl) (fun _ => rfl) (fun _ => rfl) (fun _ => rfl) (fun _ => rfl) (hf _ (by simp)) X G hx hnx hxC hroom hq
end Cl

/-! ## ComF -/
namespace Cl
open PySem PySem.Spec PyProof.Rows L2
theorem nc0 : ((0 : Nat) : Int) = 0 := id rfl
theorem nc1 : ((1 : Nat) : Int) = 1 := id rfl
theorem nc2 : ((2 : Nat) : Int) = 2 := id rfl
theorem nc3 : ((3 : Nat) : Int) = 3 := id rfl
theorem nc4 : ((4 : Nat) : Int) = 4 := id rfl
theorem nc5 : ((5 : Nat) : Int) = 5 := id rfl
theorem nc6 : ((6 : Nat) : Int) = 6 := id rfl
theorem nc7 : ((7 : Nat) : Int) = 7 := id rfl
theorem nc8 : ((8 : Nat) : Int) = 8 := id rfl
theorem nc9 : ((9 : Nat) : Int) = 9 := id rfl
theorem nc10 : ((10 : Nat) : Int) = 10 := id rfl
theorem nc11 : ((11 : Nat) : Int) = 11 := id rfl
theorem nc12 : ((12 : Nat) : Int) = 12 := id rfl
theorem natAbs10 : Int.natAbs 10 = 10 := id rfl
theorem kb_l_l : kitB "list" "list" = some true := by decide +kernel
theorem kb_l_t : kitB "list" "tuple" = some false := by decide +kernel
theorem kb_l_i : kitB "list" "int" = some false := by decide +kernel
theorem kb_l_b : kitB "list" "bool" = some false := by decide +kernel
theorem kb_l_s : kitB "list" "str" = some false := by decide +kernel
theorem kb_t_l : kitB "tuple" "list" = some false := by decide +kernel
theorem kb_t_t : kitB "tuple" "tuple" = some true := by decide +kernel
theorem kb_t_i : kitB "tuple" "int" = some false := by decide +kernel
theorem kb_t_b : kitB "tuple" "bool" = some false := by decide +kernel
theorem kb_t_s : kitB "tuple" "str" = some false := by decide +kernel
theorem kb_i_l : kitB "int" "list" = some false := by decide +kernel
theorem kb_i_t : kitB "int" "tuple" = some false := by decide +kernel
theorem kb_i_i : kitB "int" "int" = some true := by decide +kernel
theorem kb_i_b : kitB "int" "bool" = some false := by decide +kernel
theorem kb_i_s : kitB "int" "str" = some false := by decide +kernel
theorem kb_b_l : kitB "bool" "list" = some false := by decide +kernel
theorem kb_b_t : kitB "bool" "tuple" = some false := by decide +kernel
theorem kb_b_i : kitB "bool" "int" = some true := by decide +kernel
theorem kb_b_b : kitB "bool" "bool" = some true := by decide +kernel
theorem kb_b_s : kitB "bool" "str" = some false := by decide +kernel
theorem kb_s_l : kitB "str" "list" = some false := by decide +kernel
theorem kb_s_t : kitB "str" "tuple" = some false := by decide +kernel
theorem kb_s_i : kitB "str" "int" = some false := by decide +kernel
theorem kb_s_b : kitB "str" "bool" = some false := by decide +kernel
theorem kb_s_s : kitB "str" "str" = some true := by decide +kernel
theorem kb_N_l : kitB "NoneType" "list" = some false := by decide +kernel
theorem kb_N_t : kitB "NoneType" "tuple" = some false := by decide +kernel
theorem kb_N_i : kitB "NoneType" "int" = some false := by decide +kernel
theorem kb_N_b : kitB "NoneType" "bool" = some false := by decide +kernel
theorem kb_N_s : kitB "NoneType" "str" = some false := by decide +kernel
theorem max_if {a b : Int} : (if b > a then b else a) = max a b := by omega
theorem min_if {a b : Int} : (if b < a then b else a) = min a b := by omega
theorem log_lt {i : Int} (h0 : -1000000000000 ≤ i) (h1 : i ≤ 1000000000000) : (i.natAbs.log2 < 1920) = True := by
  have h : i.natAbs < 2 ^ 64 := by omega
  by_cases hz : i.natAbs = 0
  · simp [hz]
  · exact eq_true ((Nat.log2_lt hz).mpr (Nat.lt_of_lt_of_le h (Nat.pow_le_pow_right (by decide) (by decide))))
theorem chkI_ok {d : Da} {S : Sto} : chkI (.ok d S) = if d.noLc = true ∧ stoNoL S = true then .ok d S else .bad := id rfl
theorem chkI_ex {e : Exn} {S : Sto} : chkI (.ex e S) = if exnNoL e = true ∧ stoNoL S = true then .ex e S else .bad := id rfl
theorem log0 : (Nat.log2 0 < 1920) = True := eq_true (by decide)
theorem sx1 : HT.sIx 4 0 (some 2) = 2 := by decide
theorem sx2 : HT.sIx 4 4 none = 4 := by decide
theorem sx3 : HT.sIx 4 0 none = 0 := by decide
theorem sx4 : HT.sIx 4 4 (some 2) = 2 := by decide
theorem sx5 : HT.sIx 4 4 (some 3) = 3 := by decide
theorem cut1 {α : Type} {a b c d : α} : cutG [a, b, c, d] (some 2) none = [c, d] := by first | rfl | (simp [cutG, sx1, sx2])
theorem cut2 {α : Type} {a b c d : α} : cutG [a, b, c, d] none (some 2) = [a, b] := by first | rfl | (simp [cutG, sx3, sx4])
theorem cut3 {α : Type} {a b c d : α} : cutG [a, b, c, d] none (some 3) = [a, b, c] := by first | rfl | (simp [cutG, sx3, sx5])
theorem e_fSl (o : FSl) (fe : FE) (fl fh : Env → Sto → Ev (Option Int)) (σ : Env) (S : Sto) : fSl o fe fl fh σ S = (fe σ S).bd fun r S1 => (fl σ S1).bd fun lo S2 => (fh σ S2).bd fun hi S3 => o r lo hi S3 := id rfl
section
variable {α : Type} {a b c d e f : α} {xs : List α}
theorem at_0 : atI (a :: xs) 0 = some a := by simp [atI, ixN]
theorem at_1 : atI (a :: b :: xs) 1 = some b := atI_of (by decide) rfl
theorem at_2 : atI (a :: b :: c :: xs) 2 = some c := atI_of (by decide) rfl
theorem at_3 : atI (a :: b :: c :: d :: xs) 3 = some d := atI_of (by decide) rfl
theorem at_4 : atI (a :: b :: c :: d :: e :: xs) 4 = some e := atI_of (by decide) rfl
theorem at_5 : atI (a :: b :: c :: d :: e :: f :: xs) 5 = some f := atI_of (by decide) rfl
theorem atM_1 : atI [a] (-1) = some a := by simp [atI, ixN]
theorem at_nat {i : Nat} (h : xs[i]? = some a) : atI xs (i : Int) = some a := atI_nat h
theorem at_int {i : Int} (h0 : 0 ≤ i) (h : xs[i.toNat]? = some a) : atI xs i = some a := atI_of h0 h
theorem ix_int {n : Nat} {i : Int} (h0 : 0 ≤ i) (h : i < n) : ixN n i = some i.toNat := ixN_of h0 h
end
local macro_rules | `(tactic| walk_at "f") => `(tactic| simp only [e_fSeq, e_fSl, e_fVar, e_fC, e_fOp, e_fNotV, e_fAndV, e_fOrV, e_fIf, e_fChain, e_fChain3, e_fNil, e_fCons, e_fTup, e_fLst, e_fCell, e_fNoP, e_fPart, e_fRev, e_fFld, e_fCB, e_fLstRg, e_fIsi, e_fTest, e_fTru, e_fAnd, e_fOr, e_fNot, e_fYes, e_fCall, e_fCallS, e_fMeth, e_fMake, e_fNext, e_fBreak, e_fCont, e_fNever, e_fRet, e_fRetN, e_fDrop, e_fIfS, e_fSet, e_fSetD, e_fAsg, e_fPar, e_fFrz, e_fAppS, e_fSetI, e_fSFld, e_fiL, e_fiB, e_fiT, e_fiR1, e_fiR2, e_fiS, e_fiE, e_fiET, e_fiZ, e_fiZM, e_fiZT, e_fiEQ, e_fFor, e_fLc, e_fRaise, e_fRaiseP, e_fRaiseL, e_fIsD, e_fOwn2, e_fOwnI, e_fOwnR, e_fOwnIx, e_fOwnIn, e_fBoolO, e_fListZ, e_fAbsO, e_fListO, onLst, e_fMakeXV, e_fCallV0, e_fOwnAug, augV, e_fAugI, augI, cAny, e_fTupRg, e_fOwnTru, e_fOwnSet, e_fTry, e_fXf, e_fIsX, e_fIsE, e_fNeg, e_fMethX, e_fMakeX, e_fFmt, e_fJoined, e_fJoin, e_fTryO, e_fParO, e_fCount, e_fOwnEq, e_fEqTO, e_fStrO, e_fIsC, e_fLenO, onLen, e_fCallL, e_fCallSL, e_fMakeL, e_fMakeXL, e_fDNew, e_fDGet, e_fDIn, e_fDGet1, e_fDPut, e_fDisp1, e_fPop, e_fLendT, e_fLendE, chkE_ok, Rv.flatR, e_fiQ, e_fStar, e_fUpper, e_fLenS, e_fSrtSet, e_fDGet2, e_fItems, e_fDSetd, e_fListV, e_fClr, e_fExtS, e_fFind, e_fAppE, e_fSetIE, e_fDPutE, e_fDAug, e_fDc, e_fForC, e_fLcC, e_fDcC, e_fLc2, e_fRevE, e_fIdxS, e_fIdxV, e_fDfl, e_fIdxT, fGT, e_onLs, lendDs_v, lendDs_fr, lendDs_bo, lendDs_0, chkL_ok, chkI_ok, chkI_ex, exnNoL, chkT_ok, onK_int, onK_str, Da.key, Rv.noL, Da.noL,
  sq_nx, sq_rt, sq_bk, sq_ct, sq_ex, sq_bad, bd_ok, bd_ex, bd_bad, so_ok, so_ex, so_bad, noX_ok, noX_ex, noX_bad, onB_bl, onD_v, onD_fr, e_onDs, toDs_v, toDs_fr, toDs_0, onO_some, omap_some, Option.map_none, Option.isSome_none, Option.isSome_some, Option.getD_none, Option.getD_some, List.isEmpty_nil, List.isEmpty_cons, e_endO, e_endOr, fin_nx, fin_rt, fin_ex, fin0_nx, fin0_rt, e_fnOf, e_fnOf0, inOf, inOf0,
  foldJ, fHand, fgName, fgTup, fgCons, fgNil, onStr, Rv.toD, Rv.rd, Rv.bool, Rv.out, Rv.sx, Rv.isN, Da.sv, svs, Da.tyN, Da.tru, Da.fmt, noExn,
  oI0, oI, xEq, xIsN, xIsB, xIx, xIxS, xAddS, xInS, xIn, xCat, xRep, xCatT, xRepS, xSlL, xSlT, e_xSlU, xSlQ,  xSlS, bLen, bLenS, bI1, bI2, bInt1, bBool1, bList, bTup, bAll, bAny, bSum, bMaxL, bMinN, bMinP, bDCopy, bSortI, bStrI, putN,
  scal, cMul, cDiv, cMod, cPow, wipeD, ofString_inj, String.reduceEq, String.reduceNe, getF_cons, List.mem_cons, List.not_mem_nil,
  List.getElem?_cons_succ, List.getElem?_cons_zero, List.set_cons_succ, List.set_cons_zero, List.length_cons, List.length_nil, List.length_append, List.length_map, List.length_set, Int.toNat_natCast, List.map_cons, List.map_nil, List.cons_append, List.nil_append, List.append_nil, List.zip_cons_cons, List.zip_nil_left, List.zip_nil_right, List.reverse_cons, List.reverse_nil, List.all_cons, List.all_nil, List.lookup_cons, List.lookup_nil,
  List.replicate_succ, List.replicate_zero, Nat.reduceAdd, Nat.reduceSub, Nat.reduceLT, Nat.reduceLeDiff, Nat.reduceEqDiff, Nat.zero_add, Nat.add_zero, Nat.sub_self, Nat.sub_zero,
  if_true, if_false, ite_true, ite_false, Bool.false_eq_true, Bool.true_and, Bool.and_true, Bool.false_and, Bool.and_false, Bool.true_or, Bool.or_true, Bool.false_or, Bool.or_false, Bool.not_true, Bool.not_false, decide_true, decide_false, and_self, and_true, true_and, not_true_eq_false, not_false_eq_true, reduceIte, Option.some.injEq, reduceCtorEq, decide_eq_true_eq, ne_eq, Int.reduceLT, Int.reduceLE, Int.reduceEq, Int.reduceNe, Int.reduceAdd, Int.reduceSub, Int.reduceMul, Int.reduceNeg, Int.reducePow, Int.reduceToNat, Int.reduceDiv, Int.reduceMod, Int.reduceAbs, or_true, true_or, or_false, false_or, and_false, false_and, at_0, at_1, at_2, at_3, at_4, at_5, atM_1, V.int.injEq, V.bl.injEq, V.str.injEq, nc0, nc1, nc2, nc3, nc4, nc5, nc6, nc7, nc8, nc9, nc10, nc11, nc12, natAbs10, sx1, sx2, sx3, sx4, sx5, cut1, cut2, cut3, kb_l_l, kb_l_t, kb_l_i, kb_l_b, kb_l_s, kb_t_l, kb_t_t, kb_t_i, kb_t_b, kb_t_s, kb_i_l, kb_i_t, kb_i_i, kb_i_b, kb_i_s, kb_b_l, kb_b_t, kb_b_i, kb_b_b, kb_b_s, kb_s_l, kb_s_t, kb_s_i, kb_s_b, kb_s_s, kb_N_l, kb_N_t, kb_N_i, kb_N_b, kb_N_s])
local macro_rules | `(tactic| walk_at "g") => `(tactic| simp only [e_fSeq, e_fSl, e_fVar, e_fC, e_fOp, e_fNotV, e_fAndV, e_fOrV, e_fIf, e_fChain, e_fChain3, e_fNil, e_fCons, e_fTup, e_fLst, e_fCell, e_fNoP, e_fPart, e_fRev, e_fFld, e_fCB, e_fLstRg, e_fIsi, e_fTest, e_fTru, e_fAnd, e_fOr, e_fNot, e_fYes, e_fCall, e_fCallS, e_fMeth, e_fMake, e_fNext, e_fBreak, e_fCont, e_fNever, e_fRet, e_fRetN, e_fDrop, e_fIfS, e_fSet, e_fSetD, e_fAsg, e_fPar, e_fFrz, e_fAppS, e_fSetI, e_fSFld, e_fiL, e_fiB, e_fiT, e_fiR1, e_fiR2, e_fiS, e_fiE, e_fiET, e_fiZ, e_fiZM, e_fiZT, e_fiEQ, e_fFor, e_fLc, e_fRaise, e_fRaiseP, e_fRaiseL, e_fIsD, e_fOwn2, e_fOwnI, e_fOwnR, e_fOwnIx, e_fOwnIn, e_fBoolO, e_fListZ, e_fAbsO, e_fListO, onLst, e_fMakeXV, e_fCallV0, e_fOwnAug, augV, e_fAugI, augI, cAny, e_fTupRg, e_fOwnTru, e_fOwnSet, e_fTry, e_fXf, e_fIsX, e_fIsE, e_fNeg, e_fMethX, e_fMakeX, e_fFmt, e_fJoined, e_fJoin, e_fTryO, e_fParO, e_fCount, e_fOwnEq, e_fEqTO, e_fStrO, e_fIsC, e_fLenO, onLen, e_fCallL, e_fCallSL, e_fMakeL, e_fMakeXL, e_fDNew, e_fDGet, e_fDIn, e_fDGet1, e_fDPut, e_fDisp1, e_fPop, e_fLendT, e_fLendE, chkE_ok, Rv.flatR, e_fiQ, e_fStar, e_fUpper, e_fLenS, e_fSrtSet, e_fDGet2, e_fItems, e_fDSetd, e_fListV, e_fClr, e_fExtS, e_fFind, e_fAppE, e_fSetIE, e_fDPutE, e_fDAug, e_fDc, e_fForC, e_fLcC, e_fDcC, e_fLc2, e_fRevE, e_fIdxS, e_fIdxV, e_fDfl, e_fIdxT, fGT, e_onLs, lendDs_v, lendDs_fr, lendDs_bo, lendDs_0, chkL_ok, chkI_ok, chkI_ex, exnNoL, chkT_ok, onK_int, onK_str, Da.key, Rv.noL, Da.noL,
  sq_nx, sq_rt, sq_bk, sq_ct, sq_ex, sq_bad, bd_ok, bd_ex, bd_bad, so_ok, so_ex, so_bad, noX_ok, noX_ex, noX_bad, onB_bl, onD_v, onD_fr, e_onDs, toDs_v, toDs_fr, toDs_0, onO_some, omap_some, Option.map_none, Option.isSome_none, Option.isSome_some, Option.getD_none, Option.getD_some, List.isEmpty_nil, List.isEmpty_cons, e_endO, e_endOr, fin_nx, fin_rt, fin_ex, fin0_nx, fin0_rt, e_fnOf, e_fnOf0, inOf, inOf0,
  foldJ, fHand, fgName, fgTup, fgCons, fgNil, onStr, Rv.toD, Rv.rd, Rv.bool, Rv.out, Rv.sx, Rv.isN, Da.sv, svs, Da.tyN, Da.tru, Da.fmt, noExn,
  oI0, oI, xEq, xIsN, xIsB, xIx, xIxS, xAddS, xInS, xIn, xCat, xRep, xCatT, xRepS, xSlL, xSlT, e_xSlU, xSlQ,  xSlS, bLen, bLenS, bI1, bI2, bInt1, bBool1, bList, bTup, bAll, bAny, bSum, bMaxL, bMinN, bMinP, bDCopy, bSortI, bStrI, putN,
  scal, cMul, cDiv, cMod, cPow, wipeD, ofString_inj, String.reduceEq, String.reduceNe, getF_cons, List.mem_cons, List.not_mem_nil,
  List.getElem?_cons_succ, List.getElem?_cons_zero, List.set_cons_succ, List.set_cons_zero, List.length_cons, List.length_nil, List.length_append, List.length_map, List.length_set, Int.toNat_natCast, List.map_cons, List.map_nil, List.cons_append, List.nil_append, List.append_nil, List.zip_cons_cons, List.zip_nil_left, List.zip_nil_right, List.reverse_cons, List.reverse_nil, List.all_cons, List.all_nil, List.lookup_cons, List.lookup_nil,
  List.replicate_succ, List.replicate_zero, Nat.reduceAdd, Nat.reduceSub, Nat.reduceLT, Nat.reduceLeDiff, Nat.reduceEqDiff, Nat.zero_add, Nat.add_zero, Nat.sub_self, Nat.sub_zero,
  if_true, if_false, ite_true, ite_false, Bool.false_eq_true, Bool.true_and, Bool.and_true, Bool.false_and, Bool.and_false, Bool.true_or, Bool.or_true, Bool.false_or, Bool.or_false, Bool.not_true, Bool.not_false, decide_true, decide_false, and_self, and_true, true_and, not_true_eq_false, not_false_eq_true, reduceIte, Option.some.injEq, reduceCtorEq, decide_eq_true_eq, ne_eq, Int.reduceLT, Int.reduceLE, Int.reduceEq, Int.reduceNe, Int.reduceAdd, Int.reduceSub, Int.reduceMul, Int.reduceNeg, Int.reducePow, Int.reduceToNat, Int.reduceDiv, Int.reduceMod, Int.reduceAbs, or_true, true_or, or_false, false_or, and_false, false_and, at_0, at_1, at_2, at_3, at_4, at_5, atM_1, V.int.injEq, V.bl.injEq, V.str.injEq, nc0, nc1, nc2, nc3, nc4, nc5, nc6, nc7, nc8, nc9, nc10, nc11, nc12, natAbs10, sx1, sx2, sx3, sx4, sx5, cut1, cut2, cut3, kb_l_l, kb_l_t, kb_l_i, kb_l_b, kb_l_s, kb_t_l, kb_t_t, kb_t_i, kb_t_b, kb_t_s, kb_i_l, kb_i_t, kb_i_i, kb_i_b, kb_i_s, kb_b_l, kb_b_t, kb_b_i, kb_b_b, kb_b_s, kb_s_l, kb_s_t, kb_s_i, kb_s_b, kb_s_s, kb_N_l, kb_N_t, kb_N_i, kb_N_b, kb_N_s, *])
/-! ## pools -/
def Px (p : Nat) (S : Sto) : Prop := ∃ a f c : Int, S[p]? = some (.lst [.int a, .int f, .int c]) ∧ 0 ≤ a ∧ 0 ≤ c
/-- all but the cell p as before -/
def Pt (p : Nat) (S S' : Sto) : Prop := S'.length = S.length ∧ ∀ q, q ≠ p → S'[q]? = S[q]?
theorem Pt.refl (p : Nat) (S : Sto) : Pt p S S := ⟨rfl, fun _ _ => rfl⟩
theorem Pt.trans {p : Nat} {S S1 S2 : Sto} (a : Pt p S S1) (b : Pt p S1 S2) : Pt p S S2 := ⟨b.1.trans a.1, fun q h => (b.2 q h).trans (a.2 q h)⟩
theorem Pt.set (p : Nat) (S : Sto) (d : Da) : Pt p S (S.set p d) := ⟨by simp, fun q h => by rw [List.getElem?_set_ne (fun z => h z.symm)]⟩
theorem Px.other {p q : Nat} {S S' : Sto} (h : Px q S) (t : Pt p S S') (ne : q ≠ p) : Px q S' := by
  obtain ⟨a, f, c, e, z⟩ := h
  exact ⟨a, f, c, by rw [t.2 q ne]; exact e, z⟩
theorem Px.lt {p : Nat} {S : Sto} (h : Px p S) : p < S.length := by
  obtain ⟨a, f, c, e, z⟩ := h
  exact (List.getElem?_eq_some_iff.mp e).1
theorem cell_ok {ns : List Int} {k : Int} (h0 : 0 ≤ k) (S : Sto) : ∃ i : Int, 0 ≤ i ∧ f_l_cell [.frl ns, .int k] S = .ok (.v (.int i)) S := by
  by_cases h : k < ns.length
  · have e : atI ns k = some (ns.getD k.toNat 0) := by
      refine atI_of h0 ?_
      have : k.toNat < ns.length := by omega
      simp [List.getElem?_eq_getElem this, List.getD_eq_getElem?_getD]
    refine ⟨if ns.getD k.toNat 0 < 0 then -ns.getD k.toNat 0 else ns.getD k.toNat 0, by split <;> omega, ?_⟩
    simp only [f_l_cell, fb_l_cell]
    walk_at "f"
    simp only [h, e]
    walk_at "f"
  · refine ⟨0, by decide, ?_⟩
    simp only [f_l_cell, fb_l_cell]
    walk_at "f"
    simp only [h]
    walk_at "f"
theorem pool_ok {ns : List Int} {k : Int} (h0 : 0 ≤ k) (h1 : k < 1000000) (S : Sto) : ∃ d, f_l_pool [.frl ns, .int k] S = .ok (.v (.cell S.length)) (S ++ [d]) ∧ Px S.length (S ++ [d]) := by
  obtain ⟨i, hi, e⟩ := cell_ok (ns := ns) h0 S
  have hm : decide ((-18446744073709551616 : Int) < k ∧ k < 18446744073709551616) = true := by simp; omega
  refine ⟨.lst [.int i, .int (if decide ((1000000000000000000 : Int) ≤ i) = true then 1 else 0), .int (1000 * k)], ?_, i, _, 1000 * k, by simp; rfl, hi, by omega⟩
  simp only [f_l_pool, fb_l_pool]
  walk_at "g"
theorem take_ok {p : Nat} {S : Sto} {m : Int} (hp : Px p S) (h0 : 0 < m) (h1 : m < 4611686018427387904) : ∃ (r : Int) (S' : Sto), f_l_take [.cell p, .int m] S = .ok (.v (.int r)) S' ∧ 0 ≤ r ∧ r < m ∧ Px p S' ∧ Pt p S S' := by
  obtain ⟨a, f, c, e, ha, hc⟩ := hp
  have hl := (List.getElem?_eq_some_iff.mp e).1
  have eg : S.getD p .non = .lst [.int a, .int f, .int c] := by rw [List.getD_eq_getElem?_getD, e]; rfl
  have i0 : ixN 3 0 = some 0 := id rfl
  have i2 : ixN 3 2 = some 2 := id rfl
  have hb : (0 < m ∧ m < 4611686018427387904) := ⟨h0, h1⟩
  by_cases hA : f = 1 ∧ 1 < a
  · refine ⟨a % m, S.set p (.lst [.int (a / m), .int f, .int c]), ?_, Int.emod_nonneg _ (by omega), Int.emod_lt_of_pos _ h0, ⟨a / m, f, c, by simp [hl], Int.ediv_nonneg ha (by omega), hc⟩, Pt.set _ _ _⟩
    obtain ⟨hf, ha1⟩ := hA
    subst hf
    simp only [f_l_take, fb_l_take]
    walk_at "g"
  · have hA' : (decide (f = 1) = true ∧ decide (1 < a) = true) = False := by simp; exact fun h => Int.not_lt.mp fun z => hA ⟨h, z⟩
    have bx1 := Int.emod_nonneg ((a + 7) * 48271 + (c + 1) * 69621) (show (2147483629 : Int) ≠ 0 by decide)
    have cx : (if f = 1 then if 1 < a then (0 : Nat) else 1 else 1) = 1 := by
      by_cases h : f = 1
      · have : ¬ 1 < a := fun z => hA ⟨h, z⟩
        simp [h, this]
      · simp [h]
    have step : ∀ (x2 : Int), 0 ≤ x2 → x2 < 2147483587 → ∃ x3 : Int, True := fun x2 _ _ => ⟨x2, True.intro⟩
    generalize hx1 : ((a + 7) * 48271 + (c + 1) * 69621) % 2147483629 = x1
    have b2 := Int.emod_nonneg (x1 * 16807 + (c + 1) * 7919) (show (2147483587 : Int) ≠ 0 by decide)
    have b3 := Int.emod_lt_of_pos (x1 * 16807 + (c + 1) * 7919) (show (0 : Int) < 2147483587 by decide)
    generalize hx2 : (x1 * 16807 + (c + 1) * 7919) % 2147483587 = x2 at b2 b3
    have d1 : -18446744073709551616 < x2 / 7 ∧ x2 / 7 < 18446744073709551616 := by omega
    refine ⟨(if 15 < a then (x2 / 7 * (x2 / 1009 + (c + 1) + 3)) % 2147483563 else x2) / 11 % m, S.set p (.lst [.int a, .int f, .int (c + 1)]), ?_, Int.emod_nonneg _ (by omega), Int.emod_lt_of_pos _ h0, ⟨a, f, c + 1, by simp [hl], ha, by omega⟩, Pt.set _ _ _⟩
    have e' : (S.set p (.lst [.int a, .int f, .int (c + 1)]))[p]? = some (.lst [.int a, .int f, .int (c + 1)]) := by simp [hl]
    have eg' : (S.set p (.lst [.int a, .int f, .int (c + 1)])).getD p .non = .lst [.int a, .int f, .int (c + 1)] := by rw [List.getD_eq_getElem?_getD, e']; rfl
    have hA2 : f = 1 → ¬ 1 < a := fun h z => hA ⟨h, z⟩
    simp only [f_l_take, fb_l_take]
    by_cases hf : f = 1
    · have ha1 := hA2 hf
      clear hA hA2 cx hA' step bx1
      subst hf
      by_cases h15 : 15 < a
      · omega
      · walk_at "g"
    · clear hA hA2 cx hA' step bx1
      by_cases h15 : 15 < a
      · walk_at "g"
      · walk_at "g"
theorem draw {p : Nat} {S : Sto} {M : Int} (hp : Px p S) (h0 : 0 < M) (h1 : M < 4611686018427387904) : ∃ (r : Int) (S' : Sto), (∀ m', m' = M → f_l_take [.cell p, .int m'] S = .ok (.v (.int r)) S') ∧ 0 ≤ r ∧ r < M ∧ Px p S' ∧ Pt p S S' := by
  obtain ⟨r, S', e, h⟩ := take_ok hp h0 h1
  exact ⟨r, S', fun m' hm => hm ▸ e, h⟩
end Cl

/-! ## StrF -/
namespace Cl
open PySem PySem.Spec PyProof.Rows L2
section
open PySem PySem.Spec PyProof.Rows L2
/-! ## texts by their signs -/
def ch (s : Str) : List Nat := s.cps.toList
theorem ch_len (s : Str) : s.length = (ch s).length := (Array.length_toList (xs := s.cps)).symm
theorem ch_ext {s t : Str} (h : ch s = ch t) : s = t := by
  obtain ⟨a⟩ := s
  obtain ⟨b⟩ := t
  have : a = b := Array.toList_inj.mp h
  rw [this]
theorem ch_mk (l : List Nat) : ch ⟨l.toArray⟩ = l := rfl
theorem ch_one (c : Nat) : ch ⟨#[c]⟩ = [c] := rfl
theorem ch_app (a b : Str) : ch (a ++ b) = ch a ++ ch b := by
  show (a.cps ++ b.cps).toList = _
  rw [Array.toList_append]; rfl
theorem ch_empty : ch Str.empty = [] := rfl
theorem empty_app (a : Str) : Str.empty ++ a = a := ch_ext (by rw [ch_app, ch_empty, List.nil_append])
theorem ch_cut (z : Str) (lo hi : Option Int) : ch (cutS z lo hi) = ((ch z).drop (HT.sIx (ch z).length 0 lo)).take (HT.sIx (ch z).length (ch z).length hi - HT.sIx (ch z).length 0 lo) := by
  show ((z.cps.toList.drop (HT.sIx z.length 0 lo)).take (HT.sIx z.length z.length hi - HT.sIx z.length 0 lo)) = _
  rw [ch_len]; rfl
theorem ch_to (z : Str) {k : Int} (h : 0 ≤ k) : ch (cutS z none (some k)) = (ch z).take k.toNat := by
  rw [ch_cut]
  show ((ch z).drop 0).take ((if k < 0 then (k + ((ch z).length : Int)).toNat else min k.toNat (ch z).length) - 0) = _
  rw [if_neg (by omega), List.drop_zero, Nat.sub_zero, List.take_eq_take_iff]
  omega
theorem ch_from (z : Str) {k : Int} (h : 0 ≤ k) : ch (cutS z (some k) none) = (ch z).drop k.toNat := by
  rw [ch_cut]
  show ((ch z).drop (if k < 0 then (k + ((ch z).length : Int)).toNat else min k.toNat (ch z).length)).take ((ch z).length - (if k < 0 then (k + ((ch z).length : Int)).toNat else min k.toNat (ch z).length)) = _
  rw [if_neg (by omega)]
  rw [List.take_of_length_le (by rw [List.length_drop]; exact Nat.le_refl _)]
  by_cases hk : k.toNat ≤ (ch z).length
  · rw [Nat.min_eq_left hk]
  · rw [Nat.min_eq_right (by omega), List.drop_length, List.drop_of_length_le (by omega)]
theorem fold_app : ∀ (l : List (Array Nat)) (acc : Array Nat), (l.foldl (· ++ ·) acc).toList = acc.toList ++ (l.map Array.toList).flatten
  | [], acc => by simp
  | a :: l, acc => by rw [List.foldl_cons, fold_app l, Array.toList_append]; simp
theorem ch_mul {z : Str} {n : Int} (h : 2 ≤ n) (hz : 0 < z.length) : ch (Txt.mul z n) = (List.replicate n.toNat (ch z)).flatten := by
  unfold Txt.mul
  rw [if_neg (by omega), if_neg (by simp; constructor <;> omega)]
  show ((List.replicate n.toNat z.cps).foldl (· ++ ·) #[]).toList = _
  rw [fold_app]
  simp [List.map_replicate, ch]
theorem flat_len {l : List Nat} : ∀ n : Nat, ((List.replicate n l).flatten).length = n * l.length
  | 0 => by simp
  | n + 1 => by simp [List.replicate_succ, flat_len n, Nat.succ_mul, Nat.add_comm]
theorem flat_mem {l : List Nat} {c n : Nat} (h : c ∈ (List.replicate n l).flatten) : c ∈ l := by
  rw [List.mem_flatten] at h
  obtain ⟨x, hx, hc⟩ := h
  rw [List.mem_replicate] at hx
  rw [← hx.2]; exact hc
theorem glue_fold : ∀ (l : List Str) (acc : Array Nat), (l.foldl (fun acc p => acc ++ (Str.empty).cps ++ p.cps) acc).toList = acc.toList ++ (l.map ch).flatten
  | [], acc => by simp
  | a :: l, acc => by
    rw [List.foldl_cons, glue_fold l]
    simp [Str.empty, ch]
theorem ch_join (l : List Str) : ch (Txt.join Str.empty l) = (l.map ch).flatten := by
  show ((l.drop 1).foldl (fun acc p => acc ++ (Str.empty).cps ++ p.cps) (l.headD Str.empty).cps).toList = _
  rw [glue_fold]
  cases l with
  | nil => rfl
  | cons a l => simp [ch]
theorem empty_lit : (("" : String) : Str) = Str.empty := by decide +kernel
theorem join_ones (cs : List Nat) : Txt.join (("" : String) : Str) (cs.map fun c => (⟨#[c]⟩ : Str)) = ⟨cs.toArray⟩ := by
  rw [empty_lit]
  refine ch_ext ?_
  rw [ch_join, List.map_map]
  show (cs.map (fun c => [c])).flatten = cs
  induction cs with
  | nil => rfl
  | cons c cs ih => simp [ih]
theorem sum_ones (cs : List Nat) : ((cs.map fun c => (⟨#[c]⟩ : Str)).map (·.length)).sum = cs.length := by
  induction cs with
  | nil => rfl
  | cons c cs ih =>
    rw [List.map_cons, List.map_cons, List.sum_cons, ih]
    show 1 + cs.length = cs.length + 1
    omega
theorem chD_map (s : Str) : chD s = (ch s).map fun c => Da.str ⟨#[c]⟩ := rfl
/-- small numbers as texts -/
theorem num_len {i : Int} (h0 : 0 ≤ i) (h1 : i < 100) : ((toString i : String) : Str).length ≤ 2 := by
  have key : ∀ n : Nat, n < 100 → ((toString (n : Int) : String) : Str).length ≤ 2 := by decide +kernel
  have := key i.toNat (by omega)
  rw [Int.toNat_of_nonneg h0] at this
  exact this
theorem num_log {i : Int} (h0 : 0 ≤ i) (h1 : i < 100) : i.natAbs.log2 < 1920 := by
  have key : ∀ n : Nat, n < 100 → n.log2 < 1920 := by decide +kernel
  exact key i.natAbs (by omega)
end

/-! ## FndF -/
section
open PySem PySem.Spec PyProof.Rows L2
/-! ## loops that look for the first -/
theorem find_range {p : Nat → Bool} : ∀ {N k : Nat}, p k = true → k < N → (∀ j, j < k → p j = false) → (List.range N).find? p = some k
  | 0, k, _, h, _ => by omega
  | N + 1, k, h1, h2, h3 => by
    rw [List.range_succ, List.find?_append]
    by_cases hk : k < N
    · rw [find_range h1 hk h3]; rfl
    · have : k = N := by omega
      subst this
      have hn : (List.range k).find? p = none := by
        rw [List.find?_eq_none]
        intro j hj
        rw [List.mem_range] at hj
        rw [h3 j hj]; simp
      rw [hn]; simp [h1]
theorem find_none {p : Nat → Bool} {N : Nat} (h : ∀ j, j < N → p j = false) : (List.range N).find? p = none := by
  rw [List.find?_eq_none]
  intro j hj
  rw [List.mem_range] at hj
  rw [h j hj]; simp
theorem enD_of : ∀ {xs : List Da} {k i : Nat} {d : Da}, (enD k xs)[i]? = some d → ∃ x, xs[i]? = some x ∧ d = .tup [.int ((k + i : Nat) : Int), x]
  | [], k, i, d, h => by simp [enD] at h
  | x :: xs, k, 0, d, h => by simp [enD] at h; exact ⟨x, rfl, by rw [← h]; rfl⟩
  | x :: xs, k, i + 1, d, h => by
    simp only [enD, List.getElem?_cons_succ] at h
    obtain ⟨y, h1, h2⟩ := enD_of h
    exact ⟨y, by simpa using h1, by rw [h2, show k + 1 + i = k + (i + 1) by omega]⟩
theorem at_nat' {α : Type} {xs : List α} {i : Nat} {a : α} (h : xs[i]? = some a) : atI xs (i : Int) = some a := atI_nat h
theorem at_mapD {α : Type} {F : α → Da} {l : List α} {i : Nat} (x : α) (h : i < l.length) : atI (l.map F) (i : Int) = some (F (l.getD i x)) := by
  refine at_nat' ?_
  simp [h, List.getD_eq_getElem?_getD]
theorem map_at {α : Type} {F : α → Da} {l : List α} {i : Nat} {d : Da} (x : α) (h : (l.map F)[i]? = some d) : i < l.length ∧ d = F (l.getD i x) ∧ l.getD i x ∈ l := by
  rw [List.getElem?_map] at h
  cases e : l[i]? with
  | none => rw [e] at h; cases h
  | some y =>
    rw [e] at h
    cases h
    obtain ⟨hi, hy⟩ := List.getElem?_eq_some_iff.mp e
    exact ⟨hi, by simp [List.getD_eq_getElem?_getD, e], by simp [List.getD_eq_getElem?_getD, e]; rw [← hy]; exact List.getElem_mem hi⟩
section
variable {fg : FG} {fb : FS} {items : List Da} {σ : Env} {S : Sto}
/-- a for that changes no store and ends at the first item for which q holds: with r, or raising e -/
theorem for_find (Sh : Env → Prop) (q : Nat → Bool) (out : Nat → Rv ⊕ Exn) (h0 : Sh σ)
    (hs : ∀ (i : Nat) d σ, items[i]? = some d → Sh σ → ∃ σ1, fg d σ = some σ1 ∧ ((q i = false ∧ ∃ σ2, (fb σ1 S = .nx σ2 S ∨ fb σ1 S = .ct σ2 S) ∧ Sh σ2) ∨ (q i = true ∧ match out i with
      | .inl r => fb σ1 S = .rt r S
      | .inr e => ∃ σ2, fb σ1 S = .ex e σ2 S))) :
    (∃ σ', foldFor fg fb items σ S = .nx σ' S ∧ Sh σ' ∧ (List.range items.length).find? q = none) ∨ (∃ k, (List.range items.length).find? q = some k ∧ k < items.length ∧ match out k with
      | .inl r => foldFor fg fb items σ S = .rt r S
      | .inr e => ∃ σ', foldFor fg fb items σ S = .ex e σ' S) := by
  have out' := for_out (fg := fg) (fb := fb) (fun i σ S' => S' = S ∧ Sh σ ∧ ∀ j, j < i → q j = false) (fun _ _ => False)
    (fun r S' => S' = S ∧ ∃ k, out k = .inl r ∧ (List.range items.length).find? q = some k ∧ k < items.length) (fun e S' => S' = S ∧ ∃ k, out k = .inr e ∧ (List.range items.length).find? q = some k ∧ k < items.length)
    (items := items) (σ := σ) (S := S) ⟨rfl, h0, fun j h => by omega⟩ (by
    rintro i d σ S1 hd ⟨rfl, hsh, hb⟩
    have hi := (List.getElem?_eq_some_iff.mp hd).1
    obtain ⟨σ1, h1, h2⟩ := hs i d σ hd hsh
    refine ⟨σ1, h1, ?_⟩
    rcases h2 with ⟨h2, σ2, h3, h4⟩ | ⟨h2, h3⟩
    · have hb' : ∀ j, j < i + 1 → q j = false := fun j hj => by
        by_cases h : j = i
        · rw [h]; exact h2
        · exact hb j (by omega)
      rcases h3 with h3 | h3
      · exact on_of h3 ⟨rfl, h4, hb'⟩
      · exact oc_of h3 ⟨rfl, h4, hb'⟩
    · have hf := find_range h2 hi hb
      cases ho : out i with
      | inl r => rw [ho] at h3; exact or_of h3 ⟨rfl, i, ho, hf, hi⟩
      | inr e => rw [ho] at h3; obtain ⟨σ2, h3⟩ := h3; exact ox_of h3 ⟨rfl, i, ho, hf, hi⟩)
  rcases out' with ⟨σ', S', e, h | h⟩ | ⟨r, S', e, rfl, k, h1, h2, h3⟩ | ⟨e', σ', S', e, rfl, k, h1, h2, h3⟩
  · obtain ⟨rfl, h1, h2⟩ := h
    exact .inl ⟨σ', e, h1, find_none h2⟩
  · exact h.elim
  · exact .inr ⟨k, h2, h3, by rw [h1]; exact e⟩
  · exact .inr ⟨k, h2, h3, by rw [h1]; exact ⟨σ', e⟩⟩
/-- the same where the state goes with the turn -/
theorem for_findI (Sh : Nat → Env → Prop) (q : Nat → Bool) (out : Nat → Rv ⊕ Exn) (h0 : Sh 0 σ)
    (hs : ∀ (i : Nat) d σ, items[i]? = some d → Sh i σ → ∃ σ1, fg d σ = some σ1 ∧ ((q i = false ∧ ∃ σ2, (fb σ1 S = .nx σ2 S ∨ fb σ1 S = .ct σ2 S) ∧ Sh (i + 1) σ2) ∨ (q i = true ∧ match out i with
      | .inl r => fb σ1 S = .rt r S
      | .inr e => ∃ σ2, fb σ1 S = .ex e σ2 S))) :
    (∃ σ', foldFor fg fb items σ S = .nx σ' S ∧ Sh items.length σ' ∧ (List.range items.length).find? q = none) ∨ (∃ k, (List.range items.length).find? q = some k ∧ k < items.length ∧ match out k with
      | .inl r => foldFor fg fb items σ S = .rt r S
      | .inr e => ∃ σ', foldFor fg fb items σ S = .ex e σ' S) := by
  have out' := for_out (fg := fg) (fb := fb) (fun i σ S' => S' = S ∧ Sh i σ ∧ ∀ j, j < i → q j = false) (fun _ _ => False)
    (fun r S' => S' = S ∧ ∃ k, out k = .inl r ∧ (List.range items.length).find? q = some k ∧ k < items.length) (fun e S' => S' = S ∧ ∃ k, out k = .inr e ∧ (List.range items.length).find? q = some k ∧ k < items.length)
    (items := items) (σ := σ) (S := S) ⟨rfl, h0, fun j h => by omega⟩ (by
    rintro i d σ S1 hd ⟨rfl, hsh, hb⟩
    have hi := (List.getElem?_eq_some_iff.mp hd).1
    obtain ⟨σ1, h1, h2⟩ := hs i d σ hd hsh
    refine ⟨σ1, h1, ?_⟩
    rcases h2 with ⟨h2, σ2, h3, h4⟩ | ⟨h2, h3⟩
    · have hb' : ∀ j, j < i + 1 → q j = false := fun j hj => by
        by_cases h : j = i
        · rw [h]; exact h2
        · exact hb j (by omega)
      rcases h3 with h3 | h3
      · exact on_of h3 ⟨rfl, h4, hb'⟩
      · exact oc_of h3 ⟨rfl, h4, hb'⟩
    · have hf := find_range h2 hi hb
      cases ho : out i with
      | inl r => rw [ho] at h3; exact or_of h3 ⟨rfl, i, ho, hf, hi⟩
      | inr e => rw [ho] at h3; obtain ⟨σ2, h3⟩ := h3; exact ox_of h3 ⟨rfl, i, ho, hf, hi⟩)
  rcases out' with ⟨σ', S', e, h | h⟩ | ⟨r, S', e, rfl, k, h1, h2, h3⟩ | ⟨e', σ', S', e, rfl, k, h1, h2, h3⟩
  · obtain ⟨rfl, h1, h2⟩ := h
    exact .inl ⟨σ', e, h1, find_none h2⟩
  · exact h.elim
  · exact .inr ⟨k, h2, h3, by rw [h1]; exact e⟩
  · exact .inr ⟨k, h2, h3, by rw [h1]; exact ⟨σ', e⟩⟩
end
end

/-! ## RuA -/
local macro_rules | `(tactic| walk_at "g") => `(tactic| simp only [e_fSeq, e_fSl, e_fVar, e_fC, e_fOp, e_fNotV, e_fAndV, e_fOrV, e_fIf, e_fChain, e_fChain3, e_fNil, e_fCons, e_fTup, e_fLst, e_fCell, e_fNoP, e_fPart, e_fRev, e_fFld, e_fCB, e_fLstRg, e_fIsi, e_fTest, e_fTru, e_fAnd, e_fOr, e_fNot, e_fYes, e_fCall, e_fCallS, e_fMeth, e_fMake, e_fNext, e_fBreak, e_fCont, e_fNever, e_fRet, e_fRetN, e_fDrop, e_fIfS, e_fSet, e_fSetD, e_fAsg, e_fPar, e_fFrz, e_fAppS, e_fSetI, e_fSFld, e_fiL, e_fiB, e_fiT, e_fiR1, e_fiR2, e_fiS, e_fiE, e_fiET, e_fiZ, e_fiZM, e_fiZT, e_fiEQ, e_fFor, e_fLc, e_fRaise, e_fRaiseP, e_fRaiseL, e_fIsD, e_fOwn2, e_fOwnI, e_fOwnR, e_fOwnIx, e_fOwnIn, e_fBoolO, e_fListZ, e_fAbsO, e_fListO, onLst, e_fMakeXV, e_fCallV0, e_fOwnAug, augV, e_fAugI, augI, cAny, e_fTupRg, e_fOwnTru, e_fOwnSet, e_fTry, e_fXf, e_fIsX, e_fIsE, e_fNeg, e_fMethX, e_fMakeX, e_fFmt, e_fJoined, e_fJoin, e_fTryO, e_fParO, e_fCount, e_fOwnEq, e_fEqTO, e_fStrO, e_fIsC, e_fLenO, onLen, e_fCallL, e_fCallSL, e_fMakeL, e_fMakeXL, e_fDNew, e_fDGet, e_fDIn, e_fDGet1, e_fDPut, e_fDisp1, e_fPop, e_fLendT, e_fLendE, chkE_ok, Rv.flatR, e_fiQ, e_fStar, e_fUpper, e_fLenS, e_fSrtSet, e_fDGet2, e_fItems, e_fDSetd, e_fListV, e_fClr, e_fExtS, e_fFind, e_fAppE, e_fSetIE, e_fDPutE, e_fDAug, e_fDc, e_fForC, e_fLcC, e_fDcC, e_fLc2, e_fRevE, e_fIdxS, e_fIdxV, e_fDfl, e_fIdxT, fGT, e_onLs, lendDs_v, lendDs_fr, lendDs_bo, lendDs_0, chkL_ok, chkI_ok, chkI_ex, exnNoL, chkT_ok, onK_int, onK_str, Da.key, Rv.noL, Da.noL,
  sq_nx, sq_rt, sq_bk, sq_ct, sq_ex, sq_bad, bd_ok, bd_ex, bd_bad, so_ok, so_ex, so_bad, noX_ok, noX_ex, noX_bad, onB_bl, onD_v, onD_fr, e_onDs, toDs_v, toDs_fr, toDs_0, onO_some, omap_some, Option.map_none, Option.isSome_none, Option.isSome_some, Option.getD_none, Option.getD_some, List.isEmpty_nil, List.isEmpty_cons, e_endO, e_endOr, fin_nx, fin_rt, fin_ex, fin0_nx, fin0_rt, e_fnOf, e_fnOf0, inOf, inOf0,
  foldJ, fHand, fgName, fgTup, fgCons, fgNil, onStr, Rv.toD, Rv.rd, Rv.bool, Rv.out, Rv.sx, Rv.isN, Da.sv, svs, Da.tyN, Da.tru, Da.fmt, noExn,
  oI0, oI, xEq, xIsN, xIsB, xIx, xIxS, xAddS, xInS, xIn, xCat, xRep, xCatT, xRepS, xSlL, xSlT, e_xSlU, xSlQ,  xSlS, bLen, bLenS, bI1, bI2, bInt1, bBool1, bList, bTup, bAll, bAny, bSum, bMaxL, bMinN, bMinP, bDCopy, bSortI, bStrI, putN,
  scal, cMul, cDiv, cMod, cPow, wipeD, ofString_inj, String.reduceEq, String.reduceNe, getF_cons, List.mem_cons, List.not_mem_nil,
  List.getElem?_cons_succ, List.getElem?_cons_zero, List.set_cons_succ, List.set_cons_zero, List.length_cons, List.length_nil, List.length_append, List.length_map, List.length_set, Int.toNat_natCast, List.map_cons, List.map_nil, List.cons_append, List.nil_append, List.append_nil, List.zip_cons_cons, List.zip_nil_left, List.zip_nil_right, List.reverse_cons, List.reverse_nil, List.all_cons, List.all_nil, List.lookup_cons, List.lookup_nil,
  List.replicate_succ, List.replicate_zero, Nat.reduceAdd, Nat.reduceSub, Nat.reduceLT, Nat.reduceLeDiff, Nat.reduceEqDiff, Nat.zero_add, Nat.add_zero, Nat.sub_self, Nat.sub_zero,
  if_true, if_false, ite_true, ite_false, Bool.false_eq_true, Bool.true_and, Bool.and_true, Bool.false_and, Bool.and_false, Bool.true_or, Bool.or_true, Bool.false_or, Bool.or_false, Bool.not_true, Bool.not_false, decide_true, decide_false, and_self, and_true, true_and, not_true_eq_false, not_false_eq_true, reduceIte, Option.some.injEq, reduceCtorEq, decide_eq_true_eq, ne_eq, Int.reduceLT, Int.reduceLE, Int.reduceEq, Int.reduceNe, Int.reduceAdd, Int.reduceSub, Int.reduceMul, Int.reduceNeg, Int.reducePow, Int.reduceToNat, Int.reduceDiv, Int.reduceMod, Int.reduceAbs, or_true, true_or, or_false, false_or, and_false, false_and, at_0, at_1, at_2, at_3, at_4, at_5, atM_1, V.int.injEq, V.bl.injEq, V.str.injEq, nc0, nc1, nc2, nc3, nc4, nc5, nc6, nc7, nc8, nc9, nc10, nc11, nc12, natAbs10, sx1, sx2, sx3, sx4, sx5, cut1, cut2, cut3, kb_l_l, kb_l_t, kb_l_i, kb_l_b, kb_l_s, kb_t_l, kb_t_t, kb_t_i, kb_t_b, kb_t_s, kb_i_l, kb_i_t, kb_i_i, kb_i_b, kb_i_s, kb_b_l, kb_b_t, kb_b_i, kb_b_b, kb_b_s, kb_s_l, kb_s_t, kb_s_i, kb_s_b, kb_s_s, kb_N_l, kb_N_t, kb_N_i, kb_N_b, kb_N_s, *])
section
open PySem PySem.Spec PyProof.Rows L2
section
variable {α : Type} {fg fg1 : FG} {ft ft1 : FT} {fi1 : FI} {fe : FE} {vs1 : List Nat} {σ : Env} {S : Sto}
theorem lc2_pure (F : α → Da) (σ1 : α → Env) (items out : α → List Da) : ∀ {l : List α} {acc : List Da},
    (∀ x ∈ l, fg (F x) σ = some (σ1 x) ∧ ft (σ1 x) S = .ok true S ∧ fi1 (σ1 x) S = .ok (items x) S ∧ ∀ acc : List Da, acc.length ≤ 900000 → foldLc fg1 ft1 fe (wipeD (σ1 x) vs1) (items x) acc S = .ok (acc ++ out x) S) →
    acc.length + ((l.map out).flatten).length ≤ 900000 → foldLc2 fg ft fi1 fg1 ft1 fe vs1 σ (l.map F) acc S = .ok (acc ++ (l.map out).flatten) S
  | [], acc, _, _ => by simp [foldLc2]
  | x :: l, acc, h, hz => by
    obtain ⟨h1, h2, h3, h4⟩ := h x (by simp)
    rw [List.map_cons, List.flatten_cons, List.length_append] at hz
    simp only [List.map_cons, foldLc2, h1, h2, Ev.noX, Ev.bd, if_true, h3]
    rw [h4 acc (by omega)]
    simp only []
    rw [lc2_pure F σ1 items out (fun y hy => h y (List.mem_cons_of_mem x hy)) (by rw [List.length_append]; omega), List.flatten_cons, List.append_assoc]
end
/-! ## rules: made, written, told -/
abbrev W4 : List Str := [(("first" : String) : Str), (("last" : String) : Str), (("fullest" : String) : Str), (("emptiest" : String) : Str)]
def ruD (a b : Str) : Da := .obj "Rule" ["send_word", "charge_word"] [.str a, .str b]
def wrt (a b : Str) : Str := (("send " : String) : Str) ++ a ++ ((", charge " : String) : Str) ++ b
theorem svs_w4 : svs (W4.map Da.str) = some (W4.map V.str) := rfl
theorem w4_len : ∀ a ∈ W4, a.length ≤ 8 := by decide +kernel
theorem inV_w4 : ∀ a ∈ W4, inV (.str a) (W4.map V.str) = true := by decide +kernel
theorem flat_w4 : (W4.map V.str).all flatV = true := rfl
theorem init_ok {a b : Str} (ha : a ∈ W4) (hb : b ∈ W4) (S : Sto) : f_Rule___init__ [.str a, .str b] S = .ok (ruD a b) S := by
  have h1 := inV_w4 a ha
  have h2 := inV_w4 b hb
  have h3 := svs_w4
  have h4 := flat_w4
  have h5 : flatV (V.str a) = true := rfl
  have h6 : flatV (V.str b) = true := rfl
  have hW : ([(("first" : String) : Str), (("last" : String) : Str), (("fullest" : String) : Str), (("emptiest" : String) : Str)] : List Str) = W4 := rfl
  simp only [f_Rule___init__, fb_Rule___init__, hW, inOf]
  generalize W4 = w at h1 h2 h3 h4 ⊢
  clear hW ha hb
  walk_at "g"
  rfl
theorem len_s : (("send " : String) : Str).length = 5 := by decide +kernel
theorem len_c : ((", charge " : String) : Str).length = 9 := by decide +kernel
theorem app_len (a b : Str) : (a ++ b).length = a.length + b.length := by rw [ch_len, ch_app, List.length_append, ← ch_len, ← ch_len]
theorem wrt_len (a b : Str) : (wrt a b).length = 14 + a.length + b.length := by
  unfold wrt
  rw [app_len, app_len, app_len, len_s, len_c]
  omega
theorem written_ok {a b : Str} (ha : a.length ≤ 1000) (hb : b.length ≤ 1000) (S : Sto) : f_l_written [.str a, .str b] S = .ok (.v (.str (wrt a b))) S := by
  have l1 := len_s
  have l2 := len_c
  have h1 : (("send " : String) : Str).length + a.length ≤ 1000000 := by omega
  have h2 : ((("send " : String) : Str) ++ a).length + ((", charge " : String) : Str).length ≤ 1000000 := by rw [app_len]; omega
  have h3 : ((("send " : String) : Str) ++ a ++ ((", charge " : String) : Str)).length + b.length ≤ 1000000 := by rw [app_len, app_len]; omega
  clear l1 l2
  simp only [f_l_written, fb_l_written]
  walk_at "g"
  rfl
theorem str_ok {a b : Str} (ha : a.length ≤ 1000) (hb : b.length ≤ 1000) (S : Sto) : f_Rule___str__ [ruD a b] S = .ok (.v (.str (wrt a b))) S := by
  have l1 := len_s
  have l2 := len_c
  have e1 : Str.empty ++ (("send " : String) : Str) = (("send " : String) : Str) := empty_app _
  have h0 : (("send " : String) : Str).length ≤ 1000000 := by omega
  have h1 : ((("send " : String) : Str) ++ a).length ≤ 1000000 := by rw [app_len]; omega
  have h2 : ((("send " : String) : Str) ++ a ++ ((", charge " : String) : Str)).length ≤ 1000000 := by rw [app_len, app_len]; omega
  have h3 : ((("send " : String) : Str) ++ a ++ ((", charge " : String) : Str) ++ b).length ≤ 1000000 := by rw [app_len, app_len, app_len]; omega
  have h4 : a.length ≤ 1000000 := by omega
  have h5 : b.length ≤ 1000000 := by omega
  clear l1 l2
  simp only [f_Rule___str__, fb_Rule___str__, ruD]
  walk_at "g"
  rfl
end

/-! ## RuB -/
local macro_rules | `(tactic| walk_at "o") => `(tactic| simp (disch := omega) only [↓max_if, ↓min_if, if_pos, if_neg, log_lt, log0, decide_eq_true, decide_eq_false, ix_int, e_fSeq, e_fSl, e_fVar, e_fC, e_fOp, e_fNotV, e_fAndV, e_fOrV, e_fIf, e_fChain, e_fChain3, e_fNil, e_fCons, e_fTup, e_fLst, e_fCell, e_fNoP, e_fPart, e_fRev, e_fFld, e_fCB, e_fLstRg, e_fIsi, e_fTest, e_fTru, e_fAnd, e_fOr, e_fNot, e_fYes, e_fCall, e_fCallS, e_fMeth, e_fMake, e_fNext, e_fBreak, e_fCont, e_fNever, e_fRet, e_fRetN, e_fDrop, e_fIfS, e_fSet, e_fSetD, e_fAsg, e_fPar, e_fFrz, e_fAppS, e_fSetI, e_fSFld, e_fiL, e_fiB, e_fiT, e_fiR1, e_fiR2, e_fiS, e_fiE, e_fiET, e_fiZ, e_fiZM, e_fiZT, e_fiEQ, e_fFor, e_fLc, e_fRaise, e_fRaiseP, e_fRaiseL, e_fIsD, e_fOwn2, e_fOwnI, e_fOwnR, e_fOwnIx, e_fOwnIn, e_fBoolO, e_fListZ, e_fAbsO, e_fListO, onLst, e_fMakeXV, e_fCallV0, e_fOwnAug, augV, e_fAugI, augI, cAny, e_fTupRg, e_fOwnTru, e_fOwnSet, e_fTry, e_fXf, e_fIsX, e_fIsE, e_fNeg, e_fMethX, e_fMakeX, e_fFmt, e_fJoined, e_fJoin, e_fTryO, e_fParO, e_fCount, e_fOwnEq, e_fEqTO, e_fStrO, e_fIsC, e_fLenO, onLen, e_fCallL, e_fCallSL, e_fMakeL, e_fMakeXL, e_fDNew, e_fDGet, e_fDIn, e_fDGet1, e_fDPut, e_fDisp1, e_fPop, e_fLendT, e_fLendE, chkE_ok, Rv.flatR, e_fiQ, e_fStar, e_fUpper, e_fLenS, e_fSrtSet, e_fDGet2, e_fItems, e_fDSetd, e_fListV, e_fClr, e_fExtS, e_fFind, e_fAppE, e_fSetIE, e_fDPutE, e_fDAug, e_fDc, e_fForC, e_fLcC, e_fDcC, e_fLc2, e_fRevE, e_fIdxS, e_fIdxV, e_fDfl, e_fIdxT, fGT, e_onLs, lendDs_v, lendDs_fr, lendDs_bo, lendDs_0, chkL_ok, chkI_ok, chkI_ex, exnNoL, chkT_ok, onK_int, onK_str, Da.key, Rv.noL, Da.noL,
  sq_nx, sq_rt, sq_bk, sq_ct, sq_ex, sq_bad, bd_ok, bd_ex, bd_bad, so_ok, so_ex, so_bad, noX_ok, noX_ex, noX_bad, onB_bl, onD_v, onD_fr, e_onDs, toDs_v, toDs_fr, toDs_0, onO_some, omap_some, Option.map_none, Option.isSome_none, Option.isSome_some, Option.getD_none, Option.getD_some, List.isEmpty_nil, List.isEmpty_cons, e_endO, e_endOr, fin_nx, fin_rt, fin_ex, fin0_nx, fin0_rt, e_fnOf, e_fnOf0, inOf, inOf0,
  foldJ, fHand, fgName, fgTup, fgCons, fgNil, onStr, Rv.toD, Rv.rd, Rv.bool, Rv.out, Rv.sx, Rv.isN, Da.sv, svs, Da.tyN, Da.tru, Da.fmt, noExn,
  oI0, oI, xEq, xIsN, xIsB, xIx, xIxS, xAddS, xInS, xIn, xCat, xRep, xCatT, xRepS, xSlL, xSlT, e_xSlU, xSlQ,  xSlS, bLen, bLenS, bI1, bI2, bInt1, bBool1, bList, bTup, bAll, bAny, bSum, bMaxL, bMinN, bMinP, bDCopy, bSortI, bStrI, putN,
  scal, cMul, cDiv, cMod, cPow, wipeD, ofString_inj, String.reduceEq, String.reduceNe, getF_cons, List.mem_cons, List.not_mem_nil,
  List.getElem?_cons_succ, List.getElem?_cons_zero, List.set_cons_succ, List.set_cons_zero, List.length_cons, List.length_nil, List.length_append, List.length_map, List.length_set, Int.toNat_natCast, List.map_cons, List.map_nil, List.cons_append, List.nil_append, List.append_nil, List.zip_cons_cons, List.zip_nil_left, List.zip_nil_right, List.reverse_cons, List.reverse_nil, List.all_cons, List.all_nil, List.lookup_cons, List.lookup_nil,
  List.replicate_succ, List.replicate_zero, Nat.reduceAdd, Nat.reduceSub, Nat.reduceLT, Nat.reduceLeDiff, Nat.reduceEqDiff, Nat.zero_add, Nat.add_zero, Nat.sub_self, Nat.sub_zero,
  if_true, if_false, ite_true, ite_false, Bool.false_eq_true, Bool.true_and, Bool.and_true, Bool.false_and, Bool.and_false, Bool.true_or, Bool.or_true, Bool.false_or, Bool.or_false, Bool.not_true, Bool.not_false, decide_true, decide_false, and_self, and_true, true_and, not_true_eq_false, not_false_eq_true, reduceIte, Option.some.injEq, reduceCtorEq, decide_eq_true_eq, ne_eq, Int.reduceLT, Int.reduceLE, Int.reduceEq, Int.reduceNe, Int.reduceAdd, Int.reduceSub, Int.reduceMul, Int.reduceNeg, Int.reducePow, Int.reduceToNat, Int.reduceDiv, Int.reduceMod, Int.reduceAbs, or_true, true_or, or_false, false_or, and_false, false_and, at_0, at_1, at_2, at_3, at_4, at_5, atM_1, V.int.injEq, V.bl.injEq, V.str.injEq, nc0, nc1, nc2, nc3, nc4, nc5, nc6, nc7, nc8, nc9, nc10, nc11, nc12, natAbs10, sx1, sx2, sx3, sx4, sx5, cut1, cut2, cut3, kb_l_l, kb_l_t, kb_l_i, kb_l_b, kb_l_s, kb_t_l, kb_t_t, kb_t_i, kb_t_b, kb_t_s, kb_i_l, kb_i_t, kb_i_i, kb_i_b, kb_i_s, kb_b_l, kb_b_t, kb_b_i, kb_b_b, kb_b_s, kb_s_l, kb_s_t, kb_s_i, kb_s_b, kb_s_s, kb_N_l, kb_N_t, kb_N_i, kb_N_b, kb_N_s, *])
section
open PySem PySem.Spec PyProof.Rows L2
/-! ## all rules; a rule is what it should be -/
abbrev wD : List Da := W4.map Da.str
def evD : List Da := (W4.map fun a => W4.map (ruD a)).flatten
theorem is_ok {a b : Str} (ha : a ∈ W4) (hb : b ∈ W4) (S : Sto) : f_l_is [ruD a b, .str a, .str b] S = .ok (.v (.bl true)) S := by
  have la := w4_len a ha
  have lb := w4_len b hb
  have h1 := str_ok (a := a) (b := b) (by omega) (by omega) S
  have h2 := written_ok (a := a) (b := b) (by omega) (by omega) S
  have h3 : f_l_same [.str (wrt a b), .str (wrt a b)] S = .ok (.v (.bl true)) S := same_ok rfl
  have h4 : f_l_same [.str a, .str a] S = .ok (.v (.bl true)) S := same_ok rfl
  have h5 : f_l_same [.str b, .str b] S = .ok (.v (.bl true)) S := same_ok rfl
  have l3 : (wrt a b).length ≤ 1000000 := by rw [wrt_len]; omega
  clear la lb ha hb
  simp only [f_l_is, fb_l_is]
  generalize wrt a b = z at *
  unfold ruD at h1 ⊢
  walk_at "g"
theorem every_ok (S : Sto) : f_Rule_every [] S = .ok (.fr (.lst evD)) S := by
  have h := lc2_pure (fg := fgName 0) (ft := fYes) (fi1 := fi_Rule_every_0) (fg1 := fgName 1) (ft1 := fYes) (fe := fe_Rule_every_0) (vs1 := [1]) (σ := [none, none]) (S := S) Da.str (fun a => [some (.v (.str a)), none]) (fun _ => wD) (fun a => W4.map (ruD a)) (l := W4) (acc := []) (fun a ha => ⟨rfl, rfl, rfl, fun acc hl => by
    have h := lc_pure (fg := fgName 1) (ft := fYes) (fe := fe_Rule_every_0) (σ := [some (.v (.str a)), none]) Da.str (fun _ => true) (ruD a) (fun b => [some (.v (.str a)), some (.v (.str b))]) (S := S) (l := W4) (acc := acc) (fun b hb => ⟨rfl, rfl, fun _ => ⟨.fr (ruD a b), by
      have h1 := init_ok ha hb S
      simp only [fe_Rule_every_0]
      walk_at "g", rfl⟩⟩) (by show acc.length + 4 ≤ _; omega)
    exact h⟩) (by decide)
  have hW : ([(("first" : String) : Str), (("last" : String) : Str), (("fullest" : String) : Str), (("emptiest" : String) : Str)] : List Str) = W4 := rfl
  have h' : foldLc2 (fgName 0) fYes fi_Rule_every_0 (fgName 1) fYes fe_Rule_every_0 [1] [none, none] (W4.map Da.str) [] S = .ok evD S := h
  simp only [f_Rule_every, fb_Rule_every, hW]
  generalize W4 = w at h' ⊢
  generalize evD = e at h' ⊢
  clear h hW
  walk_at "g"
theorem ev_at : ∀ (k : Nat), k < 16 → ∃ a b : Str, a ∈ W4 ∧ b ∈ W4 ∧ atI evD ((k : Nat) : Int) = some (ruD a b) ∧ atI wD (((k : Nat) : Int) / 4) = some (.str a) ∧ atI wD (((k : Nat) : Int) - 4 * (((k : Nat) : Int) / 4)) = some (.str b)
  | 0, _ => ⟨_, _, by decide, by decide, rfl, rfl, rfl⟩
  | 1, _ => ⟨_, _, by decide, by decide, rfl, rfl, rfl⟩
  | 2, _ => ⟨_, _, by decide, by decide, rfl, rfl, rfl⟩
  | 3, _ => ⟨_, _, by decide, by decide, rfl, rfl, rfl⟩
  | 4, _ => ⟨_, _, by decide, by decide, rfl, rfl, rfl⟩
  | 5, _ => ⟨_, _, by decide, by decide, rfl, rfl, rfl⟩
  | 6, _ => ⟨_, _, by decide, by decide, rfl, rfl, rfl⟩
  | 7, _ => ⟨_, _, by decide, by decide, rfl, rfl, rfl⟩
  | 8, _ => ⟨_, _, by decide, by decide, rfl, rfl, rfl⟩
  | 9, _ => ⟨_, _, by decide, by decide, rfl, rfl, rfl⟩
  | 10, _ => ⟨_, _, by decide, by decide, rfl, rfl, rfl⟩
  | 11, _ => ⟨_, _, by decide, by decide, rfl, rfl, rfl⟩
  | 12, _ => ⟨_, _, by decide, by decide, rfl, rfl, rfl⟩
  | 13, _ => ⟨_, _, by decide, by decide, rfl, rfl, rfl⟩
  | 14, _ => ⟨_, _, by decide, by decide, rfl, rfl, rfl⟩
  | 15, _ => ⟨_, _, by decide, by decide, rfl, rfl, rfl⟩
  | n + 16, h => absurd h (by omega)
theorem row_ok (S : Sto) : f_l_row [.lst wD] S = .ok (.v (.bl true)) S := by
  have h1 := every_ok S
  have hl : (evD.length : Int) = 16 := rfl
  have h2 := ev_at
  generalize evD = ev at h1 hl h2
  generalize wD = ws at h2 ⊢
  obtain ⟨σ', S', e, rfl, y, rfl⟩ := for_in (fg := fgName 2) (fb := fl_l_row_0)
    (fun i σ S' => S' = S ∧ ∃ y : Option Sx, σ = [some (.v (.lst ws)), some (.own (.lst ev) false), y]) (items := rgD 16) (σ := [some (.v (.lst ws)), some (.own (.lst ev) false), none]) (S := S) ⟨rfl, _, rfl⟩ (by
    rintro i d σ S' hd ⟨rfl, y, rfl⟩
    obtain ⟨rfl, hi⟩ := rgD_at hd
    obtain ⟨a, b, ha, hb, h3, h4, h5⟩ := h2 i (by omega)
    have h6 := is_ok ha hb S'
    refine ⟨_, rfl, nx_of (σ := [some (.v (.lst ws)), some (.own (.lst ev) false), some (.v (.int ((i : Nat) : Int)))]) ?_ ⟨rfl, _, rfl⟩⟩
    clear h1 hl h2 hd
    generalize ruD a b = r at *
    have i0 : (0 : Int) ≤ i := by omega
    generalize ((i : Nat) : Int) = j at *
    simp only [fl_l_row_0]
    walk_at "o")
  clear h2
  simp only [f_l_row, fb_l_row]
  walk_at "g"
end

/-! ## RuC -/
section
open PySem PySem.Spec PyProof.Rows L2
/-! ## texts read as rules -/
theorem wrt_inj : ∀ a ∈ W4, ∀ b ∈ W4, ∀ c ∈ W4, ∀ d ∈ W4, wrt a b = wrt c d → a = c ∧ b = d := by decide +kernel
theorem ev_get (k : Nat) {d : Da} (h : evD[k]? = some d) : ∃ a b : Str, a ∈ W4 ∧ b ∈ W4 ∧ d = ruD a b := by
  have hm : d ∈ evD := List.mem_of_getElem? h
  simp only [evD, List.mem_flatten, List.mem_map] at hm
  obtain ⟨l, ⟨a, ha, rfl⟩, hm⟩ := hm
  obtain ⟨b, hb, rfl⟩ := List.mem_map.mp hm
  exact ⟨a, b, ha, hb, rfl⟩
theorem ev_mem {a b : Str} (ha : a ∈ W4) (hb : b ∈ W4) : ∃ k, k < evD.length ∧ evD[k]? = some (ruD a b) := by
  have hm : ruD a b ∈ evD := by
    simp only [evD, List.mem_flatten, List.mem_map]
    exact ⟨_, ⟨a, ha, rfl⟩, List.mem_map.mpr ⟨b, hb, rfl⟩⟩
  obtain ⟨k, hk, e⟩ := List.getElem_of_mem hm
  exact ⟨k, hk, by rw [List.getElem?_eq_getElem hk, e]⟩
open Classical in
theorem parse_loop {t : Str} (ht : t.length ≤ 1000000) (S : Sto) : ∃ q : Nat → Bool, (∀ k a b, evD[k]? = some (ruD a b) → a ∈ W4 → b ∈ W4 → (q k = true ↔ wrt a b = t)) ∧
    ((∃ σ', foldFor (fgName 2) fl_Rule_parse_0 evD [some .exn, some (.v (.str t)), none] S = .nx σ' S ∧ (∃ y, σ' = [some .exn, some (.v (.str t)), y]) ∧ (List.range evD.length).find? q = none) ∨ (∃ k, (List.range evD.length).find? q = some k ∧ k < evD.length ∧
      foldFor (fgName 2) fl_Rule_parse_0 evD [some .exn, some (.v (.str t)), none] S = .rt (.v (evD.getD k .non)) S)) := by
  refine ⟨fun k => decide (∃ a b, evD[k]? = some (ruD a b) ∧ a ∈ W4 ∧ b ∈ W4 ∧ wrt a b = t), fun k a b hk ha hb => ?_, ?_⟩
  · rw [decide_eq_true_iff]
    constructor
    · rintro ⟨a', b', h1, h2, h3, h4⟩
      rw [hk] at h1
      have : ruD a b = ruD a' b' := Option.some.inj h1
      unfold ruD at this
      cases this
      exact h4
    · exact fun h => ⟨a, b, hk, ha, hb, h⟩
  · refine for_find (fg := fgName 2) (fb := fl_Rule_parse_0) (fun σ => ∃ y, σ = [some .exn, some (.v (.str t)), y]) (fun k => decide (∃ a b, evD[k]? = some (ruD a b) ∧ a ∈ W4 ∧ b ∈ W4 ∧ wrt a b = t)) (fun k => .inl (.v (evD.getD k .non))) (items := evD) (σ := [some .exn, some (.v (.str t)), none]) (S := S) ⟨_, rfl⟩ ?_
    rintro i d σ hd ⟨y, rfl⟩
    obtain ⟨a, b, ha, hb, rfl⟩ := ev_get i hd
    have la := w4_len a ha
    have lb := w4_len b hb
    have h1 := str_ok (a := a) (b := b) (by omega) (by omega) S
    have hq : (decide (∃ a' b', evD[i]? = some (ruD a' b') ∧ a' ∈ W4 ∧ b' ∈ W4 ∧ wrt a' b' = t)) = decide (wrt a b = t) := by
      apply decide_eq_decide.mpr
      constructor
      · rintro ⟨a', b', h1, h2, h3, h4⟩
        rw [hd] at h1
        have : ruD a b = ruD a' b' := Option.some.inj h1
        unfold ruD at this
        cases this
        exact h4
      · exact fun h => ⟨a, b, hd, ha, hb, h⟩
    have ho : evD.getD i .non = ruD a b := by simp [List.getD_eq_getElem?_getD, hd]
    have l3 : (wrt a b).length ≤ 1000000 := by rw [wrt_len]; omega
    refine ⟨[some .exn, some (.v (.str t)), some (.v (ruD a b))], rfl, ?_⟩
    rw [hq, ho]
    clear hq ho hd la lb ha hb
    by_cases hz : wrt a b = t
    · refine .inr ⟨decide_eq_true hz, ?_⟩
      show fl_Rule_parse_0 _ S = _
      rw [hz] at h1
      unfold ruD at h1 ⊢
      clear hz l3
      simp only [fl_Rule_parse_0]
      walk_at "g"
    · refine .inl ⟨decide_eq_false hz, [some .exn, some (.v (.str t)), some (.v (ruD a b))], .inl ?_, _, rfl⟩
      generalize wrt a b = z at *
      unfold ruD at h1 ⊢
      simp only [fl_Rule_parse_0]
      walk_at "g"
theorem find_lt {q : Nat → Bool} {n : Nat} (h : (List.range n).find? q = none) {k : Nat} (hk : k < n) : q k = false := by
  have := List.find?_eq_none.mp h k (List.mem_range.mpr hk)
  simpa using this
theorem parse_yes {a b : Str} (ha : a ∈ W4) (hb : b ∈ W4) (S : Sto) : f_Rule_parse [.str (wrt a b)] S = .ok (.v (ruD a b)) S := by
  have la := w4_len a ha
  have lb := w4_len b hb
  have ht : (wrt a b).length ≤ 1000000 := by rw [wrt_len]; omega
  obtain ⟨q, hq, hl⟩ := parse_loop ht S
  have he := every_ok S
  rcases hl with ⟨σ', e, _, hn⟩ | ⟨k, hf, hk, hm⟩
  · obtain ⟨k, hk, ek⟩ := ev_mem ha hb
    have := find_lt hn hk
    rw [(hq k a b ek ha hb).mpr rfl] at this
    cases this
  · obtain ⟨c, d, hc, hd, ec⟩ := ev_get k (List.getElem?_eq_getElem hk)
    have ek : evD[k]? = some (ruD c d) := by rw [List.getElem?_eq_getElem hk, ec]
    have h1 := hq k c d ek hc hd
    obtain ⟨rfl, rfl⟩ := wrt_inj c hc d hd a ha b hb (h1.mp (List.find?_some hf))
    have ho : evD.getD k .non = ruD c d := by simp [List.getD_eq_getElem?_getD, ek]
    rw [ho] at hm
    clear ho h1 hf hq ek ec hc hd la lb ha hb
    generalize wrt c d = z at *
    generalize evD = ev at *
    generalize ruD c d = r at *
    clear hk
    simp only [f_Rule_parse, fb_Rule_parse, fnOfC]
    walk_at "g"
theorem parse_no {t : Str} (ht : t.length ≤ 1000000) (hn : ∀ a ∈ W4, ∀ b ∈ W4, wrt a b ≠ t) (S : Sto) : f_Rule_parse [.str t] S = .ex ⟨"BadRule", ["part"], [.str "text"]⟩ S := by
  obtain ⟨q, hq, hl⟩ := parse_loop ht S
  have he := every_ok S
  rcases hl with ⟨σ', e, ⟨y, rfl⟩, hn'⟩ | ⟨k, hf, hk, hm⟩
  · generalize evD = ev at *
    clear hq hn hn'
    have l4 : (("text" : String) : Str).length ≤ 1000 := by decide +kernel
    simp only [f_Rule_parse, fb_Rule_parse, fnOfC]
    walk_at "g"
  · obtain ⟨c, d, hc, hd, ec⟩ := ev_get k (List.getElem?_eq_getElem hk)
    have ek : evD[k]? = some (ruD c d) := by rw [List.getElem?_eq_getElem hk, ec]
    exact absurd ((hq k c d ek hc hd).mp (List.find?_some hf)) (hn c hc d hd)
theorem parsed_yes {a b : Str} (ha : a ∈ W4) (hb : b ∈ W4) (S : Sto) : f_l_parsed [.str (wrt a b)] S = .ok (.v (.tup [ruD a b, .non])) S := by
  have h := parse_yes ha hb S
  generalize wrt a b = z at *
  generalize ruD a b = r at *
  simp only [f_l_parsed, fb_l_parsed]
  walk_at "g"
theorem parsed_no {t : Str} (ht : t.length ≤ 1000000) (hn : ∀ a ∈ W4, ∀ b ∈ W4, wrt a b ≠ t) (S : Sto) : f_l_parsed [.str t] S = .ok (.v (.tup [.non, .tup [.str "text", .bl true]])) S := by
  have h := parse_no ht hn S
  clear hn
  have h1 : tab.lookup ((("BadRule" : String) : Str), (("BadRule" : String) : Str)) = some true := rfl
  have h2 : ∀ x : Da, getF ["part"] [x] "part" = some x := fun _ => rfl
  simp only [f_l_parsed, fb_l_parsed]
  walk_at "g"
theorem eq_ok {a b c d : Str} (S : Sto) : f_Rule___eq__ [ruD a b, ruD c d] S = .ok (.v (.bl (decide (a = c) && decide (b = d)))) S := by
  by_cases h1 : a = c <;> by_cases h2 : b = d
  all_goals
    simp only [f_Rule___eq__, fb_Rule___eq__, ruD]
    walk_at "g"
    try simp [h1, h2]
end

/-! ## RuD -/
section
open PySem PySem.Spec PyProof.Rows L2
/-! ## what the law asks of a text -/
theorem w_get {i : Nat} {d : Da} (h : wD[i]? = some d) : ∃ a : Str, a ∈ W4 ∧ d = .str a := by
  obtain ⟨a, ha, rfl⟩ := List.mem_map.mp (List.mem_of_getElem? h)
  exact ⟨a, ha, rfl⟩
theorem w_mem {a : Str} (h : a ∈ W4) : ∃ k, k < wD.length ∧ wD[k]? = some (.str a) := by
  obtain ⟨k, hk, e⟩ := List.getElem_of_mem (List.mem_map.mpr ⟨a, h, rfl⟩ : Da.str a ∈ wD)
  exact ⟨k, hk, by rw [List.getElem?_eq_getElem hk, e]⟩
open Classical in
/-- the text is written (a, b): the loops end with True -/
theorem reads_in {a b x : Str} (ha : a ∈ W4) (hb : b ∈ W4) (hx : x ∈ W4) (y : Option Sx) (S : Sto) :
    (x ≠ a ∧ ∃ y', foldFor (fgName 4) fl_l_reads_0 wD [some (.v (.str (wrt a b))), some (.v (.lst wD)), some (.v (.tup [ruD a b, .non])), some (.v (.str x)), y] S = .nx [some (.v (.str (wrt a b))), some (.v (.lst wD)), some (.v (.tup [ruD a b, .non])), some (.v (.str x)), y'] S) ∨
    (x = a ∧ foldFor (fgName 4) fl_l_reads_0 wD [some (.v (.str (wrt a b))), some (.v (.lst wD)), some (.v (.tup [ruD a b, .non])), some (.v (.str x)), y] S = .rt (.v (.bl true)) S) := by
  have la := w4_len a ha
  have lb := w4_len b hb
  have lx := w4_len x hx
  have key := for_find (fg := fgName 4) (fb := fl_l_reads_0) (fun σ => ∃ y, σ = [some (.v (.str (wrt a b))), some (.v (.lst wD)), some (.v (.tup [ruD a b, .non])), some (.v (.str x)), y]) (fun k => decide (x = a ∧ wD[k]? = some (.str b))) (fun k => .inl (.v (.bl true))) (items := wD) (σ := [some (.v (.str (wrt a b))), some (.v (.lst wD)), some (.v (.tup [ruD a b, .non])), some (.v (.str x)), y]) (S := S) ⟨_, rfl⟩ (by
    rintro i d σ hd ⟨y, rfl⟩
    obtain ⟨c, hc, rfl⟩ := w_get hd
    have lc := w4_len c hc
    have h1 := written_ok (a := x) (b := c) (by omega) (by omega) S
    refine ⟨[some (.v (.str (wrt a b))), some (.v (.lst wD)), some (.v (.tup [ruD a b, .non])), some (.v (.str x)), some (.v (.str c))], rfl, ?_⟩
    have hq : decide (x = a ∧ wD[i]? = some (.str b)) = decide (wrt a b = wrt x c) := by
      apply decide_eq_decide.mpr
      constructor
      · rintro ⟨rfl, h⟩
        rw [hd] at h
        cases h; rfl
      · intro h
        obtain ⟨h1, h2⟩ := wrt_inj a ha b hb x hx c hc h
        exact ⟨h1.symm, by rw [hd, h2]⟩
    have l1 : (wrt a b).length ≤ 1000000 := by rw [wrt_len]; omega
    have l2 : (wrt x c).length ≤ 1000000 := by rw [wrt_len]; omega
    by_cases hz : wrt a b = wrt x c
    · refine .inr ⟨by rw [hq]; exact decide_eq_true hz, ?_⟩
      show fl_l_reads_0 _ S = .rt (.v (.bl true)) S
      obtain ⟨rfl, rfl⟩ := wrt_inj a ha b hb x hx c hc hz
      have h2 := is_ok ha hb S
      have h3 := init_ok ha hb S
      have h4 := eq_ok (a := a) (b := b) (c := a) (d := b) S
      simp only [decide_true, Bool.and_true] at h4
      clear hz hq hd ha hb hx hc la lb lx lc l2
      generalize wrt a b = z at *
      have h5 : ruD a b = .obj "Rule" ["send_word", "charge_word"] [.str a, .str b] := rfl
      rw [h5] at h2 h3 h4 ⊢
      clear h5
      generalize wD = ws at *
      simp only [fl_l_reads_0]
      walk_at "g"
    · refine .inl ⟨by rw [hq]; exact decide_eq_false hz, [some (.v (.str (wrt a b))), some (.v (.lst wD)), some (.v (.tup [ruD a b, .non])), some (.v (.str x)), some (.v (.str c))], .inl ?_, _, rfl⟩
      clear hq hd ha hb hx hc la lb lx lc
      generalize wrt a b = z at *
      generalize wrt x c = z' at *
      generalize ruD a b = r at *
      generalize wD = ws at *
      simp only [fl_l_reads_0]
      walk_at "g")
  rcases key with ⟨σ', e, ⟨y', rfl⟩, hn⟩ | ⟨k, hf, hk, hm⟩
  · refine .inl ⟨fun h => ?_, y', e⟩
    obtain ⟨k, hk, ek⟩ := w_mem hb
    have := find_lt hn hk
    simp only [decide_eq_false_iff_not] at this
    exact this ⟨h, ek⟩
  · have h := List.find?_some hf
    simp only [decide_eq_true_eq] at h
    exact .inr ⟨h.1, hm⟩
open Classical in
theorem reads_yes {a b : Str} (ha : a ∈ W4) (hb : b ∈ W4) (S : Sto) : f_l_reads [.str (wrt a b), .lst wD] S = .ok (.v (.bl true)) S := by
  have hp := parsed_yes ha hb S
  have key := for_find (fg := fgName 3) (fb := fl_l_reads_1) (fun σ => ∃ x y, σ = [some (.v (.str (wrt a b))), some (.v (.lst wD)), some (.v (.tup [ruD a b, .non])), x, y]) (fun k => decide (wD[k]? = some (.str a))) (fun k => .inl (.v (.bl true))) (items := wD) (σ := [some (.v (.str (wrt a b))), some (.v (.lst wD)), some (.v (.tup [ruD a b, .non])), none, none]) (S := S) ⟨_, _, rfl⟩ (by
    rintro i d σ hd ⟨x0, y, rfl⟩
    obtain ⟨x, hx, rfl⟩ := w_get hd
    refine ⟨[some (.v (.str (wrt a b))), some (.v (.lst wD)), some (.v (.tup [ruD a b, .non])), some (.v (.str x)), y], rfl, ?_⟩
    rcases reads_in ha hb hx y S with ⟨hne, y', e⟩ | ⟨rfl, e⟩
    · refine .inl ⟨decide_eq_false (fun h => ?_), [some (.v (.str (wrt a b))), some (.v (.lst wD)), some (.v (.tup [ruD a b, .non])), some (.v (.str x)), y'], .inl ?_, _, _, rfl⟩
      · rw [hd] at h
        cases h; exact hne rfl
      · clear hp
        generalize wD = ws at *
        generalize wrt a b = z at *
        generalize ruD a b = r at *
        simp only [fl_l_reads_1]
        walk_at "g"
    · refine .inr ⟨decide_eq_true hd, ?_⟩
      show fl_l_reads_1 _ S = .rt (.v (.bl true)) S
      clear hp
      generalize wD = ws at *
      generalize wrt x b = z at *
      generalize ruD x b = r at *
      simp only [fl_l_reads_1]
      walk_at "g")
  rcases key with ⟨σ', e, _, hn⟩ | ⟨k, hf, hk, hm⟩
  · obtain ⟨k, hk, ek⟩ := w_mem ha
    have := find_lt hn hk
    simp only [decide_eq_false_iff_not] at this
    exact absurd ek this
  · have hm' : foldFor (fgName 3) fl_l_reads_1 wD [some (.v (.str (wrt a b))), some (.v (.lst wD)), some (.v (.tup [ruD a b, .non])), none, none] S = .rt (.v (.bl true)) S := hm
    clear hm hf hk
    generalize wD = ws at *
    generalize wrt a b = z at *
    generalize ruD a b = r at *
    simp only [f_l_reads, fb_l_reads]
    walk_at "g"
theorem reads_no {t : Str} (ht : t.length ≤ 1000000) (hn : ∀ a ∈ W4, ∀ b ∈ W4, wrt a b ≠ t) (S : Sto) : f_l_reads [.str t, .lst wD] S = .ok (.v (.bl true)) S := by
  have hp := parsed_no ht hn S
  have hs : f_l_same [.tup [.str "text", .bl true], .tup [.str "text", .bl true]] S = .ok (.v (.bl true)) S := same_ok rfl
  obtain ⟨tt, htt⟩ : ∃ tt, tt = (Da.tup [.str (("text" : String) : Str), .bl true]) := ⟨_, rfl⟩
  rw [← htt] at hp hs
  obtain ⟨σ', S', e, rfl, x, y, rfl⟩ := for_in (fg := fgName 3) (fb := fl_l_reads_1) (fun i σ S' => S' = S ∧ ∃ x y, σ = [some (.v (.str t)), some (.v (.lst wD)), some (.v (.tup [.non, tt])), x, y]) (items := wD) (σ := [some (.v (.str t)), some (.v (.lst wD)), some (.v (.tup [.non, tt])), none, none]) (S := S) ⟨rfl, _, _, rfl⟩ (by
    rintro i d σ S' hd ⟨rfl, x0, y, rfl⟩
    obtain ⟨x, hx, rfl⟩ := w_get hd
    refine ⟨[some (.v (.str t)), some (.v (.lst wD)), some (.v (.tup [.non, tt])), some (.v (.str x)), y], rfl, ?_⟩
    obtain ⟨σ', S2, e, rfl, y', rfl⟩ := for_in (fg := fgName 4) (fb := fl_l_reads_0) (fun i σ S2 => S2 = S' ∧ ∃ y, σ = [some (.v (.str t)), some (.v (.lst wD)), some (.v (.tup [.non, tt])), some (.v (.str x)), y]) (items := wD) (σ := [some (.v (.str t)), some (.v (.lst wD)), some (.v (.tup [.non, tt])), some (.v (.str x)), y]) (S := S') ⟨rfl, _, rfl⟩ (by
      rintro i d σ S2 hd ⟨rfl, y, rfl⟩
      obtain ⟨c, hc, rfl⟩ := w_get hd
      have lx := w4_len x hx
      have lc := w4_len c hc
      have h1 := written_ok (a := x) (b := c) (by omega) (by omega) S2
      have hz : t ≠ wrt x c := fun h => hn x hx c hc h.symm
      have l2 : (wrt x c).length ≤ 1000000 := by rw [wrt_len]; omega
      refine ⟨[some (.v (.str t)), some (.v (.lst wD)), some (.v (.tup [.non, tt])), some (.v (.str x)), some (.v (.str c))], rfl, nx_of (σ := [some (.v (.str t)), some (.v (.lst wD)), some (.v (.tup [.non, tt])), some (.v (.str x)), some (.v (.str c))]) ?_ ⟨rfl, _, rfl⟩⟩
      clear hn hp hs hd hx hc lx lc htt
      generalize wrt x c = z' at *
      generalize wD = ws at *
      simp only [fl_l_reads_0]
      walk_at "g")
    refine nx_of (σ := [some (.v (.str t)), some (.v (.lst wD)), some (.v (.tup [.non, tt])), some (.v (.str x)), y']) ?_ ⟨rfl, _, _, rfl⟩
    clear hn hp hs hd hx htt
    generalize wD = ws at *
    simp only [fl_l_reads_1]
    walk_at "g")
  clear hn
  subst htt
  generalize wD = ws at *
  simp only [f_l_reads, fb_l_reads]
  walk_at "g"
open Classical in
theorem reads_ok {t : Str} (ht : t.length ≤ 1000000) (S : Sto) : f_l_reads [.str t, .lst wD] S = .ok (.v (.bl true)) S := by
  by_cases h : ∃ a ∈ W4, ∃ b ∈ W4, wrt a b = t
  · obtain ⟨a, ha, b, hb, rfl⟩ := h
    exact reads_yes ha hb S
  · exact reads_no ht (fun a ha b hb e => h ⟨a, ha, b, hb, e⟩) S
end

/-! ## RuE -/
section
open PySem PySem.Spec PyProof.Rows L2
/-! ## texts that the law draws -/
def C1 : Str := " !\"#$&'()*+,-./0123456789:;<=>?@ABCDEFGHIJKLMNOPQRSTUVWXYZ[\\]^_`"
def C2 : Str := "abcdefghijklmnopqrstuvwxyz{|}~"
theorem c12_len : (ch (C1 ++ C2)).length = 94 := by decide +kernel
theorem char_ok {i : Int} (h0 : 0 ≤ i) (h1 : i < 94) : ∃ c : Nat, ∀ S : Sto, f_l_char [.int i] S = .ok (.v (.str ⟨#[c]⟩)) S := by
  have hi : i.toNat < (ch (C1 ++ C2)).length := by rw [c12_len]; omega
  have h2 : atI (ch (C1 ++ C2)) i = some (ch (C1 ++ C2))[i.toNat] := at_int h0 (List.getElem?_eq_getElem hi)
  generalize (ch (C1 ++ C2))[i.toNat] = c at h2
  refine ⟨c, fun S => ?_⟩
  have h3 : atI (C1 ++ C2).cps.toList i = some c := h2
  have hz : C1.length + C2.length ≤ 1000000 := by decide +kernel
  have hz2 : (C1 ++ C2).length ≤ 1000000 := by rw [app_len]; exact hz
  have e1 : ((" !\"#$&'()*+,-./0123456789:;<=>?@ABCDEFGHIJKLMNOPQRSTUVWXYZ[\\]^_`" : String) : Str) = C1 := rfl
  have e2 : (("abcdefghijklmnopqrstuvwxyz{|}~" : String) : Str) = C2 := rfl
  clear h2 hi
  simp only [f_l_char, fb_l_char, e1, e2]
  generalize C1 = c1 at *
  generalize C2 = c2 at *
  clear e1 e2
  walk_at "g"
abbrev OD : List Str := [(("" : String) : Str), (("send first" : String) : Str), (("send first, charge" : String) : Str), (("send first,charge last" : String) : Str), (("send first charge last" : String) : Str), (("first, last" : String) : Str), (("send  first, charge last" : String) : Str), ((" send first, charge last" : String) : Str), (("send first, charge last " : String) : Str), (("charge last" : String) : Str), (("send first, charge last, charge last" : String) : Str), (("send first; charge last" : String) : Str), (("SEND first, CHARGE last" : String) : Str)]
theorem OD_at : ∀ (k : Nat), k < 13 → ∃ t : Str, atI (OD.map Da.str) ((k : Nat) : Int) = some (.str t) ∧ t.length ≤ 100
  | 0, _ => ⟨_, rfl, by decide +kernel⟩
  | 1, _ => ⟨_, rfl, by decide +kernel⟩
  | 2, _ => ⟨_, rfl, by decide +kernel⟩
  | 3, _ => ⟨_, rfl, by decide +kernel⟩
  | 4, _ => ⟨_, rfl, by decide +kernel⟩
  | 5, _ => ⟨_, rfl, by decide +kernel⟩
  | 6, _ => ⟨_, rfl, by decide +kernel⟩
  | 7, _ => ⟨_, rfl, by decide +kernel⟩
  | 8, _ => ⟨_, rfl, by decide +kernel⟩
  | 9, _ => ⟨_, rfl, by decide +kernel⟩
  | 10, _ => ⟨_, rfl, by decide +kernel⟩
  | 11, _ => ⟨_, rfl, by decide +kernel⟩
  | 12, _ => ⟨_, rfl, by decide +kernel⟩
  | n + 13, h => absurd h (by omega)
abbrev NE : List Str := [(("first" : String) : Str), (("last" : String) : Str), (("fullest" : String) : Str), (("emptiest" : String) : Str), (("" : String) : Str), (("First" : String) : Str), (("full" : String) : Str), (("empty" : String) : Str), (("fulles" : String) : Str), (("lastt" : String) : Str)]
theorem NE_at : ∀ (k : Nat), k < 10 → ∃ t : Str, atI (NE.map Da.str) ((k : Nat) : Int) = some (.str t) ∧ t.length ≤ 100
  | 0, _ => ⟨_, rfl, by decide +kernel⟩
  | 1, _ => ⟨_, rfl, by decide +kernel⟩
  | 2, _ => ⟨_, rfl, by decide +kernel⟩
  | 3, _ => ⟨_, rfl, by decide +kernel⟩
  | 4, _ => ⟨_, rfl, by decide +kernel⟩
  | 5, _ => ⟨_, rfl, by decide +kernel⟩
  | 6, _ => ⟨_, rfl, by decide +kernel⟩
  | 7, _ => ⟨_, rfl, by decide +kernel⟩
  | 8, _ => ⟨_, rfl, by decide +kernel⟩
  | 9, _ => ⟨_, rfl, by decide +kernel⟩
  | n + 10, h => absurd h (by omega)
theorem cut_len {s : Str} {lo hi : Option Int} : (cutS s lo hi).length ≤ s.length := by
  rw [ch_len, ch_cut, List.length_take, List.length_drop, ← ch_len]
  omega
theorem text_ok {p : Nat} {S : Sto} {a b : Str} (hp : Px p S) (la : a.length ≤ 100) (lb : b.length ≤ 100) : ∃ t S', f_l_text [.cell p, .str a, .str b] S = .ok (.v (.str t)) S' ∧ t.length ≤ 1000 ∧ Px p S' ∧ Pt p S S' := by
  have hw := fun S => written_ok (a := a) (b := b) (by omega) (by omega) S
  have lz : (wrt a b).length ≤ 214 := by rw [wrt_len]; omega
  generalize wrt a b = z at *
  obtain ⟨k, S1, e1, k0, k1, p1, q1⟩ := take_ok hp (m := 8) (by decide) (by decide)
  obtain ⟨j, S2, e2, j0, j1, p2, q2⟩ := take_ok p1 (m := (z.length : Int) + 1) (by omega) (by omega)
  obtain ⟨i, S3, e3, i0, i1, p3, q3⟩ := take_ok p2 (m := 94) (by decide) (by decide)
  obtain ⟨c, hc⟩ := char_ok i0 i1
  have q13 := (q1.trans q2).trans q3
  have hw1 := hw S
  have hc3 := hc S3
  have lzz : z.length ≤ 1000000 := by omega
  have m1 : (cutS z none (some j)).length ≤ 214 := Nat.le_trans cut_len lz
  have m2 : (cutS z (some j) none).length ≤ 214 := Nat.le_trans cut_len lz
  have m3 : (cutS z (some (j + 1)) none).length ≤ 214 := Nat.le_trans cut_len lz
  have m4 : (⟨#[c]⟩ : Str).length = 1 := rfl
  have n1 : (cutS z none (some j)).length + (⟨#[c]⟩ : Str).length ≤ 1000000 := by omega
  have n2 : (cutS z none (some j) ++ ⟨#[c]⟩).length + (cutS z (some j) none).length ≤ 1000000 := by rw [app_len]; omega
  have n3 : (cutS z none (some j) ++ ⟨#[c]⟩).length + (cutS z (some (j + 1)) none).length ≤ 1000000 := by rw [app_len]; omega
  have n4 : (cutS z none (some j)).length + (cutS z (some (j + 1)) none).length ≤ 1000000 := by omega
  have jz : j ≤ 214 := by omega
  clear hc hw
  by_cases c0 : k = 0
  · subst c0
    refine ⟨cutS z none (some j) ++ ⟨#[c]⟩ ++ cutS z (some j) none, S3, ?_, by rw [app_len, app_len]; omega, p3, q13⟩
    clear m1 m2 m3 m4 lz q13 q1 q2 q3
    simp only [f_l_text, fb_l_text]
    walk_at "o"
  by_cases c1 : k = 1
  · subst c1
    refine ⟨cutS z none (some j) ++ cutS z (some (j + 1)) none, S3, ?_, by rw [app_len]; omega, p3, q13⟩
    clear m1 m2 m3 m4 lz q13 q1 q2 q3
    simp only [f_l_text, fb_l_text]
    walk_at "o"
  by_cases c2 : k = 2
  · subst c2
    refine ⟨cutS z none (some j) ++ ⟨#[c]⟩ ++ cutS z (some (j + 1)) none, S3, ?_, by rw [app_len, app_len]; omega, p3, q13⟩
    clear m1 m2 m3 m4 lz q13 q1 q2 q3
    simp only [f_l_text, fb_l_text]
    walk_at "o"
  clear n1 n2 n3 n4 m1 m2 m3 m4
  by_cases c3 : k = 3
  · subst c3
    have l1 : (("charge " : String) : Str).length = 7 := by decide +kernel
    have l2 : ((", send " : String) : Str).length = 7 := by decide +kernel
    have n1 : (("charge " : String) : Str).length + b.length ≤ 1000000 := by omega
    have n2 : ((("charge " : String) : Str) ++ b).length + ((", send " : String) : Str).length ≤ 1000000 := by rw [app_len]; omega
    have n3 : ((("charge " : String) : Str) ++ b ++ ((", send " : String) : Str)).length + a.length ≤ 1000000 := by rw [app_len, app_len]; omega
    refine ⟨(("charge " : String) : Str) ++ b ++ ((", send " : String) : Str) ++ a, S3, ?_, by rw [app_len, app_len, app_len]; omega, p3, q13⟩
    clear l1 l2 lz q13 q1 q2 q3
    simp only [f_l_text, fb_l_text]
    walk_at "o"
  by_cases c4 : k = 4
  · subst c4
    obtain ⟨y, S4, e4, y0, y1, p4, q4⟩ := take_ok p3 (m := 13) (by decide) (by decide)
    obtain ⟨t, ht, lt⟩ := OD_at y.toNat (by omega)
    rw [show ((y.toNat : Nat) : Int) = y by omega] at ht
    simp only [OD, List.map_cons, List.map_nil] at ht
    refine ⟨t, S4, ?_, by omega, p4, q13.trans q4⟩
    clear lz q13 q1 q2 q3 q4 lt
    simp only [f_l_text, fb_l_text]
    walk_at "o"
  by_cases c5 : k = 5
  · subst c5
    obtain ⟨y, S4, e4, y0, y1, p4, q4⟩ := take_ok p3 (m := 10) (by decide) (by decide)
    obtain ⟨x, S5, e5, x0, x1, p5, q5⟩ := take_ok p4 (m := 10) (by decide) (by decide)
    obtain ⟨t, ht, lt⟩ := NE_at y.toNat (by omega)
    obtain ⟨u, hu, lu⟩ := NE_at x.toNat (by omega)
    rw [show ((y.toNat : Nat) : Int) = y by omega] at ht
    rw [show ((x.toNat : Nat) : Int) = x by omega] at hu
    simp only [NE, List.map_cons, List.map_nil] at ht hu
    have h5 := written_ok (a := t) (b := u) (by omega) (by omega) S5
    refine ⟨wrt t u, S5, ?_, by rw [wrt_len]; omega, p5, (q13.trans q4).trans q5⟩
    clear lz q13 q1 q2 q3 q4 q5 lt lu
    simp only [f_l_text, fb_l_text]
    walk_at "o"
  by_cases c6 : k = 6
  · subst c6
    obtain ⟨n, S4, e4, n0, n1, p4, q4⟩ := take_ok p3 (m := 41) (by decide) (by decide)
    obtain ⟨acc, S5, e5, p5, q5, cs, hl, rfl⟩ := lc_inv (fg := fgName 10) (ft := fYes) (fe := fe_l_text_0) (σ := [some (.v (.cell p)), some (.v (.str a)), some (.v (.str b)), some (.v (.str z)), some (.v (.int 6)), some (.v (.int j)), some (.v (.str ⟨#[c]⟩)), none, none, some (.v (.int n)), none])
      (fun i acc S => Px p S ∧ Pt p S4 S ∧ ∃ cs : List Nat, cs.length = i ∧ acc = cs.map fun c => Da.str ⟨#[c]⟩) (items := rgD n) (n := 0) (acc := []) (S := S4) ⟨p4, Pt.refl _ _, [], rfl, rfl⟩ (by rw [rgD_len]; simp; omega) (by
        rintro i d acc S hd ⟨pS, tS, cs, hl, rfl⟩
        obtain ⟨k, S', e', k0, k1, p', t'⟩ := take_ok pS (m := 94) (by decide) (by decide)
        obtain ⟨c, hc⟩ := char_ok k0 k1
        have hc1 := hc S'
        refine ⟨_, true, S, rfl, rfl, (fun z => by cases z), fun _ => ⟨.v (.str ⟨#[c]⟩), .str ⟨#[c]⟩, S', ?_, rfl, p', tS.trans t', cs ++ [c], by simp [hl], by simp⟩⟩
        simp only [fe_l_text_0]
        walk_at "g")
    rw [rgD_len] at hl
    have hs := strsD_map (fun c => (⟨#[c]⟩ : Str)) cs
    have hj := join_ones cs
    have hsum := sum_ones cs
    have hlen : cs.length = n.toNat := by omega
    have hz : ((cs.map fun c => (⟨#[c]⟩ : Str)).map (·.length)).sum + (cs.map fun c => (⟨#[c]⟩ : Str)).length * (("" : String) : Str).length ≤ 16777216 := by
      rw [hsum, empty_lit]
      show cs.length + _ * 0 ≤ _
      omega
    have hz3 : ((cs.map fun c => (⟨#[c]⟩ : Str)).map (·.length)).sum + cs.length * (("" : String) : Str).length ≤ 16777216 := by
      rw [hsum, empty_lit]
      show cs.length + _ * 0 ≤ _
      omega
    refine ⟨⟨cs.toArray⟩, S5, ?_, by rw [ch_len, ch_mk]; omega, p5, (q13.trans q4).trans q5⟩
    clear hl hsum hlen lz q13 q1 q2 q3 q4 q5
    simp only [f_l_text, fb_l_text]
    walk_at "o"
  refine ⟨z, S3, ?_, by omega, p3, q13⟩
  clear lz q13 q1 q2 q3
  simp only [f_l_text, fb_l_text]
  walk_at "o"
end

/-! ## Pu -/
section
open PySem PySem.Spec PyProof.Rows L2
/-! ## the law -/
theorem w_at : ∀ (k : Nat), k < 4 → ∃ t : Str, t ∈ W4 ∧ atI wD ((k : Nat) : Int) = some (.str t)
  | 0, _ => ⟨_, by decide, rfl⟩
  | 1, _ => ⟨_, by decide, rfl⟩
  | 2, _ => ⟨_, by decide, rfl⟩
  | 3, _ => ⟨_, by decide, rfl⟩
  | n + 4, h => absurd h (by omega)
section
variable {ns : List Int} {n m : Nat} {a b : Str}
theorem in_step {x y : Str} {x7 x8 : Option Sx} (ha : a ∈ W4) (hb : b ∈ W4) (hx : x ∈ W4) (hy : y ∈ W4) (S : Sto) :
    fl_law_0 [some (.v (.frl ns)), some (.v (.cell n)), some (.v (.lst wD)), some (.v (.str a)), some (.v (.str b)), some (.v (ruD a b)), some (.v (.str x)), x7, x8, some (.v (.str y))] S
    = .nx [some (.v (.frl ns)), some (.v (.cell n)), some (.v (.lst wD)), some (.v (.str a)), some (.v (.str b)), some (.v (ruD a b)), some (.v (.str x)), x7, x8, some (.v (.str y))] S := by
  have lx := w4_len x hx
  have ly := w4_len y hy
  have la := w4_len a ha
  have lb := w4_len b hb
  have h1 := init_ok hx hy S
  have h2 := eq_ok (a := a) (b := b) (c := x) (d := y) S
  have h3 := written_ok (a := x) (b := y) (by omega) (by omega) S
  have h4 := reads_ok (t := wrt x y) (by rw [wrt_len]; omega) S
  have lx' : x.length ≤ 1000000 := by omega
  have ly' : y.length ≤ 1000000 := by omega
  have la' : a.length ≤ 1000000 := by omega
  have lb' : b.length ≤ 1000000 := by omega
  have h5 : ruD a b = .obj "Rule" ["send_word", "charge_word"] [.str a, .str b] := rfl
  have h6 : ruD x y = .obj "Rule" ["send_word", "charge_word"] [.str x, .str y] := rfl
  clear ha hb hx hy lx ly la lb
  generalize wrt x y = z at *
  generalize wD = ws at *
  by_cases e1 : a = x
  · by_cases e2 : b = y
    · subst e1 e2
      simp only [decide_true, Bool.and_true] at h2
      rw [h5] at h1 h2 ⊢
      clear h5 h6
      simp only [fl_law_0]
      walk_at "g"
    · have e2' : (b = y) = False := eq_false e2
      have e3' : (y = b) = False := eq_false (fun h => e2 h.symm)
      subst e1
      simp only [decide_true, e2', decide_false, Bool.and_false] at h2
      rw [h5, h6] at h2; rw [h6] at h1; rw [h5]
      clear h5 h6 e2
      simp only [fl_law_0]
      walk_at "g"
  · have e2' : (a = x) = False := eq_false e1
    have e3' : (x = a) = False := eq_false (fun h => e1 h.symm)
    simp only [e2', decide_false, Bool.false_and] at h2
    rw [h5, h6] at h2; rw [h6] at h1; rw [h5]
    clear h5 h6 e1
    simp only [fl_law_0]
    walk_at "g"
theorem out_step {x : Str} {x7 x8 y : Option Sx} (ha : a ∈ W4) (hb : b ∈ W4) (hx : x ∈ W4) (S : Sto) : ∃ y',
    fl_law_1 [some (.v (.frl ns)), some (.v (.cell n)), some (.v (.lst wD)), some (.v (.str a)), some (.v (.str b)), some (.v (ruD a b)), some (.v (.str x)), x7, x8, y] S
    = .nx [some (.v (.frl ns)), some (.v (.cell n)), some (.v (.lst wD)), some (.v (.str a)), some (.v (.str b)), some (.v (ruD a b)), some (.v (.str x)), x7, x8, y'] S := by
  obtain ⟨σ', S', e, rfl, y', rfl⟩ := for_in (fg := fgName 9) (fb := fl_law_0) (fun i σ S' => S' = S ∧ ∃ y, σ = [some (.v (.frl ns)), some (.v (.cell n)), some (.v (.lst wD)), some (.v (.str a)), some (.v (.str b)), some (.v (ruD a b)), some (.v (.str x)), x7, x8, y]) (items := wD) (σ := [some (.v (.frl ns)), some (.v (.cell n)), some (.v (.lst wD)), some (.v (.str a)), some (.v (.str b)), some (.v (ruD a b)), some (.v (.str x)), x7, x8, y]) (S := S) ⟨rfl, _, rfl⟩ (by
    rintro i d σ S' hd ⟨rfl, y, rfl⟩
    obtain ⟨c, hc, rfl⟩ := w_get hd
    exact ⟨_, rfl, nx_of (in_step ha hb hx hc S') ⟨rfl, _, rfl⟩⟩)
  refine ⟨y', ?_⟩
  generalize wD = ws at *
  generalize ruD a b = r at *
  simp only [fl_law_1]
  walk_at "g"
theorem text_step {x6 x8 x9 : Option Sx} {S : Sto} (ha : a ∈ W4) (hb : b ∈ W4) (hp : Px m S) : ∃ S',
    fl_law_2 [some (.v (.frl ns)), some (.v (.cell n)), some (.v (.lst wD)), some (.v (.str a)), some (.v (.str b)), some (.v (ruD a b)), x6, some (.v (.cell m)), x8, x9] S
    = .nx [some (.v (.frl ns)), some (.v (.cell n)), some (.v (.lst wD)), some (.v (.str a)), some (.v (.str b)), some (.v (ruD a b)), x6, some (.v (.cell m)), x8, x9] S' ∧ Px m S' := by
  have la := w4_len a ha
  have lb := w4_len b hb
  obtain ⟨t, S', e, lt, p', _⟩ := text_ok hp (a := a) (b := b) (by omega) (by omega)
  have h := reads_ok (t := t) (by omega) S'
  refine ⟨S', ?_, p'⟩
  clear la lb lt
  generalize wD = ws at *
  generalize ruD a b = r at *
  simp only [fl_law_2]
  walk_at "g"
end
theorem law_good (ns : List Int) (hl : ns.length ≤ 63) : ∃ S, f_law [.frl ns] [] = .ok (.v (.bl true)) S := by
  obtain ⟨d0, e0, p0⟩ := pool_ok (ns := ns) (k := 0) (by decide) (by decide) []
  generalize (([] : Sto) ++ [d0]) = S0 at e0 p0
  have e0 : f_l_pool [.frl ns, .int 0] [] = .ok (.v (.cell 0)) S0 := e0
  have p0 : Px 0 S0 := p0
  obtain ⟨r1, S1, e1, r10, r11, p1, q1⟩ := take_ok p0 (m := 4) (by decide) (by decide)
  obtain ⟨r2, S2, e2, r20, r21, p2, q2⟩ := take_ok p1 (m := 4) (by decide) (by decide)
  obtain ⟨a, ha, ea⟩ := w_at r1.toNat (by omega)
  obtain ⟨b, hb, eb⟩ := w_at r2.toNat (by omega)
  rw [show ((r1.toNat : Nat) : Int) = r1 by omega] at ea
  rw [show ((r2.toNat : Nat) : Int) = r2 by omega] at eb
  have h1 := init_ok ha hb S2
  have h2 := is_ok ha hb S2
  have h3 := row_ok S2
  have h4 : f_l_same [.tup wD, .tup wD] S2 = .ok (.v (.bl true)) S2 := same_ok rfl
  obtain ⟨σ', S', e3, rfl, x6, x9, rfl⟩ := for_in (fg := fgName 6) (fb := fl_law_1) (fun i σ S' => S' = S2 ∧ ∃ x6 x9, σ = [some (.v (.frl ns)), some (.v (.cell 0)), some (.v (.lst wD)), some (.v (.str a)), some (.v (.str b)), some (.v (ruD a b)), x6, none, none, x9]) (items := wD) (σ := [some (.v (.frl ns)), some (.v (.cell 0)), some (.v (.lst wD)), some (.v (.str a)), some (.v (.str b)), some (.v (ruD a b)), none, none, none, none]) (S := S2) ⟨rfl, _, _, rfl⟩ (by
    rintro i d σ S' hd ⟨rfl, x6, x9, rfl⟩
    obtain ⟨c, hc, rfl⟩ := w_get hd
    obtain ⟨y', e⟩ := out_step (ns := ns) (n := 0) (a := a) (b := b) (x := c) (x7 := none) (x8 := none) (y := x9) ha hb hc S'
    exact ⟨_, rfl, nx_of e ⟨rfl, _, _, rfl⟩⟩)
  obtain ⟨d4, e4, p4⟩ := pool_ok (ns := ns) (k := 1) (by decide) (by decide) S'
  generalize S'.length = m at e4 p4
  generalize S' ++ [d4] = S4 at e4 p4
  obtain ⟨σ5, S5, e5, p5, x8, rfl⟩ := for_in (fg := fgName 8) (fb := fl_law_2) (fun i σ S => Px m S ∧ ∃ x8, σ = [some (.v (.frl ns)), some (.v (.cell 0)), some (.v (.lst wD)), some (.v (.str a)), some (.v (.str b)), some (.v (ruD a b)), x6, some (.v (.cell m)), x8, x9]) (items := rgD 4) (σ := [some (.v (.frl ns)), some (.v (.cell 0)), some (.v (.lst wD)), some (.v (.str a)), some (.v (.str b)), some (.v (ruD a b)), x6, some (.v (.cell m)), none, x9]) (S := S4) ⟨p4, _, rfl⟩ (by
    rintro i d σ S hd ⟨pS, x8, rfl⟩
    obtain ⟨S6, e6, p6⟩ := text_step (ns := ns) (n := 0) (m := m) (a := a) (b := b) (x6 := x6) (x8 := some (.v d)) (x9 := x9) ha hb pS
    exact ⟨_, rfl, nx_of e6 ⟨p6, _, rfl⟩⟩)
  have h5 := is_ok ha hb S5
  have h6 := row_ok S5
  refine ⟨S5, ?_⟩
  have hw : ([Da.str (("first" : String) : Str), Da.str (("last" : String) : Str), Da.str (("fullest" : String) : Str), Da.str (("emptiest" : String) : Str)] : List Da) = wD := rfl
  clear p0 p1 p2 p4 p5 q1 q2 ha hb hl
  have hW : ([(("first" : String) : Str), (("last" : String) : Str), (("fullest" : String) : Str), (("emptiest" : String) : Str)] : List Str) = W4 := rfl
  simp only [f_law, fb_law, hW]
  simp only [wD, W4, List.map_cons, List.map_nil] at *
  generalize ruD a b = r at *
  walk_at "g"
end

/-! ## Sn2 -/
end Cl

namespace Cl
open PySem PySem.Spec PyProof.Rows L2
open HeadE
section
variable {K : PySem.W.Frag} {mg : Str → Option Value}
theorem snd_l_cell (c : FZ K mg) : SndS K ⟨WF, none⟩ (t_l_cell K) fb_l_cell :=
  (snd_seq (snd_ifS (snd_test (snd_op sLt snd_var (snd_cb sLen (snd_cons snd_var snd_nil)))) (snd_ret (snd_cb sAbs (snd_cons (snd_op sIxL snd_var snd_var) snd_nil))) snd_next)
    (snd_ret (snd_c fun _ => .int _)))
theorem snd_l_pool (c : FZ K mg) : SndS K ⟨WF, none⟩ (t_l_pool K) fb_l_pool :=
  (snd_seq (snd_setD (snd_call (snd_cons snd_var (snd_cons snd_var snd_nil))))
    (snd_ret (snd_cell (snd_lst (snd_cons snd_var (snd_cons (snd_cb sInt1 (snd_cons (snd_op sGe snd_var (snd_op sPow (snd_c fun _ => .int _) (snd_c fun _ => .int _))) snd_nil)) (snd_cons (snd_op sMul (snd_c fun _ => .int _) snd_var) snd_nil)))))))
theorem snd_l_take (c : FZ K mg) : SndS K ⟨WF, none⟩ (t_l_take K) fb_l_take :=
  (snd_seq (snd_ifS (snd_and (snd_test (snd_op sEq (snd_op sIxL snd_var (snd_c fun _ => .int _)) (snd_c fun _ => .int _))) (snd_test (snd_op sGt (snd_op sIxL snd_var (snd_c fun _ => .int _)) (snd_c fun _ => .int _)))) (snd_seq (snd_setD (snd_op sMod (snd_cb sInt1 (snd_cons (snd_op sIxL snd_var (snd_c fun _ => .int _)) snd_nil)) snd_var))
    (snd_seq (snd_setI (snd_op sDiv (snd_op sIxL snd_var (snd_c fun _ => .int _)) snd_var) (snd_c fun _ => .int _))
    (snd_ret snd_var))) snd_next)
    (snd_seq (snd_setI (snd_op sAdd (snd_op sIxL snd_var (snd_c fun _ => .int _)) (snd_c fun _ => .int _)) (snd_c fun _ => .int _))
    (snd_seq (snd_setD (snd_op sMod (snd_cb sInt1 (snd_cons (snd_op sAdd (snd_op sMul (snd_op sAdd (snd_op sIxL snd_var (snd_c fun _ => .int _)) (snd_c fun _ => .int _)) (snd_c fun _ => .int _)) (snd_op sMul (snd_op sIxL snd_var (snd_c fun _ => .int _)) (snd_c fun _ => .int _))) snd_nil)) (snd_c fun _ => .int _)))
    (snd_seq (snd_setD (snd_op sMod (snd_cb sInt1 (snd_cons (snd_op sAdd (snd_op sMul snd_var (snd_c fun _ => .int _)) (snd_op sMul (snd_op sIxL snd_var (snd_c fun _ => .int _)) (snd_c fun _ => .int _))) snd_nil)) (snd_c fun _ => .int _)))
    (snd_seq (snd_ifS (snd_test (snd_op sGt (snd_op sIxL snd_var (snd_c fun _ => .int _)) (snd_c fun _ => .int _))) (snd_setD (snd_op sMod (snd_cb sInt1 (snd_cons (snd_op sMul (snd_op sDiv snd_var (snd_c fun _ => .int _)) (snd_op sAdd (snd_op sAdd (snd_op sDiv snd_var (snd_c fun _ => .int _)) (snd_op sIxL snd_var (snd_c fun _ => .int _))) (snd_c fun _ => .int _))) snd_nil)) (snd_c fun _ => .int _))) snd_next)
    (snd_ret (snd_op sMod (snd_cb sInt1 (snd_cons (snd_op sDiv snd_var (snd_c fun _ => .int _)) snd_nil)) snd_var)))))))
theorem snd_Rule___init__ (c : FZ K mg) (E : XK) : SndS K ⟨W0 E, none⟩ (t_Rule___init__ K E) fb_Rule___init__ :=
  (snd_seq (snd_ifS (snd_test (snd_op sIn snd_var (snd_cv (c.cvS 0)))) (snd_raise (snd_cons (snd_c fun _ => .str _) snd_nil)) snd_next)
    (snd_seq (snd_ifS (snd_test (snd_op sIn snd_var (snd_cv (c.cvS 0)))) (snd_raise (snd_cons (snd_c fun _ => .str _) snd_nil)) snd_next)
    (snd_seq (snd_sFld (c.cls 7) (c.noat 8) snd_var)
    (snd_sFld (c.cls 7) (c.noat 9) snd_var))))
theorem snd_l_written (c : FZ K mg) : SndS K ⟨WF, none⟩ (t_l_written K) fb_l_written :=
  (snd_ret (snd_op sAddS (snd_op sAddS (snd_op sAddS (snd_c fun _ => .str _) snd_var) (snd_c fun _ => .str _)) snd_var))
theorem snd_Rule___str__ (c : FZ K mg) : SndS K ⟨WF, none⟩ (t_Rule___str__ K) fb_Rule___str__ :=
  (snd_ret (snd_joined (SndJ.cons (snd_c fun _ => .str _) (SndJ.cons (snd_fmt (snd_fld (c.cls 7) (c.noat 8) snd_var)) (SndJ.cons (snd_c fun _ => .str _) (SndJ.cons (snd_fmt (snd_fld (c.cls 7) (c.noat 9) snd_var)) SndJ.nil))))))
theorem snd_l_is (c : FZ K mg) : SndS K ⟨WF, none⟩ (t_l_is K) fb_l_is :=
  (snd_seq (snd_ifS (snd_or (snd_not (snd_B (snd_isC (c.cls 7) (c.isc 1) (c.kit 2) snd_var))) (snd_not (snd_B (snd_call (snd_cons (snd_strO snd_var) (snd_cons (snd_call (snd_cons snd_var (snd_cons snd_var snd_nil))) snd_nil)))))) (snd_ret (snd_c fun _ => .bl _)) snd_next)
    (snd_ret (snd_andV (snd_call (snd_cons (snd_fld (c.cls 7) (c.noat 8) snd_var) (snd_cons snd_var snd_nil))) (snd_call (snd_cons (snd_fld (c.cls 7) (c.noat 9) snd_var) (snd_cons snd_var snd_nil))))))
theorem snd_Rule_every (c : FZ K mg) (E : XK) : SndS K ⟨W0 E, none⟩ (t_Rule_every K E) fb_Rule_every :=
  (snd_ret (snd_lc2 ((snd_iT (snd_cv (c.cvS 0)))).le (by simp) snd_yes (snd_iT (snd_cv (c.cvS 0))) snd_gName (by simp) snd_yes (snd_makeN (snd_cons snd_var (snd_cons snd_var snd_nil)))))
theorem snd_l_row (c : FZ K mg) : SndS K ⟨WF, none⟩ (t_l_row K) fb_l_row :=
  (snd_seq (snd_set (snd_callS snd_nil))
    (snd_seq (snd_ifS (snd_or (snd_not (snd_B (snd_isi snd_var))) (snd_test (snd_op sNe (snd_cb sLen (snd_cons snd_var snd_nil)) (snd_c fun _ => .int _)))) (snd_ret (snd_c fun _ => .bl _)) snd_next)
    (snd_seq (snd_for (snd_iR1 (snd_cons (snd_c fun _ => .int _) snd_nil)) snd_gName (snd_ifS (snd_not (snd_B (snd_call (snd_cons (snd_op sIxL snd_var snd_var) (snd_cons (snd_op sIxL snd_var (snd_op sDiv snd_var (snd_c fun _ => .int _))) (snd_cons (snd_op sIxL snd_var (snd_op sSub snd_var (snd_op sMul (snd_c fun _ => .int _) (snd_op sDiv snd_var (snd_c fun _ => .int _))))) snd_nil)))))) (snd_ret (snd_c fun _ => .bl _)) snd_next))
    (snd_seq snd_clr
    (snd_ret (snd_c fun _ => .bl _))))))
theorem snd_Rule___eq__ (c : FZ K mg) : SndS K ⟨WF, none⟩ (t_Rule___eq__ K) fb_Rule___eq__ :=
  (snd_ret (snd_andV (snd_isC (c.cls 7) (c.isc 1) (c.kit 2) snd_var) (snd_andV (snd_op sEq (snd_fld (c.cls 7) (c.noat 8) snd_var) (snd_fld (c.cls 7) (c.noat 8) snd_var)) (snd_op sEq (snd_fld (c.cls 7) (c.noat 9) snd_var) (snd_fld (c.cls 7) (c.noat 9) snd_var)))))
theorem snd_Rule_parse (c : FZ K mg) (E : XK) : SndS K ⟨W0 E, some (He.ga K "Rule", none, exC)⟩ (t_Rule_parse K E) fb_Rule_parse :=
  (snd_seq (snd_for (snd_iL (snd_callV0 rfl)) snd_gName (snd_ifS (snd_test (snd_op sEq (snd_strO snd_var) snd_var)) (snd_ret snd_var) snd_next))
    (snd_raise (snd_cons (snd_c fun _ => .str _) snd_nil)))
theorem snd_l_parsed (c : FZ K mg) : SndS K ⟨WF, none⟩ (t_l_parsed K) fb_l_parsed :=
  (snd_seq (snd_setD (snd_c fun _ => .non))
    (snd_seq (snd_setD (snd_c fun _ => .non))
    (snd_seq (snd_try (tab_ok c) (fun W => (snd_setD (snd_callS (snd_cons snd_var snd_nil)))) (SndH.cons (fun a d e => (snd_setD (snd_tup (snd_cons snd_xf (snd_cons (snd_andV (snd_isE rel_ref (c.kit 5)) (snd_andV (snd_isE rel_ty (c.kitT 6)) (snd_notV (snd_isE rel_ref (c.kit 7))))) snd_nil))))) SndH.nil))
    (snd_ret (snd_tup (snd_cons snd_var (snd_cons snd_var snd_nil)))))))
theorem snd_l_reads (c : FZ K mg) : SndS K ⟨WF, none⟩ (t_l_reads K) fb_l_reads :=
  (snd_seq (snd_setD (snd_call (snd_cons snd_var snd_nil)))
    (snd_seq (snd_for (snd_iL snd_var) snd_gName (snd_for (snd_iL snd_var) snd_gName (snd_ifS (snd_test (snd_op sEq snd_var (snd_call (snd_cons snd_var (snd_cons snd_var snd_nil))))) (snd_ret (snd_andV (snd_op sIsN (snd_op sIxT snd_var (snd_c fun _ => .int _)) (snd_c fun _ => .non)) (snd_andV (snd_call (snd_cons (snd_op sIxT snd_var (snd_c fun _ => .int _)) (snd_cons snd_var (snd_cons snd_var snd_nil)))) (snd_ownEq (snd_op sIxT snd_var (snd_c fun _ => .int _)) (snd_makeX (snd_cons snd_var (snd_cons snd_var snd_nil))))))) snd_next)))
    (snd_ret (snd_andV (snd_op sIsN (snd_op sIxT snd_var (snd_c fun _ => .int _)) (snd_c fun _ => .non)) (snd_call (snd_cons (snd_op sIxT snd_var (snd_c fun _ => .int _)) (snd_cons (snd_tup (snd_cons (snd_c fun _ => .str _) (snd_cons (snd_c fun _ => .bl _) snd_nil))) snd_nil)))))))
theorem snd_l_char (c : FZ K mg) : SndS K ⟨WF, none⟩ (t_l_char K) fb_l_char :=
  (snd_seq (snd_setD (snd_c fun _ => .str _))
    (snd_seq (snd_setD (snd_op sAddS snd_var (snd_c fun _ => .str _)))
    (snd_ret (snd_op sIxS snd_var snd_var))))
theorem snd_l_text (c : FZ K mg) : SndS K ⟨WF, none⟩ (t_l_text K) fb_l_text :=
  (snd_seq (snd_setD (snd_call (snd_cons snd_var (snd_cons snd_var snd_nil))))
    (snd_seq (snd_setD (snd_call (snd_cons snd_var (snd_cons (snd_c fun _ => .int _) snd_nil))))
    (snd_seq (snd_setD (snd_call (snd_cons snd_var (snd_cons (snd_op sAdd (snd_cb sLenS (snd_cons snd_var snd_nil)) (snd_c fun _ => .int _)) snd_nil))))
    (snd_seq (snd_setD (snd_call (snd_cons (snd_call (snd_cons snd_var (snd_cons (snd_c fun _ => .int _) snd_nil))) snd_nil)))
    (snd_seq (snd_ifS (snd_test (snd_op sEq snd_var (snd_c fun _ => .int _))) (snd_ret (snd_op sAddS (snd_op sAddS (snd_sl sSlS snd_var snd_noP (snd_part snd_var)) snd_var) (snd_sl sSlS snd_var (snd_part snd_var) snd_noP))) snd_next)
    (snd_seq (snd_ifS (snd_test (snd_op sEq snd_var (snd_c fun _ => .int _))) (snd_ret (snd_op sAddS (snd_sl sSlS snd_var snd_noP (snd_part snd_var)) (snd_sl sSlS snd_var (snd_part (snd_op sAdd snd_var (snd_c fun _ => .int _))) snd_noP))) snd_next)
    (snd_seq (snd_ifS (snd_test (snd_op sEq snd_var (snd_c fun _ => .int _))) (snd_ret (snd_op sAddS (snd_op sAddS (snd_sl sSlS snd_var snd_noP (snd_part snd_var)) snd_var) (snd_sl sSlS snd_var (snd_part (snd_op sAdd snd_var (snd_c fun _ => .int _))) snd_noP))) snd_next)
    (snd_seq (snd_ifS (snd_test (snd_op sEq snd_var (snd_c fun _ => .int _))) (snd_ret (snd_op sAddS (snd_op sAddS (snd_op sAddS (snd_c fun _ => .str _) snd_var) (snd_c fun _ => .str _)) snd_var)) snd_next)
    (snd_seq (snd_ifS (snd_test (snd_op sEq snd_var (snd_c fun _ => .int _))) (snd_seq (snd_setD (snd_lst (snd_cons (snd_c fun _ => .str _) (snd_cons (snd_c fun _ => .str _) (snd_cons (snd_c fun _ => .str _) (snd_cons (snd_c fun _ => .str _) (snd_cons (snd_c fun _ => .str _) (snd_cons (snd_c fun _ => .str _) snd_nil))))))))
    (snd_seq (snd_setD (snd_op sCat snd_var (snd_lst (snd_cons (snd_c fun _ => .str _) (snd_cons (snd_c fun _ => .str _) (snd_cons (snd_c fun _ => .str _) (snd_cons (snd_c fun _ => .str _) snd_nil)))))))
    (snd_seq (snd_setD (snd_op sCat snd_var (snd_lst (snd_cons (snd_c fun _ => .str _) (snd_cons (snd_c fun _ => .str _) (snd_cons (snd_c fun _ => .str _) snd_nil))))))
    (snd_ret (snd_op sIxL snd_var (snd_call (snd_cons snd_var (snd_cons (snd_c fun _ => .int _) snd_nil)))))))) snd_next)
    (snd_seq (snd_ifS (snd_test (snd_op sEq snd_var (snd_c fun _ => .int _))) (snd_seq (snd_setD (snd_lst (snd_cons (snd_c fun _ => .str _) (snd_cons (snd_c fun _ => .str _) (snd_cons (snd_c fun _ => .str _) (snd_cons (snd_c fun _ => .str _) (snd_cons (snd_c fun _ => .str _) (snd_cons (snd_c fun _ => .str _) (snd_cons (snd_c fun _ => .str _) (snd_cons (snd_c fun _ => .str _) (snd_cons (snd_c fun _ => .str _) (snd_cons (snd_c fun _ => .str _) snd_nil))))))))))))
    (snd_ret (snd_call (snd_cons (snd_op sIxL snd_var (snd_call (snd_cons snd_var (snd_cons (snd_c fun _ => .int _) snd_nil)))) (snd_cons (snd_op sIxL snd_var (snd_call (snd_cons snd_var (snd_cons (snd_c fun _ => .int _) snd_nil)))) snd_nil))))) snd_next)
    (snd_seq (snd_ifS (snd_test (snd_op sEq snd_var (snd_c fun _ => .int _))) (snd_seq (snd_setD (snd_call (snd_cons snd_var (snd_cons (snd_c fun _ => .int _) snd_nil))))
    (snd_ret (snd_join (snd_c fun _ => .str _) (snd_lc ((snd_iR1 (snd_cons snd_var snd_nil))).le snd_gName (by simp) snd_yes (snd_call (snd_cons (snd_call (snd_cons snd_var (snd_cons (snd_c fun _ => .int _) snd_nil))) snd_nil)))))) snd_next)
    (snd_ret snd_var))))))))))))
theorem snd_law (c : FZ K mg) : SndS K ⟨WF, none⟩ (t_law K) fb_law :=
  (snd_seq (snd_setD (snd_call (snd_cons snd_var (snd_cons (snd_c fun _ => .int _) snd_nil))))
    (snd_seq (snd_setD (snd_lst (snd_cons (snd_c fun _ => .str _) (snd_cons (snd_c fun _ => .str _) (snd_cons (snd_c fun _ => .str _) (snd_cons (snd_c fun _ => .str _) snd_nil))))))
    (snd_seq (snd_setD (snd_op sIxL snd_var (snd_call (snd_cons snd_var (snd_cons (snd_c fun _ => .int _) snd_nil)))))
    (snd_seq (snd_setD (snd_op sIxL snd_var (snd_call (snd_cons snd_var (snd_cons (snd_c fun _ => .int _) snd_nil)))))
    (snd_seq (snd_setD (snd_makeX (snd_cons snd_var (snd_cons snd_var snd_nil))))
    (snd_seq (snd_ifS (snd_or (snd_not (snd_B (snd_call (snd_cons (snd_cv (c.cvS 0)) (snd_cons (snd_cb sTup (snd_cons snd_var snd_nil)) snd_nil))))) (snd_or (snd_not (snd_B (snd_call (snd_cons snd_var (snd_cons snd_var (snd_cons snd_var snd_nil)))))) (snd_not (snd_B (snd_call (snd_cons snd_var snd_nil)))))) (snd_ret (snd_c fun _ => .bl _)) snd_next)
    (snd_seq (snd_for (snd_iL snd_var) snd_gName (snd_for (snd_iL snd_var) snd_gName (snd_seq (snd_ifS (snd_test (snd_op sNe (snd_cb sBool1 (snd_cons (snd_ownEq snd_var (snd_makeX (snd_cons snd_var (snd_cons snd_var snd_nil)))) snd_nil)) (snd_andV (snd_op sEq snd_var snd_var) (snd_op sEq snd_var snd_var)))) (snd_ret (snd_c fun _ => .bl _)) snd_next)
    (snd_ifS (snd_not (snd_B (snd_call (snd_cons (snd_call (snd_cons snd_var (snd_cons snd_var snd_nil))) (snd_cons snd_var snd_nil))))) (snd_ret (snd_c fun _ => .bl _)) snd_next))))
    (snd_seq (snd_setD (snd_call (snd_cons snd_var (snd_cons (snd_c fun _ => .int _) snd_nil))))
    (snd_seq (snd_for (snd_iR1 (snd_cons (snd_c fun _ => .int _) snd_nil)) snd_gName (snd_ifS (snd_not (snd_B (snd_call (snd_cons (snd_call (snd_cons snd_var (snd_cons snd_var (snd_cons snd_var snd_nil)))) (snd_cons snd_var snd_nil))))) (snd_ret (snd_c fun _ => .bl _)) snd_next))
    (snd_ret (snd_andV (snd_call (snd_cons snd_var (snd_cons snd_var (snd_cons snd_var snd_nil)))) (snd_call (snd_cons snd_var snd_nil)))))))))))))
end
end Cl

/-! ## Ok2 -/

namespace Cl
open PySem PySem.Spec PyProof.Rows L2
open HeadE
section
variable {w : World} {K : PySem.W.Frag} {mg : Str → Option Value} {base : Heap}
theorem ok_l_cell_fd (c : FZ K mg) {fd : FuncData} (F' : FunD K "_law_cell" "_law_cell" (defArgs s_l_cell) (defBody s_l_cell) (defScope s_l_cell) [] [] (He.fAd K ("_law_cell", none)) fd) : FnOk PP w K mg base CX0 1 (He.fAd K ("_law_cell", none)) fd ["_law_script", "_law_k"] (spOf K f_l_cell) := by
  refine F'.ok sc_l_cell (fun vs H Q E h => fn_len0 h) (fun cdv A outer s H vs Q E hr h => ⟨t_l_cell K, PSs.nox ?_, fn_pure0 (snd_l_cell c) h⟩)
  exact (pss_cons (ps_if (pt_cmpR op_lt (pv 1) (pe_callB cl_len (by rfl) (c.free 0) (by decide +kernel) (pa_cons (pv 0) pa_nil)) (nomark _)) (pss_one (ps_ret (pe_callB cl_abs (by rfl) (c.free 1) (by decide +kernel) (pa_cons (pe_ix ix_list (pv 0) (pv 1) (fun _ _ => rfl)) pa_nil)))) pss_nil)
      (pss_one (ps_ret pe_int)))
theorem ok_l_cell (c : FZ K mg) : FnX PP w K mg base CX0 1 ("_law_cell", none) ["_law_script", "_law_k"] (spOf K f_l_cell) := by
  obtain ⟨fd, F⟩ := c.says.def_ 0 (d := d_l_cell) rfl
  have F' : FunD K "_law_cell" "_law_cell" (defArgs s_l_cell) (defBody s_l_cell) (defScope s_l_cell) [] [] (He.fAd K ("_law_cell", none)) fd := F
  exact ⟨⟨fd, ok_l_cell_fd c F', F'.bindsN fun _ _ _ _ _ _ us hl => match us, hl with | [_, _], _ => rfl⟩, F'.kp⟩
theorem ok_l_pool_fd (c : FZ K mg) {fd : FuncData} (F' : FunD K "_law_pool" "_law_pool" (defArgs s_l_pool) (defBody s_l_pool) (defScope s_l_pool) [] [] (He.fAd K ("_law_pool", none)) fd) : FnOk PP w K mg base CX0 2 (He.fAd K ("_law_pool", none)) fd ["_law_script", "_law_k"] (spOf K f_l_pool) := by
  refine F'.ok sc_l_pool (fun vs H Q E h => fn_len0 h) (fun cdv A outer s H vs Q E hr h => ⟨t_l_pool K, PSs.nox ?_, fn_pure0 (snd_l_pool c) h⟩)
  exact (pss_cons (ps_set (i := 2) sc_l_pool.nd rfl (by first | exact Or.inl rfl | exact Or.inr rfl) (pcall (ok_l_cell c) (hr.mono (by decide)) (by rfl) (c.glo 2) pass0 (pa_cons (pv 0) (pa_cons (pv 1) pa_nil))))
      (pss_one (ps_ret (pe_lst (pa_cons (pv 2) (pa_cons (pe_callTy cl_int1 (by rfl) (c.free 3) (by decide +kernel) (pa_cons (pe_cmpR op_ge (pv 2) (pe_op op_pow pe_int pe_int) (nomark _)) pa_nil)) (pa_cons (pe_op op_mul pe_int (pv 1)) pa_nil)))))))
theorem ok_l_pool (c : FZ K mg) : FnX PP w K mg base CX0 2 ("_law_pool", none) ["_law_script", "_law_k"] (spOf K f_l_pool) := by
  obtain ⟨fd, F⟩ := c.says.def_ 1 (d := d_l_pool) rfl
  have F' : FunD K "_law_pool" "_law_pool" (defArgs s_l_pool) (defBody s_l_pool) (defScope s_l_pool) [] [] (He.fAd K ("_law_pool", none)) fd := F
  exact ⟨⟨fd, ok_l_pool_fd c F', F'.bindsN fun _ _ _ _ _ _ us hl => match us, hl with | [_, _], _ => rfl⟩, F'.kp⟩
theorem ok_l_take_fd (c : FZ K mg) {fd : FuncData} (F' : FunD K "_law_take" "_law_take" (defArgs s_l_take) (defBody s_l_take) (defScope s_l_take) [] [] (He.fAd K ("_law_take", none)) fd) : FnOk PP w K mg base CX0 1 (He.fAd K ("_law_take", none)) fd ["_law_pool_here", "_law_many"] (spOf K f_l_take) := by
  refine F'.ok sc_l_take (fun vs H Q E h => fn_len0 h) (fun cdv A outer s H vs Q E hr h => ⟨t_l_take K, PSs.nox ?_, fn_pure0 (snd_l_take c) h⟩)
  exact (pss_cons (ps_if (PW.pt (pw_and (pt_cmpR op_eq (pe_ix ix_list (pv 0) pe_int (fun _ _ => rfl)) pe_int (nomark _)) (pw_and1 (pt_cmpR op_gt (pe_ix ix_list (pv 0) pe_int (fun _ _ => rfl)) pe_int (nomark _))))) (pss_cons (ps_set (i := 3) sc_l_take.nd rfl (by first | exact Or.inl rfl | exact Or.inr rfl) (pe_op op_mod (pe_callTy cl_int1 (by rfl) (c.free 3) (by decide +kernel) (pa_cons (pe_ix ix_list (pv 0) pe_int (fun _ _ => rfl)) pa_nil)) (pv 1)))
      (pss_cons (ps_asg (pe_op op_fdivB (pe_ix ix_list (pv 0) pe_int (fun _ _ => rfl)) (pv 1)) (pg_sub (pv 0) pe_int set_list))
      (pss_one (ps_ret (pv 3))))) pss_nil)
      (pss_cons (ps_asg (pe_op op_add (pe_ix ix_list (pv 0) pe_int (fun _ _ => rfl)) pe_int) (pg_sub (pv 0) pe_int set_list))
      (pss_cons (ps_set (i := 2) sc_l_take.nd rfl (by first | exact Or.inl rfl | exact Or.inr rfl) (pe_op op_mod (pe_callTy cl_int1 (by rfl) (c.free 3) (by decide +kernel) (pa_cons (pe_op op_add (pe_op op_mul (pe_op op_add (pe_ix ix_list (pv 0) pe_int (fun _ _ => rfl)) pe_int) pe_int) (pe_op op_mul (pe_ix ix_list (pv 0) pe_int (fun _ _ => rfl)) pe_int)) pa_nil)) pe_int))
      (pss_cons (ps_set (i := 2) sc_l_take.nd rfl (by first | exact Or.inl rfl | exact Or.inr rfl) (pe_op op_mod (pe_callTy cl_int1 (by rfl) (c.free 3) (by decide +kernel) (pa_cons (pe_op op_add (pe_op op_mul (pv 2) pe_int) (pe_op op_mul (pe_ix ix_list (pv 0) pe_int (fun _ _ => rfl)) pe_int)) pa_nil)) pe_int))
      (pss_cons (ps_if (pt_cmpR op_gt (pe_ix ix_list (pv 0) pe_int (fun _ _ => rfl)) pe_int (nomark _)) (pss_one (ps_set (i := 2) sc_l_take.nd rfl (by first | exact Or.inl rfl | exact Or.inr rfl) (pe_op op_mod (pe_callTy cl_int1 (by rfl) (c.free 3) (by decide +kernel) (pa_cons (pe_op op_mul (pe_op op_fdivB (pv 2) pe_int) (pe_op op_add (pe_op op_add (pe_op op_fdivB (pv 2) pe_int) (pe_ix ix_list (pv 0) pe_int (fun _ _ => rfl))) pe_int)) pa_nil)) pe_int))) pss_nil)
      (pss_one (ps_ret (pe_op op_mod (pe_callTy cl_int1 (by rfl) (c.free 3) (by decide +kernel) (pa_cons (pe_op op_fdivB (pv 2) pe_int) pa_nil)) (pv 1)))))))))
theorem ok_l_take (c : FZ K mg) : FnX PP w K mg base CX0 1 ("_law_take", none) ["_law_pool_here", "_law_many"] (spOf K f_l_take) := by
  obtain ⟨fd, F⟩ := c.says.def_ 2 (d := d_l_take) rfl
  have F' : FunD K "_law_take" "_law_take" (defArgs s_l_take) (defBody s_l_take) (defScope s_l_take) [] [] (He.fAd K ("_law_take", none)) fd := F
  exact ⟨⟨fd, ok_l_take_fd c F', F'.bindsN fun _ _ _ _ _ _ us hl => match us, hl with | [_, _], _ => rfl⟩, F'.kp⟩
theorem ok_Rule___init___fd (c : FZ K mg) {fd : FuncData} (F' : FunD K "__init__" "Rule.__init__" (defArgs s_Rule___init__) (defBody s_Rule___init__) (defScope s_Rule___init__) [] [] (He.fAd K ("Rule", some "__init__")) fd) : FnOk PP w K mg base (L2.CX PP w) 3 (He.fAd K ("Rule", some "__init__")) fd ["self", "send_word", "charge_word"] (spIn K "Rule" f_Rule___init__) := by
  refine F'.ok sc_Rule___init__ (fun vs H Q E h => in_len h) (fun cdv A outer s H vs Q E hr h => ⟨t_Rule___init__ K E, ?_, in_pure (snd_Rule___init__ c E) h⟩)
  exact (pss_cons (ps_if (pt_cmpR op_notIn_seq (pv 1) (pgCV ["first", "last", "fullest", "emptiest"] (by rfl) (c.glo 4)) (by rfl)) (pss_one (praise rfl (takes_of rfl rfl rfl rfl) (pmk_exs (xk_BadRule c) (hr.mono (by decide) : Room 2 _) (by rfl) (pa_cons pe_str pa_nil)))) pss_nil)
      (pss_cons (ps_if (pt_cmpR op_notIn_seq (pv 2) (pgCV ["first", "last", "fullest", "emptiest"] (by rfl) (c.glo 4)) (by rfl)) (pss_one (praise rfl (takes_of rfl rfl rfl rfl) (pmk_exs (xk_BadRule c) (hr.mono (by decide) : Room 2 _) (by rfl) (pa_cons pe_str pa_nil)))) pss_nil)
      (pss_cons (ps_fld (pv 0) (pv 1) rfl)
      (pss_one (ps_fld (pv 0) (pv 2) rfl)))))
theorem ok_Rule___init__ (c : FZ K mg) : FnX PP w K mg base (L2.CX PP w) 3 ("Rule", some "__init__") ["self", "send_word", "charge_word"] (spIn K "Rule" f_Rule___init__) := by
  obtain ⟨fd, F⟩ := c.says.def_ 3 (d := d_Rule___init__) rfl
  have F' : FunD K "__init__" "Rule.__init__" (defArgs s_Rule___init__) (defBody s_Rule___init__) (defScope s_Rule___init__) [] [] (He.fAd K ("Rule", some "__init__")) fd := F
  exact ⟨⟨fd, ok_Rule___init___fd c F', F'.bindsN fun _ _ _ _ _ _ us hl => match us, hl with | [_, _, _], _ => rfl⟩, F'.kp⟩
theorem ok_l_same_st (c : FZ K mg) {fd : FuncData} (F' : FunD K "_law_same" "_law_same" (defArgs s_l_same) (defBody s_l_same) (defScope s_l_same) [] [] (He.fAd K ("_law_same", none)) fd) (n : Nat) (ih : FnX PP w K mg base CX0 n ("_law_same", none) ["_law_got", "_law_due"] (sp_l_same2_r K n)) : FnOk PP w K mg base CX0 (n + 1) (He.fAd K ("_law_same", none)) fd ["_law_got", "_law_due"] (sp_l_same2_n K n) := by
  refine F'.ok sc_l_same (fun vs H Q E h => len_l_same2 h) (fun cdv A outer s H vs Q E hr h => ⟨t_l_same K (sp_l_same2_r K n), PSs.nox ?_, pure_l_same2 h⟩)
  exact (pss_cons (ps_if (PW.pt (pw_or (pt_val (pe_callB call_isi (by rfl) (c.free 10) (by decide +kernel) (pa_cons (pv 0) (pa_cons (pe_bltn (v := .ty "bool") (by rfl) (c.free 11) (by decide +kernel) rfl) pa_nil)))) (pw_or1 (pt_val (pe_callB call_isi (by rfl) (c.free 10) (by decide +kernel) (pa_cons (pv 1) (pa_cons (pe_bltn (v := .ty "bool") (by rfl) (c.free 11) (by decide +kernel) rfl) pa_nil))))))) (pss_one (ps_ret (pe_and (pe_callB call_isi (by rfl) (c.free 10) (by decide +kernel) (pa_cons (pv 0) (pa_cons (pe_bltn (v := .ty "bool") (by rfl) (c.free 11) (by decide +kernel) rfl) pa_nil))) (pe_and (pe_callB call_isi (by rfl) (c.free 10) (by decide +kernel) (pa_cons (pv 1) (pa_cons (pe_bltn (v := .ty "bool") (by rfl) (c.free 11) (by decide +kernel) rfl) pa_nil))) (pe_one (pe_cmpR op_eq (pv 0) (pv 1) (nomark _))))))) pss_nil)
      (pss_cons (ps_if (PW.pt (pw_or (pt_cmpR op_isN1 (pv 0) pe_non (nomark _)) (pw_or1 (pt_cmpR op_isN1 (pv 1) pe_non (nomark _))))) (pss_one (ps_ret (pe_and (pe_cmpR op_isN1 (pv 0) pe_non (nomark _)) (pe_one (pe_cmpR op_isN1 (pv 1) pe_non (nomark _)))))) pss_nil)
      (pss_cons (ps_if (pt_val (pe_callB call_isi (by rfl) (c.free 10) (by decide +kernel) (pa_cons (pv 1) (pa_cons (pe_bltn (v := .ty "int") (by rfl) (c.free 3) (by decide +kernel) rfl) pa_nil)))) (pss_one (ps_ret (pe_and (pe_callB call_isi (by rfl) (c.free 10) (by decide +kernel) (pa_cons (pv 0) (pa_cons (pe_bltn (v := .ty "int") (by rfl) (c.free 3) (by decide +kernel) rfl) pa_nil))) (pe_one (pe_cmpR op_eq (pv 0) (pv 1) (nomark _)))))) pss_nil)
      (pss_cons (ps_if (pt_val (pe_callB call_isi (by rfl) (c.free 10) (by decide +kernel) (pa_cons (pv 1) (pa_cons (pe_bltn (v := .ty "str") (by rfl) (c.free 12) (by decide +kernel) rfl) pa_nil)))) (pss_one (ps_ret (pe_and (pe_callB call_isi (by rfl) (c.free 10) (by decide +kernel) (pa_cons (pv 0) (pa_cons (pe_bltn (v := .ty "str") (by rfl) (c.free 12) (by decide +kernel) rfl) pa_nil))) (pe_one (pe_cmpR op_eq (pv 0) (pv 1) (nomark _)))))) pss_nil)
      (pss_cons (ps_if (PW.pt (pw_and (pt_val (pe_callB call_isi (by rfl) (c.free 10) (by decide +kernel) (pa_cons (pv 1) (pa_cons (pe_bltn (v := .ty "list") (by rfl) (c.free 13) (by decide +kernel) rfl) pa_nil)))) (pw_and1 (pt_not (pt_val (pe_callB call_isi (by rfl) (c.free 10) (by decide +kernel) (pa_cons (pv 0) (pa_cons (pe_bltn (v := .ty "list") (by rfl) (c.free 13) (by decide +kernel) rfl) pa_nil)))))))) (pss_one (ps_ret pe_bl)) pss_nil)
      (pss_cons (ps_if (PW.pt (pw_and (pt_val (pe_callB call_isi (by rfl) (c.free 10) (by decide +kernel) (pa_cons (pv 1) (pa_cons (pe_bltn (v := .ty "tuple") (by rfl) (c.free 14) (by decide +kernel) rfl) pa_nil)))) (pw_and1 (pt_not (pt_val (pe_callB call_isi (by rfl) (c.free 10) (by decide +kernel) (pa_cons (pv 0) (pa_cons (pe_bltn (v := .ty "tuple") (by rfl) (c.free 14) (by decide +kernel) rfl) pa_nil)))))))) (pss_one (ps_ret pe_bl)) pss_nil)
      (pss_cons (ps_if (pt_cmpR op_ne (pe_callB cl_len (by rfl) (c.free 0) (by decide +kernel) (pa_cons (pv 0) pa_nil)) (pe_callB cl_len (by rfl) (c.free 0) (by decide +kernel) (pa_cons (pv 1) pa_nil)) (nomark _)) (pss_one (ps_ret pe_bl)) pss_nil)
      (pss_cons (ps_for PassesOwn.never rfl (pi_range1 (by rfl) (c.free 15) (pa_cons (pe_callB cl_len (by rfl) (c.free 0) (by decide +kernel) (pa_cons (pv 1) pa_nil)) pa_nil)) (pg_name (i := 2) sc_l_same.nd rfl (by first | exact Or.inl rfl | exact Or.inr rfl)) (pss_one (ps_if (pt_not (pt_val (pcall (ih) (hr.mono (by omega)) (by rfl) (c.glo 16) pass0 (pa_cons (pe_ix ix_seq (pv 0) (pv 2) (fun _ _ => rfl)) (pa_cons (pe_ix ix_seq (pv 1) (pv 2) (fun _ _ => rfl)) pa_nil))))) (pss_one (ps_ret pe_bl)) pss_nil)))
      (pss_one (ps_ret pe_bl))))))))))
theorem ok_l_same_fd (c : FZ K mg) {fd : FuncData} (F' : FunD K "_law_same" "_law_same" (defArgs s_l_same) (defBody s_l_same) (defScope s_l_same) [] [] (He.fAd K ("_law_same", none)) fd) : ∀ n, FnOk PP w K mg base CX0 (n + 1) (He.fAd K ("_law_same", none)) fd ["_law_got", "_law_due"] (sp_l_same2_n K n) := by
  have bn : Binds K fd ["_law_got", "_law_due"] [] := F'.bindsN fun _ _ _ _ _ _ us hl => match us, hl with | [_, _], _ => rfl
  intro n
  induction n with
  | zero => exact ok_l_same_st c F' 0 ⟨⟨fd, ⟨fun _ _ _ _ h => h.elim, fun _ _ _ _ _ _ _ _ _ _ _ _ _ h => h.elim⟩, bn⟩, F'.kp⟩
  | succ n ih => exact ok_l_same_st c F' (n + 1) ⟨⟨fd, ih, bn⟩, F'.kp⟩
theorem ok_l_same (c : FZ K mg) : FnX PP w K mg base CX0 8 ("_law_same", none) ["_law_got", "_law_due"] (spOf K f_l_same) := by
  obtain ⟨fd, F⟩ := c.says.def_ 4 (d := d_l_same) rfl
  have F' : FunD K "_law_same" "_law_same" (defArgs s_l_same) (defBody s_l_same) (defScope s_l_same) [] [] (He.fAd K ("_law_same", none)) fd := F
  have bn : Binds K fd ["_law_got", "_law_due"] [] := F'.bindsN fun _ _ _ _ _ _ us hl => match us, hl with | [_, _], _ => rfl
  exact ⟨⟨fd, ⟨fun vs H Q E h => by
    obtain ⟨n, _, h⟩ := same_of h
    exact (ok_l_same_fd (w := w) (base := base) c F' n).len vs H Q E h, fun A outer s H args us vs Q E hr he hb hv h => by
    obtain ⟨n, hn, h⟩ := same_of h
    exact (ok_l_same_fd c F' n).run A outer s H args us vs Q E (hr.mono hn) he hb hv h⟩, bn⟩, F'.kp⟩
theorem ok_l_written_fd (c : FZ K mg) {fd : FuncData} (F' : FunD K "_law_written" "_law_written" (defArgs s_l_written) (defBody s_l_written) (defScope s_l_written) [] [] (He.fAd K ("_law_written", none)) fd) : FnOk PP w K mg base CX0 1 (He.fAd K ("_law_written", none)) fd ["_law_first", "_law_second"] (spOf K f_l_written) := by
  refine F'.ok sc_l_written (fun vs H Q E h => fn_len0 h) (fun cdv A outer s H vs Q E hr h => ⟨t_l_written K, PSs.nox ?_, fn_pure0 (snd_l_written c) h⟩)
  exact (pss_one (ps_ret (pe_op op_add_str (pe_op op_add_str (pe_op op_add_str pe_str (pv 0)) pe_str) (pv 1))))
theorem ok_l_written (c : FZ K mg) : FnX PP w K mg base CX0 1 ("_law_written", none) ["_law_first", "_law_second"] (spOf K f_l_written) := by
  obtain ⟨fd, F⟩ := c.says.def_ 5 (d := d_l_written) rfl
  have F' : FunD K "_law_written" "_law_written" (defArgs s_l_written) (defBody s_l_written) (defScope s_l_written) [] [] (He.fAd K ("_law_written", none)) fd := F
  exact ⟨⟨fd, ok_l_written_fd c F', F'.bindsN fun _ _ _ _ _ _ us hl => match us, hl with | [_, _], _ => rfl⟩, F'.kp⟩
theorem ok_Rule___str___fd (c : FZ K mg) {fd : FuncData} (F' : FunD K "__str__" "Rule.__str__" (defArgs s_Rule___str__) (defBody s_Rule___str__) (defScope s_Rule___str__) [] [] (He.fAd K ("Rule", some "__str__")) fd) : FnOk PP w K mg base CX0 1 (He.fAd K ("Rule", some "__str__")) fd ["self"] (spOf K f_Rule___str__) := by
  refine F'.ok sc_Rule___str__ (fun vs H Q E h => fn_len0 h) (fun cdv A outer s H vs Q E hr h => ⟨t_Rule___str__ K, PSs.nox ?_, fn_pure0 (snd_Rule___str__ c) h⟩)
  exact (pss_one (ps_ret (pe_joined (PJ.cons pe_str (PJ.cons (pe_fmt (pe_fld (pv 0) rfl)) (PJ.cons pe_str (PJ.cons (pe_fmt (pe_fld (pv 0) rfl)) PJ.nil)))))))
theorem ok_Rule___str__ (c : FZ K mg) : FnX PP w K mg base CX0 1 ("Rule", some "__str__") ["self"] (spOf K f_Rule___str__) := by
  obtain ⟨fd, F⟩ := c.says.def_ 6 (d := d_Rule___str__) rfl
  have F' : FunD K "__str__" "Rule.__str__" (defArgs s_Rule___str__) (defBody s_Rule___str__) (defScope s_Rule___str__) [] [] (He.fAd K ("Rule", some "__str__")) fd := F
  exact ⟨⟨fd, ok_Rule___str___fd c F', F'.bindsN fun _ _ _ _ _ _ us hl => match us, hl with | [_], _ => rfl⟩, F'.kp⟩
theorem ok_l_is_fd (c : FZ K mg) {fd : FuncData} (F' : FunD K "_law_is" "_law_is" (defArgs s_l_is) (defBody s_l_is) (defScope s_l_is) [] [] (He.fAd K ("_law_is", none)) fd) : FnOk PP w K mg base CX0 9 (He.fAd K ("_law_is", none)) fd ["_law_rule", "_law_first", "_law_second"] (spOf K f_l_is) := by
  refine F'.ok sc_l_is (fun vs H Q E h => fn_len0 h) (fun cdv A outer s H vs Q E hr h => ⟨t_l_is K, PSs.nox ?_, fn_pure0 (snd_l_is c) h⟩)
  exact (pss_cons (ps_if (PW.pt (pw_or (pt_not (pt_val (pe_callB call_isi (by rfl) (c.free 10) (by decide +kernel) (pa_cons (pv 0) (pa_cons (pgc (by rfl) (c.glo 4)) pa_nil))))) (pw_or1 (pt_not (pt_val (pcall (ok_l_same c) (hr.mono (by decide)) (by rfl) (c.glo 16) pass0 (pa_cons (pe_callTy (cl_strO (c.meth 17) (ok_Rule___str__ c) (hr.mono (by decide))) (by rfl) (c.free 12) (by decide +kernel) (pa_cons (pv 0) pa_nil)) (pa_cons (pcall (ok_l_written c) (hr.mono (by decide)) (by rfl) (c.glo 18) pass0 (pa_cons (pv 1) (pa_cons (pv 2) pa_nil))) pa_nil)))))))) (pss_one (ps_ret pe_bl)) pss_nil)
      (pss_one (ps_ret (pe_and (pcall (ok_l_same c) (hr.mono (by decide)) (by rfl) (c.glo 16) pass0 (pa_cons (pe_fld (pv 0) rfl) (pa_cons (pv 1) pa_nil))) (pe_one (pcall (ok_l_same c) (hr.mono (by decide)) (by rfl) (c.glo 16) pass0 (pa_cons (pe_fld (pv 0) rfl) (pa_cons (pv 2) pa_nil))))))))
theorem ok_l_is (c : FZ K mg) : FnX PP w K mg base CX0 9 ("_law_is", none) ["_law_rule", "_law_first", "_law_second"] (spOf K f_l_is) := by
  obtain ⟨fd, F⟩ := c.says.def_ 7 (d := d_l_is) rfl
  have F' : FunD K "_law_is" "_law_is" (defArgs s_l_is) (defBody s_l_is) (defScope s_l_is) [] [] (He.fAd K ("_law_is", none)) fd := F
  exact ⟨⟨fd, ok_l_is_fd c F', F'.bindsN fun _ _ _ _ _ _ us hl => match us, hl with | [_, _, _], _ => rfl⟩, F'.kp⟩
theorem ok_Rule_every_fd (c : FZ K mg) {fd : FuncData} (F' : FunD K "every" "Rule.every" (defArgs s_Rule_every) (defBody s_Rule_every) (defScope s_Rule_every) [] [] (e_Rule_every.ad K) fd) : FnOk PP w K mg base (L2.CX PP w) 5 (e_Rule_every.ad K) fd [] (spOf K f_Rule_every) := by
  refine F'.ok sc_Rule_every (fun vs H Q E h => fn_len h) (fun cdv A outer s H vs Q E hr h => ⟨t_Rule_every K E, ?_, fn_pure (snd_Rule_every c E) h⟩)
  exact (pss_one (ps_ret (pe_lc2 (own := [("send_word", 0), ("charge_word", 1)]) (vs1 := [1]) (g := (gName 0)) (tt := tYes) (g1 := (gName 1)) (tt1 := tYes) rfl sc_Rule_every.nd (pi_tup (pgCV ["first", "last", "fullest", "emptiest"] (by rfl) (c.glo 4))) (blkOk_by (own := [("send_word", 0), ("charge_word", 1)]) (N := N_Rule_every) (sc := defScope s_Rule_every) (by decide +kernel)) (by decide) (fun _ _ _ _ _ => (pg_name (i := 0) sc_Rule_every.nd rfl (by first | exact Or.inl rfl | exact Or.inr rfl))) (fun _ _ _ _ _ => pts_nil) (fun _ _ _ _ _ => (pi_tup (pgCV ["first", "last", "fullest", "emptiest"] (by rfl) (c.glo 4)))) (fun _ _ _ _ _ => (pg_name (i := 1) sc_Rule_every.nd rfl (by first | exact Or.inl rfl | exact Or.inr rfl))) (fun _ _ _ _ _ => pts_nil) (fun _ _ _ _ _ => (pmakeX (c.mkr 19) (ok_Rule___init__ c) (hr.mono (by decide)) (by rfl) (c.glo 4) takes0 (pa_cons (pv 0) (pa_cons (pv 1) pa_nil)))))))
theorem ok_Rule_every (c : FZ K mg) : FnW PP w K mg base (L2.CX PP w) 5 e_Rule_every [] (spOf K f_Rule_every) := by
  obtain ⟨h1, h2⟩ := c.more.e 1 (e := e_Rule_every) rfl
  obtain ⟨⟨fd, F⟩, _⟩ := Hz.wr_of (k := .st) rfl h1 h2
  have F' : FunD K "every" "Rule.every" (defArgs s_Rule_every) (defBody s_Rule_every) (defScope s_Rule_every) [] [] (e_Rule_every.ad K) fd := F
  exact ⟨⟨fd, ok_Rule_every_fd c F', F'.bindsN fun _ _ _ _ _ _ us hl => match us, hl with | [], _ => rfl⟩, F'.kp⟩
theorem ok_l_row_fd (c : FZ K mg) {fd : FuncData} (F' : FunD K "_law_row" "_law_row" (defArgs s_l_row) (defBody s_l_row) (defScope s_l_row) [] [] (He.fAd K ("_law_row", none)) fd) : FnOk PP w K mg base CX0 10 (He.fAd K ("_law_row", none)) fd ["_law_words"] (spOf K f_l_row) := by
  refine F'.ok sc_l_row (fun vs H Q E h => fn_len0 h) (fun cdv A outer s H vs Q E hr h => ⟨t_l_row K, PSs.nox ?_, fn_pure0 (snd_l_row c) h⟩)
  exact (pss_cons (ps_set (i := 1) sc_l_row.nd rfl (by first | exact Or.inl rfl | exact Or.inr rfl) (pe_smeth0 (e := e_Rule_every) rfl rfl rfl (wr_Rule_every c) (ok_Rule_every c) (hr.mono (by decide)) (by rfl) (c.glo 4) takes0))
      (pss_cons (ps_if (PW.pt (pw_or (pt_not (pt_val (pe_callB call_isi (by rfl) (c.free 10) (by decide +kernel) (pa_cons (pv 1) (pa_cons (pe_bltn (v := .ty "list") (by rfl) (c.free 13) (by decide +kernel) rfl) pa_nil))))) (pw_or1 (pt_cmpR op_ne (pe_callB cl_len (by rfl) (c.free 0) (by decide +kernel) (pa_cons (pv 1) pa_nil)) pe_int (nomark _))))) (pss_one (ps_ret pe_bl)) pss_nil)
      (pss_cons (ps_for PassesOwn.never rfl (pi_range1 (by rfl) (c.free 15) (pa_cons pe_int pa_nil)) (pg_name (i := 2) sc_l_row.nd rfl (by first | exact Or.inl rfl | exact Or.inr rfl)) (pss_one (ps_if (pt_not (pt_val (pcall (ok_l_is c) (hr.mono (by decide)) (by rfl) (c.glo 20) pass0 (pa_cons (pe_ix ix_list (pv 1) (pv 2) (fun _ _ => rfl)) (pa_cons (pe_ix ix_list (pv 0) (pe_op op_fdivB (pv 2) pe_int) (fun _ _ => rfl)) (pa_cons (pe_ix ix_list (pv 0) (pe_op op_sub (pv 2) (pe_op op_mul pe_int (pe_op op_fdivB (pv 2) pe_int))) (fun _ _ => rfl)) pa_nil)))))) (pss_one (ps_ret pe_bl)) pss_nil)))
      (pss_cons (ps_expr (pe_bm0 PySem.F.plainAttrs_list PySem.F.slot_list_clear PySem.F.type_list_clear mt_clear (pv 1)))
      (pss_one (ps_ret pe_bl))))))
theorem ok_l_row (c : FZ K mg) : FnX PP w K mg base CX0 10 ("_law_row", none) ["_law_words"] (spOf K f_l_row) := by
  obtain ⟨fd, F⟩ := c.says.def_ 8 (d := d_l_row) rfl
  have F' : FunD K "_law_row" "_law_row" (defArgs s_l_row) (defBody s_l_row) (defScope s_l_row) [] [] (He.fAd K ("_law_row", none)) fd := F
  exact ⟨⟨fd, ok_l_row_fd c F', F'.bindsN fun _ _ _ _ _ _ us hl => match us, hl with | [_], _ => rfl⟩, F'.kp⟩
theorem ok_Rule___eq___fd (c : FZ K mg) {fd : FuncData} (F' : FunD K "__eq__" "Rule.__eq__" (defArgs s_Rule___eq__) (defBody s_Rule___eq__) (defScope s_Rule___eq__) [] [] (He.fAd K ("Rule", some "__eq__")) fd) : FnOk PP w K mg base CX0 1 (He.fAd K ("Rule", some "__eq__")) fd ["self", "other"] (spOf K f_Rule___eq__) := by
  refine F'.ok sc_Rule___eq__ (fun vs H Q E h => fn_len0 h) (fun cdv A outer s H vs Q E hr h => ⟨t_Rule___eq__ K, PSs.nox ?_, fn_pure0 (snd_Rule___eq__ c) h⟩)
  exact (pss_one (ps_ret (pe_and (pe_callB call_isi (by rfl) (c.free 10) (by decide +kernel) (pa_cons (pv 1) (pa_cons (pgc (by rfl) (c.glo 4)) pa_nil))) (pe_and (pe_cmpR op_eq (pe_fld (pv 0) rfl) (pe_fld (pv 1) rfl) (nomark _)) (pe_one (pe_cmpR op_eq (pe_fld (pv 0) rfl) (pe_fld (pv 1) rfl) (nomark _)))))))
theorem ok_Rule___eq__ (c : FZ K mg) : FnX PP w K mg base CX0 1 ("Rule", some "__eq__") ["self", "other"] (spOf K f_Rule___eq__) := by
  obtain ⟨fd, F⟩ := c.says.def_ 9 (d := d_Rule___eq__) rfl
  have F' : FunD K "__eq__" "Rule.__eq__" (defArgs s_Rule___eq__) (defBody s_Rule___eq__) (defScope s_Rule___eq__) [] [] (He.fAd K ("Rule", some "__eq__")) fd := F
  exact ⟨⟨fd, ok_Rule___eq___fd c F', F'.bindsN fun _ _ _ _ _ _ us hl => match us, hl with | [_, _], _ => rfl⟩, F'.kp⟩
theorem ok_Rule_parse_fd (c : FZ K mg) {fd : FuncData} (F' : FunD K "parse" "Rule.parse" (defArgs s_Rule_parse) (defBody s_Rule_parse) (defScope s_Rule_parse) [] [] (e_Rule_parse.ad K) fd) : FnOk PP w K mg base (L2.CX PP w) 6 (e_Rule_parse.ad K) fd ["cls", "text"] (spCl (He.ga K "Rule") (spOf K f_Rule_parse)) := by
  refine F'.ok sc_Rule_parse (fun vs H Q E h => fn_lenC h) (fun cdv A outer s H vs Q E hr h => ⟨t_Rule_parse K E, ?_, fn_pureC (snd_Rule_parse c E) h⟩)
  exact (pss_cons (ps_for (passes_of rfl) rfl (pi_list (pe_smethV0 (i := 0) (C := "Rule") (e := e_Rule_every) rfl rfl rfl (wr_Rule_every c) (ok_Rule_every c) (hr.mono (by decide)) rfl (by first | exact Or.inl rfl | exact Or.inr (Or.inl rfl)) (takes_of rfl rfl rfl rfl))) (pg_name (i := 2) sc_Rule_parse.nd rfl (by first | exact Or.inl rfl | exact Or.inr rfl)) (pss_one (ps_if (pt_cmpR op_eq (pe_callTy (cl_strO (c.meth 17) (ok_Rule___str__ c) (hr.mono (by decide))) (by rfl) (c.free 12) (by decide +kernel) (pa_cons (pv 2) pa_nil)) (pv 1) (nomark _)) (pss_one (ps_ret (pv 2))) pss_nil)))
      (pss_one (praise rfl (takes_of rfl rfl rfl rfl) (pmk_exs (xk_BadRule c) (hr.mono (by decide) : Room 2 _) (by rfl) (pa_cons pe_str pa_nil)))))
theorem ok_Rule_parse (c : FZ K mg) : FnW PP w K mg base (L2.CX PP w) 6 e_Rule_parse ["cls", "text"] (spCl (He.ga K "Rule") (spOf K f_Rule_parse)) := by
  obtain ⟨h1, h2⟩ := c.more.e 2 (e := e_Rule_parse) rfl
  obtain ⟨⟨fd, F⟩, _⟩ := Hz.wr_of (k := .cl) rfl h1 h2
  have F' : FunD K "parse" "Rule.parse" (defArgs s_Rule_parse) (defBody s_Rule_parse) (defScope s_Rule_parse) [] [] (e_Rule_parse.ad K) fd := F
  exact ⟨⟨fd, ok_Rule_parse_fd c F', F'.bindsN fun _ _ _ _ _ _ us hl => match us, hl with | [_, _], _ => rfl⟩, F'.kp⟩
theorem ok_l_parsed_fd (c : FZ K mg) {fd : FuncData} (F' : FunD K "_law_parsed" "_law_parsed" (defArgs s_l_parsed) (defBody s_l_parsed) (defScope s_l_parsed) [] [] (He.fAd K ("_law_parsed", none)) fd) : FnOk PP w K mg base CX0 7 (He.fAd K ("_law_parsed", none)) fd ["_law_text_here"] (spOf K f_l_parsed) := by
  refine F'.ok sc_l_parsed (fun vs H Q E h => fn_len0 h) (fun cdv A outer s H vs Q E hr h => ⟨t_l_parsed K, PSs.nox ?_, fn_pure0 (snd_l_parsed c) h⟩)
  exact (pss_cons (ps_set (i := 1) sc_l_parsed.nd rfl (by first | exact Or.inl rfl | exact Or.inr rfl) pe_non)
      (pss_cons (ps_set (i := 2) sc_l_parsed.nd rfl (by first | exact Or.inl rfl | exact Or.inr rfl) pe_non)
      (pss_cons (ps_try_ma rfl rfl sc_l_parsed.nd takes0 (fun W pn xe tk po => (pss_one (ps_set (i := 1) sc_l_parsed.nd rfl (by first | exact Or.inl rfl | exact Or.inr rfl) (pe_clmeth (e := e_Rule_parse) rfl rfl rfl (wr_Rule_parse c) (ok_Rule_parse c) (hr.mono (by decide)) (by rfl) (c.glo 4) tk (pa_cons (pv 0) pa_nil))))) (HdsA.cons (i := 3) rfl rfl ⟨rfl, by decide, .inl (c.glo 5)⟩ (fun a oe cls d pn hz hf => (pss_one (ps_set (i := 2) sc_l_parsed.nd rfl (by first | exact Or.inl rfl | exact Or.inr rfl) (pe_tup (pa_cons (pe_xf (c.xfc 3) (c.xnoat 4) hz hf (pv 3)) (pa_cons (pe_and (pe_callB (call_isX2 (c.xc 3) hz hf) (by rfl) (c.free 10) (by decide +kernel) (pa_cons (pv 3) (pa_cons (pgc (by rfl) (c.glo 21)) pa_nil))) (pe_and (pe_callB (call_isX2 (c.xc 3) hz hf) (by rfl) (c.free 10) (by decide +kernel) (pa_cons (pv 3) (pa_cons (pe_bltn (v := .ty "ValueError") (by rfl) (c.free 22) (by decide +kernel) rfl) pa_nil))) (pe_one (pe_not (pe_callB (call_isX2 (c.xc 3) hz hf) (by rfl) (c.free 10) (by decide +kernel) (pa_cons (pv 3) (pa_cons (pgc (by rfl) (c.glo 23)) pa_nil))))))) pa_nil)))))) HdsA.nil))
      (pss_one (ps_ret (pe_tup (pa_cons (pv 1) (pa_cons (pv 2) pa_nil))))))))
theorem ok_l_parsed (c : FZ K mg) : FnX PP w K mg base CX0 7 ("_law_parsed", none) ["_law_text_here"] (spOf K f_l_parsed) := by
  obtain ⟨fd, F⟩ := c.says.def_ 10 (d := d_l_parsed) rfl
  have F' : FunD K "_law_parsed" "_law_parsed" (defArgs s_l_parsed) (defBody s_l_parsed) (defScope s_l_parsed) [] [] (He.fAd K ("_law_parsed", none)) fd := F
  exact ⟨⟨fd, ok_l_parsed_fd c F', F'.bindsN fun _ _ _ _ _ _ us hl => match us, hl with | [_], _ => rfl⟩, F'.kp⟩
theorem ok_l_reads_fd (c : FZ K mg) {fd : FuncData} (F' : FunD K "_law_reads" "_law_reads" (defArgs s_l_reads) (defBody s_l_reads) (defScope s_l_reads) [] [] (He.fAd K ("_law_reads", none)) fd) : FnOk PP w K mg base CX0 10 (He.fAd K ("_law_reads", none)) fd ["_law_text_here", "_law_words"] (spOf K f_l_reads) := by
  refine F'.ok sc_l_reads (fun vs H Q E h => fn_len0 h) (fun cdv A outer s H vs Q E hr h => ⟨t_l_reads K, PSs.nox ?_, fn_pure0 (snd_l_reads c) h⟩)
  exact (pss_cons (ps_set (i := 2) sc_l_reads.nd rfl (by first | exact Or.inl rfl | exact Or.inr rfl) (pcall (ok_l_parsed c) (hr.mono (by decide)) (by rfl) (c.glo 24) pass0 (pa_cons (pv 0) pa_nil)))
      (pss_cons (ps_for PassesOwn.never rfl (pi_list (pv 1)) (pg_name (i := 3) sc_l_reads.nd rfl (by first | exact Or.inl rfl | exact Or.inr rfl)) (pss_one (ps_for PassesOwn.never rfl (pi_list (pv 1)) (pg_name (i := 4) sc_l_reads.nd rfl (by first | exact Or.inl rfl | exact Or.inr rfl)) (pss_one (ps_if (pt_cmpR op_eq (pv 0) (pcall (ok_l_written c) (hr.mono (by decide)) (by rfl) (c.glo 18) pass0 (pa_cons (pv 3) (pa_cons (pv 4) pa_nil))) (nomark _)) (pss_one (ps_ret (pe_and (pe_cmpR op_isN1 (pe_ix ix_tup (pv 2) pe_int (fun _ _ => rfl)) pe_non (nomark _)) (pe_and (pcall (ok_l_is c) (hr.mono (by decide)) (by rfl) (c.glo 20) pass0 (pa_cons (pe_ix ix_tup (pv 2) pe_int (fun _ _ => rfl)) (pa_cons (pv 3) (pa_cons (pv 4) pa_nil)))) (pe_one (pe_cmpR (op_ownEq (c.meth 25) (ok_Rule___eq__ c) (hr.mono (by decide))) (pe_ix ix_tup (pv 2) pe_int (fun _ _ => rfl)) (pmakeX (c.mkr 19) (ok_Rule___init__ c) (hr.mono (by decide)) (by rfl) (c.glo 4) takes0 (pa_cons (pv 3) (pa_cons (pv 4) pa_nil))) (nomark _))))))) pss_nil)))))
      (pss_one (ps_ret (pe_and (pe_cmpR op_isN1 (pe_ix ix_tup (pv 2) pe_int (fun _ _ => rfl)) pe_non (nomark _)) (pe_one (pcall (ok_l_same c) (hr.mono (by decide)) (by rfl) (c.glo 16) pass0 (pa_cons (pe_ix ix_tup (pv 2) pe_int (fun _ _ => rfl)) (pa_cons (pe_tup (pa_cons pe_str (pa_cons pe_bl pa_nil))) pa_nil)))))))))
theorem ok_l_reads (c : FZ K mg) : FnX PP w K mg base CX0 10 ("_law_reads", none) ["_law_text_here", "_law_words"] (spOf K f_l_reads) := by
  obtain ⟨fd, F⟩ := c.says.def_ 11 (d := d_l_reads) rfl
  have F' : FunD K "_law_reads" "_law_reads" (defArgs s_l_reads) (defBody s_l_reads) (defScope s_l_reads) [] [] (He.fAd K ("_law_reads", none)) fd := F
  exact ⟨⟨fd, ok_l_reads_fd c F', F'.bindsN fun _ _ _ _ _ _ us hl => match us, hl with | [_, _], _ => rfl⟩, F'.kp⟩
theorem ok_l_char_fd (c : FZ K mg) {fd : FuncData} (F' : FunD K "_law_char" "_law_char" (defArgs s_l_char) (defBody s_l_char) (defScope s_l_char) [] [] (He.fAd K ("_law_char", none)) fd) : FnOk PP w K mg base CX0 1 (He.fAd K ("_law_char", none)) fd ["_law_place"] (spOf K f_l_char) := by
  refine F'.ok sc_l_char (fun vs H Q E h => fn_len0 h) (fun cdv A outer s H vs Q E hr h => ⟨t_l_char K, PSs.nox ?_, fn_pure0 (snd_l_char c) h⟩)
  exact (pss_cons (ps_set (i := 1) sc_l_char.nd rfl (by first | exact Or.inl rfl | exact Or.inr rfl) pe_str)
      (pss_cons (ps_set (i := 1) sc_l_char.nd rfl (by first | exact Or.inl rfl | exact Or.inr rfl) (pe_op op_add_str (pv 1) pe_str))
      (pss_one (ps_ret (pe_ix ix_str (pv 1) (pv 0) (fun _ _ => rfl))))))
theorem ok_l_char (c : FZ K mg) : FnX PP w K mg base CX0 1 ("_law_char", none) ["_law_place"] (spOf K f_l_char) := by
  obtain ⟨fd, F⟩ := c.says.def_ 12 (d := d_l_char) rfl
  have F' : FunD K "_law_char" "_law_char" (defArgs s_l_char) (defBody s_l_char) (defScope s_l_char) [] [] (He.fAd K ("_law_char", none)) fd := F
  exact ⟨⟨fd, ok_l_char_fd c F', F'.bindsN fun _ _ _ _ _ _ us hl => match us, hl with | [_], _ => rfl⟩, F'.kp⟩
theorem ok_l_text_fd (c : FZ K mg) {fd : FuncData} (F' : FunD K "_law_text" "_law_text" (defArgs s_l_text) (defBody s_l_text) (defScope s_l_text) [] [] (He.fAd K ("_law_text", none)) fd) : FnOk PP w K mg base CX0 2 (He.fAd K ("_law_text", none)) fd ["_law_pool_here", "_law_first", "_law_second"] (spOf K f_l_text) := by
  refine F'.ok sc_l_text (fun vs H Q E h => fn_len0 h) (fun cdv A outer s H vs Q E hr h => ⟨t_l_text K, PSs.nox ?_, fn_pure0 (snd_l_text c) h⟩)
  exact (pss_cons (ps_set (i := 3) sc_l_text.nd rfl (by first | exact Or.inl rfl | exact Or.inr rfl) (pcall (ok_l_written c) (hr.mono (by decide)) (by rfl) (c.glo 18) pass0 (pa_cons (pv 1) (pa_cons (pv 2) pa_nil))))
      (pss_cons (ps_set (i := 4) sc_l_text.nd rfl (by first | exact Or.inl rfl | exact Or.inr rfl) (pcall (ok_l_take c) (hr.mono (by decide)) (by rfl) (c.glo 26) pass0 (pa_cons (pv 0) (pa_cons pe_int pa_nil))))
      (pss_cons (ps_set (i := 5) sc_l_text.nd rfl (by first | exact Or.inl rfl | exact Or.inr rfl) (pcall (ok_l_take c) (hr.mono (by decide)) (by rfl) (c.glo 26) pass0 (pa_cons (pv 0) (pa_cons (pe_op op_add (pe_callB cl_lenS (by rfl) (c.free 0) (by decide +kernel) (pa_cons (pv 3) pa_nil)) pe_int) pa_nil))))
      (pss_cons (ps_set (i := 6) sc_l_text.nd rfl (by first | exact Or.inl rfl | exact Or.inr rfl) (pcall (ok_l_char c) (hr.mono (by decide)) (by rfl) (c.glo 27) pass0 (pa_cons (pcall (ok_l_take c) (hr.mono (by decide)) (by rfl) (c.glo 26) pass0 (pa_cons (pv 0) (pa_cons pe_int pa_nil))) pa_nil)))
      (pss_cons (ps_if (pt_cmpR op_eq (pv 4) pe_int (nomark _)) (pss_one (ps_ret (pe_op op_add_str (pe_op op_add_str (pe_slice sl_str (pv 3) po_none (po_some (pv 5))) (pv 6)) (pe_slice sl_str (pv 3) (po_some (pv 5)) po_none)))) pss_nil)
      (pss_cons (ps_if (pt_cmpR op_eq (pv 4) pe_int (nomark _)) (pss_one (ps_ret (pe_op op_add_str (pe_slice sl_str (pv 3) po_none (po_some (pv 5))) (pe_slice sl_str (pv 3) (po_some (pe_op op_add (pv 5) pe_int)) po_none)))) pss_nil)
      (pss_cons (ps_if (pt_cmpR op_eq (pv 4) pe_int (nomark _)) (pss_one (ps_ret (pe_op op_add_str (pe_op op_add_str (pe_slice sl_str (pv 3) po_none (po_some (pv 5))) (pv 6)) (pe_slice sl_str (pv 3) (po_some (pe_op op_add (pv 5) pe_int)) po_none)))) pss_nil)
      (pss_cons (ps_if (pt_cmpR op_eq (pv 4) pe_int (nomark _)) (pss_one (ps_ret (pe_op op_add_str (pe_op op_add_str (pe_op op_add_str pe_str (pv 2)) pe_str) (pv 1)))) pss_nil)
      (pss_cons (ps_if (pt_cmpR op_eq (pv 4) pe_int (nomark _)) (pss_cons (ps_set (i := 7) sc_l_text.nd rfl (by first | exact Or.inl rfl | exact Or.inr rfl) (pe_lst (pa_cons pe_str (pa_cons pe_str (pa_cons pe_str (pa_cons pe_str (pa_cons pe_str (pa_cons pe_str pa_nil))))))))
      (pss_cons (ps_set (i := 7) sc_l_text.nd rfl (by first | exact Or.inl rfl | exact Or.inr rfl) (pe_op op_cat (pv 7) (pe_lst (pa_cons pe_str (pa_cons pe_str (pa_cons pe_str (pa_cons pe_str pa_nil)))))))
      (pss_cons (ps_set (i := 7) sc_l_text.nd rfl (by first | exact Or.inl rfl | exact Or.inr rfl) (pe_op op_cat (pv 7) (pe_lst (pa_cons pe_str (pa_cons pe_str (pa_cons pe_str pa_nil))))))
      (pss_one (ps_ret (pe_ix ix_list (pv 7) (pcall (ok_l_take c) (hr.mono (by decide)) (by rfl) (c.glo 26) pass0 (pa_cons (pv 0) (pa_cons pe_int pa_nil))) (fun _ _ => rfl))))))) pss_nil)
      (pss_cons (ps_if (pt_cmpR op_eq (pv 4) pe_int (nomark _)) (pss_cons (ps_set (i := 8) sc_l_text.nd rfl (by first | exact Or.inl rfl | exact Or.inr rfl) (pe_lst (pa_cons pe_str (pa_cons pe_str (pa_cons pe_str (pa_cons pe_str (pa_cons pe_str (pa_cons pe_str (pa_cons pe_str (pa_cons pe_str (pa_cons pe_str (pa_cons pe_str pa_nil))))))))))))
      (pss_one (ps_ret (pcall (ok_l_written c) (hr.mono (by decide)) (by rfl) (c.glo 18) pass0 (pa_cons (pe_ix ix_list (pv 8) (pcall (ok_l_take c) (hr.mono (by decide)) (by rfl) (c.glo 26) pass0 (pa_cons (pv 0) (pa_cons pe_int pa_nil))) (fun _ _ => rfl)) (pa_cons (pe_ix ix_list (pv 8) (pcall (ok_l_take c) (hr.mono (by decide)) (by rfl) (c.glo 26) pass0 (pa_cons (pv 0) (pa_cons pe_int pa_nil))) (fun _ _ => rfl)) pa_nil)))))) pss_nil)
      (pss_cons (ps_if (pt_cmpR op_eq (pv 4) pe_int (nomark _)) (pss_cons (ps_set (i := 9) sc_l_text.nd rfl (by first | exact Or.inl rfl | exact Or.inr rfl) (pcall (ok_l_take c) (hr.mono (by decide)) (by rfl) (c.glo 26) pass0 (pa_cons (pv 0) (pa_cons pe_int pa_nil))))
      (pss_one (ps_ret (pe_bm PySem.F.plainAttrs_str PySem.F.slot_str_join PySem.F.type_str_join mt_joinL pe_str (pa_cons (pe_lc (own := [("_law_k", 10)]) (g := (gName 10)) (tt := tYes) rfl sc_l_text.nd (pi_range1 (by rfl) (c.free 15) (pa_cons (pv 9) pa_nil)) (blkOk_by (own := [("_law_k", 10)]) (N := N_l_text) (sc := defScope s_l_text) (by decide +kernel)) (fun _ _ _ _ _ => (pg_name (i := 10) sc_l_text.nd rfl (by first | exact Or.inl rfl | exact Or.inr rfl))) (fun _ _ _ _ _ => pts_nil) (fun _ _ _ _ _ => (pcall (ok_l_char c) (hr.mono (by decide)) (by rfl) (c.glo 27) pass0 (pa_cons (pcall (ok_l_take c) (hr.mono (by decide)) (by rfl) (c.glo 26) pass0 (pa_cons (pv 0) (pa_cons pe_int pa_nil))) pa_nil)))) pa_nil))))) pss_nil)
      (pss_one (ps_ret (pv 3))))))))))))))
theorem ok_l_text (c : FZ K mg) : FnX PP w K mg base CX0 2 ("_law_text", none) ["_law_pool_here", "_law_first", "_law_second"] (spOf K f_l_text) := by
  obtain ⟨fd, F⟩ := c.says.def_ 13 (d := d_l_text) rfl
  have F' : FunD K "_law_text" "_law_text" (defArgs s_l_text) (defBody s_l_text) (defScope s_l_text) [] [] (He.fAd K ("_law_text", none)) fd := F
  exact ⟨⟨fd, ok_l_text_fd c F', F'.bindsN fun _ _ _ _ _ _ us hl => match us, hl with | [_, _, _], _ => rfl⟩, F'.kp⟩
theorem ok_law_fd (c : FZ K mg) {fd : FuncData} (F' : FunD K "law" "law" (defArgs s_law) (defBody s_law) (defScope s_law) [] [] (He.fAd K ("law", none)) fd) : FnOk PP w K mg base CX0 11 (He.fAd K ("law", none)) fd ["_law_script"] (spOf K f_law) := by
  refine F'.ok sc_law (fun vs H Q E h => fn_len0 h) (fun cdv A outer s H vs Q E hr h => ⟨t_law K, PSs.nox ?_, fn_pure0 (snd_law c) h⟩)
  exact (pss_cons (ps_set (i := 1) sc_law.nd rfl (by first | exact Or.inl rfl | exact Or.inr rfl) (pcall (ok_l_pool c) (hr.mono (by decide)) (by rfl) (c.glo 28) pass0 (pa_cons (pv 0) (pa_cons pe_int pa_nil))))
      (pss_cons (ps_set (i := 2) sc_law.nd rfl (by first | exact Or.inl rfl | exact Or.inr rfl) (pe_lst (pa_cons pe_str (pa_cons pe_str (pa_cons pe_str (pa_cons pe_str pa_nil))))))
      (pss_cons (ps_set (i := 3) sc_law.nd rfl (by first | exact Or.inl rfl | exact Or.inr rfl) (pe_ix ix_list (pv 2) (pcall (ok_l_take c) (hr.mono (by decide)) (by rfl) (c.glo 26) pass0 (pa_cons (pv 1) (pa_cons pe_int pa_nil))) (fun _ _ => rfl)))
      (pss_cons (ps_set (i := 4) sc_law.nd rfl (by first | exact Or.inl rfl | exact Or.inr rfl) (pe_ix ix_list (pv 2) (pcall (ok_l_take c) (hr.mono (by decide)) (by rfl) (c.glo 26) pass0 (pa_cons (pv 1) (pa_cons pe_int pa_nil))) (fun _ _ => rfl)))
      (pss_cons (ps_set (i := 5) sc_law.nd rfl (by first | exact Or.inl rfl | exact Or.inr rfl) (pmakeX (c.mkr 19) (ok_Rule___init__ c) (hr.mono (by decide)) (by rfl) (c.glo 4) takes0 (pa_cons (pv 3) (pa_cons (pv 4) pa_nil))))
      (pss_cons (ps_if (PW.pt (pw_or (pt_not (pt_val (pcall (ok_l_same c) (hr.mono (by decide)) (by rfl) (c.glo 16) pass0 (pa_cons (pgCV ["first", "last", "fullest", "emptiest"] (by rfl) (c.glo 4)) (pa_cons (pe_callTy cl_tuple (by rfl) (c.free 14) (by decide +kernel) (pa_cons (pv 2) pa_nil)) pa_nil))))) (pw_or (pt_not (pt_val (pcall (ok_l_is c) (hr.mono (by decide)) (by rfl) (c.glo 20) pass0 (pa_cons (pv 5) (pa_cons (pv 3) (pa_cons (pv 4) pa_nil)))))) (pw_or1 (pt_not (pt_val (pcall (ok_l_row c) (hr.mono (by decide)) (by rfl) (c.glo 29) pass0 (pa_cons (pv 2) pa_nil)))))))) (pss_one (ps_ret pe_bl)) pss_nil)
      (pss_cons (ps_for PassesOwn.never rfl (pi_list (pv 2)) (pg_name (i := 6) sc_law.nd rfl (by first | exact Or.inl rfl | exact Or.inr rfl)) (pss_one (ps_for PassesOwn.never rfl (pi_list (pv 2)) (pg_name (i := 9) sc_law.nd rfl (by first | exact Or.inl rfl | exact Or.inr rfl)) (pss_cons (ps_if (pt_cmpR op_ne (pe_callTy cl_bool1 (by rfl) (c.free 11) (by decide +kernel) (pa_cons (pe_cmpR (op_ownEq (c.meth 25) (ok_Rule___eq__ c) (hr.mono (by decide))) (pv 5) (pmakeX (c.mkr 19) (ok_Rule___init__ c) (hr.mono (by decide)) (by rfl) (c.glo 4) takes0 (pa_cons (pv 6) (pa_cons (pv 9) pa_nil))) (nomark _)) pa_nil)) (pe_and (pe_cmpR op_eq (pv 6) (pv 3) (nomark _)) (pe_one (pe_cmpR op_eq (pv 9) (pv 4) (nomark _)))) (nomark _)) (pss_one (ps_ret pe_bl)) pss_nil)
      (pss_one (ps_if (pt_not (pt_val (pcall (ok_l_reads c) (hr.mono (by decide)) (by rfl) (c.glo 30) pass0 (pa_cons (pcall (ok_l_written c) (hr.mono (by decide)) (by rfl) (c.glo 18) pass0 (pa_cons (pv 6) (pa_cons (pv 9) pa_nil))) (pa_cons (pv 2) pa_nil))))) (pss_one (ps_ret pe_bl)) pss_nil))))))
      (pss_cons (ps_set (i := 7) sc_law.nd rfl (by first | exact Or.inl rfl | exact Or.inr rfl) (pcall (ok_l_pool c) (hr.mono (by decide)) (by rfl) (c.glo 28) pass0 (pa_cons (pv 0) (pa_cons pe_int pa_nil))))
      (pss_cons (ps_for PassesOwn.never rfl (pi_range1 (by rfl) (c.free 15) (pa_cons pe_int pa_nil)) (pg_name (i := 8) sc_law.nd rfl (by first | exact Or.inl rfl | exact Or.inr rfl)) (pss_one (ps_if (pt_not (pt_val (pcall (ok_l_reads c) (hr.mono (by decide)) (by rfl) (c.glo 30) pass0 (pa_cons (pcall (ok_l_text c) (hr.mono (by decide)) (by rfl) (c.glo 31) pass0 (pa_cons (pv 7) (pa_cons (pv 3) (pa_cons (pv 4) pa_nil)))) (pa_cons (pv 2) pa_nil))))) (pss_one (ps_ret pe_bl)) pss_nil)))
      (pss_one (ps_ret (pe_and (pcall (ok_l_is c) (hr.mono (by decide)) (by rfl) (c.glo 20) pass0 (pa_cons (pv 5) (pa_cons (pv 3) (pa_cons (pv 4) pa_nil)))) (pe_one (pcall (ok_l_row c) (hr.mono (by decide)) (by rfl) (c.glo 29) pass0 (pa_cons (pv 2) pa_nil)))))))))))))))
theorem ok_law (c : FZ K mg) : FnX PP w K mg base CX0 11 ("law", none) ["_law_script"] (spOf K f_law) := by
  obtain ⟨fd, F⟩ := c.says.def_ 14 (d := d_law) rfl
  have F' : FunD K "law" "law" (defArgs s_law) (defBody s_law) (defScope s_law) [] [] (He.fAd K ("law", none)) fd := F
  exact ⟨⟨fd, ok_law_fd c F', F'.bindsN fun _ _ _ _ _ _ us hl => match us, hl with | [_], _ => rfl⟩, F'.kp⟩
end
end Cl

/-! ## EndB2 -/

open PySem PySem.W PySem.Calls PyProof.Rows in
set_option maxRecDepth 100000 in
set_option maxHeartbeats 0 in
theorem PySem.Challenge.cw_depotday_k73_rule_texts_holds : PySem.Challenge.rw_depotday_k73_rule_texts.Holds := by
  w_on; o_law
  refine HandSHeadRun.head_any (r := OpenLaw.row PySem.Challenge.rw_depotday_k73_rule_texts) (q := view (OpenLaw.row PySem.Challenge.rw_depotday_k73_rule_texts).prog [33]) (H := Cl.HeadE.hk) (ob := Cl.HeadE.ob) (M := 6000) (loose := Cl.HeadE.names) (d := HandSHeadRun.topDef (OpenLaw.row PySem.Challenge.rw_depotday_k73_rule_texts).prog 33) (kwd := []) Cl.HeadE.ob_eq
    (by kernel_rfl) (fun s => by kernel_rfl) Cl.HeadE.run (by kernel_rfl) (by kernel_rfl) (by kernel_rfl) (by rfl) (by first | assumption | decide +kernel) (by decide +kernel) ⟨rfl, rfl, rfl, rfl, rfl, by decide +kernel⟩ ?hw ?hc
  case hw => w_witness2
  case hc =>
    refine L2.walk_ofE (l := PySem.Challenge.rw_depotday_k73_rule_texts) (n := 63) (k := 11) (x := "_law_script") (CX := L2.CX0) rfl (by decide) (by kernel_rfl) ⟨rfl, by decide, by decide⟩ ?F (fun _ _ _ _ z => z)
    intro w mg fa h Y G hmg0
    obtain ⟨K, KX, says⟩ := Y
    have hmg : mg ("law" : PySem.Str) = some (.ref fa) := by
      have e : (HandSHeadRun.topDef (OpenLaw.row PySem.Challenge.rw_depotday_k73_rule_texts).prog 33).name = ("law" : PySem.Str) := by kernel_rfl
      rw [← e]
      exact hmg0
    have c : Cl.FZ K mg := Cl.Fz.mk' KX G says
    have ef := hmg.symm.trans (c.glo 32)
    cases ef
    obtain ⟨fd, F⟩ := c.says.def_ 14 (d := Cl.HeadE.d_law) rfl
    have hb := L2.FunD.bindsA (ps := ["_law_script"]) F fun _ _ _ _ _ _ us hl => match us, hl with | [_], _ => rfl
    refine ⟨K, fd, Cl.spOf K Cl.f_law, KX, fun s v => hb s [v] rfl, fun H a ns hl _ hS => ?_, fun base _ _ => ?_⟩
    · obtain ⟨S, e⟩ := Cl.law_good ns hl
      exact Cl.law_start hS e
    · exact Cl.ok_law_fd c F
