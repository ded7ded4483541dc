import PyProof.Rows.All
import Wide.All
import OpenK.AllK
import Wide.FinOn
import HandS.ForMost
import HandS.Exc
import HandS.WordsExc
import HandS.Defaults
import HandS.Walk
import HandS.Steps
import HandS.IsInst
import HandS.Conv
import HandS.SetKeys
import HandS.Head0
import HandS.Head1
import HandS.Head2
import HandS.HeadEnd
import HandS.HeadHook1
import HandS.HeadHook2
import HandS.HeadHook3
import HandS.HeadHook4
import KE.KDictList
import PySem.Challenge.RW_depotday_k13_pieces_of_a_net
set_option Elab.async false
set_option linter.all false
set_option maxRecDepth 100000
set_option maxHeartbeats 4000000
namespace Cl
open PySem PySem.Spec L2 PyProof.Rows
/-! ## Lib -/

/-! ## readings, one step each (continuations) -/
section
variable {σ : L2.St} {H : Hp} {Q : VK} {QA : List V → Hp → Prop} {QB : Bool → Hp → Prop} {D : Ends} {t u : TS} {te ta tb tc : TE} {tt tv : TT} {ts tr : TA} {v x y : V} {i : Nat}
theorem g_seq (h : t { D with nx := u D } σ H) : tSeq t u D σ H := h
theorem g_next (h : D.nx σ H) : tNext D σ H := h
theorem g_brk (h : D.bk σ H) : tBreak D σ H := h
theorem g_cnt (h : D.ct σ H) : tCont D σ H := h
theorem g_asg {g : TG} (h : te σ H fun x H1 => g x σ H1 D.nx) : tAsg te g D σ H := h
theorem g_name {QS : L2.St → Hp → Prop} (h : QS (σ.set i (some v)) H) : gName i v σ H QS := h
theorem g_drop (h : te σ H fun _ H1 => D.nx σ H1) : tDrop te D σ H := h
theorem g_ret (h : te σ H D.rt) : tRet te D σ H := h
theorem g_retN (h : D.rt .non H) : tRetN D σ H := h
theorem g_ifS (h : tt σ H fun b H1 => if b = true then t D σ H1 else u D σ H1) : tIfS tt t u D σ H := h
theorem g_if {b : Bool} {A B : Prop} (h1 : b = true → A) (h2 : b = false → B) : if b = true then A else B := by
  cases b with
  | true => exact iteT (h1 rfl)
  | false => exact iteF (h2 rfl)
theorem g_var (e : σ[i]? = some (some v)) (h : Q v H) : tVar i σ H Q := ⟨v, e, h⟩
theorem g_c (h : Q v H) : tC v σ H Q := h
theorem g_op {r : R2} (h : ta σ H fun x H1 => tb σ H1 fun y H2 => r x y H2 Q) : tOp r ta tb σ H Q := h
theorem g_un {r : V → Hp → VK → Prop} (h : ta σ H fun x H1 => r x H1 Q) : tUn r ta σ H Q := h
theorem g_I0 {g : Int → Int → V} {a b : Int} (h : Q (g a b) H) : rI0 g (.int a) (.int b) H Q := ⟨a, b, rfl, rfl, h⟩
theorem g_I {C : Int → Int → Prop} {g : Int → Int → V} {a b : Int} (hc : C a b) (h : Q (g a b) H) : rI C g (.int a) (.int b) H Q := ⟨a, b, rfl, rfl, hc, h⟩
theorem g_U {g : Int → V} {a : Int} (h : Q (g a) H) : rU g (.int a) H Q := ⟨a, rfl, h⟩
theorem g_eq (hs : scal x y = true) (h : Q (.bl (decide (x = y))) H) : rEq x y H Q := ⟨hs, h⟩
theorem g_ne (hs : scal x y = true) (h : Q (.bl (!decide (x = y))) H) : rNe x y H Q := ⟨hs, h⟩
theorem g_test (h : te σ H fun x H' => ∃ k, x = .bl k ∧ QB k H') : tTest te σ H QB := h
theorem g_B (h : te σ H fun x H' => ∃ k, x = .bl k ∧ QB k H') : tB te σ H QB := h
theorem g_bl {b : Bool} (h : QB b H) : ∃ k, V.bl b = .bl k ∧ QB k H := ⟨b, rfl, h⟩
theorem g_and (h : tt σ H fun c H1 => if c = true then tv σ H1 QB else QB false H1) : tAnd tt tv σ H QB := h
theorem g_or (h : tt σ H fun c H1 => if c = true then QB true H1 else tv σ H1 QB) : tOr tt tv σ H QB := h
theorem g_not (h : tt σ H fun c H1 => QB (!c) H1) : tNot tt σ H QB := h
theorem g_nil (h : QA [] H) : tNil σ H QA := h
theorem g_cons (h : te σ H fun x H1 => tr σ H1 fun xs H2 => QA (x :: xs) H2) : tCons te tr σ H QA := h
theorem g_call {sp : Sp} {E : XK} (h : ts σ H fun vs H1 => sp (vs ++ []) H1 Q E) : tCall sp [] E ts σ H Q := h
theorem g_cb {r : List V → Hp → VK → Prop} (h : ts σ H fun vs H1 => r vs H1 Q) : tCB r ts σ H Q := h
theorem g_tup (h : ts σ H fun xs H1 => xs.length ≤ sizeLine ∧ ∀ p, H1 p = none → Q (.ref p) (upd H1 p (.tup xs))) : tTup ts σ H Q := h
theorem g_lst (h : ts σ H fun xs H1 => xs.length ≤ sizeLine ∧ ∀ p, H1 p = none → Q (.ref p) (upd H1 p (.lst xs))) : tLst ts σ H Q := h
theorem g_ife (h : tt σ H fun c H1 => if c = true then ta σ H1 Q else tb σ H1 Q) : tIf tt ta tb σ H Q := h
end

/-! ## values that leave the heap: Val, tests: Ans -/
section
variable {σ : L2.St} {H : Hp} {i : Nat} {v x y z : V} {ta tb tc te : TE} {b c d : Bool} {K : PySem.W.Frag} {t u : TT} {a p : Addr} {xs : List V} {n m : Int}
theorem v_op {r : R2} (ha : Val ta σ H x) (hb : Val tb σ H y) (hr : ∀ Q : VK, Q z H → r x y H Q) : Val (tOp r ta tb) σ H z := val_op ha hb hr
theorem v_I0 {g : Int → Int → V} (ha : Val ta σ H (.int n)) (hb : Val tb σ H (.int m)) : Val (tOp (rI0 g) ta tb) σ H (g n m) := v_op ha hb fun _ q => ⟨n, m, rfl, rfl, q⟩
theorem v_I {C : Int → Int → Prop} {g : Int → Int → V} (ha : Val ta σ H (.int n)) (hb : Val tb σ H (.int m)) (hc : C n m) : Val (tOp (rI C g) ta tb) σ H (g n m) := v_op ha hb fun _ q => ⟨n, m, rfl, rfl, hc, q⟩
theorem v_U {g : Int → V} (ha : Val ta σ H (.int n)) : Val (tUn (rU g) ta) σ H (g n) := fun _ q => ha _ ⟨n, rfl, q⟩
theorem v_eq (ha : Val ta σ H x) (hb : Val tb σ H y) (hs : scal x y = true) : Val (tOp rEq ta tb) σ H (.bl (decide (x = y))) := v_op ha hb fun _ q => ⟨hs, q⟩
theorem v_ne (ha : Val ta σ H x) (hb : Val tb σ H y) (hs : scal x y = true) : Val (tOp rNe ta tb) σ H (.bl (!decide (x = y))) := v_op ha hb fun _ q => ⟨hs, q⟩
theorem v_ixL (ha : Val ta σ H (.ref p)) (hb : Val tb σ H (.int n)) (h : SqL K H p xs) (e : atI xs n = some v) : Val (tOp (rIxL K) ta tb) σ H v := v_op ha hb fun _ q => ⟨p, xs, n, v, rfl, rfl, h, e, q⟩
theorem v_ixT (ha : Val ta σ H (.ref p)) (hb : Val tb σ H (.int n)) (h : SqT K H p xs) (e : atI xs n = some v) : Val (tOp (rIxT K) ta tb) σ H v := v_op ha hb fun _ q => ⟨p, xs, n, v, rfl, rfl, h, e, q⟩
theorem v_chain {r r' : R2} {b c : Bool} (ha : Val ta σ H x) (hb : Val tb σ H y) (hc : Val tc σ H z) (h1 : ∀ Q : VK, Q (.bl b) H → r x y H Q) (h2 : ∀ Q : VK, Q (.bl c) H → r' y z H Q) : Val (tChain r r' ta tb tc) σ H (.bl (b && c)) := fun Q q => by
  refine ha _ (hb _ (h1 _ ⟨b, rfl, ?_⟩))
  cases b with
  | true => exact iteT (hc _ (h2 _ q))
  | false => exact iteF q
theorem i_I0 {g : Int → Int → V} : ∀ Q : VK, Q (g n m) H → rI0 g (.int n) (.int m) H Q := fun _ q => ⟨n, m, rfl, rfl, q⟩
theorem i_B0 {p : Int → Int → Bool} : ∀ Q : VK, Q (.bl (p n m)) H → rI0 (fun i j => .bl (p i j)) (.int n) (.int m) H Q := fun _ q => ⟨n, m, rfl, rfl, q⟩
theorem v_andV (ha : Val ta σ H (.bl b)) (hb : b = true → Val tb σ H (.bl c)) : Val (tAndV ta tb) σ H (.bl (b && c)) := fun Q q => by
  refine ha _ ⟨b, rfl, ?_⟩
  cases b with
  | true => exact iteT (hb rfl _ q)
  | false => exact iteF q
theorem v_orV (ha : Val ta σ H (.bl b)) (hb : b = false → Val tb σ H (.bl c)) : Val (tOrV ta tb) σ H (.bl (b || c)) := fun Q q => by
  refine ha _ ⟨b, rfl, ?_⟩
  cases b with
  | true => exact iteT q
  | false => exact iteF (hb rfl _ q)
theorem v_notV (ha : Val ta σ H (.bl b)) : Val (tNotV ta) σ H (.bl (!b)) := fun Q q => ha _ ⟨b, rfl, q⟩
theorem v_if (h : Ans t σ H b) (h1 : b = true → Val ta σ H x) (h2 : b = false → Val tb σ H y) : Val (tIf t ta tb) σ H (if b = true then x else y) := fun Q q => by
  refine h _ ?_
  cases b with
  | true => exact iteT (h1 rfl _ q)
  | false => exact iteF (h2 rfl _ q)
theorem a_test (h : Val te σ H (.bl b)) : Ans (tTest te) σ H b := fun Q q => h _ ⟨b, rfl, q⟩
theorem a_B (h : Val te σ H (.bl b)) : Ans (tB te) σ H b := fun Q q => h _ ⟨b, rfl, q⟩
theorem a_and (h1 : Ans t σ H b) (h2 : b = true → Ans u σ H c) : Ans (tAnd t u) σ H (b && c) := fun Q q => by
  refine h1 _ ?_
  cases b with
  | true => exact iteT (h2 rfl _ q)
  | false => exact iteF q
theorem a_or (h1 : Ans t σ H b) (h2 : b = false → Ans u σ H c) : Ans (tOr t u) σ H (b || c) := fun Q q => by
  refine h1 _ ?_
  cases b with
  | true => exact iteT q
  | false => exact iteF (h2 rfl _ q)
theorem a_not (h : Ans t σ H b) : Ans (tNot t) σ H (!b) := fun Q q => h _ q
/-- a list of argument values -/
def Args (ts : TA) (σ : L2.St) (H : Hp) (vs : List V) : Prop := ∀ Q : List V → Hp → Prop, Q vs H → ts σ H Q
theorem ar_nil : Args tNil σ H [] := fun _ q => q
theorem ar_cons {ts : TA} {vs : List V} (h : Val te σ H v) (hr : Args ts σ H vs) : Args (tCons te ts) σ H (v :: vs) := fun _ q => h _ (hr _ q)
theorem v_cb {r : List V → Hp → VK → Prop} {ts : TA} {vs : List V} (h : Args ts σ H vs) (hr : ∀ Q : VK, Q z H → r vs H Q) : Val (tCB r ts) σ H z := fun Q q => h _ (hr _ q)
/-- an expression whose value is known, then what follows -/
theorem g_val {Q : VK} (h : Val te σ H v) (q : Q v H) : te σ H Q := h Q q
theorem g_ans {Q : Bool → Hp → Prop} (h : Ans t σ H b) (q : Q b H) : t σ H Q := h Q q
theorem g_args {Q : List V → Hp → Prop} {ts : TA} {vs : List V} (h : Args ts σ H vs) (q : Q vs H) : ts σ H Q := h Q q
end
/-- a test whose answer is known, two ways -/
theorem g_ifA {c : TT} {t u : TS} {D : Ends} {σ : L2.St} {H : Hp} {b : Bool} (h : Ans c σ H b) (h1 : b = true → t D σ H) (h2 : b = false → u D σ H) : tIfS c t u D σ H := h _ (g_if h1 h2)

/-! ## Lib2 -/

/-! ## the head's facts -/
structure Fx (fa : List He.Fa) (fn : List He.DefD) (K : PySem.W.Frag) (mg : Str → Option Value) : Prop where
  says : He.SaysD fa fn K
  ns : ∃ h : Heap, K.In h ∧ h.Ns mainGlobals mg
theorem Fx.mk' {fa : List He.Fa} {fn : List He.DefD} {K : PySem.W.Frag} {h : Heap} {mg : Str → Option Value} (X : K.In h) (G : h.Ns mainGlobals mg) (c : He.SaysD fa fn K) : Fx fa fn K mg := ⟨c, h, X, G⟩
section
variable {fa : List He.Fa} {fn : List He.DefD} {K : PySem.W.Frag} {mg : Str → Option Value}
theorem Fx.glo (c : Fx fa fn K mg) (i : Nat) {x : Str} (h : fa[i]? = some (.glo x) := by rfl) : mg x = some (.ref (He.ga K x)) := let ⟨_, X, G⟩ := c.ns; He.glo_ok X G (c.says.fact i h)
theorem Fx.free (c : Fx fa fn K mg) (i : Nat) {x : Str} (h : fa[i]? = some (.free x) := by rfl) : mg x = none := let ⟨_, X, G⟩ := c.ns; He.free_ok X G (c.says.fact i h)
theorem Fx.int (c : Fx fa fn K mg) (i : Nat) {x : Str} {n : Int} (h : fa[i]? = some (.int x n) := by rfl) : ∃ t, mg x = some (.int n t) := let ⟨_, X, G⟩ := c.ns; He.int_ok X G (c.says.fact i h)
theorem Fx.str (c : Fx fa fn K mg) (i : Nat) {x z : Str} (h : fa[i]? = some (.str x z) := by rfl) : ∃ t, mg x = some (.str z t) := let ⟨_, X, G⟩ := c.ns; He.str_ok X G (c.says.fact i h)
theorem Fx.cls (c : Fx fa fn K mg) (i : Nat) {x : Str} (h : fa[i]? = some (.cls x) := by rfl) : Cls K (He.ga K x) := He.cls_ok (c.says.fact i h)
theorem Fx.noat (c : Fx fa fn K mg) (i : Nat) {x f : Str} (h : fa[i]? = some (.noat x f) := by rfl) : NoAttr K (He.ga K x) f := He.noat_ok (c.says.fact i h)
theorem Fx.meth (c : Fx fa fn K mg) (i : Nat) {x m : Str} (h : fa[i]? = some (.meth x m) := by rfl) : Meth K (He.ga K x) m (He.ma K (He.ga K x) m) := He.meth_ok (c.says.fact i h)
theorem Fx.mkr (c : Fx fa fn K mg) (i : Nat) {x : Str} (h : fa[i]? = some (.mkr x) := by rfl) : Mk K (He.ga K x) (He.ma K (He.ga K x) "__init__") := He.mkr_ok (c.says.fact i h)
end

/-! ## a def that keeps its promise -/
structure FnX (P : Program) (w : World) (K : PySem.W.Frag) (mg : Str → Option Value) (base : Heap) (CX : CXT) (k : Nat) (at_ : Str × Option Str) (ps : List Str) (sp : Sp) : Prop where
  ex : ∃ fd, FnOk P w K mg base CX k (He.fAd K at_) fd ps sp ∧ Binds K fd ps []
  kp : PySem.W.keepIn K (.ref (He.fAd K at_)) = true
section
variable {X : Cx} {CX : CXT} {k : Nat} {ps : List Str} {sp : Sp} {E : XK} {x m : Str} {p pos apos : Pos} {e o : Expr} {es : List Expr} {ta : TE} {t : TA}
theorem pcall (F : FnX X.prog X.w X.K X.mg X.base CX k (x, none) ps sp) (hr : Room k X.A) (hg : Gl X x) (hm : X.mg x = some (.ref (He.ga X.K x))) (hx : Passes CX X E)
    (ha : PA X (e :: es) t) (hdb : (x == ("__debug__" : Str)) = false := by decide) (he : starEach (e :: es) X.env = (false, eval e X.env) :: starEach es X.env := by rfl) (hpl : (backTo pos (starEach es X.env)).any (·.1) = false := by rfl) :
    PE X (.Call (.Name x p) (e :: es) [] pos) (tCall sp [] E t) := by
  obtain ⟨⟨fd, F, b⟩, kp⟩ := F
  exact pe_call F hr hg hm kp b .nil hx ha hdb he hpl
theorem pmeth {pl : Sem Bool} {C : Str} (he : PE X o ta) (c : Cls X.K (He.ga X.K C)) (hm : Meth X.K (He.ga X.K C) m (He.ma X.K (He.ga X.K C) m)) (F : FnX X.prog X.w X.K X.mg X.base CX k (C, some m) ps sp) (hr : Room k X.A) (hx : Passes CX X E) (ha : PA X (e :: es) t)
    (hst : starEach (e :: es) X.env = (false, eval e X.env) :: starEach es X.env := by rfl) (hpl : (backTo pos (starEach es X.env)).any (·.1) = false := by rfl)
    (ht : eval (.Call (.Attribute o m apos) (e :: es) [] pos) X.env = (do
      let ov ← eval o X.env
      standAt apos.atName
      let (f, first) ← holding [ov] (getMethod ov m pl)
      callWith pos f first (backTo pos (starEach (e :: es) X.env)) (backToKw pos (keywordEach [] X.env))) := by rfl) :
    PE X (.Call (.Attribute o m apos) (e :: es) [] pos) (tMeth (He.ga X.K C) m sp [] E ta t) := by
  obtain ⟨⟨fd, F, b⟩, kp⟩ := F
  exact pe_meth he c hm F hr b .nil hx ha hst hpl ht
theorem pmeth0 {pl : Sem Bool} {C : Str} (he : PE X o ta) (c : Cls X.K (He.ga X.K C)) (hm : Meth X.K (He.ga X.K C) m (He.ma X.K (He.ga X.K C) m)) (F : FnX X.prog X.w X.K X.mg X.base CX k (C, some m) ps sp) (hr : Room k X.A) (hx : Passes CX X E)
    (ht : eval (.Call (.Attribute o m apos) [] [] pos) X.env = (do
      let ov ← eval o X.env
      standAt apos.atName
      let (f, first) ← holding [ov] (getMethod ov m pl)
      callWith pos f first (backTo pos (starEach [] X.env)) (backToKw pos (keywordEach [] X.env))) := by rfl) :
    PE X (.Call (.Attribute o m apos) [] [] pos) (tMeth (He.ga X.K C) m sp [] E ta tNil) := by
  obtain ⟨⟨fd, F, b⟩, kp⟩ := F
  exact pe_meth0 he c hm F hr b .nil hx ht
theorem pmake (M : Mk X.K (He.ga X.K x) (He.ma X.K (He.ga X.K x) "__init__")) (F : FnX X.prog X.w X.K X.mg X.base CX k (x, some "__init__") ps sp) (hr : Room (k + 1) X.A) (hg : Gl X x) (hm : X.mg x = some (.ref (He.ga X.K x))) (hx : Passes CX X E)
    (ha : PA X (e :: es) t) (hdb : (x == ("__debug__" : Str)) = false := by decide) (he : starEach (e :: es) X.env = (false, eval e X.env) :: starEach es X.env := by rfl) (hpl : (backTo pos (starEach es X.env)).any (·.1) = false := by rfl) :
    PE X (.Call (.Name x p) (e :: es) [] pos) (tMake (He.ga X.K x) sp [] E t) := by
  obtain ⟨⟨fd, F, b⟩, kp⟩ := F
  exact pe_make M F hr hg hm b .nil hx ha hdb he hpl
theorem pgi {n : Int} (hg : Gl X x) (h : ∃ t, X.mg x = some (.int n t)) (hd : (x == ("__debug__" : Str)) = false := by decide) : PE X (.Name x pos) (tC (.int n)) := by
  obtain ⟨t, h⟩ := h
  exact pe_glob hg h ⟨t, rfl⟩ hd
theorem pgs {z : Str} (hg : Gl X x) (h : ∃ t, X.mg x = some (.str z t)) (hd : (x == ("__debug__" : Str)) = false := by decide) : PE X (.Name x pos) (tC (.str z)) := by
  obtain ⟨t, h⟩ := h
  exact pe_glob hg h ⟨t, rfl⟩ hd
end

/-! ## named readings of the kit's rules -/
def rLen (K : PySem.W.Frag) : List V → Hp → VK → Prop := fun xs H Q => ∃ p ys, xs = [.ref p] ∧ (SqL K H p ys ∨ SqT K H p ys) ∧ Q (.int ys.length) H
def rListOf (K : PySem.W.Frag) : List V → Hp → VK → Prop := fun xs H Q => ∃ p ys, xs = [.ref p] ∧ (SqL K H p ys ∨ SqT K H p ys) ∧ ∀ l, H l = none → Q (.ref l) (upd H l (.lst ys))
def rTupOf (K : PySem.W.Frag) : List V → Hp → VK → Prop := fun xs H Q => ∃ p ys, xs = [.ref p] ∧ ((SqL K H p ys ∧ ∀ l, H l = none → Q (.ref l) (upd H l (.tup ys))) ∨ (SqT K H p ys ∧ Q (.ref p) H))
def rAbs : List V → Hp → VK → Prop := fun xs H Q => ∃ i, xs = [.int i] ∧ Q (.int (if i < 0 then -i else i)) H
def rMax2 : List V → Hp → VK → Prop := fun xs H Q => ∃ i j, xs = [.int i, .int j] ∧ Q (.int (if j > i then j else i)) H
def rMin2 : List V → Hp → VK → Prop := fun xs H Q => ∃ i j, xs = [.int i, .int j] ∧ Q (.int (if j < i then j else i)) H
def rInt1 : List V → Hp → VK → Prop := fun xs H Q => (∃ i, xs = [.int i] ∧ Q (.int i) H) ∨ ∃ k, xs = [.bl k] ∧ Q (.int (if k then 1 else 0)) H
def rBool1 : List V → Hp → VK → Prop := fun xs H Q => (∃ i, xs = [.int i] ∧ Q (.bl (i != 0)) H) ∨ ∃ k, xs = [.bl k] ∧ Q (.bl k) H
abbrev oAdd : R2 := rI0 fun i j => .int (i + j)
abbrev oSub : R2 := rI0 fun i j => .int (i - j)
abbrev oMul : R2 := rI CMul fun i j => .int (i * j)
abbrev oDiv : R2 := rI CDiv fun i j => .int (i / j)
abbrev oMod : R2 := rI (fun _ j => 0 < j) fun i j => .int (i % j)
abbrev oPow : R2 := rI CPow fun i j => .int (i ^ j.toNat)
abbrev oLt : R2 := rI0 fun i j => .bl (decide (i < j))
abbrev oLe : R2 := rI0 fun i j => .bl (decide (i ≤ j))
abbrev oGt : R2 := rI0 fun i j => .bl (decide (j < i))
abbrev oGe : R2 := rI0 fun i j => .bl (decide (j ≤ i))
abbrev uNeg : V → Hp → VK → Prop := rU fun i => .int (-i)
section
variable {X : Cx}
theorem cl_len : CallR X (.builtin "len") (rLen X.K) := call_len_seq
theorem cl_list : CallR X (.type "list") (rListOf X.K) := call_list_of
theorem cl_tuple : CallR X (.type "tuple") (rTupOf X.K) := call_tuple_of
theorem cl_abs : CallR X (.builtin "abs") rAbs := call_abs
theorem cl_max2 (hc : X.calm = true) : CallR X (.builtin "max") rMax2 := call_max2 hc
theorem cl_min2 (hc : X.calm = true) : CallR X (.builtin "min") rMin2 := call_min2 hc
theorem cl_int1 : CallR X (.type "int") rInt1 := call_int1
theorem cl_bool1 : CallR X (.type "bool") rBool1 := call_bool1
end
section
variable {σ : L2.St} {H : Hp} {K : PySem.W.Frag} {p : Addr} {xs : List V} {n m : Int} {ts : TA} {b : Bool} {te ta tb : TE} {v w : V}
theorem v_len (h : Args ts σ H [.ref p]) (hl : SqL K H p xs) : Val (tCB (rLen K) ts) σ H (.int xs.length) := v_cb h fun _ q => ⟨p, xs, rfl, .inl hl, q⟩
theorem v_lenT (h : Args ts σ H [.ref p]) (hl : SqT K H p xs) : Val (tCB (rLen K) ts) σ H (.int xs.length) := v_cb h fun _ q => ⟨p, xs, rfl, .inr hl, q⟩
theorem v_abs (h : Args ts σ H [.int n]) : Val (tCB rAbs ts) σ H (.int (if n < 0 then -n else n)) := v_cb h fun _ q => ⟨n, rfl, q⟩
theorem v_max2 (h : Args ts σ H [.int n, .int m]) : Val (tCB rMax2 ts) σ H (.int (if m > n then m else n)) := v_cb h fun _ q => ⟨n, m, rfl, q⟩
theorem v_min2 (h : Args ts σ H [.int n, .int m]) : Val (tCB rMin2 ts) σ H (.int (if m < n then m else n)) := v_cb h fun _ q => ⟨n, m, rfl, q⟩
theorem v_intI (h : Args ts σ H [.int n]) : Val (tCB rInt1 ts) σ H (.int n) := v_cb h fun _ q => .inl ⟨n, rfl, q⟩
theorem v_intB (h : Args ts σ H [.bl b]) : Val (tCB rInt1 ts) σ H (.int (if b then 1 else 0)) := v_cb h fun _ q => .inr ⟨b, rfl, q⟩
theorem v_cast (h : Val te σ H v) (e : v = w) : Val te σ H w := e ▸ h
end
theorem atI_of {α : Type} {xs : List α} {i : Int} {v : α} (h0 : 0 ≤ i) (h : xs[i.toNat]? = some v) : atI xs i = some v := by
  have e : ((i.toNat : Nat) : Int) = i := Int.toNat_of_nonneg h0
  rw [← e]
  exact atI_nat h
theorem ixN_of {n : Nat} {i : Int} (h0 : 0 ≤ i) (h : i < n) : ixN n i = some i.toNat := by
  unfold ixN
  rw [if_pos h0, if_pos h]
/-! ## a statement, then the rest -/
section
variable {σ : L2.St} {H : Hp} {D : Ends} {t u r : TS} {te to ti : TE} {tt : TT} {b : Bool} {v x : V} {i : Nat} {K : PySem.W.Frag} {Q : VK}
theorem q_asg {g : TG} (h : te σ H fun x H1 => g x σ H1 (r D)) : tSeq (tAsg te g) r D σ H := h
theorem q_set (h : te σ H fun x H1 => r D (σ.set i (some x)) H1) : tSeq (tAsg te (gName i)) r D σ H := h
theorem q_val (h : Val te σ H v) (q : r D (σ.set i (some v)) H) : tSeq (tAsg te (gName i)) r D σ H := h _ q
theorem q_drop (h : te σ H fun _ H1 => r D σ H1) : tSeq (tDrop te) r D σ H := h
theorem q_next (h : r D σ H) : tSeq tNext r D σ H := h
theorem q_if (h : Ans tt σ H b) (h1 : b = true → t { D with nx := r D } σ H) (h2 : b = false → u { D with nx := r D } σ H) : tSeq (tIfS tt t u) r D σ H := g_ifA h h1 h2
theorem q_ifc (h : tt σ H fun b H1 => if b = true then t { D with nx := r D } σ H1 else u { D with nx := r D } σ H1) : tSeq (tIfS tt t u) r D σ H := h
theorem q_whenc (h : tt σ H fun b H1 => if b = true then t { D with nx := r D } σ H1 else r D σ H1) : tSeq (tIfS tt t tNext) r D σ H := h
theorem q_when (h : Ans tt σ H b) (h1 : b = true → t { D with nx := r D } σ H) (h2 : b = false → r D σ H) : tSeq (tIfS tt t tNext) r D σ H := g_ifA h h1 h2
theorem q_setI {p : Addr} {xs : List V} {n : Int} {j : Nat} (h : Val te σ H v) (ho : Val to σ H (.ref p)) (hi : Val ti σ H (.int n)) (hp : H p = some (.lst xs)) (hj : ixN xs.length n = some j) (q : r D σ (upd H p (.lst (xs.set j v)))) : tSeq (tAsg te (gSub to ti rSetL)) r D σ H :=
  h _ (ho _ (hi _ ⟨p, xs, n, j, rfl, rfl, hp, hj, q⟩))
theorem g_setI {p : Addr} {xs : List V} {n : Int} {j : Nat} (h : Val te σ H v) (ho : Val to σ H (.ref p)) (hi : Val ti σ H (.int n)) (hp : H p = some (.lst xs)) (hj : ixN xs.length n = some j) (q : D.nx σ (upd H p (.lst (xs.set j v)))) : tAsg te (gSub to ti rSetL) D σ H :=
  h _ (ho _ (hi _ ⟨p, xs, n, j, rfl, rfl, hp, hj, q⟩))
theorem g_set (h : te σ H fun x H1 => D.nx (σ.set i (some x)) H1) : tAsg te (gName i) D σ H := h
/-- xs.append(e), e any -/
theorem e_app {p : Addr} {xs : List V} (ho : Val to σ H (.ref p)) (hp : H p = some (.lst xs)) (h : te σ H fun y H2 => ∃ xs, H2 p = some (.lst xs) ∧ xs.length < sizeLine ∧ Q .non (upd H2 p (.lst (xs ++ [y]))))
    (mono : ∀ Q Q' : VK, (∀ v H, Q v H → Q' v H) → te σ H Q → te σ H Q' := by intros; assumption) : tBM K "list" rAppend to (tCons te tNil) σ H Q :=
  ho _ ⟨Or.inl ⟨rfl, xs, SqL.of hp⟩, mono _ _ (fun y H2 ⟨ys, e, l, q⟩ => ⟨p, ys, y, rfl, rfl, e, l, q⟩) h⟩
theorem e_appV {p : Addr} {xs : List V} (ho : Val to σ H (.ref p)) (h : Val te σ H v) (hp : H p = some (.lst xs)) (hl : xs.length < sizeLine) (q : Q .non (upd H p (.lst (xs ++ [v])))) : tBM K "list" rAppend to (tCons te tNil) σ H Q :=
  ho _ ⟨Or.inl ⟨rfl, xs, SqL.of hp⟩, h _ ⟨p, xs, v, rfl, rfl, hp, hl, q⟩⟩
end

/-! ## Lib3 -/
section
variable {X : Cx} {a b c d : Expr} {ta tb tc td : TE} {pos : Pos}
/-- a < b < c < d -/
def tChain3 (r r' r'' : R2) (ta tb tc td : TE) : TE := fun σ H Q => ta σ H fun x H1 => tb σ H1 fun y H2 => r x y H2 fun z H3 => ∃ k, z = .bl k ∧
  (if k = true then tc σ H3 fun w' H4 => r' y w' H4 fun z' H5 => ∃ k', z' = .bl k' ∧ (if k' = true then td σ H5 fun u' H6 => r'' w' u' H6 Q else Q (.bl false) H5) else Q (.bl false) H3)
theorem pe_chain3 {op op' op'' : CmpOp} {r r' r'' : R2} (ho : OpR X (compareOp op) r) (ho' : OpR X (compareOp op') r') (ho'' : OpR X (compareOp op'') r'') (ha : PE X a ta) (hb : PE X b tb) (hc : PE X c tc) (hd : PE X d td)
    (hm : lastMarks [op, op', op''] [b, c, d] = false := by with_unfolding_all rfl) : PE X (.Compare a [op, op', op''] [b, c, d] pos) (tChain3 r r' r'' ta tb tc td) := by
  refine ⟨fun pins s σ H Q I h => ?_⟩
  refine Compare_chain (thn (ha.run pins s σ H _ I h) fun v s1 ⟨x, H1, I1, r1, q1⟩ => chain_link (thn (hb.run pins s1 σ H1 _ I1 q1) fun u s2 ⟨y, H2, I2, r2, q2⟩ =>
    thn (ho pins s2 σ H2 x y v u _ I2 r1 r2 q2) fun d s3 ⟨z, H3, I3, r3, k, e, q3⟩ => ?_)) hm
  subst e
  cases r3
  refine wpAny_truthy_bool ?_
  cases k with
  | false => exact ite_ff ⟨.bl false, H3, I3, rfl, q3⟩
  | true =>
    refine ite_tt (chain_link (thn (hc.run pins s3 σ H3 _ I3 q3) fun w' s4 ⟨z', H4, I4, r4, q4⟩ => thn (ho' pins s4 σ H4 y z' u w' _ I4 r2 r4 q4) fun d' s5 ⟨z2, H5, I5, r5, k2, e2, q5⟩ => ?_))
    subst e2
    cases r5
    refine wpAny_truthy_bool ?_
    cases k2 with
    | false => exact ite_ff ⟨.bl false, H5, I5, rfl, q5⟩
    | true => exact ite_tt (chain_last (thn (hd.run pins s5 σ H5 _ I5 q5) fun w2 s6 ⟨z3, H6, I6, r6, q6⟩ => ho'' pins s6 σ H6 z' z3 w' w2 Q I6 r4 r6 q6))
theorem v_chain3 {σ : L2.St} {H : Hp} {x y z w : V} {r r' r'' : R2} {p q s : Bool} (ha : Val ta σ H x) (hb : Val tb σ H y) (hc : Val tc σ H z) (hd : Val td σ H w) (h1 : ∀ Q : VK, Q (.bl p) H → r x y H Q) (h2 : ∀ Q : VK, Q (.bl q) H → r' y z H Q) (h3 : ∀ Q : VK, Q (.bl s) H → r'' z w H Q) :
    Val (tChain3 r r' r'' ta tb tc td) σ H (.bl (p && (q && s))) := fun Q k => by
  refine ha _ (hb _ (h1 _ ⟨p, rfl, ?_⟩))
  cases p with
  | false => exact iteF k
  | true =>
    refine iteT (hc _ (h2 _ ⟨q, rfl, ?_⟩))
    cases q with
    | false => exact iteF k
    | true => exact iteT (hd _ (h3 _ k))
/-- list(e.values()) -/
def tListV (te : TE) : TE := fun σ H Q => te σ H fun x H1 => ∃ (d : Addr) (kvs : List (Key × V)), x = .ref d ∧ H1 d = some (.dK kvs) ∧ ∀ l, H1 l = none → Q (.ref l) (upd H1 l (.lst (kvs.map (·.2))))
theorem vals_snd {κ : Type} : ∀ {kvs : List (κ × V)} {vs : List (κ × Value)}, KV kvs vs → Vals (kvs.map (·.2)) (vs.map (·.2))
  | _, _, .nil => .nil
  | _, _, .cons r t => .cons r.2 (vals_snd t)
theorem plistV {e : Expr} {te : TE} {p apos cpos : Pos} (hc : X.calm = true) (hg : Gl X "list") (hm : X.mg "list" = none) (he : PE X e te) (hv : bootBuiltins "list" = some (.type "list") := by decide +kernel) (hbase : attributeBase e "values" X.env (eval e X.env) = eval e X.env := by rfl) (hline : (apos.endLine == cpos.line) = true := by rfl)
    (hs : starEach [.Call (.Attribute e "values" apos) [] [] cpos] X.env = (false, eval (.Call (.Attribute e "values" apos) [] [] cpos) X.env) :: starEach [] X.env := by rfl) :
    PE X (.Call (.Name "list" p) [.Call (.Attribute e "values" apos) [] [] cpos] [] pos) (tListV te) := by
  refine ⟨fun pins s σ H Q I hq => ?_⟩
  refine wpAny_Call_Name_kw (ld_blt I hg hm hv ?_)
  refine PyProof.Rows.callWith_type1 ?_ hs rfl
  rw [hs]
  show wpAny _ _ (spliced ((false, eval (.Call (.Attribute e "values" apos) [] [] cpos) X.env) :: backTo pos (starEach [] X.env))) _ _ s
  refine Calls.spliced_cons ?_
  refine wpAny_Call_method (T := "dict") (id := "dict.values") hbase rfl hline F.plainAttrs_dict F.slot_dict_values F.type_dict_values (thn (he.run pins s σ H _ I hq) fun u s1 ⟨x, H1, I1, rx, d, kvs, ex, hd, q⟩ => ?_)
  subst ex
  obtain rfl : u = Value.ref d := rx
  obtain ⟨hz, hs0, vs, kv, hdo⟩ := I1.hok d _ hd
  obtain ⟨ep, hat⟩ := hdo.dictAt
  have lk : kvs.length = vs.length := Paired.length kv
  have I2 : Inv X pins σ H1 { s1 with heap := s1.heap.push { cls := .type "dict_values", data := .fields #[.ref d] } } := I1.kept (t' := s1.toks) fun b ob q => Heap.get?_push_of_some _ q
  refine ⟨hdo.typeIs, hdo.mapOf.noDict, ?_⟩
  show wpAny _ _ (callWith cpos (.builtin "dict.values") [.ref d] [] []) _ X.xe s1
  refine method_meetsIn F.slot_dict_values F.entry_dict_values rfl (PySem.evalArgs_none ⟨rfl, hdo.typeIs, F.args_dict_values_1 _, _, meets_dict_values (mixKind X.prog X.w) d hs0, ⟨vs, hdo⟩, ?_⟩)
  refine Calls.spliced_nil ?_
  refine PySem.W.kdl_call (PySem.W.kdl_values (knd := mixKind X.prog X.w) (kvs := vs) (ep := ep)) (I1.ok.hd hc) ⟨⟨_, Heap.get?_push_size _ rfl, rfl, rfl⟩, hat.push _⟩ (by omega) fun h' tk acc c hk hS hi => ?_
  have ea : acc.toList = vs.map (·.2) := PySem.W.kdl_vals_eq acc.toList (by rw [Array.length_toList]; exact hi.1) fun j v hj => hi.2 j v (by rw [← hj, Array.getElem?_toList])
  have hn : H1 (s1.heap.push { cls := .type "dict_values", data := .fields #[.ref d] }).objs.size = none := I2.hok.fresh (Nat.le_refl _)
  refine ⟨.ref _, upd H1 (s1.heap.push { cls := .type "dict_values", data := .fields #[.ref d] }).objs.size (.lst (kvs.map (·.2))), I2.laid (t' := tk) hk (Nat.le_refl _) (show ObjOk X.prog X.w _ _ _ (.lst (kvs.map (·.2))) from ⟨by rw [List.length_map]; exact hz, acc.toList, c, by rw [ea]; exact vals_snd kv, ?_⟩), rfl, q _ hn⟩
  rw [Array.toArray_toList]; exact hS
end
section
variable {X : Cx} {o e f : Expr} {apos cpos : Pos} {m : Str}
theorem m2_of (h1 : attributeBase o m X.env (eval o X.env) = eval o X.env := by rfl)
    (h2 : ((backTo cpos (starEach [e, f] X.env)).all (fun x => !x.1) && (backToKw cpos (keywordEach [] X.env)).all (fun x => x.1.isSome)
    && decide (([e, f] : List Expr).length + ([] : List Keyword).length + (if ([] : List Keyword).isEmpty then 0 else 1) < 30)) = true := by rfl)
    (h3 : (apos.endLine == cpos.line) = true := by rfl) (h4 : backTo cpos (starEach [e, f] X.env) = [(false, eval e X.env), (false, eval f X.env)] := by rfl) : M2 X o m apos e f cpos := ⟨h1, h2, h3, h4⟩
end
/-! ## loops -/
section
variable {σ : L2.St} {H : Hp} {D : Ends} {tb r : TS} {K : PySem.W.Frag} {j : Nat}
theorem s_forR {ta : TA} {n : Int} (h : Args ta σ H [.int n]) (hn : -1000000000 ≤ n ∧ n < 1000000000) (Pv : Nat → L2.St → Hp → Prop) (h0 : Pv 0 σ H)
    (hs : ∀ (i : Nat) σ' H', (i : Int) < n → Pv i σ' H' → tb { D with nx := Pv (i + 1), ct := Pv (i + 1), bk := D.nx } (σ'.set j (some (.int (i : Int)))) H') (hd : ∀ σ' H', Pv n.toNat σ' H' → D.nx σ' H') : tFor (iRng1 ta) (gName j) tb D σ H :=
  h _ ⟨n, rfl, by omega, by omega, for_range (lo := 0) (n := n.toNat) Pv h0 (fun i σ' H' hi p => by
    have e0 : (0 : Int) + (i : Int) = (i : Int) := Int.zero_add _
    show tb { D with nx := Pv (i + 1), ct := Pv (i + 1), bk := D.nx } (σ'.set j (some (.int ((0 : Int) + (i : Int))))) H'
    rw [e0]
    exact hs i σ' H' (by omega) p) hd⟩
theorem q_forR {ta : TA} {n : Int} (h : Args ta σ H [.int n]) (hn : -1000000000 ≤ n ∧ n < 1000000000) (Pv : Nat → L2.St → Hp → Prop) (h0 : Pv 0 σ H)
    (hs : ∀ (i : Nat) σ' H', (i : Int) < n → Pv i σ' H' → tb { D with nx := Pv (i + 1), ct := Pv (i + 1), bk := r D } (σ'.set j (some (.int (i : Int)))) H') (hd : ∀ σ' H', Pv n.toNat σ' H' → r D σ' H') : tSeq (tFor (iRng1 ta) (gName j) tb) r D σ H :=
  s_forR (D := { D with nx := r D }) h hn Pv h0 hs hd
theorem s_forR2 {ta : TA} {lo hi : Int} (h : Args ta σ H [.int lo, .int hi]) (h1 : -1000000000 ≤ lo ∧ lo < 1000000000) (h2 : -1000000000 ≤ hi ∧ hi < 1000000000) (Pv : Nat → L2.St → Hp → Prop) (h0 : Pv 0 σ H)
    (hs : ∀ (i : Nat) σ' H', lo + (i : Int) < hi → Pv i σ' H' → tb { D with nx := Pv (i + 1), ct := Pv (i + 1), bk := D.nx } (σ'.set j (some (.int (lo + (i : Int))))) H') (hd : ∀ σ' H', Pv (hi - lo).toNat σ' H' → D.nx σ' H') : tFor (iRng2 ta) (gName j) tb D σ H :=
  h _ ⟨lo, hi, rfl, ⟨by omega, by omega, by omega, by omega⟩, for_range (lo := lo) (n := (hi - lo).toNat) Pv h0 (fun i σ' H' hi p => hs i σ' H' (by omega) p) hd⟩
theorem q_forR2 {ta : TA} {lo hi : Int} (h : Args ta σ H [.int lo, .int hi]) (h1 : -1000000000 ≤ lo ∧ lo < 1000000000) (h2 : -1000000000 ≤ hi ∧ hi < 1000000000) (Pv : Nat → L2.St → Hp → Prop) (h0 : Pv 0 σ H)
    (hs : ∀ (i : Nat) σ' H', lo + (i : Int) < hi → Pv i σ' H' → tb { D with nx := Pv (i + 1), ct := Pv (i + 1), bk := r D } (σ'.set j (some (.int (lo + (i : Int))))) H') (hd : ∀ σ' H', Pv (hi - lo).toNat σ' H' → r D σ' H') : tSeq (tFor (iRng2 ta) (gName j) tb) r D σ H :=
  s_forR2 (D := { D with nx := r D }) h h1 h2 Pv h0 hs hd
theorem s_forL {a : Addr} {xs : List V} {tl : TE} (h : Val tl σ H (.ref a)) (hx : SqL K H a xs) (Pv : Nat → L2.St → Hp → Prop) (h0 : Pv 0 σ H) (hl : ∀ i σ' H', i ≤ xs.length → Pv i σ' H' → SqL K H' a xs)
    (hs : ∀ i x σ' H', xs[i]? = some x → Pv i σ' H' → tb { D with nx := Pv (i + 1), ct := Pv (i + 1), bk := D.nx } (σ'.set j (some x)) H') (hd : ∀ σ' H', Pv xs.length σ' H' → D.nx σ' H') : tFor (iList K tl) (gName j) tb D σ H :=
  h _ ⟨a, rfl, ⟨xs, hx⟩, for_list Pv h0 hl hs hd⟩
theorem q_forL {a : Addr} {xs : List V} {tl : TE} (h : Val tl σ H (.ref a)) (hx : SqL K H a xs) (Pv : Nat → L2.St → Hp → Prop) (h0 : Pv 0 σ H) (hl : ∀ i σ' H', i ≤ xs.length → Pv i σ' H' → SqL K H' a xs)
    (hs : ∀ i x σ' H', xs[i]? = some x → Pv i σ' H' → tb { D with nx := Pv (i + 1), ct := Pv (i + 1), bk := r D } (σ'.set j (some x)) H') (hd : ∀ σ' H', Pv xs.length σ' H' → r D σ' H') : tSeq (tFor (iList K tl) (gName j) tb) r D σ H :=
  s_forL (D := { D with nx := r D }) h hx Pv h0 hl hs hd
theorem s_forT {a : Addr} {xs : List V} {tl : TE} (h : Val tl σ H (.ref a)) (hx : SqT K H a xs) (Pv : Nat → L2.St → Hp → Prop) (h0 : Pv 0 σ H) (hl : ∀ i σ' H', i ≤ xs.length → Pv i σ' H' → SqT K H' a xs)
    (hs : ∀ i x σ' H', xs[i]? = some x → Pv i σ' H' → tb { D with nx := Pv (i + 1), ct := Pv (i + 1), bk := D.nx } (σ'.set j (some x)) H') (hd : ∀ σ' H', Pv xs.length σ' H' → D.nx σ' H') : tFor (iTup K tl) (gName j) tb D σ H :=
  h _ ⟨a, rfl, ⟨xs, hx⟩, for_tup Pv h0 hl hs hd⟩
theorem q_forT {a : Addr} {xs : List V} {tl : TE} (h : Val tl σ H (.ref a)) (hx : SqT K H a xs) (Pv : Nat → L2.St → Hp → Prop) (h0 : Pv 0 σ H) (hl : ∀ i σ' H', i ≤ xs.length → Pv i σ' H' → SqT K H' a xs)
    (hs : ∀ i x σ' H', xs[i]? = some x → Pv i σ' H' → tb { D with nx := Pv (i + 1), ct := Pv (i + 1), bk := r D } (σ'.set j (some x)) H') (hd : ∀ σ' H', Pv xs.length σ' H' → r D σ' H') : tSeq (tFor (iTup K tl) (gName j) tb) r D σ H :=
  s_forT (D := { D with nx := r D }) h hx Pv h0 hl hs hd
/-- for i, x in enumerate(xs): the pair is a new tuple, taken apart -/
theorem s_forE {a : Addr} {xs : List V} {ta : TA} {i1 i2 : Nat} (h : Args ta σ H [.ref a]) (hx : SqL K H a xs) (Pv : Nat → L2.St → Hp → Prop) (h0 : Pv 0 σ H) (hl : ∀ i σ' H', i ≤ xs.length → Pv i σ' H' → SqL K H' a xs)
    (hs : ∀ (i : Nat) x σ' H' t, xs[i]? = some x → Pv i σ' H' → H' t = none → tb { D with nx := Pv (i + 1), ct := Pv (i + 1), bk := D.nx } ((σ'.set i1 (some (.int (i : Int)))).set i2 (some x)) (upd H' t (.tup [.int (i : Int), x]))) (hd : ∀ σ' H', Pv xs.length σ' H' → D.nx σ' H') :
    tFor (iEnum K ta) (gTup K 2 (gCons (gName i1) (gCons (gName i2) gNil))) tb D σ H :=
  h _ ⟨a, xs, rfl, hx, for_it (walk_enum (K := K) (a := a) (xs := xs)) Pv h0 hl (fun i x σ' H' H'' hi p y => by
    obtain ⟨t, u, v, ex, ht, eH, e1, e2⟩ := y
    have eu : V.int (i : Int) = u := Option.some.inj e1
    subst ex eH eu
    exact ⟨t, _, rfl, SqT.of upd_same, rfl, _, _, rfl, _, _, rfl, rfl, hs i v σ' H' t e2 p ht⟩) hd⟩
theorem q_forE {a : Addr} {xs : List V} {ta : TA} {i1 i2 : Nat} (h : Args ta σ H [.ref a]) (hx : SqL K H a xs) (Pv : Nat → L2.St → Hp → Prop) (h0 : Pv 0 σ H) (hl : ∀ i σ' H', i ≤ xs.length → Pv i σ' H' → SqL K H' a xs)
    (hs : ∀ (i : Nat) x σ' H' t, xs[i]? = some x → Pv i σ' H' → H' t = none → tb { D with nx := Pv (i + 1), ct := Pv (i + 1), bk := r D } ((σ'.set i1 (some (.int (i : Int)))).set i2 (some x)) (upd H' t (.tup [.int (i : Int), x]))) (hd : ∀ σ' H', Pv xs.length σ' H' → r D σ' H') :
    tSeq (tFor (iEnum K ta) (gTup K 2 (gCons (gName i1) (gCons (gName i2) gNil))) tb) r D σ H := s_forE (D := { D with nx := r D }) h hx Pv h0 hl hs hd
/-! ## tests that are known -/
variable {tt : TT} {t u : TS} {b : Bool} {te ta : TE} {x : V} {ts : TA}
theorem q_yes (h : Ans tt σ H b) (e : b = true) (q : t { D with nx := r D } σ H) : tSeq (tIfS tt t u) r D σ H := g_ifA h (fun _ => q) (fun z => by rw [e] at z; cases z)
theorem q_no (h : Ans tt σ H b) (e : b = false) (q : r D σ H) : tSeq (tIfS tt t tNext) r D σ H := g_ifA h (fun z => by rw [e] at z; cases z) (fun _ => q)
theorem g_yes (h : Ans tt σ H b) (e : b = true) (q : t D σ H) : tIfS tt t u D σ H := g_ifA h (fun _ => q) (fun z => by rw [e] at z; cases z)
theorem g_no (h : Ans tt σ H b) (e : b = false) (q : u D σ H) : tIfS tt t u D σ H := g_ifA h (fun z => by rw [e] at z; cases z) (fun _ => q)
theorem v_isN (ha : Val ta σ H x) : Val (tOp rIsN ta (tC .non)) σ H (.bl (decide (x = .non))) := v_op ha val_c fun _ q => ⟨rfl, q⟩
theorem v_notN (ha : Val ta σ H x) : Val (tOp rNotN ta (tC .non)) σ H (.bl (!decide (x = .non))) := v_op ha val_c fun _ q => ⟨rfl, q⟩
theorem v_isi {T A : String} (h : Args ts σ H [x, .ty T]) (ht : TyX K H x (.type A)) (hk : kitB A T = some b) : Val (tCB (rIsi K) ts) σ H (.bl b) := v_cb h fun _ q => ⟨x, .ty T, .type A, .type T, b, rfl, .ty T, ht, kit_ty hk, q⟩
theorem v_isiT {T A : String} (h : Args ts σ H [x, .ty T]) (ht : TyX K H x (.type A)) (hk : kitB A T = some true) : Val (tCB (rIsi K) ts) σ H (.bl true) := v_isi h ht hk
theorem v_isiF {T A : String} (h : Args ts σ H [x, .ty T]) (ht : TyX K H x (.type A)) (hk : kitB A T = some false) : Val (tCB (rIsi K) ts) σ H (.bl false) := v_isi h ht hk
theorem v_ixS {p : Addr} {xs : List V} {tb : TE} {n : Int} {v : V} (ha : Val ta σ H (.ref p)) (hb : Val tb σ H (.int n)) (h : SqL K H p xs ∨ SqT K H p xs) (e : atI xs n = some v) : Val (tOp (rIx K) ta tb) σ H v := v_op ha hb fun _ q => by
  rcases h with h | h
  · exact Or.inl ⟨p, xs, n, v, rfl, rfl, h, e, q⟩
  · exact Or.inr (Or.inl ⟨p, xs, n, v, rfl, rfl, h, e, q⟩)
end

/-! ## ComSp -/
/-! ## heaps: all but S is kept -/
def Kp (S : List Addr) (H H' : Hp) : Prop := ∀ b o, b ∉ S → H b = some o → H' b = some o
theorem Kp.refl (S : List Addr) (H : Hp) : Kp S H H := fun _ _ _ e => e
theorem Kp.trans {S : List Addr} {H H1 H2 : Hp} (a : Kp S H H1) (b : Kp S H1 H2) : Kp S H H2 := fun c o n e => b c o n (a c o n e)
theorem Kp.mono {S T : List Addr} {H H1 : Hp} (a : Kp S H H1) (h : ∀ x ∈ S, x ∈ T) : Kp T H H1 := fun c o n e => a c o (fun z => n (h c z)) e
theorem Kp.upd {S : List Addr} {H H1 : Hp} {p : Addr} {o : HO} (a : Kp S H H1) (h : p ∈ S) : Kp S H (upd H1 p o) := fun c u n e => by
  have hne : c ≠ p := fun z => n (by rw [z]; exact h)
  rw [upd_ne hne]
  exact a c u n e
theorem Kp.new {S : List Addr} {H H1 : Hp} {p : Addr} {o : HO} (a : Kp S H H1) (h : H1 p = none) : Kp S H (L2.upd H1 p o) := fun c u n e => by
  have e1 := a c u n e
  rw [upd_ne (ne_of_none e1 h)]
  exact e1
/-- an object that came behind H may change -/
theorem Kp.mut {S : List Addr} {H H1 : Hp} {p : Addr} {o : HO} (a : Kp S H H1) (h : H p = none) : Kp S H (L2.upd H1 p o) := fun c u n e => by
  rw [upd_ne (ne_of_none e h)]
  exact a c u n e
theorem Kp.free {S : List Addr} {H H1 : Hp} {p : Addr} (a : Kp S H H1) (hs : p ∉ S) (h : H1 p = none) : H p = none := by
  cases e : H p with
  | none => rfl
  | some o => rw [a p o hs e] at h; cases h
theorem Kp.of {H H1 : Hp} (S : List Addr) (a : Kp [] H H1) : Kp S H H1 := a.mono fun _ z => nomatch z
/-- a pool: what draws are made of -/
def Pool (H : Hp) (p : Addr) : Prop := ∃ a f c : Int, H p = some (.lst [.int a, .int f, .int c]) ∧ 0 ≤ a ∧ 0 ≤ c
theorem Pool.some {H : Hp} {p : Addr} (h : Pool H p) : ∃ o, H p = some o := let ⟨_, _, _, e, _⟩ := h; ⟨_, e⟩
theorem Pool.ne {H : Hp} {p q : Addr} (h : Pool H p) (hq : H q = none) : q ≠ p := fun z => by
  obtain ⟨_, _, _, e, _⟩ := h
  rw [z, e] at hq; cases hq
theorem Pool.upd {H : Hp} {p q : Addr} {o : HO} (h : Pool H p) (hn : p ≠ q) : Pool (upd H q o) p := by
  obtain ⟨a, f, c, e, z⟩ := h
  exact ⟨a, f, c, by rw [upd_ne hn]; exact e, z⟩
theorem Pool.new {H : Hp} {p q : Addr} {o : HO} (h : Pool H p) (hq : H q = none) : Pool (L2.upd H q o) p := h.upd (h.ne hq).symm
/-! ## data of depth n at most -/
def Dat (H : Hp) : Nat → PyData → V → Prop
  | _, .none, v => v = .non
  | _, .bool b, v => v = .bl b
  | _, .int i, v => v = .int i
  | _, .str s, v => v = .str s
  | n + 1, .list ds, v => ∃ a vs, v = .ref a ∧ H a = some (.lst vs) ∧ ds.length ≤ 1000000 ∧ vs.length = ds.length ∧ ∀ (i : Nat) d x, ds[i]? = some d → vs[i]? = some x → Dat H n d x
  | n + 1, .tuple ds, v => ∃ a vs, v = .ref a ∧ H a = some (.tup vs) ∧ ds.length ≤ 1000000 ∧ vs.length = ds.length ∧ ∀ (i : Nat) d x, ds[i]? = some d → vs[i]? = some x → Dat H n d x
  | _, _, _ => False
/-! ## promises of the law's common defs -/
def sp_l_cell (K : PySem.W.Frag) : Sp := fun vs H Q _ => ∃ (a : Addr) (ns : List Int) (k : Int), vs = [.ref a, .int k] ∧ SqL K H a (ns.map V.int) ∧ 0 ≤ k ∧ ∀ i, 0 ≤ i → Q (.int i) H
def sp_l_pool (K : PySem.W.Frag) : Sp := fun vs H Q _ => ∃ (a : Addr) (ns : List Int) (k : Int), vs = [.ref a, .int k] ∧ SqL K H a (ns.map V.int) ∧ 0 ≤ k ∧ k < 1000000 ∧
  ∀ p H', H p = none → Kp [] H H' → Pool H' p → Q (.ref p) H'
def sp_l_take : Sp := fun vs H Q _ => ∃ (p : Addr) (m : Int), vs = [.ref p, .int m] ∧ Pool H p ∧ 0 < m ∧ m < 1073741824 ∧ ∀ r H', 0 ≤ r → r < m → Kp [p] H H' → (∀ b, H b = none → H' b = none) → Pool H' p → Q (.int r) H'
/-- both the same data -/
def sp_l_same_n (n : Nat) : Sp := fun vs H Q _ => ∃ (x y : V) (d : PyData), vs = [x, y] ∧ Dat H n d x ∧ Dat H n d y ∧ Q (.bl true) H
def sp_l_same_r : Nat → Sp
  | 0 => fun _ _ _ _ => False
  | n + 1 => sp_l_same_n n
def sp_l_same : Sp := fun vs H Q E => ∃ n, n < 8 ∧ sp_l_same_n n vs H Q E
theorem len_l_cell {K : PySem.W.Frag} {vs H Q E} (h : sp_l_cell K vs H Q E) : vs.length = 2 := by obtain ⟨_, _, _, rfl, _⟩ := h; rfl
theorem len_l_pool {K : PySem.W.Frag} {vs H Q E} (h : sp_l_pool K vs H Q E) : vs.length = 2 := by obtain ⟨_, _, _, rfl, _⟩ := h; rfl
theorem len_l_take {vs H Q E} (h : sp_l_take vs H Q E) : vs.length = 2 := by obtain ⟨_, _, rfl, _⟩ := h; rfl
theorem len_l_same {n vs H Q E} (h : sp_l_same_n n vs H Q E) : vs.length = 2 := by obtain ⟨_, _, _, rfl, _⟩ := h; rfl
theorem call_cell {K : PySem.W.Frag} {H : Hp} {Q : VK} {E : XK} {a : Addr} {ns : List Int} {k : Int} (h : SqL K H a (ns.map V.int)) (h0 : 0 ≤ k) (q : ∀ i, 0 ≤ i → Q (.int i) H) : sp_l_cell K [.ref a, .int k] H Q E := ⟨a, ns, k, rfl, h, h0, q⟩
theorem call_pool {K : PySem.W.Frag} {H : Hp} {Q : VK} {E : XK} {a : Addr} {ns : List Int} {k : Int} (h : SqL K H a (ns.map V.int)) (h0 : 0 ≤ k) (h1 : k < 1000000) (q : ∀ p H', H p = none → Kp [] H H' → Pool H' p → Q (.ref p) H') : sp_l_pool K [.ref a, .int k] H Q E := ⟨a, ns, k, rfl, h, h0, h1, q⟩
theorem call_take {H : Hp} {Q : VK} {E : XK} {p : Addr} {m : Int} (h : Pool H p) (h0 : 0 < m) (h1 : m < 1073741824) (q : ∀ r H', 0 ≤ r → r < m → Kp [p] H H' → (∀ b, H b = none → H' b = none) → Pool H' p → Q (.int r) H') : sp_l_take [.ref p, .int m] H Q E := ⟨p, m, rfl, h, h0, h1, q⟩
theorem call_same {H : Hp} {Q : VK} {E : XK} {x y : V} (n : Nat) (d : PyData) (hn : n < 8) (hx : Dat H n d x) (hy : Dat H n d y) (q : Q (.bl true) H) : sp_l_same [x, y] H Q E := ⟨n, hn, x, y, d, rfl, hx, hy, q⟩
theorem atI_ints {ns : List Int} {i : Int} (h0 : 0 ≤ i) (h1 : i < ns.length) : atI (ns.map V.int) i = some (.int (ns.getD i.toNat 0)) := by
  refine atI_of h0 ?_
  rw [List.getElem?_map]
  have h : i.toNat < ns.length := by omega
  simp [List.getElem?_eq_getElem h, List.getD_eq_getElem?_getD]
/-! ## comprehensions: xs.filter g, mapped by f; the elements leave the heap (they are read behind any more of it) -/
section
variable {σ : L2.St} {H : Hp} {K : PySem.W.Frag} {j : Nat} {vs : List Nat} {tt : TT} {te tl : TE} {Q : VK}
theorem a_yes {σ : L2.St} {H : Hp} : Ans tYes σ H true := fun _ q => q
def lcT (xs : List V) (f : V → V) (g : V → Bool) (i : Nat) : List V := ((xs.take i).filter g).map f
theorem lcT_yes {xs : List V} {f : V → V} {g : V → Bool} {i : Nat} {x : V} (h : xs[i]? = some x) (hg : g x = true) : lcT xs f g (i + 1) = lcT xs f g i ++ [f x] := by
  unfold lcT
  rw [List.take_succ, h, List.filter_append, List.map_append]
  simp [hg]
theorem lcT_no {xs : List V} {f : V → V} {g : V → Bool} {i : Nat} {x : V} (h : xs[i]? = some x) (hg : g x = false) : lcT xs f g (i + 1) = lcT xs f g i := by
  unfold lcT
  rw [List.take_succ, h, List.filter_append, List.map_append]
  simp [hg]
theorem lcT_len (xs : List V) (f : V → V) (g : V → Bool) (i : Nat) : (lcT xs f g i).length ≤ xs.length := by
  unfold lcT
  rw [List.length_map]
  exact Nat.le_trans (List.length_filter_le _ _) (by rw [List.length_take]; omega)
def LcW (H : Hp) (xs : List V) (f : V → V) (g : V → Bool) (Dl : Addr) (i : Nat) (H' : Hp) : Prop := H' = upd H Dl (.lst (lcT xs f g i))
theorem lc_turn {H H' : Hp} {xs : List V} {f : V → V} {g : V → Bool} {Dl : Addr} {i : Nat} {x : V} {σ2 : L2.St} (p : LcW H xs f g Dl i H') (hi : xs[i]? = some x) (hz : xs.length ≤ 1000000) (hD : H Dl = none)
    (ht : Ans tt σ2 H' (g x)) (he : g x = true → Val te σ2 H' (f x)) :
    tt σ2 H' fun b H3 => if b = true then te σ2 H3 fun y H4 => ∃ acc, H4 Dl = some (.lst acc) ∧ acc.length < sizeLine ∧ LcW H xs f g Dl (i + 1) (upd H4 Dl (.lst (acc ++ [y]))) else LcW H xs f g Dl (i + 1) H3 := by
  unfold LcW at p
  subst p
  refine ht _ ?_
  cases hg : g x with
  | true =>
    refine iteT (he hg _ ⟨_, upd_same, ?_, ?_⟩)
    · have := lcT_len xs f g i
      exact Nat.lt_of_le_of_lt (Nat.le_trans this hz) (by decide)
    · show _ = _
      rw [upd_upd, lcT_yes hi hg]
  | false =>
    refine iteF ?_
    show _ = _
    rw [lcT_no hi hg]
theorem lcT_all (xs : List V) (f : V → V) (g : V → Bool) : lcT xs f g xs.length = (xs.filter g).map f := by unfold lcT; rw [List.take_length]
/-- over a list -/
theorem e_lcL {a : Addr} {xs : List V} (f : V → V) (g : V → Bool) (h : Val tl σ H (.ref a)) (hx : SqL K H a xs) (hz : xs.length ≤ 1000000) (hw : ∀ x, wipe ((wipe σ vs).set j (some x)) vs = wipe σ vs)
    (ht : ∀ (i : Nat) x Dl o, xs[i]? = some x → H Dl = none → Ans tt ((wipe σ vs).set j (some x)) (upd H Dl o) (g x)) (he : ∀ (i : Nat) x Dl o, xs[i]? = some x → g x = true → H Dl = none → Val te ((wipe σ vs).set j (some x)) (upd H Dl o) (f x))
    (q : ∀ Dl, H Dl = none → Q (.ref Dl) (upd H Dl (.lst ((xs.filter g).map f)))) : tLc (iList K tl) (gName j) tt te vs σ H Q :=
  h _ ⟨a, rfl, ⟨xs, hx⟩, fun Dl hD => lc_list (K := K) (a := a) (xs := xs) (LcW H xs f g Dl) rfl (fun i H' _ p => by
    unfold LcW at p
    subst p
    rcases hx with (hx | ⟨o, hx⟩) | hx
    · exact .inl (.inl (by rw [upd_ne (ne_of_none hx hD)]; exact hx))
    · exact .inl (.inr ⟨o, by rw [upd_ne (ne_of_none hx hD)]; exact hx⟩)
    · exact .inr hx) (fun i x H' hi p => ⟨hw x, lc_turn p hi hz hD (by rw [show H' = _ from p]; exact ht i x Dl _ hi hD) (fun hg => by rw [show H' = _ from p]; exact he i x Dl _ hi hg hD)⟩)
    (fun H' p => by rw [show H' = _ from p, lcT_all]; exact q Dl hD)⟩
/-- over a tuple -/
theorem e_lcT {a : Addr} {xs : List V} (f : V → V) (g : V → Bool) (h : Val tl σ H (.ref a)) (hx : SqT K H a xs) (hz : xs.length ≤ 1000000) (hw : ∀ x, wipe ((wipe σ vs).set j (some x)) vs = wipe σ vs)
    (ht : ∀ (i : Nat) x Dl o, xs[i]? = some x → H Dl = none → Ans tt ((wipe σ vs).set j (some x)) (upd H Dl o) (g x)) (he : ∀ (i : Nat) x Dl o, xs[i]? = some x → g x = true → H Dl = none → Val te ((wipe σ vs).set j (some x)) (upd H Dl o) (f x))
    (q : ∀ Dl, H Dl = none → Q (.ref Dl) (upd H Dl (.lst ((xs.filter g).map f)))) : tLc (iTup K tl) (gName j) tt te vs σ H Q :=
  h _ ⟨a, rfl, ⟨xs, hx⟩, fun Dl hD => lc_tup (K := K) (a := a) (xs := xs) (LcW H xs f g Dl) rfl (fun i H' _ p => by
    unfold LcW at p
    subst p
    rcases hx with (hx | ⟨o, hx⟩) | hx
    · exact .inl (.inl (by rw [upd_ne (ne_of_none hx hD)]; exact hx))
    · exact .inl (.inr ⟨o, by rw [upd_ne (ne_of_none hx hD)]; exact hx⟩)
    · exact .inr hx) (fun i x H' hi p => ⟨hw x, lc_turn p hi hz hD (by rw [show H' = _ from p]; exact ht i x Dl _ hi hD) (fun hg => by rw [show H' = _ from p]; exact he i x Dl _ hi hg hD)⟩)
    (fun H' p => by rw [show H' = _ from p, lcT_all]; exact q Dl hD)⟩
def rgI (n : Nat) : List V := (List.range n).map fun i => V.int (i : Nat)
theorem rgI_at {n i : Nat} (h : i < n) : (rgI n)[i]? = some (.int (i : Nat)) := by unfold rgI; simp [h]
theorem rgI_len (n : Nat) : (rgI n).length = n := by unfold rgI; simp
/-- over range(n) -/
theorem e_lcR {ta : TA} {n : Int} (f : V → V) (g : V → Bool) (h : Args ta σ H [.int n]) (hn : 0 ≤ n ∧ n ≤ 1000000) (hw : ∀ x, wipe ((wipe σ vs).set j (some x)) vs = wipe σ vs)
    (ht : ∀ (i : Nat) Dl o, (i : Int) < n → H Dl = none → Ans tt ((wipe σ vs).set j (some (.int (i : Nat)))) (upd H Dl o) (g (.int (i : Nat)))) (he : ∀ (i : Nat) Dl o, (i : Int) < n → g (.int (i : Nat)) = true → H Dl = none → Val te ((wipe σ vs).set j (some (.int (i : Nat)))) (upd H Dl o) (f (.int (i : Nat))))
    (q : ∀ Dl, H Dl = none → Q (.ref Dl) (upd H Dl (.lst (((rgI n.toNat).filter g).map f)))) : tLc (iRng1 ta) (gName j) tt te vs σ H Q :=
  h _ ⟨n, rfl, by omega, by omega, fun Dl hD => lc_range (lo := 0) (n := n.toNat) (LcW H (rgI n.toNat) f g Dl) rfl (fun i H' hi p => by
    have e0 : (0 : Int) + (i : Int) = (i : Int) := Int.zero_add _
    show wipe ((wipe σ vs).set j (some (.int ((0 : Int) + (i : Int))))) vs = wipe σ vs ∧ tt ((wipe σ vs).set j (some (.int ((0 : Int) + (i : Int))))) H' fun b H3 => if b = true then te ((wipe σ vs).set j (some (.int ((0 : Int) + (i : Int))))) H3 fun y H4 => ∃ acc, H4 Dl = some (.lst acc) ∧ acc.length < sizeLine ∧ LcW H (rgI n.toNat) f g Dl (i + 1) (upd H4 Dl (.lst (acc ++ [y]))) else LcW H (rgI n.toNat) f g Dl (i + 1) H3
    rw [e0]
    exact ⟨hw _, lc_turn p (rgI_at hi) (by rw [rgI_len]; omega) hD (by rw [show H' = _ from p]; exact ht i Dl _ (by omega) hD) (fun hg => by rw [show H' = _ from p]; exact he i Dl _ (by omega) hg hD)⟩)
    (fun H' p => by
      have e := lcT_all (rgI n.toNat) f g
      rw [rgI_len] at e
      rw [show H' = _ from p, e]
      exact q Dl hD)⟩
end
section
variable {σ : L2.St} {H : Hp} {K : PySem.W.Frag} {D : Ends} {r : TS} {ta tv to : TE} {a C dx p : Addr} {fs : List (Str × V)} {f : Str} {x y v : V} {ts : TA} {ys : List V} {Q : VK}
theorem v_fld (h : Val ta σ H (.ref a)) (ho : H a = some (.ins C dx fs)) (hc : Cls K C) (hn : NoAttr K C f) (hl : fs.lookup f = some v) : Val (tFld K ta f) σ H v := val_fld h ho hc hn hl
theorem s_fld (hv : Val tv σ H y) (ha : Val ta σ H (.ref a)) (ho : H a = some (.ins C dx fs)) (hc : Cls K C) (hn : NoAttr K C f) (hl : fs.length < 1000) (q : D.nx σ (upd H a (.ins C dx (putF f y fs)))) : sFld K ta tv f D σ H :=
  hv _ (ha _ ⟨a, C, dx, fs, rfl, ho, hc, hn, hl, q⟩)
theorem q_fld (hv : Val tv σ H y) (ha : Val ta σ H (.ref a)) (ho : H a = some (.ins C dx fs)) (hc : Cls K C) (hn : NoAttr K C f) (hl : fs.length < 1000) (q : r D σ (upd H a (.ins C dx (putF f y fs)))) : tSeq (sFld K ta tv f) r D σ H :=
  hv _ (ha _ ⟨a, C, dx, fs, rfl, ho, hc, hn, hl, q⟩)
/-- the value any -/
theorem s_fldc (h : tv σ H fun y H1 => ta σ H1 fun x H2 => ∃ a C dx fs, x = .ref a ∧ H2 a = some (.ins C dx fs) ∧ Cls K C ∧ NoAttr K C f ∧ fs.length < 1000 ∧ D.nx σ (upd H2 a (.ins C dx (putF f y fs)))) : sFld K ta tv f D σ H := h
theorem v_tupT (h : Args ts σ H [.ref p]) (ht : SqT K H p ys) : Val (tCB (rTupOf K) ts) σ H (.ref p) := v_cb h fun _ q => ⟨p, ys, rfl, .inr ⟨ht, q⟩⟩
theorem e_tupL (h : Args ts σ H [.ref p]) (hl : SqL K H p ys) (q : ∀ l, H l = none → Q (.ref l) (upd H l (.tup ys))) : tCB (rTupOf K) ts σ H Q := h _ ⟨p, ys, rfl, .inl ⟨hl, q⟩⟩
theorem e_listL (h : Args ts σ H [.ref p]) (hl : SqL K H p ys) (q : ∀ l, H l = none → Q (.ref l) (upd H l (.lst ys))) : tCB (rListOf K) ts σ H Q := h _ ⟨p, ys, rfl, .inl hl, q⟩
theorem e_listT (h : Args ts σ H [.ref p]) (hl : SqT K H p ys) (q : ∀ l, H l = none → Q (.ref l) (upd H l (.lst ys))) : tCB (rListOf K) ts σ H Q := h _ ⟨p, ys, rfl, .inr hl, q⟩
theorem e_lstRg {te : TE} {n : Int} (h : Val te σ H (.int n)) (hn : 0 ≤ n ∧ n ≤ 1000000) (q : ∀ l, H l = none → Q (.ref l) (upd H l (.lst (rgI n.toNat)))) : tLstRg (tRg1 te) σ H Q := h _ ⟨n, rfl, RgOk.of_le (by decide) (by omega) (by decide) hn.1, fun l hl => by
  have e : rgV 0 n = rgI n.toNat := by unfold rgV rgI; simp
  rw [e]; exact q l hl⟩
end
/-! ## slices, sums of lists -/
section
variable {σ : L2.St} {H : Hp} {K : PySem.W.Frag} {te : TE} {a : Addr} {xs : List V} {lo hi : Option Int} {tl th : TO} {Q : VK}
def Part (to : TO) (σ : L2.St) (H : Hp) (o : Option Int) : Prop := ∀ Q : Option Int → Hp → Prop, Q o H → to σ H Q
theorem pt_none : Part tNoPart σ H none := fun _ q => q
theorem pt_some {i : Int} (h : Val te σ H (.int i)) : Part (tPart te) σ H (some i) := fun _ q => h _ ⟨i, rfl, q⟩
theorem e_slL (h : Val te σ H (.ref a)) (h1 : Part tl σ H lo) (h2 : Part th σ H hi) (hs : SqL K H a xs) (q : ∀ p, H p = none → Q (.ref p) (upd H p (.lst (cutV xs lo hi)))) : tSl (rSlL K) te tl th σ H Q :=
  h _ (h1 _ (h2 _ ⟨a, xs, rfl, hs, q⟩))
theorem cut_to {xs : List V} {k : Int} (h0 : 0 ≤ k) : cutV xs none (some k) = xs.take k.toNat := by
  unfold cutV
  show (xs.drop 0).take ((if k < 0 then (k + (xs.length : Int)).toNat else min k.toNat xs.length) - 0) = _
  rw [if_neg (by omega), List.drop_zero, Nat.sub_zero]
  by_cases h : k.toNat ≤ xs.length
  · rw [Nat.min_eq_left h]
  · rw [Nat.min_eq_right (by omega), List.take_length, List.take_of_length_le (by omega)]
theorem cut_from {xs : List V} {k : Int} (h0 : 0 ≤ k) : cutV xs (some k) none = xs.drop k.toNat := by
  unfold cutV
  show (xs.drop (if k < 0 then (k + (xs.length : Int)).toNat else min k.toNat xs.length)).take (xs.length - (if k < 0 then (k + (xs.length : Int)).toNat else min k.toNat xs.length)) = _
  rw [if_neg (by omega)]
  by_cases h : k.toNat ≤ xs.length
  · rw [Nat.min_eq_left h]
    exact List.take_of_length_le (by rw [List.length_drop]; omega)
  · rw [Nat.min_eq_right (by omega), List.drop_length, List.take_nil, List.drop_of_length_le (by omega)]
theorem cut_all {xs : List V} : cutV xs none none = xs := by
  unfold cutV
  show (xs.drop 0).take (xs.length - 0) = xs
  rw [List.drop_zero, Nat.sub_zero, List.take_length]
theorem e_appc {to : TE} {p : Addr} {xs : List V} (ho : Val to σ H (.ref p)) (hp : H p = some (.lst xs)) (h : te σ H fun y H2 => tNil σ H2 fun ys H3 => rAppend (.ref p) (y :: ys) H3 Q) : tBM K "list" rAppend to (tCons te tNil) σ H Q :=
  ho _ ⟨Or.inl ⟨rfl, xs, SqL.of hp⟩, h⟩
theorem e_bmc {to : TE} {ts : TA} {T : String} {r : V → List V → Hp → VK → Prop} (h : to σ H fun x H1 => tyV K T x H1 ∧ ts σ H1 fun xs H2 => r x xs H2 Q) : tBM K T r to ts σ H Q := h
theorem e_setd {td ty tx : TE} (h : td σ H fun x H1 => ∃ a, x = .ref a ∧ IsD H1 a ∧ ty σ H1 fun y H2 => tx σ H2 fun z H3 => ∃ (kvs : List (Key × V)) (k : Key), H3 a = some (.dK kvs) ∧ y = kV k ∧ kvs.length < sizeLine ∧
  (∀ v, valV kvs k = some v → Q v H3) ∧ (valV kvs k = none → Q z (upd H3 a (.dK (putK kvs k z))))) : tDSetd td ty tx σ H Q := h
theorem e_listV (h : te σ H fun x H1 => ∃ (d : Addr) (kvs : List (Key × V)), x = .ref d ∧ H1 d = some (.dK kvs) ∧ ∀ l, H1 l = none → Q (.ref l) (upd H1 l (.lst (kvs.map (·.2))))) : tListV te σ H Q := h
theorem e_meth {C : Addr} {m : Str} {sp : Sp} {E : XK} {ta : TE} {ts : TA} {a dx : Addr} {fs : List (Str × V)} (h : Val ta σ H (.ref a)) (ha : H a = some (.ins C dx fs)) (hf : fs.lookup m = none) (q : ts σ H fun vs H2 => sp (.ref a :: (vs ++ [])) H2 Q E) : tMeth C m sp [] E ta ts σ H Q := h _ ⟨a, dx, fs, rfl, ha, hf, q⟩
theorem e_cat {l b : Addr} {xs zs : List V} (hl : H l = some (.lst xs)) (hb : H b = some (.lst zs)) (hz : xs.length + zs.length ≤ 1000000) (q : ∀ p, H p = none → Q (.ref p) (upd H p (.lst (xs ++ zs)))) : rCat (.ref l) (.ref b) H Q :=
  ⟨l, b, xs, zs, rfl, rfl, hl, hb, Nat.le_trans hz (by decide), q⟩
theorem sz_lt {n : Nat} (h : n ≤ 1000000) : n < sizeLine := Nat.lt_of_le_of_lt h (by decide)
theorem rgI_map (n : Nat) : rgI n = ((List.range n).map fun (i : Nat) => (i : Int)).map V.int := by
  unfold rgI
  rw [List.map_map]
  rfl
theorem map_int_inj {L M : List Int} (h : L.map V.int = M.map V.int) : L = M := by
  induction L generalizing M with
  | nil => cases M with
    | nil => rfl
    | cons b M => simp at h
  | cons a L ih => cases M with
    | nil => simp at h
    | cons b M =>
      simp at h
      rw [h.1, ih (by simpa using h.2)]
end

/-! ## ComTx -/
abbrev N_l_cell : List Str := ["_law_script", "_law_k"]
def t_l_cell (K : PySem.W.Frag) : TS :=
  (tSeq (tIfS (tTest (tOp oLt (tVar 1) (tCB (rLen K) (tCons (tVar 0) tNil)))) (tRet (tCB rAbs (tCons (tOp (rIxL K) (tVar 0) (tVar 1)) tNil))) tNext)
    (tRet (tC (.int 0))))
abbrev N_l_pool : List Str := ["_law_script", "_law_k", "_law_cell_here"]
def t_l_pool (K : PySem.W.Frag) : TS :=
  (tSeq (tAsg (tCall (sp_l_cell K) [] E0 (tCons (tVar 0) (tCons (tVar 1) tNil))) (gName 2))
    (tRet (tLst (tCons (tVar 2) (tCons (tCB rInt1 (tCons (tOp oGe (tVar 2) (tOp oPow (tC (.int 10)) (tC (.int 18)))) tNil)) (tCons (tOp oMul (tC (.int 1000)) (tVar 1)) tNil))))))
abbrev N_l_take : List Str := ["_law_pool_here", "_law_many", "_law_mixed", "_law_drawn"]
def t_l_take (K : PySem.W.Frag) : TS :=
  (tSeq (tIfS (tAnd (tTest (tOp rEq (tOp (rIxL K) (tVar 0) (tC (.int 1))) (tC (.int 1)))) (tTest (tOp oGt (tOp (rIxL K) (tVar 0) (tC (.int 0))) (tC (.int 1))))) (tSeq (tAsg (tOp oMod (tCB rInt1 (tCons (tOp (rIxL K) (tVar 0) (tC (.int 0))) tNil)) (tVar 1)) (gName 3))
    (tSeq (tAsg (tOp oDiv (tOp (rIxL K) (tVar 0) (tC (.int 0))) (tVar 1)) (gSub (tVar 0) (tC (.int 0)) rSetL))
    (tRet (tVar 3)))) tNext)
    (tSeq (tAsg (tOp oAdd (tOp (rIxL K) (tVar 0) (tC (.int 2))) (tC (.int 1))) (gSub (tVar 0) (tC (.int 2)) rSetL))
    (tSeq (tAsg (tOp oMod (tCB rInt1 (tCons (tOp oAdd (tOp oMul (tOp oAdd (tOp (rIxL K) (tVar 0) (tC (.int 0))) (tC (.int 7))) (tC (.int 48271))) (tOp oMul (tOp (rIxL K) (tVar 0) (tC (.int 2))) (tC (.int 69621)))) tNil)) (tC (.int 2147483629))) (gName 2))
    (tSeq (tAsg (tOp oMod (tCB rInt1 (tCons (tOp oAdd (tOp oMul (tVar 2) (tC (.int 16807))) (tOp oMul (tOp (rIxL K) (tVar 0) (tC (.int 2))) (tC (.int 7919)))) tNil)) (tC (.int 2147483587))) (gName 2))
    (tSeq (tIfS (tTest (tOp oGt (tOp (rIxL K) (tVar 0) (tC (.int 0))) (tC (.int 15)))) (tAsg (tOp oMod (tCB rInt1 (tCons (tOp oMul (tOp oDiv (tVar 2) (tC (.int 7))) (tOp oAdd (tOp oAdd (tOp oDiv (tVar 2) (tC (.int 1009))) (tOp (rIxL K) (tVar 0) (tC (.int 2)))) (tC (.int 3)))) tNil)) (tC (.int 2147483563))) (gName 2)) tNext)
    (tRet (tOp oMod (tCB rInt1 (tCons (tOp oDiv (tVar 2) (tC (.int 11))) tNil)) (tVar 1))))))))
abbrev N_l_same : List Str := ["_law_got", "_law_due", "_law_k"]
def t_l_same (K : PySem.W.Frag) (sp : Sp) : TS :=
  (tSeq (tIfS (tOr (tB (tCB (rIsi K) (tCons (tVar 0) (tCons (tC (.ty "bool")) tNil)))) (tB (tCB (rIsi K) (tCons (tVar 1) (tCons (tC (.ty "bool")) tNil))))) (tRet (tAndV (tCB (rIsi K) (tCons (tVar 0) (tCons (tC (.ty "bool")) tNil))) (tAndV (tCB (rIsi K) (tCons (tVar 1) (tCons (tC (.ty "bool")) tNil))) (tOp rEq (tVar 0) (tVar 1))))) tNext)
    (tSeq (tIfS (tOr (tTest (tOp rIsN (tVar 0) (tC .non))) (tTest (tOp rIsN (tVar 1) (tC .non)))) (tRet (tAndV (tOp rIsN (tVar 0) (tC .non)) (tOp rIsN (tVar 1) (tC .non)))) tNext)
    (tSeq (tIfS (tB (tCB (rIsi K) (tCons (tVar 1) (tCons (tC (.ty "int")) tNil)))) (tRet (tAndV (tCB (rIsi K) (tCons (tVar 0) (tCons (tC (.ty "int")) tNil))) (tOp rEq (tVar 0) (tVar 1)))) tNext)
    (tSeq (tIfS (tB (tCB (rIsi K) (tCons (tVar 1) (tCons (tC (.ty "str")) tNil)))) (tRet (tAndV (tCB (rIsi K) (tCons (tVar 0) (tCons (tC (.ty "str")) tNil))) (tOp rEq (tVar 0) (tVar 1)))) tNext)
    (tSeq (tIfS (tAnd (tB (tCB (rIsi K) (tCons (tVar 1) (tCons (tC (.ty "list")) tNil)))) (tNot (tB (tCB (rIsi K) (tCons (tVar 0) (tCons (tC (.ty "list")) tNil)))))) (tRet (tC (.bl false))) tNext)
    (tSeq (tIfS (tAnd (tB (tCB (rIsi K) (tCons (tVar 1) (tCons (tC (.ty "tuple")) tNil)))) (tNot (tB (tCB (rIsi K) (tCons (tVar 0) (tCons (tC (.ty "tuple")) tNil)))))) (tRet (tC (.bl false))) tNext)
    (tSeq (tIfS (tTest (tOp rNe (tCB (rLen K) (tCons (tVar 0) tNil)) (tCB (rLen K) (tCons (tVar 1) tNil)))) (tRet (tC (.bl false))) tNext)
    (tSeq (tFor (iRng1 (tCons (tCB (rLen K) (tCons (tVar 1) tNil)) tNil)) (gName 2) (tIfS (tNot (tB (tCall (sp) [] E0 (tCons (tOp (rIx K) (tVar 0) (tVar 2)) (tCons (tOp (rIx K) (tVar 1) (tVar 2)) tNil))))) (tRet (tC (.bl false))) tNext))
    (tRet (tC (.bl true)))))))))))

/-! ## ComPu -/
/-! ### the walk's own lines: "c" a side condition, "h" what stands at an address, "s" a list that is read, "at" an item, "v" a value, "a" an answer, "ar" arguments -/
local macro_rules | `(tactic| walk_at "c") => `(tactic| first | assumption | (with_reducible rfl) | decide | omega | exact Or.inr ⟨by first | decide | omega, by first | decide | omega⟩ | exact Or.inl ⟨by first | decide | omega, by first | decide | omega⟩ | exact ⟨by first | decide | omega, by first | decide | omega⟩ | exact ⟨by decide, by decide, by decide⟩)
local macro_rules | `(tactic| walk_at "ne") => `(tactic| first | assumption | (exact Ne.symm (by assumption)) | (exact ne_of_none (by assumption) (by assumption)) | (exact Ne.symm (ne_of_none (by assumption) (by assumption))))
local macro_rules | `(tactic| walk_at "h") => `(tactic| first | assumption | exact upd_same | (refine Eq.trans (upd_ne ?_) ?_; walk_at "ne"; walk_at "h"))
local macro_rules | `(tactic| walk_at "s") => `(tactic| first | assumption | (exact SqL.of (by walk_at "h")) | (exact SqT.of (by walk_at "h")))
local macro_rules | `(tactic| walk_at "at") => `(tactic| first | rfl | exact atI_ints (by omega) (by omega))
local macro_rules | `(tactic| walk_at "ty") => `(tactic| first | exact .base (.int _) | exact .base (.bl _) | exact .base .non | exact .base (.str _) | exact .base (.lst (by walk_at "h")) | exact .base (.tup (by walk_at "h")))
local macro_rules | `(tactic| walk_at "v") => `(tactic| first
  | (with_reducible exact val_c)
  | ((with_reducible apply val_var); rfl)
  | ((with_reducible apply v_I0); walk_at "v"; walk_at "v")
  | ((with_reducible apply v_I); walk_at "v"; walk_at "v"; walk_at "c")
  | ((with_reducible apply v_U); walk_at "v")
  | ((with_reducible apply v_eq); walk_at "v"; walk_at "v"; rfl)
  | ((with_reducible apply v_ne); walk_at "v"; walk_at "v"; rfl)
  | ((with_reducible apply v_ixL); walk_at "v"; walk_at "v"; walk_at "s"; walk_at "at")
  | ((with_reducible apply v_ixT); walk_at "v"; walk_at "v"; walk_at "s"; walk_at "at")
  | ((with_reducible apply v_len); walk_at "ar"; walk_at "s")
  | ((with_reducible apply v_lenT); walk_at "ar"; walk_at "s")
  | ((with_reducible apply v_abs); walk_at "ar")
  | ((with_reducible apply v_max2); walk_at "ar")
  | ((with_reducible apply v_min2); walk_at "ar")
  | ((with_reducible apply v_intI); walk_at "ar")
  | ((with_reducible apply v_intB); walk_at "ar")
  | ((with_reducible apply v_chain); walk_at "v"; walk_at "v"; walk_at "v"; exact i_B0; exact i_B0)
  | ((with_reducible apply v_chain3); walk_at "v"; walk_at "v"; walk_at "v"; walk_at "v"; exact i_B0; exact i_B0; exact i_B0)
  | ((with_reducible apply v_andV); walk_at "v"; (intro _; walk_at "v"))
  | ((with_reducible apply v_orV); walk_at "v"; (intro _; walk_at "v"))
  | ((with_reducible apply v_notV); walk_at "v")
  | ((with_reducible apply v_isN); walk_at "v")
  | ((with_reducible apply v_notN); walk_at "v")
  | ((with_reducible apply v_isiT); walk_at "ar"; walk_at "ty"; decide +kernel)
  | ((with_reducible apply v_isiF); walk_at "ar"; walk_at "ty"; decide +kernel)
  | ((with_reducible apply v_if); walk_at "a"; (intro _; walk_at "v"); (intro _; walk_at "v")))
local macro_rules | `(tactic| walk_at "ar") => `(tactic| first
  | (with_reducible exact ar_nil)
  | ((with_reducible apply ar_cons); walk_at "v"; walk_at "ar"))
local macro_rules | `(tactic| walk_at "a") => `(tactic| first
  | ((with_reducible apply a_test); walk_at "v")
  | ((with_reducible apply a_B); walk_at "v")
  | ((with_reducible apply a_not); walk_at "a")
  | ((with_reducible apply a_and); walk_at "a"; (intro _; walk_at "a"))
  | ((with_reducible apply a_or); walk_at "a"; (intro _; walk_at "a")))
local macro_rules | `(tactic| walk_at "call") => `(tactic| refine g_call (g_args (by walk_at "ar") ?_))
theorem pure_l_cell {K : PySem.W.Frag} {vs H Q E} (h : sp_l_cell K vs H Q E) : t_l_cell K { nx := fun _ H' => Q .non H', rt := Q } (start N_l_cell vs) H := by
  obtain ⟨a, ns, k, rfl, hS, h0, q⟩ := h
  refine q_when (by walk_at "a") (fun hb => ?_) (fun hb => ?_)
  · have hk : k < (ns.length : Int) := by simpa using hb
    refine g_ret (g_val (by walk_at "v") (q _ ?_))
    split <;> omega
  · exact q 0 (by decide)
theorem pure_l_pool {K : PySem.W.Frag} {vs H Q E} (h : sp_l_pool K vs H Q E) : t_l_pool K { nx := fun _ H' => Q .non H', rt := Q } (start N_l_pool vs) H := by
  obtain ⟨a, ns, k, rfl, hS, h0, h1, q⟩ := h
  refine q_set (g_call (g_args (by walk_at "ar") (call_cell hS h0 fun i hi => ?_)))
  refine g_ret (g_lst (g_args (by walk_at "ar") ⟨by show 3 ≤ sizeLine; decide, fun p hp => ?_⟩))
  refine q p _ hp (Kp.new (Kp.refl _ _) hp) ⟨i, _, 1000 * k, upd_same, hi, by omega⟩
theorem pure_l_take {K : PySem.W.Frag} {vs H Q E} (h : sp_l_take vs H Q E) : t_l_take K { nx := fun _ H' => Q .non H', rt := Q } (start N_l_take vs) H := by
  obtain ⟨p, m, rfl, ⟨a, f, c, hp, ha, hc⟩, h0, h1, q⟩ := h
  have nw : ∀ {o : HO} (b : Addr), H b = none → upd H p o b = none := fun {o} b hb => by
    have ne : b ≠ p := fun z => by rw [z, hp] at hb; cases hb
    rw [upd_ne ne]; exact hb
  refine q_when (by walk_at "a") (fun hb => ?_) (fun hb => ?_)
  · refine q_val (by walk_at "v") (q_setI (by walk_at "v") (by walk_at "v") (by walk_at "v") hp rfl ?_)
    refine g_ret (g_val (by walk_at "v") ?_)
    exact q _ _ (Int.emod_nonneg _ (by omega)) (Int.emod_lt_of_pos _ h0) ((Kp.refl _ _).upd (by simp)) nw ⟨_, _, _, upd_same, Int.ediv_nonneg ha (by omega), hc⟩
  · refine q_setI (by walk_at "v") (by walk_at "v") (by walk_at "v") hp rfl ?_
    have hp' : upd H p (.lst [.int a, .int f, .int (c + 1)]) p = some (.lst [.int a, .int f, .int (c + 1)]) := upd_same
    refine q_val (by walk_at "v") ?_
    generalize hx : ((a + 7) * 48271 + (c + 1) * 69621) % 2147483629 = x1
    refine q_val (by walk_at "v") ?_
    have b2 := Int.emod_nonneg (x1 * 16807 + (c + 1) * 7919) (show (2147483587 : Int) ≠ 0 by decide)
    have b3 := Int.emod_lt_of_pos (x1 * 16807 + (c + 1) * 7919) (show (0 : Int) < 2147483587 by decide)
    generalize (x1 * 16807 + (c + 1) * 7919) % 2147483587 = x2 at b2 b3 ⊢
    have fin : ∀ x3 : Int, tRet (tOp oMod (tCB rInt1 (tCons (tOp oDiv (tVar 2) (tC (.int 11))) tNil)) (tVar 1)) { nx := fun _ H' => Q .non H', rt := Q } [some (.ref p), some (.int m), some (.int x3), none] (upd H p (.lst [.int a, .int f, .int (c + 1)])) := fun x3 => by
      refine g_ret (g_val (by walk_at "v") ?_)
      exact q _ _ (Int.emod_nonneg _ (by omega)) (Int.emod_lt_of_pos _ h0) ((Kp.refl _ _).upd (by simp)) nw ⟨_, _, _, upd_same, ha, by omega⟩
    refine q_when (by walk_at "a") (fun hb => ?_) (fun hb => ?_)
    · refine g_asg (g_val (by walk_at "v") (fin _))
    · exact fin _
theorem same_scal {K : PySem.W.Frag} {H : Hp} {Q : VK} {sp : Sp} {x : V} {A : String} (ht : TyX K H x (.type A)) (hq : Q (.bl true) H) (hA : (x = .non ∧ A = "NoneType") ∨ ((∃ b, x = .bl b) ∧ A = "bool") ∨ ((∃ i, x = .int i) ∧ A = "int") ∨ ((∃ s, x = .str s) ∧ A = "str")) :
    t_l_same K sp { nx := fun _ H' => Q .non H', rt := Q } [some x, some x, none] H := by
  rcases hA with ⟨rfl, rfl⟩ | ⟨⟨b, rfl⟩, rfl⟩ | ⟨⟨i, rfl⟩, rfl⟩ | ⟨⟨s, rfl⟩, rfl⟩
  · refine q_no (by walk_at "a") (by rfl) (q_yes (by walk_at "a") (by rfl) (g_ret (g_val (by walk_at "v") ?_)))
    simpa using hq
  · refine q_yes (by walk_at "a") (by rfl) (g_ret (g_val (by walk_at "v") ?_))
    simpa using hq
  · refine q_no (by walk_at "a") (by rfl) (q_no (by walk_at "a") (by rfl) (q_yes (by walk_at "a") (by rfl) (g_ret (g_val (by walk_at "v") ?_))))
    simpa using hq
  · refine q_no (by walk_at "a") (by rfl) (q_no (by walk_at "a") (by rfl) (q_no (by walk_at "a") (by rfl) (q_yes (by walk_at "a") (by rfl) (g_ret (g_val (by walk_at "v") ?_)))))
    simpa using hq
theorem pure_l_same {K : PySem.W.Frag} {n : Nat} {vs H Q E} (h : sp_l_same_n n vs H Q E) : t_l_same K (sp_l_same_r n) { nx := fun _ H' => Q .non H', rt := Q } (start N_l_same vs) H := by
  obtain ⟨x, y, d, rfl, hx, hy, q⟩ := h
  show t_l_same K (sp_l_same_r n) _ [some x, some y, none] H
  cases d with
  | none =>
    have e1 : x = .non := by cases n <;> exact hx
    have e2 : y = .non := by cases n <;> exact hy
    subst e1 e2
    exact same_scal (.base .non) q (.inl ⟨rfl, rfl⟩)
  | bool b =>
    have e1 : x = .bl b := by cases n <;> exact hx
    have e2 : y = .bl b := by cases n <;> exact hy
    subst e1 e2
    exact same_scal (.base (.bl _)) q (.inr (.inl ⟨⟨_, rfl⟩, rfl⟩))
  | int b =>
    have e1 : x = .int b := by cases n <;> exact hx
    have e2 : y = .int b := by cases n <;> exact hy
    subst e1 e2
    exact same_scal (.base (.int _)) q (.inr (.inr (.inl ⟨⟨_, rfl⟩, rfl⟩)))
  | str b =>
    have e1 : x = .str b := by cases n <;> exact hx
    have e2 : y = .str b := by cases n <;> exact hy
    subst e1 e2
    exact same_scal (.base (.str _)) q (.inr (.inr (.inr ⟨⟨_, rfl⟩, rfl⟩)))
  | dict kvs => cases n <;> exact hx.elim
  | list ds =>
    cases n with
    | zero => exact hx.elim
    | succ n =>
      obtain ⟨a, us, rfl, ha, za, la, fa⟩ := hx
      obtain ⟨b, ws, rfl, hb, zb, lb, fb⟩ := hy
      have tx : TyX K H (.ref a) (.type "list") := .base (.lst ha)
      have ty : TyX K H (.ref b) (.type "list") := .base (.lst hb)
      have el : us.length = ws.length := la.trans lb.symm
      refine q_no (by walk_at "a") (by rfl) (q_no (by walk_at "a") (by rfl) (q_no (by walk_at "a") (by rfl) (q_no (by walk_at "a") (by rfl) (q_no (by walk_at "a") (by rfl) (q_no (by walk_at "a") (by rfl) (q_no (by walk_at "a") ?_ ?_))))))
      · simp [el]
      refine q_forR (by walk_at "ar") ?_ (fun i σ' H' => H' = H ∧ ∃ k, σ' = [some (.ref a), some (.ref b), k]) ⟨rfl, _, rfl⟩ ?_ ?_
      · omega
      · rintro i σ' H' hi ⟨rfl, k, rfl⟩
        have h1 : i < us.length := by omega
        have h2 : i < ws.length := by omega
        have h3 : i < ds.length := by omega
        refine g_no (b := !true) (a_not ?_) rfl ⟨rfl, _, rfl⟩
        intro Q' q'
        refine g_B (g_call (g_args (ar_cons (v_ixS (v := us[i]) (by walk_at "v") (by walk_at "v") (.inl (SqL.of ha)) (atI_nat (List.getElem?_eq_getElem h1))) (ar_cons (v_ixS (v := ws[i]) (by walk_at "v") (by walk_at "v") (.inl (SqL.of hb)) (atI_nat (List.getElem?_eq_getElem h2))) ar_nil)) ?_))
        exact ⟨_, _, ds[i], rfl, fa i _ _ (List.getElem?_eq_getElem h3) (List.getElem?_eq_getElem h1), fb i _ _ (List.getElem?_eq_getElem h3) (List.getElem?_eq_getElem h2), true, rfl, q'⟩
      · rintro σ' H' ⟨rfl, k, rfl⟩
        exact q
  | tuple ds =>
    cases n with
    | zero => exact hx.elim
    | succ n =>
      obtain ⟨a, us, rfl, ha, za, la, fa⟩ := hx
      obtain ⟨b, ws, rfl, hb, zb, lb, fb⟩ := hy
      have tx : TyX K H (.ref a) (.type "tuple") := .base (.tup ha)
      have ty : TyX K H (.ref b) (.type "tuple") := .base (.tup hb)
      have el : us.length = ws.length := la.trans lb.symm
      refine q_no (by walk_at "a") (by rfl) (q_no (by walk_at "a") (by rfl) (q_no (by walk_at "a") (by rfl) (q_no (by walk_at "a") (by rfl) (q_no (by walk_at "a") (by rfl) (q_no (by walk_at "a") (by rfl) (q_no (by walk_at "a") ?_ ?_))))))
      · simp [el]
      refine q_forR (by walk_at "ar") ?_ (fun i σ' H' => H' = H ∧ ∃ k, σ' = [some (.ref a), some (.ref b), k]) ⟨rfl, _, rfl⟩ ?_ ?_
      · omega
      · rintro i σ' H' hi ⟨rfl, k, rfl⟩
        have h1 : i < us.length := by omega
        have h2 : i < ws.length := by omega
        have h3 : i < ds.length := by omega
        refine g_no (b := !true) (a_not ?_) rfl ⟨rfl, _, rfl⟩
        intro Q' q'
        refine g_B (g_call (g_args (ar_cons (v_ixS (v := us[i]) (by walk_at "v") (by walk_at "v") (.inr (SqT.of ha)) (atI_nat (List.getElem?_eq_getElem h1))) (ar_cons (v_ixS (v := ws[i]) (by walk_at "v") (by walk_at "v") (.inr (SqT.of hb)) (atI_nat (List.getElem?_eq_getElem h2))) ar_nil)) ?_))
        exact ⟨_, _, ds[i], rfl, fa i _ _ (List.getElem?_eq_getElem h3) (List.getElem?_eq_getElem h1), fb i _ _ (List.getElem?_eq_getElem h3) (List.getElem?_eq_getElem h2), true, rfl, q'⟩
      · rintro σ' H' ⟨rfl, k, rfl⟩
        exact q

/-! ## Sp -/
/-! ## spans -/
structure Row where
  s : Int
  e : Int
  l : Int
  m : Int
def Row.vs (r : Row) : List V := [.int r.s, .int r.e, .int r.l, .int r.m]
def Row.d (r : Row) : PyData := .tuple [.int r.s, .int r.e, .int r.l, .int r.m]
structure Row.Ok (T n : Int) (r : Row) : Prop where
  s0 : 0 ≤ r.s
  s1 : r.s < n
  e0 : 0 ≤ r.e
  e1 : r.e < n
  ne : r.s ≠ r.e
  l0 : 0 ≤ r.l
  lm : r.l ≤ r.m
  mT : r.m ≤ r.l + T - 1
  m9 : r.m ≤ 999
/-- the addresses ts hold the rows, as tuples -/
def RowsAt (H : Hp) (ts : List Addr) (rows : List Row) : Prop := ts.length = rows.length ∧ ∀ (i : Nat) t r, ts[i]? = some t → rows[i]? = some r → H t = some (.tup r.vs)
def SpansAt (H : Hp) (a : Addr) (rows : List Row) : Prop := ∃ ts : List Addr, H a = some (.lst (ts.map V.ref)) ∧ RowsAt H ts rows
theorem RowsAt.kp {S : List Addr} {H H' : Hp} {ts : List Addr} {rows : List Row} (h : RowsAt H ts rows) (k : Kp S H H') (hs : ∀ t xs, t ∈ S → H t ≠ some (.tup xs)) : RowsAt H' ts rows :=
  ⟨h.1, fun i t r e1 e2 => k t _ (fun z => hs t _ z (h.2 i t r e1 e2)) (h.2 i t r e1 e2)⟩
theorem RowsAt.nil {H : Hp} : RowsAt H [] [] := ⟨rfl, fun i t r e => by simp at e⟩
theorem RowsAt.snoc {H : Hp} {ts : List Addr} {rows : List Row} {t : Addr} {r : Row} (h : RowsAt H ts rows) (ht : H t = some (.tup r.vs)) : RowsAt H (ts ++ [t]) (rows ++ [r]) := by
  refine ⟨by simp [h.1], fun i u q e1 e2 => ?_⟩
  by_cases hi : i < ts.length
  · rw [List.getElem?_append_left hi] at e1
    rw [List.getElem?_append_left (by rw [← h.1]; exact hi)] at e2
    exact h.2 i u q e1 e2
  · have hi' : ts.length ≤ i := by omega
    rw [List.getElem?_append_right hi'] at e1
    rw [List.getElem?_append_right (by rw [← h.1]; exact hi')] at e2
    rw [← h.1] at e2
    cases e0 : i - ts.length with
    | zero =>
      rw [e0] at e1 e2
      cases e1; cases e2; exact ht
    | succ k => rw [e0] at e1; simp at e1
theorem RowsAt.take {H : Hp} {ts : List Addr} {rows : List Row} (h : RowsAt H ts rows) (k : Nat) : RowsAt H (ts.take k) (rows.take k) := by
  refine ⟨by simp [h.1], fun i u q e1 e2 => ?_⟩
  rw [List.getElem?_take] at e1 e2
  split at e1
  · rename_i hi
    rw [if_pos hi] at e2
    exact h.2 i u q e1 e2
  · cases e1
theorem pool_not_tup {H : Hp} {p t : Addr} {xs : List V} (h : Pool H p) (ht : t ∈ [p]) : H t ≠ some (.tup xs) := by
  obtain ⟨a, f, c, e, _⟩ := h
  have e2 : t = p := by simpa using ht
  intro z; rw [e2, e] at z; cases z
theorem pool_ne_refs {H : Hp} {p a : Addr} {ts : List Addr} (h : Pool H p) (ha : H a = some (.lst (ts.map V.ref))) : a ≠ p := fun z => by
  obtain ⟨x, f, c, e, _⟩ := h
  rw [z, e] at ha
  have q := HO.lst.inj (Option.some.inj ha)
  cases ts <;> simp at q
theorem pool_ne_tup {H : Hp} {p a : Addr} {xs : List V} (h : Pool H p) (ha : H a = some (.tup xs)) : a ≠ p := fun z => by
  obtain ⟨x, f, c, e, _⟩ := h
  rw [z, e] at ha; cases ha
/-! ## promises -/
def sp_is_window : Sp := fun vs H Q _ => ∃ T l m k : Int, vs = [.int T, .int l, .int m, .int k] ∧ Q (.bl (decide (0 ≤ l ∧ l ≤ m ∧ m ≤ l + T - 1 ∧ m ≤ k))) H
def sp_is_span (K : PySem.W.Frag) : Sp := fun vs H Q _ => ∃ (T n : Int) (a : Addr) (r : Row), vs = [.int T, .int n, .ref a] ∧ H a = some (.tup r.vs) ∧ r.Ok T n ∧ Q (.bl true) H
def joinL (L : List Int) (s e : Nat) : List Int := L.map fun x => if x = L.getD e 0 then L.getD s 0 else x
def sp_join_labels : Sp := fun vs H Q _ => ∃ (a : Addr) (L : List Int) (s e : Int), vs = [.ref a, .int s, .int e] ∧ H a = some (.lst (L.map V.int)) ∧ L.length ≤ 1000 ∧ 0 ≤ s ∧ s < L.length ∧ 0 ≤ e ∧ e < L.length ∧
  ∀ l H', H l = none → Kp [] H H' → H' l = some (.lst ((joinL L s.toNat e.toNat).map V.int)) → Q (.ref l) H'
def netF (T n : Int) (a : Addr) : List (Str × V) := putF "spans" (.ref a) (putF "events" (.int n) (putF "round_length" (.int T) []))
/-- a net at x -/
def NetAt (C : Addr) (H : Hp) (x : Addr) (T n : Int) (rows : List Row) : Prop := ∃ (dx a : Addr) (ts : List Addr), H x = some (.ins C dx (netF T n a)) ∧ H a = some (.tup (ts.map V.ref)) ∧ RowsAt H ts rows
def sp_Net___init__ (K : PySem.W.Frag) : Sp := fun vs H Q _ => ∃ (x dx a : Addr) (T n : Int) (rows : List Row), vs = [.ref x, .int T, .int n, .ref a] ∧ H x = some (.ins (He.ga K "Net") dx []) ∧ SpansAt H a rows ∧
  2 ≤ T ∧ T ≤ 60 ∧ 0 ≤ n ∧ n ≤ 12 ∧ rows.length ≤ 24 ∧ (∀ r ∈ rows, r.Ok T n) ∧ ∀ H', Kp [x] H H' → NetAt (He.ga K "Net") H' x T n rows → Q .non H'
/-- lists of lists of ints; the inner ones and the outer are new behind H0 -/
def ListsAt (H0 H : Hp) (a : Addr) (Ls : List (List Int)) : Prop := H0 a = none ∧ ∃ ts : List Addr, H a = some (.lst (ts.map V.ref)) ∧ ts.length = Ls.length ∧ ts.Nodup ∧ a ∉ ts ∧ ∀ (i : Nat) t L, ts[i]? = some t → Ls[i]? = some L → H0 t = none ∧ H t = some (.lst (L.map V.int))
/-- the labels behind the spans, as the program joins them -/
def labsP (n : Nat) (rows : List Row) : List Int := rows.foldl (fun L r => joinL L r.s.toNat r.e.toNat) ((List.range n).map fun (i : Nat) => (i : Int))
/-- events by label, in the order of first coming -/
def groupAdd (G : List (Int × List Int)) (l e : Int) : List (Int × List Int) := match G with
  | [] => [(l, [e])]
  | g :: r => if g.1 = l then (l, g.2 ++ [e]) :: r else g :: groupAdd r l e
def groupsP (L : List Int) : List (Int × List Int) := (List.range L.length).foldl (fun G i => groupAdd G (L.getD i 0) i) []
def piecesP (n : Nat) (rows : List Row) : List (List Int) := (groupsP (labsP n rows)).map (·.2)
def sp_Net_pieces (K : PySem.W.Frag) : Sp := fun vs H Q _ => ∃ (x : Addr) (T n : Int) (rows : List Row), vs = [.ref x] ∧ NetAt (He.ga K "Net") H x T n rows ∧ 0 ≤ n ∧ n ≤ 12 ∧ (∀ r ∈ rows, r.Ok T n) ∧
  ∀ l H', Kp [] H H' → ListsAt H H' l (piecesP n.toNat rows) → Q (.ref l) H'
def sp_l_length : Sp := fun vs H Q _ => ∃ p, vs = [.ref p] ∧ Pool H p ∧ ∀ T H', 2 ≤ T → T ≤ 60 → Kp [p] H H' → Pool H' p → Q (.int T) H'
def sp_l_perm : Sp := fun vs H Q _ => ∃ (p : Addr) (n : Int), vs = [.ref p, .int n] ∧ Pool H p ∧ 0 ≤ n ∧ n ≤ 1000 ∧ ∀ (l : Addr) (L : List Int) (H' : Hp), H l = none → Kp [p] H H' → Pool H' p → H' l = some (.lst (L.map V.int)) → (L.length : Int) = n → L.Nodup → (∀ x ∈ L, 0 ≤ x ∧ x < n) → Q (.ref l) H'
def sp_l_span : Sp := fun vs H Q _ => ∃ (p : Addr) (T s e : Int), vs = [.ref p, .int T, .int s, .int e] ∧ Pool H p ∧ 2 ≤ T ∧ T ≤ 60 ∧ ∀ t (r : Row) H', H t = none → Kp [p] H H' → Pool H' p → H' t = some (.tup r.vs) → r.s = s → r.e = e → 0 ≤ r.l → r.l ≤ r.m → r.m ≤ r.l + T - 1 → r.m ≤ 999 → Q (.ref t) H'
/-- some good spans -/
def GotSpans (p : Addr) (T n k : Int) (H : Hp) (Q : VK) : Prop := ∀ l rows H', H l = none → Kp [p] H H' → Pool H' p → SpansAt H' l rows → (rows.length : Int) ≤ k → (∀ r ∈ rows, r.Ok T n) → Q (.ref l) H'
def sp_l_any_spans : Sp := fun vs H Q _ => ∃ (p : Addr) (T n k : Int), vs = [.ref p, .int T, .int n, .int k] ∧ Pool H p ∧ 2 ≤ T ∧ T ≤ 60 ∧ 2 ≤ n ∧ n ≤ 12 ∧ 0 ≤ k ∧ k ≤ 24 ∧ GotSpans p T n k H Q
def sp_l_chained : Sp := fun vs H Q _ => ∃ (p : Addr) (T n : Int), vs = [.ref p, .int T, .int n] ∧ Pool H p ∧ 2 ≤ T ∧ T ≤ 60 ∧ 2 ≤ n ∧ n ≤ 12 ∧ GotSpans p T n 24 H Q
def sp_l_spans_of : Sp := fun vs H Q _ => ∃ (p : Addr) (T n : Int), vs = [.ref p, .int T, .int n] ∧ Pool H p ∧ 2 ≤ T ∧ T ≤ 60 ∧ 0 ≤ n ∧ n ≤ 12 ∧ GotSpans p T n 24 H Q
/-- the labels as the law draws them down -/
def lowL (L : List Int) (s e : Nat) : List Int := (L.set s (min (L.getD s 0) (L.getD e 0))).set e (min (L.getD s 0) (L.getD e 0))
def roundL (rows : List Row) (L : List Int) : List Int := rows.foldl (fun L r => lowL L r.s.toNat r.e.toNat) L
def labsL (n : Nat) (rows : List Row) : Nat → List Int
  | 0 => (List.range n).map fun (i : Nat) => (i : Int)
  | k + 1 => roundL rows (labsL n rows k)
def foundL (L : List Int) (n k : Nat) : List (List Int) := ((List.range k).filter fun (f : Nat) => L.getD f 0 == (f : Int)).map fun (f : Nat) => ((List.range n).filter fun (e : Nat) => L.getD e 0 == (f : Int)).map fun (e : Nat) => (e : Int)
def joinedL (n : Nat) (rows : List Row) : List (List Int) := foundL (labsL n rows n) n n
def sp_l_joined : Sp := fun vs H Q _ => ∃ (a : Addr) (T n : Int) (rows : List Row), vs = [.int n, .ref a] ∧ SpansAt H a rows ∧ 0 ≤ n ∧ n ≤ 12 ∧ rows.length ≤ 24 ∧ (∀ r ∈ rows, r.Ok T n) ∧
  ∀ l H', Kp [] H H' → ListsAt H H' l (joinedL n.toNat rows) → Q (.ref l) H'
/-- lists of lists, as they stand -/
def LLAt (H : Hp) (a : Addr) (Ls : List (List Int)) : Prop := ∃ ts : List Addr, H a = some (.lst (ts.map V.ref)) ∧ ts.length = Ls.length ∧ ∀ (i : Nat) t L, ts[i]? = some t → Ls[i]? = some L → H t = some (.lst (L.map V.int))
def sp_l_pieces_good (K : PySem.W.Frag) : Sp := fun vs H Q _ => ∃ (x a : Addr) (T n : Int) (rows : List Row), vs = [.ref x, .ref a] ∧ NetAt (He.ga K "Net") H x T n rows ∧ 0 ≤ n ∧ n ≤ 12 ∧ (∀ r ∈ rows, r.Ok T n) ∧ LLAt H a (piecesP n.toNat rows) ∧ ∀ H', Kp [] H H' → Q (.bl true) H'
def sp_law (K : PySem.W.Frag) : Sp := fun vs H Q _ => ∃ (a : Addr) (ns : List Int), vs = [.ref a] ∧ SqL K H a (ns.map V.int) ∧ ∀ H', Q (.bl true) H'
theorem start_law {K : PySem.W.Frag} {H : Hp} {a : Addr} {ns : List Int} {n : Nat} (hl : ns.length ≤ n) (hS : SqL K H a (ns.map V.int)) : sp_law K [.ref a] H (fun v _ => v = .bl true) fun _ _ _ => False := ⟨a, ns, rfl, hS, fun _ => rfl⟩
theorem len_is_window {vs H Q E} (h : sp_is_window vs H Q E) : vs.length = 4 := by obtain ⟨_, _, _, _, rfl, _⟩ := h; rfl
theorem len_is_span {K vs H Q E} (h : sp_is_span K vs H Q E) : vs.length = 3 := by obtain ⟨_, _, _, _, rfl, _⟩ := h; rfl
theorem len_join_labels {vs H Q E} (h : sp_join_labels vs H Q E) : vs.length = 3 := by obtain ⟨_, _, _, _, rfl, _⟩ := h; rfl
theorem len_Net___init__ {K vs H Q E} (h : sp_Net___init__ K vs H Q E) : vs.length = 4 := by obtain ⟨_, _, _, _, _, _, rfl, _⟩ := h; rfl
theorem len_Net_pieces {K vs H Q E} (h : sp_Net_pieces K vs H Q E) : vs.length = 1 := by obtain ⟨_, _, _, _, rfl, _⟩ := h; rfl
theorem len_l_length {vs H Q E} (h : sp_l_length vs H Q E) : vs.length = 1 := by obtain ⟨_, rfl, _⟩ := h; rfl
theorem len_l_perm {vs H Q E} (h : sp_l_perm vs H Q E) : vs.length = 2 := by obtain ⟨_, _, rfl, _⟩ := h; rfl
theorem len_l_span {vs H Q E} (h : sp_l_span vs H Q E) : vs.length = 4 := by obtain ⟨_, _, _, _, rfl, _⟩ := h; rfl
theorem len_l_any_spans {vs H Q E} (h : sp_l_any_spans vs H Q E) : vs.length = 4 := by obtain ⟨_, _, _, _, rfl, _⟩ := h; rfl
theorem len_l_chained {vs H Q E} (h : sp_l_chained vs H Q E) : vs.length = 3 := by obtain ⟨_, _, _, rfl, _⟩ := h; rfl
theorem len_l_spans_of {vs H Q E} (h : sp_l_spans_of vs H Q E) : vs.length = 3 := by obtain ⟨_, _, _, rfl, _⟩ := h; rfl
theorem len_l_joined {vs H Q E} (h : sp_l_joined vs H Q E) : vs.length = 2 := by obtain ⟨_, _, _, _, rfl, _⟩ := h; rfl
theorem len_l_pieces_good {K vs H Q E} (h : sp_l_pieces_good K vs H Q E) : vs.length = 2 := by obtain ⟨_, _, _, _, _, rfl, _⟩ := h; rfl
theorem len_law {K vs H Q E} (h : sp_law K vs H Q E) : vs.length = 1 := by obtain ⟨_, _, rfl, _⟩ := h; rfl

/-! ## Tx -/
abbrev N_is_window : List Str := ["round_length", "least", "most", "limit"]
def t_is_window (K : PySem.W.Frag) : TS :=
  (tRet (tAndV (tChain3 oLe oLe oLe (tC (.int 0)) (tVar 1) (tVar 2) (tOp oSub (tOp oAdd (tVar 1) (tVar 0)) (tC (.int 1)))) (tOp oLe (tVar 2) (tVar 3))))
abbrev N_is_span : List Str := ["round_length", "events", "span", "start", "end", "least", "most"]
def t_is_span (K : PySem.W.Frag) : TS :=
  (tSeq (tIfS (tTest (tOp rNe (tCB (rLen K) (tCons (tVar 2) tNil)) (tC (.int 4)))) (tRet (tC (.bl false))) tNext)
    (tSeq (tAsg (tVar 2) (gTup K 4 (gCons (gName 3) (gCons (gName 4) (gCons (gName 5) (gCons (gName 6) gNil))))))
    (tSeq (tIfS (tOr (tNot (tTest (tChain oLe oLt (tC (.int 0)) (tVar 3) (tVar 1)))) (tOr (tNot (tTest (tChain oLe oLt (tC (.int 0)) (tVar 4) (tVar 1)))) (tTest (tOp rEq (tVar 3) (tVar 4))))) (tRet (tC (.bl false))) tNext)
    (tRet (tCall (sp_is_window) [] E0 (tCons (tVar 0) (tCons (tVar 5) (tCons (tVar 6) (tCons (tC (.int 999)) tNil)))))))))
abbrev N_join_labels : List Str := ["labels", "first", "second", "label"]
def t_join_labels (K : PySem.W.Frag) : TS :=
  (tRet (tLc (iList K (tVar 0)) (gName 3) tYes (tIf (tTest (tOp rEq (tVar 3) (tOp (rIxL K) (tVar 0) (tVar 2)))) (tOp (rIxL K) (tVar 0) (tVar 1)) (tVar 3)) [3]))
abbrev N_Net___init__ : List Str := ["self", "round_length", "events", "spans", "place", "span"]
def t_Net___init__ (K : PySem.W.Frag) : TS :=
  (tSeq (tIfS (tNot (tTest (tChain oLe oLe (tC (.int 2)) (tVar 1) (tC (.int 60))))) tNever tNext)
    (tSeq (tIfS (tNot (tTest (tChain oLe oLe (tC (.int 0)) (tVar 2) (tC (.int 12))))) tNever tNext)
    (tSeq (tIfS (tTest (tOp oGt (tCB (rLen K) (tCons (tVar 3) tNil)) (tC (.int 24)))) tNever tNext)
    (tSeq (tFor (iEnum K (tCons (tVar 3) tNil)) (gTup K 2 (gCons (gName 4) (gCons (gName 5) gNil))) (tIfS (tNot (tB (tCall (sp_is_span K) [] E0 (tCons (tVar 1) (tCons (tVar 2) (tCons (tVar 5) tNil)))))) tNever tNext))
    (tSeq (sFld K (tVar 0) (tVar 1) "round_length")
    (tSeq (sFld K (tVar 0) (tVar 2) "events")
    (sFld K (tVar 0) (tCB (rTupOf K) (tCons (tLc (iList K (tVar 3)) (gName 5) tYes (tCB (rTupOf K) (tCons (tVar 5) tNil)) [5]) tNil)) "spans")))))))
abbrev N_Net_pieces : List Str := ["self", "labels", "span", "groups", "event", "label"]
def t_Net_pieces (K : PySem.W.Frag) : TS :=
  (tSeq (tAsg (tLstRg (tRg1 (tFld K (tVar 0) "events"))) (gName 1))
    (tSeq (tFor (iTup K (tFld K (tVar 0) "spans")) (gName 2) (tAsg (tCall (sp_join_labels) [] E0 (tCons (tVar 1) (tCons (tOp (rIxT K) (tVar 2) (tC (.int 0))) (tCons (tOp (rIxT K) (tVar 2) (tC (.int 1))) tNil)))) (gName 1)))
    (tSeq (tAsg tDNewK (gName 3))
    (tSeq (tFor (iEnum K (tCons (tVar 1) tNil)) (gTup K 2 (gCons (gName 4) (gCons (gName 5) gNil))) (tDrop (tBM K "list" rAppend (tDSetd (tVar 3) (tVar 5) (tLst tNil)) (tCons (tVar 4) tNil))))
    (tRet (tListV (tVar 3)))))))
abbrev N_l_length : List Str := ["_law_pool_here"]
def t_l_length (K : PySem.W.Frag) : TS :=
  (tSeq (tIfS (tTest (tOp rEq (tCall (sp_l_take) [] E0 (tCons (tVar 0) (tCons (tC (.int 3)) tNil))) (tC (.int 0)))) (tRet (tOp oAdd (tC (.int 2)) (tCall (sp_l_take) [] E0 (tCons (tVar 0) (tCons (tC (.int 59)) tNil))))) tNext)
    (tRet (tOp (rIxL K) (tLst (tCons (tC (.int 2)) (tCons (tC (.int 3)) (tCons (tC (.int 5)) (tCons (tC (.int 10)) (tCons (tC (.int 24)) (tCons (tC (.int 60)) tNil))))))) (tCall (sp_l_take) [] E0 (tCons (tVar 0) (tCons (tC (.int 6)) tNil))))))
abbrev N_l_perm : List Str := ["_law_pool_here", "_law_many", "_law_left", "_law_perm_here", "_law_k", "_law_at"]
def t_l_perm (K : PySem.W.Frag) : TS :=
  (tSeq (tAsg (tLstRg (tRg1 (tVar 1))) (gName 2))
    (tSeq (tAsg (tLst tNil) (gName 3))
    (tSeq (tFor (iRng1 (tCons (tVar 1) tNil)) (gName 4) (tSeq (tAsg (tCall (sp_l_take) [] E0 (tCons (tVar 0) (tCons (tCB (rLen K) (tCons (tVar 2) tNil)) tNil))) (gName 5))
    (tSeq (tDrop (tBM K "list" rAppend (tVar 3) (tCons (tOp (rIxL K) (tVar 2) (tVar 5)) tNil)))
    (tAsg (tOp rCat (tSl (rSlL K) (tVar 2) tNoPart (tPart (tVar 5))) (tSl (rSlL K) (tVar 2) (tPart (tOp oAdd (tVar 5) (tC (.int 1)))) tNoPart)) (gName 2)))))
    (tRet (tVar 3)))))
abbrev N_l_span : List Str := ["_law_pool_here", "_law_length_here", "_law_start", "_law_end", "_law_room", "_law_low"]
def t_l_span (K : PySem.W.Frag) : TS :=
  (tSeq (tAsg (tOp oMul (tC (.int 3)) (tVar 1)) (gName 4))
    (tSeq (tIfS (tTest (tOp rEq (tCall (sp_l_take) [] E0 (tCons (tVar 0) (tCons (tC (.int 6)) tNil))) (tC (.int 0)))) (tAsg (tC (.int 1000)) (gName 4)) tNext)
    (tSeq (tAsg (tCall (sp_l_take) [] E0 (tCons (tVar 0) (tCons (tVar 4) tNil))) (gName 5))
    (tRet (tTup (tCons (tVar 2) (tCons (tVar 3) (tCons (tVar 5) (tCons (tOp oAdd (tVar 5) (tCall (sp_l_take) [] E0 (tCons (tVar 0) (tCons (tCB rMin2 (tCons (tVar 1) (tCons (tOp oSub (tC (.int 1000)) (tVar 5)) tNil))) tNil)))) tNil)))))))))
abbrev N_l_any_spans : List Str := ["_law_pool_here", "_law_length_here", "_law_many", "_law_count", "_law_spans", "_law_k", "_law_start", "_law_end"]
def t_l_any_spans (K : PySem.W.Frag) : TS :=
  (tSeq (tAsg (tLst tNil) (gName 4))
    (tSeq (tFor (iRng1 (tCons (tVar 3) tNil)) (gName 5) (tSeq (tAsg (tCall (sp_l_take) [] E0 (tCons (tVar 0) (tCons (tVar 2) tNil))) (gName 6))
    (tSeq (tAsg (tOp oMod (tCB rInt1 (tCons (tOp oAdd (tOp oAdd (tVar 6) (tC (.int 1))) (tCall (sp_l_take) [] E0 (tCons (tVar 0) (tCons (tOp oSub (tVar 2) (tC (.int 1))) tNil)))) tNil)) (tVar 2)) (gName 7))
    (tDrop (tBM K "list" rAppend (tVar 4) (tCons (tCall (sp_l_span) [] E0 (tCons (tVar 0) (tCons (tVar 1) (tCons (tVar 6) (tCons (tVar 7) tNil))))) tNil))))))
    (tRet (tVar 4))))
abbrev N_l_chained : List Str := ["_law_pool_here", "_law_length_here", "_law_many", "_law_perm_here", "_law_spans", "_law_k", "_law_way"]
def t_l_chained (K : PySem.W.Frag) : TS :=
  (tSeq (tAsg (tCall (sp_l_perm) [] E0 (tCons (tVar 0) (tCons (tVar 2) tNil))) (gName 3))
    (tSeq (tAsg (tLst tNil) (gName 4))
    (tSeq (tFor (iRng1 (tCons (tOp oSub (tVar 2) (tC (.int 1))) tNil)) (gName 5) (tSeq (tAsg (tCall (sp_l_take) [] E0 (tCons (tVar 0) (tCons (tC (.int 8)) tNil))) (gName 6))
    (tIfS (tTest (tOp oGt (tVar 6) (tC (.int 4)))) (tDrop (tBM K "list" rAppend (tVar 4) (tCons (tCall (sp_l_span) [] E0 (tCons (tVar 0) (tCons (tVar 1) (tCons (tOp (rIxL K) (tVar 3) (tVar 5)) (tCons (tOp (rIxL K) (tVar 3) (tOp oAdd (tVar 5) (tC (.int 1)))) tNil))))) tNil))) (tIfS (tTest (tOp oGt (tVar 6) (tC (.int 0)))) (tDrop (tBM K "list" rAppend (tVar 4) (tCons (tCall (sp_l_span) [] E0 (tCons (tVar 0) (tCons (tVar 1) (tCons (tOp (rIxL K) (tVar 3) (tOp oAdd (tVar 5) (tC (.int 1)))) (tCons (tOp (rIxL K) (tVar 3) (tVar 5)) tNil))))) tNil))) tNext))))
    (tRet (tVar 4)))))
abbrev N_l_spans_of : List Str := ["_law_pool_here", "_law_length_here", "_law_many"]
def t_l_spans_of (K : PySem.W.Frag) : TS :=
  (tSeq (tIfS (tTest (tOp oLt (tVar 2) (tC (.int 2)))) (tRet (tLst tNil)) tNext)
    (tSeq (tIfS (tTest (tOp rEq (tCall (sp_l_take) [] E0 (tCons (tVar 0) (tCons (tC (.int 3)) tNil))) (tC (.int 0)))) (tRet (tCall (sp_l_chained) [] E0 (tCons (tVar 0) (tCons (tVar 1) (tCons (tVar 2) tNil))))) tNext)
    (tSeq (tIfS (tTest (tOp rEq (tCall (sp_l_take) [] E0 (tCons (tVar 0) (tCons (tC (.int 8)) tNil))) (tC (.int 0)))) (tRet (tCall (sp_l_any_spans) [] E0 (tCons (tVar 0) (tCons (tVar 1) (tCons (tVar 2) (tCons (tCall (sp_l_take) [] E0 (tCons (tVar 0) (tCons (tC (.int 25)) tNil))) tNil)))))) tNext)
    (tRet (tCall (sp_l_any_spans) [] E0 (tCons (tVar 0) (tCons (tVar 1) (tCons (tVar 2) (tCons (tCall (sp_l_take) [] E0 (tCons (tVar 0) (tCons (tC (.int 7)) tNil))) tNil)))))))))
abbrev N_l_joined : List Str := ["_law_many", "_law_spans", "_law_labels", "_law_k", "_law_found", "_law_first", "_law_span_here", "_law_low", "_law_event"]
def t_l_joined (K : PySem.W.Frag) : TS :=
  (tSeq (tAsg (tLstRg (tRg1 (tVar 0))) (gName 2))
    (tSeq (tFor (iRng1 (tCons (tVar 0) tNil)) (gName 3) (tFor (iList K (tVar 1)) (gName 6) (tSeq (tAsg (tCB rMin2 (tCons (tOp (rIxL K) (tVar 2) (tOp (rIxT K) (tVar 6) (tC (.int 0)))) (tCons (tOp (rIxL K) (tVar 2) (tOp (rIxT K) (tVar 6) (tC (.int 1)))) tNil))) (gName 7))
    (tSeq (tAsg (tVar 7) (gSub (tVar 2) (tOp (rIxT K) (tVar 6) (tC (.int 0))) rSetL))
    (tAsg (tVar 7) (gSub (tVar 2) (tOp (rIxT K) (tVar 6) (tC (.int 1))) rSetL))))))
    (tSeq (tAsg (tLst tNil) (gName 4))
    (tSeq (tFor (iRng1 (tCons (tVar 0) tNil)) (gName 5) (tIfS (tTest (tOp rEq (tOp (rIxL K) (tVar 2) (tVar 5)) (tVar 5))) (tDrop (tBM K "list" rAppend (tVar 4) (tCons (tLc (iRng1 (tCons (tVar 0) tNil)) (gName 8) (tTest (tOp rEq (tOp (rIxL K) (tVar 2) (tVar 8)) (tVar 5))) (tVar 8) [8]) tNil))) tNext))
    (tRet (tVar 4))))))
abbrev N_l_pieces_good : List Str := ["_law_net", "_law_due", "_law_got", "_law_inner"]
def t_l_pieces_good (K : PySem.W.Frag) : TS :=
  (tSeq (tAsg (tMeth (He.ga K "Net") "pieces" (sp_Net_pieces K) [] E0 (tVar 0) tNil) (gName 2))
    (tSeq (tIfS (tNot (tB (tCall (sp_l_same) [] E0 (tCons (tVar 2) (tCons (tVar 1) tNil))))) (tRet (tC (.bl false))) tNext)
    (tSeq (tDrop (tBM K "list" rAppend (tVar 2) (tCons (tLst (tCons (tC (.int 0)) tNil)) tNil)))
    (tSeq (tAsg (tOp (rIxL K) (tVar 2) (tC (.int 0))) (gName 3))
    (tSeq (tDrop (tBM K "list" rAppend (tVar 3) (tCons (tCB (rLen K) (tCons (tVar 1) tNil)) tNil)))
    (tRet (tCall (sp_l_same) [] E0 (tCons (tMeth (He.ga K "Net") "pieces" (sp_Net_pieces K) [] E0 (tVar 0) tNil) (tCons (tVar 1) tNil)))))))))
abbrev N_law : List Str := ["_law_script", "_law_pool_here", "_law_length_here", "_law_many", "_law_spans", "_law_count", "_law_net", "_law_other", "_law_due"]
def t_law (K : PySem.W.Frag) : TS :=
  (tSeq (tAsg (tCall (sp_l_pool K) [] E0 (tCons (tVar 0) (tCons (tC (.int 0)) tNil))) (gName 1))
    (tSeq (tAsg (tCall (sp_l_length) [] E0 (tCons (tVar 1) tNil)) (gName 2))
    (tSeq (tAsg (tCall (sp_l_take) [] E0 (tCons (tVar 1) (tCons (tC (.int 13)) tNil))) (gName 3))
    (tSeq (tAsg (tCall (sp_l_spans_of) [] E0 (tCons (tVar 1) (tCons (tVar 2) (tCons (tVar 3) tNil)))) (gName 4))
    (tSeq (tAsg (tCall (sp_l_take) [] E0 (tCons (tVar 1) (tCons (tOp oAdd (tCB (rLen K) (tCons (tVar 4) tNil)) (tC (.int 1))) tNil))) (gName 5))
    (tSeq (tAsg (tMake (He.ga K "Net") (sp_Net___init__ K) [] E0 (tCons (tVar 2) (tCons (tVar 3) (tCons (tCB (rListOf K) (tCons (tVar 4) tNil)) tNil)))) (gName 6))
    (tSeq (tAsg (tMake (He.ga K "Net") (sp_Net___init__ K) [] E0 (tCons (tVar 2) (tCons (tVar 3) (tCons (tSl (rSlL K) (tVar 4) tNoPart (tPart (tVar 5))) tNil)))) (gName 7))
    (tSeq (tAsg (tCall (sp_l_joined) [] E0 (tCons (tVar 3) (tCons (tVar 4) tNil))) (gName 8))
    (tSeq (tIfS (tOr (tNot (tB (tCall (sp_l_pieces_good K) [] E0 (tCons (tVar 6) (tCons (tVar 8) tNil))))) (tNot (tB (tCall (sp_l_pieces_good K) [] E0 (tCons (tVar 7) (tCons (tCall (sp_l_joined) [] E0 (tCons (tVar 3) (tCons (tSl (rSlL K) (tVar 4) tNoPart (tPart (tVar 5))) tNil))) tNil)))))) (tRet (tC (.bl false))) tNext)
    (tRet (tAndV (tCall (sp_l_same) [] E0 (tCons (tMeth (He.ga K "Net") "pieces" (sp_Net_pieces K) [] E0 (tVar 6) tNil) (tCons (tVar 8) tNil))) (tCall (sp_l_same) [] E0 (tCons (tFld K (tVar 6) "spans") (tCons (tCB (rTupOf K) (tCons (tVar 4) tNil)) tNil))))))))))))))

/-! ## Pu1 -/
structure NetK (K : PySem.W.Frag) : Prop where
  cl : Cls K (He.ga K "Net")
  nT : NoAttr K (He.ga K "Net") "round_length"
  nE : NoAttr K (He.ga K "Net") "events"
  nS : NoAttr K (He.ga K "Net") "spans"
theorem pure_is_window {K : PySem.W.Frag} {vs H Q E} (h : sp_is_window vs H Q E) : t_is_window K { nx := fun _ H' => Q .non H', rt := Q } (start N_is_window vs) H := by
  obtain ⟨T, l, m, k, rfl, q⟩ := h
  refine g_ret (g_val (by walk_at "v") ?_)
  simpa [Bool.and_assoc] using q
theorem pure_is_span {K : PySem.W.Frag} {vs H Q E} (h : sp_is_span K vs H Q E) : t_is_span K { nx := fun _ H' => Q .non H', rt := Q } (start N_is_span vs) H := by
  obtain ⟨T, n, a, r, rfl, ha, ok, q⟩ := h
  have := ok.s0; have := ok.s1; have := ok.e0; have := ok.e1; have hne := ok.ne; have := ok.l0; have := ok.lm; have := ok.mT; have := ok.m9
  refine q_no (by walk_at "a") (by rfl) ?_
  refine q_asg (g_val (by walk_at "v") ⟨a, _, rfl, SqT.of ha, rfl, _, _, rfl, _, _, rfl, _, _, rfl, _, _, rfl, rfl, ?_⟩)
  refine q_no (by walk_at "a") ?_ ?_
  · simp [hne]; omega
  refine g_ret (g_call (g_args (by walk_at "ar") ⟨T, r.l, r.m, 999, rfl, ?_⟩))
  rw [decide_eq_true (by omega)]
  exact q
theorem vif_int (z w u : Int) : (if decide (V.int z = V.int w) = true then V.int u else V.int z) = V.int (if z = w then u else z) := by
  by_cases h : z = w
  · simp [h]
  · simp [h]
theorem pure_join_labels {K : PySem.W.Frag} {vs H Q E} (h : sp_join_labels vs H Q E) : t_join_labels K { nx := fun _ H' => Q .non H', rt := Q } (start N_join_labels vs) H := by
  obtain ⟨a, L, s, e, rfl, ha, hz, s0, s1, e0, e1, q⟩ := h
  refine g_ret (e_lcL (fun x => match x with | .int z => .int (if z = L.getD e.toNat 0 then L.getD s.toNat 0 else z) | v => v) (fun _ => true) (by walk_at "v") (SqL.of ha) (by rw [List.length_map]; omega) (fun _ => rfl) (fun _ _ _ _ _ _ => a_yes) (fun i x Dl o hi _ hD => ?_) (fun Dl hD => ?_))
  · obtain ⟨z, hz, rfl⟩ : ∃ z, L[i]? = some z ∧ x = V.int z := by
      rw [List.getElem?_map] at hi
      cases e : L[i]? with
      | none => rw [e] at hi; cases hi
      | some u => rw [e] at hi; exact ⟨u, rfl, (Option.some.inj hi).symm⟩
    refine v_cast (by walk_at "v") ?_
    exact vif_int _ _ _
  · refine q Dl _ hD (Kp.new (Kp.refl _ _) hD) ?_
    rw [upd_same]
    simp [joinL, List.filter_eq_self.mpr]
theorem call_join {H : Hp} {Q : VK} {E : XK} {a : Addr} {L : List Int} {s e : Int} (ha : H a = some (.lst (L.map V.int))) (hz : L.length ≤ 1000) (s0 : 0 ≤ s) (s1 : s < L.length) (e0 : 0 ≤ e) (e1 : e < L.length)
    (q : ∀ l H', H l = none → Kp [] H H' → H' l = some (.lst ((joinL L s.toNat e.toNat).map V.int)) → Q (.ref l) H') : sp_join_labels [.ref a, .int s, .int e] H Q E := ⟨a, L, s, e, rfl, ha, hz, s0, s1, e0, e1, q⟩
theorem pure_l_length {K : PySem.W.Frag} {vs H Q E} (h : sp_l_length vs H Q E) : t_l_length K { nx := fun _ H' => Q .non H', rt := Q } (start N_l_length vs) H := by
  obtain ⟨p, rfl, hp, q⟩ := h
  refine q_whenc (g_test (g_op ?_))
  walk_at "call"
  refine call_take hp (by decide) (by decide) fun r H1 r0 r1 k1 _ p1 => ?_
  refine g_c (g_eq rfl ⟨_, rfl, g_if (fun hb => ?_) (fun hb => ?_)⟩)
  · refine g_ret (g_op (g_c ?_))
    walk_at "call"
    refine call_take p1 (by decide) (by decide) fun r2 H2 r20 r21 k2 _ p2 => g_I0 ?_
    exact q _ _ (by omega) (by omega) (k1.trans k2) p2
  · refine g_ret (g_op (g_lst (g_args (by walk_at "ar") ⟨by show 6 ≤ sizeLine; decide, fun l hl => ?_⟩)))
    have hlp := p1.ne hl
    walk_at "call"
    refine call_take (p1.new hl) (by decide) (by decide) fun r2 H2 r20 r21 k2 _ p2 => ?_
    have hL : H2 l = some (.lst [.int 2, .int 3, .int 5, .int 10, .int 24, .int 60]) := k2 l _ (by simpa using hlp) upd_same
    have kk : Kp [p] H H2 := k1.trans ((Kp.new (Kp.refl _ _) hl).trans k2)
    have fin : ∀ T : Int, 2 ≤ T → T ≤ 60 → atI [V.int 2, V.int 3, V.int 5, V.int 10, V.int 24, V.int 60] r2 = some (.int T) → rIxL K (V.ref l) (V.int r2) H2 Q := fun T t0 t1 e => ⟨l, _, r2, _, rfl, rfl, SqL.of hL, e, q T H2 t0 t1 kk p2⟩
    have hc : r2 = 0 ∨ r2 = 1 ∨ r2 = 2 ∨ r2 = 3 ∨ r2 = 4 ∨ r2 = 5 := by omega
    rcases hc with rfl | rfl | rfl | rfl | rfl | rfl
    · exact fin 2 (by decide) (by decide) rfl
    · exact fin 3 (by decide) (by decide) rfl
    · exact fin 5 (by decide) (by decide) rfl
    · exact fin 10 (by decide) (by decide) rfl
    · exact fin 24 (by decide) (by decide) rfl
    · exact fin 60 (by decide) (by decide) rfl
theorem call_length {H : Hp} {Q : VK} {E : XK} {p : Addr} (hp : Pool H p) (q : ∀ T H', 2 ≤ T → T ≤ 60 → Kp [p] H H' → Pool H' p → Q (.int T) H') : sp_l_length [.ref p] H Q E := ⟨p, rfl, hp, q⟩
theorem pure_l_span {K : PySem.W.Frag} {vs H Q E} (h : sp_l_span vs H Q E) : t_l_span K { nx := fun _ H' => Q .non H', rt := Q } (start N_l_span vs) H := by
  obtain ⟨p, T, s, e, rfl, hp, t0, t1, q⟩ := h
  refine q_val (by walk_at "v") ?_
  refine q_whenc (g_test (g_op ?_))
  walk_at "call"
  refine call_take hp (by decide) (by decide) fun r H1 r0 r1 k1 _ p1 => ?_
  have rest : ∀ room : Int, 0 < room → room ≤ 1000 → tSeq (tAsg (tCall (sp_l_take) [] E0 (tCons (tVar 0) (tCons (tVar 4) tNil))) (gName 5))
    (tRet (tTup (tCons (tVar 2) (tCons (tVar 3) (tCons (tVar 5) (tCons (tOp oAdd (tVar 5) (tCall (sp_l_take) [] E0 (tCons (tVar 0) (tCons (tCB rMin2 (tCons (tVar 1) (tCons (tOp oSub (tC (.int 1000)) (tVar 5)) tNil))) tNil)))) tNil)))))) { nx := fun _ H' => Q .non H', rt := Q } [some (.ref p), some (.int T), some (.int s), some (.int e), some (.int room), none] H1 := fun room b0 b1 => by
    refine q_set ?_
    walk_at "call"
    refine call_take p1 b0 (by omega) fun low H2 l0 l1 k2 _ p2 => ?_
    refine g_ret (g_tup (g_cons (g_val (by walk_at "v") (g_cons (g_val (by walk_at "v") (g_cons (g_val (by walk_at "v") (g_cons (g_op (g_val (by walk_at "v") ?_))))))))))
    walk_at "call"
    refine call_take p2 ?_ ?_ fun w H3 w0 w1 k3 _ p3 => ?_
    · split <;> omega
    · split <;> omega
    · have w2 : w < T ∧ w < 1000 - low := by
        split at w1 <;> constructor <;> omega
      refine g_I0 (g_nil ⟨by show 4 ≤ sizeLine; decide, fun t ht => ?_⟩)
      have htp := p3.ne ht
      have kk : Kp [p] H H3 := k1.trans (k2.trans k3)
      refine q t ⟨s, e, low, low + w⟩ _ (kk.free (by simpa using htp) ht) (kk.new ht) (p3.new ht) upd_same rfl rfl ?_ ?_ ?_ ?_
      · exact l0
      · show low ≤ low + w; omega
      · show low + w ≤ low + T - 1; omega
      · show low + w ≤ 999; omega
  refine g_c (g_eq rfl ⟨_, rfl, g_if (fun hb => ?_) (fun hb => ?_)⟩)
  · exact g_set (g_c (rest 1000 (by decide) (by decide)))
  · exact rest (3 * T) (by omega) (by omega)
theorem call_span {H : Hp} {Q : VK} {E : XK} {p : Addr} {T s e : Int} (hp : Pool H p) (t0 : 2 ≤ T) (t1 : T ≤ 60) (q : ∀ t (r : Row) H', H t = none → Kp [p] H H' → Pool H' p → H' t = some (.tup r.vs) → r.s = s → r.e = e → 0 ≤ r.l → r.l ≤ r.m → r.m ≤ r.l + T - 1 → r.m ≤ 999 → Q (.ref t) H') : sp_l_span [.ref p, .int T, .int s, .int e] H Q E := ⟨p, T, s, e, rfl, hp, t0, t1, q⟩

/-! ## Pu2 -/
theorem pure_l_perm {K : PySem.W.Frag} {vs H Q E} (h : sp_l_perm vs H Q E) : t_l_perm K { nx := fun _ H' => Q .non H', rt := Q } (start N_l_perm vs) H := by
  obtain ⟨p, n, rfl, hp, n0, n1, q⟩ := h
  refine q_set (e_lstRg (by walk_at "v") ⟨n0, by omega⟩ fun lf hlf => ?_)
  refine q_set (g_lst (g_nil ⟨by decide, fun pl hpl => ?_⟩))
  have p1 : Pool (upd H lf (.lst (rgI n.toNat))) p := hp.new hlf
  have e1 : upd H lf (.lst (rgI n.toNat)) lf = some (.lst (rgI n.toNat)) := upd_same
  have nlp : lf ≠ pl := ne_of_none e1 hpl
  have hpl0 : H pl = none := by rw [upd_ne nlp.symm] at hpl; exact hpl
  refine q_forR (by walk_at "ar") (by omega) (fun i σ' H' => ∃ (lf : Addr) (L R : List Int) (x y : Option V), σ' = [some (.ref p), some (.int n), some (.ref lf), some (.ref pl), x, y] ∧ Kp [p] H H' ∧ Pool H' p ∧ H' lf = some (.lst (R.map V.int)) ∧ H' pl = some (.lst (L.map V.int)) ∧ lf ≠ pl ∧ lf ≠ p ∧ (L.length : Int) = i ∧ (R.length : Int) = n - i ∧ (L ++ R).Nodup ∧ ∀ x ∈ L ++ R, 0 ≤ x ∧ x < n)
    ?_ ?_ ?_
  · refine ⟨lf, [], (List.range n.toNat).map fun (i : Nat) => (i : Int), none, none, rfl, ((Kp.refl _ _).new hlf).new hpl, p1.new hpl, ?_, upd_same, nlp, hp.ne hlf, rfl, ?_, ?_, ?_⟩
    · rw [upd_ne nlp, upd_same, rgI_map]
    · rw [List.length_map, List.length_range]; simp; omega
    · rw [List.nil_append]
      exact List.Pairwise.map _ (fun a b h e => h (by omega)) List.nodup_range
    · intro x hx
      rw [List.nil_append] at hx
      obtain ⟨i, hi, rfl⟩ := List.mem_map.mp hx
      have := List.mem_range.mp hi
      constructor <;> omega
  · rintro i σ' H' hi ⟨lf, L, R, x, y, rfl, k, hp, h1, h2, n1', n2, c1, c2, c3, c4⟩
    have npl : pl ≠ p := fun z => by
      obtain ⟨o, eo⟩ := Pool.some ‹Pool H p›
      rw [z, eo] at hpl0; cases hpl0
    refine q_set ?_
    walk_at "call"
    rw [List.length_map]
    refine call_take hp (by omega) (by omega) fun at_ H1 a0 a1 k1 _ p1 => ?_
    have g1 : H1 lf = some (.lst (R.map V.int)) := k1 _ _ (by simpa using n2) h1
    have g2 : H1 pl = some (.lst (L.map V.int)) := k1 _ _ (by simpa using npl) h2
    have hat : at_.toNat < R.length := by omega
    refine q_drop (e_appV (v := .int (R.getD at_.toNat 0)) (by walk_at "v") (by walk_at "v") g2 (sz_lt (by rw [List.length_map]; omega)) ?_)
    refine g_set (g_op (e_slL (xs := R.map V.int) (by walk_at "v") pt_none (pt_some (by walk_at "v")) (SqL.of (by rw [upd_ne n1']; exact g1)) fun a ha => ?_))
    have nap : a ≠ pl := fun z => by rw [z, upd_same] at ha; cases ha
    have nal : a ≠ lf := fun z => by rw [z, upd_ne n1', g1] at ha; cases ha
    refine e_slL (xs := R.map V.int) (by walk_at "v") (pt_some (by walk_at "v")) pt_none (SqL.of (by rw [upd_ne nal.symm, upd_ne n1']; exact g1)) fun b hb => ?_
    have nba : b ≠ a := fun z => by rw [z, upd_same] at hb; cases hb
    have nbp : b ≠ pl := fun z => by rw [z, upd_ne nap.symm, upd_same] at hb; cases hb
    rw [cut_to a0] at hb
    rw [cut_to a0, cut_from (by omega)]
    refine e_cat (xs := (R.map V.int).take at_.toNat) (zs := (R.map V.int).drop (at_ + 1).toNat) (by rw [upd_ne nba.symm, upd_same]) upd_same (by simp; omega) fun l hl => ?_
    have nlb : l ≠ b := fun z => by rw [z, upd_same] at hl; cases hl
    have nla : l ≠ a := fun z => by rw [z, upd_ne nba.symm, upd_same] at hl; cases hl
    have nlp2 : l ≠ pl := fun z => by rw [z, upd_ne nbp.symm, upd_ne nap.symm, upd_same] at hl; cases hl
    have p2 : Pool (upd H1 pl (.lst (L.map V.int ++ [.int (R.getD at_.toNat 0)]))) p := p1.upd npl.symm
    have eR : R = R.take at_.toNat ++ R.getD at_.toNat 0 :: R.drop (at_.toNat + 1) := by
      have e := List.take_append_drop at_.toNat R
      rw [List.drop_eq_getElem_cons hat] at e
      rw [show R.getD at_.toNat 0 = R[at_.toNat] by simp [List.getD_eq_getElem?_getD, List.getElem?_eq_getElem hat]]
      exact e.symm
    have perm : (L ++ R).Perm ((L ++ [R.getD at_.toNat 0]) ++ (R.take at_.toNat ++ R.drop (at_.toNat + 1))) := by
      rw [List.append_assoc]
      refine List.Perm.append_left L ?_
      conv => lhs; rw [eR]
      exact List.perm_middle
    refine ⟨l, L ++ [R.getD at_.toNat 0], R.take at_.toNat ++ R.drop (at_.toNat + 1), _, _, rfl, ?_, ((p2.new ha).new hb).new hl, ?_, ?_, nlp2, (((p2.new ha).new hb).ne hl), ?_, ?_, perm.nodup_iff.mp c3, fun x hx => c4 x (perm.mem_iff.mpr hx)⟩
    · exact ((((k.trans k1).mut hpl0).new ha).new hb).new hl
    · rw [upd_same]
      have e : (at_ + 1).toNat = at_.toNat + 1 := by omega
      rw [e, List.map_append, List.map_take, List.map_drop]
    · rw [upd_ne nlp2.symm, upd_ne nbp.symm, upd_ne nap.symm, upd_same, List.map_append]
      rfl
    · rw [List.length_append, List.length_singleton]; omega
    · rw [List.length_append, List.length_take, List.length_drop]; omega
  · rintro σ' H' ⟨lf, L, R, x, y, rfl, k, hp, h1, h2, n1', n2, c1, c2, c3, c4⟩
    have eR : R = [] := List.eq_nil_of_length_eq_zero (by omega)
    subst eR
    rw [List.append_nil] at c3 c4
    exact g_ret (g_val (by walk_at "v") (q pl L H' hpl0 k hp h2 (by omega) c3 c4))
theorem call_perm {H : Hp} {Q : VK} {E : XK} {p : Addr} {n : Int} (hp : Pool H p) (n0 : 0 ≤ n) (n1 : n ≤ 1000) (q : ∀ (l : Addr) (L : List Int) (H' : Hp), H l = none → Kp [p] H H' → Pool H' p → H' l = some (.lst (L.map V.int)) → (L.length : Int) = n → L.Nodup → (∀ x ∈ L, 0 ≤ x ∧ x < n) → Q (.ref l) H') : sp_l_perm [.ref p, .int n] H Q E := ⟨p, n, rfl, hp, n0, n1, q⟩
/-- one span more behind spans at sp -/
theorem spans_more {H0 H H1 : Hp} {p sp t : Addr} {ts : List Addr} {rows : List Row} {r : Row} (k : Kp [p] H0 H) (k1 : Kp [p] H H1) (hp : Pool H p) (hs0 : H0 sp = none) (hs : H sp = some (.lst (ts.map V.ref))) (hr : RowsAt H ts rows) (p1 : Pool H1 p) (ht0 : H t = none) (ht : H1 t = some (.tup r.vs)) :
    H1 sp = some (.lst (ts.map V.ref)) ∧ Kp [p] H0 (upd H1 sp (.lst ((ts ++ [t]).map V.ref))) ∧ Pool (upd H1 sp (.lst ((ts ++ [t]).map V.ref))) p ∧ RowsAt (upd H1 sp (.lst ((ts ++ [t]).map V.ref))) (ts ++ [t]) (rows ++ [r]) := by
  have nsp : sp ≠ p := pool_ne_refs hp hs
  have e1 : H1 sp = some (.lst (ts.map V.ref)) := k1 _ _ (by simpa using nsp) hs
  refine ⟨e1, (k.trans k1).mut hs0, p1.upd nsp.symm, ?_⟩
  have r1 : RowsAt H1 (ts ++ [t]) (rows ++ [r]) := (hr.kp k1 fun u xs hu => pool_not_tup hp hu).snoc ht
  refine r1.kp (S := [sp]) ((Kp.refl _ _).upd (by simp)) fun u xs hu z => ?_
  have e : u = sp := by simpa using hu
  rw [e, e1] at z; cases z
theorem call_any {H : Hp} {Q : VK} {E : XK} {p : Addr} {T n k : Int} (hp : Pool H p) (t0 : 2 ≤ T) (t1 : T ≤ 60) (n0 : 2 ≤ n) (n1 : n ≤ 12) (k0 : 0 ≤ k) (k1 : k ≤ 24) (q : GotSpans p T n k H Q) : sp_l_any_spans [.ref p, .int T, .int n, .int k] H Q E := ⟨p, T, n, k, rfl, hp, t0, t1, n0, n1, k0, k1, q⟩
theorem pure_l_any_spans {K : PySem.W.Frag} {vs H Q E} (h : sp_l_any_spans vs H Q E) : t_l_any_spans K { nx := fun _ H' => Q .non H', rt := Q } (start N_l_any_spans vs) H := by
  obtain ⟨p, T, n, c, rfl, hp, t0, t1, n0, n1, c0, c1, q⟩ := h
  refine q_set (g_lst (g_nil ⟨by decide, fun sp hsp => ?_⟩))
  refine q_forR (by walk_at "ar") (by omega) (fun i σ' H' => ∃ (ts : List Addr) (rows : List Row) (x y z : Option V), σ' = [some (.ref p), some (.int T), some (.int n), some (.int c), some (.ref sp), x, y, z] ∧ Kp [p] H H' ∧ Pool H' p ∧ H' sp = some (.lst (ts.map V.ref)) ∧ RowsAt H' ts rows ∧ rows.length = i ∧ ∀ r ∈ rows, r.Ok T n)
    ⟨[], [], none, none, none, rfl, (Kp.refl _ _).new hsp, hp.new hsp, upd_same, RowsAt.nil, rfl, fun r hr => nomatch hr⟩ ?_ ?_
  · rintro i σ' H' hi ⟨ts, rows, x, y, z, rfl, k, hp, hs, hr, hl, ok⟩
    refine q_set ?_
    walk_at "call"
    refine call_take hp (by omega) (by omega) fun s H1 s0 s1 k1 _ p1 => ?_
    refine q_set (g_op (g_cb (g_cons (g_op (g_val (by walk_at "v") ?_)))))
    walk_at "call"
    refine call_take p1 (by omega) (by omega) fun w H2 w0 w1 k2 _ p2 => ?_
    refine g_I0 (g_nil (Or.inl ⟨_, rfl, g_val (by walk_at "v") ⟨_, _, rfl, rfl, by omega, ?_⟩⟩))
    have nsp : sp ≠ p := pool_ne_refs hp hs
    have hs2 : H2 sp = some (.lst (ts.map V.ref)) := (k1.trans k2) _ _ (by simpa using nsp) hs
    have hr2 : RowsAt H2 ts rows := hr.kp (k1.trans k2) fun u xs hu => pool_not_tup hp hu
    refine g_drop (e_appc (by walk_at "v") hs2 ?_)
    walk_at "call"
    refine call_span p2 t0 t1 fun t r H3 ht k3 p3 h3 es ee l0 lm mT m9 => ?_
    obtain ⟨g1, g2, g3, g4⟩ := spans_more (k.trans (k1.trans k2)) k3 p2 (by exact hsp) hs2 hr2 p3 ht h3
    have el : ts.length = rows.length := hr.1
    refine g_nil ⟨sp, _, _, rfl, rfl, g1, sz_lt (by rw [List.length_map]; omega), ?_⟩
    refine ⟨ts ++ [t], rows ++ [r], _, _, _, rfl, ?_, ?_, ?_, ?_, by simp [hl], ?_⟩
    · simpa using g2
    · simpa using g3
    · simpa using upd_same
    · simpa using g4
    · intro r' hr'
      rcases List.mem_append.mp hr' with h | h
      · exact ok r' h
      · have e : r' = r := by simpa using h
        subst e
        have b1 := Int.emod_nonneg (s + 1 + w) (show n ≠ 0 by omega)
        have b2 := Int.emod_lt_of_pos (s + 1 + w) (show 0 < n by omega)
        refine ⟨by omega, by omega, by omega, by omega, ?_, l0, lm, mT, m9⟩
        rw [es, ee]
        intro z
        have hc : s + 1 + w < n ∨ n ≤ s + 1 + w := by omega
        rcases hc with hc | hc
        · rw [Int.emod_eq_of_lt (by omega) hc] at z; omega
        · have e2 : (s + 1 + w) % n = s + 1 + w - n := by
            have e3 : s + 1 + w = (s + 1 + w - n) + n * 1 := by omega
            rw [e3, Int.add_mul_emod_self_left]
            rw [← e3]
            exact Int.emod_eq_of_lt (by omega) (by omega)
          omega
  · rintro σ' H' ⟨ts, rows, x, y, z, rfl, k, hp, hs, hr, hl, ok⟩
    exact g_ret (g_val (by walk_at "v") (q sp rows H' hsp k hp ⟨ts, hs, hr⟩ (by omega) ok))
theorem nodup_at {L : List Int} (h : L.Nodup) {i j : Nat} (hi : i < L.length) (hj : j < L.length) (ne : i ≠ j) : L.getD i 0 ≠ L.getD j 0 := by
  simp only [List.getD_eq_getElem?_getD, List.getElem?_eq_getElem hi, List.getElem?_eq_getElem hj, Option.getD_some]
  exact fun e => ne ((List.getElem_inj h).mp e)
theorem getD_mem {L : List Int} {i : Nat} (hi : i < L.length) : L.getD i 0 ∈ L := by
  simp only [List.getD_eq_getElem?_getD, List.getElem?_eq_getElem hi, Option.getD_some]
  exact List.getElem_mem hi
theorem pure_l_chained {K : PySem.W.Frag} {vs H Q E} (h : sp_l_chained vs H Q E) : t_l_chained K { nx := fun _ H' => Q .non H', rt := Q } (start N_l_chained vs) H := by
  obtain ⟨p, T, n, rfl, hp, t0, t1, n0, n1, q⟩ := h
  refine q_set ?_
  walk_at "call"
  refine call_perm hp (by omega) (by omega) fun pl L H1 hpl kp p1 hL eL nd rg => ?_
  refine q_set (g_lst (g_nil ⟨by decide, fun sp hsp => ?_⟩))
  have npl : pl ≠ p := hp.ne hpl
  have hsp0 : H sp = none := kp.free (by simpa using p1.ne hsp) hsp
  have npls : pl ≠ sp := ne_of_none hL hsp
  refine q_forR (by walk_at "ar") (by omega) (fun i σ' H' => ∃ (ts : List Addr) (rows : List Row) (x y : Option V), σ' = [some (.ref p), some (.int T), some (.int n), some (.ref pl), some (.ref sp), x, y] ∧ Kp [p] H H' ∧ Pool H' p ∧ H' pl = some (.lst (L.map V.int)) ∧ H' sp = some (.lst (ts.map V.ref)) ∧ RowsAt H' ts rows ∧ rows.length ≤ i ∧ ∀ r ∈ rows, r.Ok T n)
    ⟨[], [], none, none, rfl, kp.new hsp, p1.new hsp, by rw [upd_ne npls]; exact hL, upd_same, RowsAt.nil, Nat.le_refl _, fun r hr => nomatch hr⟩ ?_ ?_
  · rintro i σ' H' hi ⟨ts, rows, x, y, rfl, k, hp, hL, hs, hr, hl, ok⟩
    have el : ts.length = rows.length := hr.1
    have nsp : sp ≠ p := pool_ne_refs hp hs
    refine q_set ?_
    walk_at "call"
    refine call_take hp (by omega) (by omega) fun w H1 w0 w1 k1 _ p1 => ?_
    have hL1 : H1 pl = some (.lst (L.map V.int)) := k1 _ _ (by simpa using npl) hL
    have hs1 : H1 sp = some (.lst (ts.map V.ref)) := k1 _ _ (by simpa using nsp) hs
    have hr1 : RowsAt H1 ts rows := hr.kp k1 fun u xs hu => pool_not_tup hp hu
    have ci : (i : Int) + 1 < (L.length : Int) := by omega
    have hij : L.getD i 0 ≠ L.getD (i + 1) 0 := nodup_at nd (by omega) (by omega) (by omega)
    have m1 := rg _ (getD_mem (L := L) (i := i) (by omega))
    have m2 := rg _ (getD_mem (L := L) (i := i + 1) (by omega))
    have fin : ∀ (s e : Int) (H3 : Hp) (t : Addr) (r : Row), ((s = L.getD i 0 ∧ e = L.getD (i + 1) 0) ∨ (s = L.getD (i + 1) 0 ∧ e = L.getD i 0)) → H1 t = none → Kp [p] H1 H3 → Pool H3 p → H3 t = some (.tup r.vs) → r.s = s → r.e = e → 0 ≤ r.l → r.l ≤ r.m → r.m ≤ r.l + T - 1 → r.m ≤ 999 →
        tNil [some (.ref p), some (.int T), some (.int n), some (.ref pl), some (.ref sp), some (.int i), some (.int w)] H3 fun ys H4 => rAppend (.ref sp) (.ref t :: ys) H4 fun _ H5 => ∃ (ts : List Addr) (rows : List Row) (x y : Option V), [some (V.ref p), some (.int T), some (.int n), some (.ref pl), some (.ref sp), some (.int i), some (.int w)] = [some (.ref p), some (.int T), some (.int n), some (.ref pl), some (.ref sp), x, y] ∧ Kp [p] H H5 ∧ Pool H5 p ∧ H5 pl = some (.lst (L.map V.int)) ∧ H5 sp = some (.lst (ts.map V.ref)) ∧ RowsAt H5 ts rows ∧ rows.length ≤ i + 1 ∧ ∀ r ∈ rows, r.Ok T n := by
      intro s e H3 t r hse ht k3 p3 h3 es ee l0 lm mT m9
      obtain ⟨g1, g2, g3, g4⟩ := spans_more (k.trans k1) k3 p1 (by exact hsp0) hs1 hr1 p3 ht h3
      refine g_nil ⟨sp, _, _, rfl, rfl, g1, sz_lt (by rw [List.length_map]; omega), ?_⟩
      refine ⟨ts ++ [t], rows ++ [r], _, _, rfl, ?_, ?_, ?_, ?_, ?_, by simp; omega, ?_⟩
      · simpa using g2
      · simpa using g3
      · rw [upd_ne npls]
        exact k3 _ _ (by simpa using npl) hL1
      · simpa using upd_same
      · simpa using g4
      · intro r' hr'
        rcases List.mem_append.mp hr' with h | h
        · exact ok r' h
        · have e : r' = r := by simpa using h
          subst e
          rcases hse with ⟨rfl, rfl⟩ | ⟨rfl, rfl⟩
          · exact ⟨by omega, by omega, by omega, by omega, by rw [es, ee]; exact hij, l0, lm, mT, m9⟩
          · exact ⟨by omega, by omega, by omega, by omega, by rw [es, ee]; exact hij.symm, l0, lm, mT, m9⟩
    have e1 : ((i : Int) + 1).toNat = i + 1 := by omega
    refine g_ifA (by walk_at "a") (fun hb => ?_) (fun hb => ?_)
    · refine g_drop (e_appc (by walk_at "v") hs1 ?_)
      walk_at "call"
      refine call_span p1 t0 t1 fun t r H3 ht k3 p3 h3 es ee l0 lm mT m9 => ?_
      rw [Int.toNat_natCast] at es
      rw [e1] at ee
      exact fin _ _ H3 t r (.inl ⟨rfl, rfl⟩) ht k3 p3 h3 es ee l0 lm mT m9
    · refine g_ifA (by walk_at "a") (fun hb => ?_) (fun hb => ?_)
      · refine g_drop (e_appc (by walk_at "v") hs1 ?_)
        walk_at "call"
        refine call_span p1 t0 t1 fun t r H3 ht k3 p3 h3 es ee l0 lm mT m9 => ?_
        rw [Int.toNat_natCast] at ee
        rw [e1] at es
        exact fin _ _ H3 t r (.inr ⟨rfl, rfl⟩) ht k3 p3 h3 es ee l0 lm mT m9
      · exact ⟨ts, rows, _, _, rfl, k.trans k1, p1, hL1, hs1, hr1, by omega, ok⟩
  · rintro σ' H' ⟨ts, rows, x, y, rfl, k, hp, hL, hs, hr, hl, ok⟩
    exact g_ret (g_val (by walk_at "v") (q sp rows H' hsp0 k hp ⟨ts, hs, hr⟩ (by omega) ok))
theorem call_chained {H : Hp} {Q : VK} {E : XK} {p : Addr} {T n : Int} (hp : Pool H p) (t0 : 2 ≤ T) (t1 : T ≤ 60) (n0 : 2 ≤ n) (n1 : n ≤ 12) (q : GotSpans p T n 24 H Q) : sp_l_chained [.ref p, .int T, .int n] H Q E := ⟨p, T, n, rfl, hp, t0, t1, n0, n1, q⟩
theorem pure_l_spans_of {K : PySem.W.Frag} {vs H Q E} (h : sp_l_spans_of vs H Q E) : t_l_spans_of K { nx := fun _ H' => Q .non H', rt := Q } (start N_l_spans_of vs) H := by
  obtain ⟨p, T, n, rfl, hp, t0, t1, n0, n1, q⟩ := h
  have more : ∀ {H1 : Hp} {k : Int}, Kp [p] H H1 → Pool H1 p → k ≤ 24 → GotSpans p T n k H1 Q := fun {H1 k} k1 p1 hk l rows H2 hl k2 p2 hs hr ok => q l rows H2 (k1.free (by simpa using p1.ne hl) hl) (k1.trans k2) p2 hs (by omega) ok
  refine q_when (by walk_at "a") (fun hb => ?_) (fun hb => ?_)
  · refine g_ret (g_lst (g_nil ⟨by decide, fun l hl => q l [] _ hl ((Kp.refl _ _).new hl) (hp.new hl) ⟨[], upd_same, RowsAt.nil⟩ (by decide) fun r hr => nomatch hr⟩))
  have n2 : 2 ≤ n := by simpa using hb
  refine q_whenc (g_test (g_op ?_))
  walk_at "call"
  refine call_take hp (by decide) (by decide) fun r H1 r0 r1 k1 _ p1 => ?_
  refine g_c (g_eq rfl ⟨_, rfl, g_if (fun hb => ?_) (fun hb => ?_)⟩)
  · refine g_ret ?_
    walk_at "call"
    exact call_chained p1 t0 t1 n2 n1 (more k1 p1 (by decide))
  refine q_whenc (g_test (g_op ?_))
  walk_at "call"
  refine call_take p1 (by decide) (by decide) fun r H2 r0 r1 k2 _ p2 => ?_
  have kk := k1.trans k2
  refine g_c (g_eq rfl ⟨_, rfl, g_if (fun hb => ?_) (fun hb => ?_)⟩)
  · refine g_ret (g_call (g_cons (g_val (by walk_at "v") (g_cons (g_val (by walk_at "v") (g_cons (g_val (by walk_at "v") (g_cons ?_))))))))
    walk_at "call"
    refine call_take p2 (by decide) (by decide) fun c H3 c0 c1 k3 _ p3 => ?_
    exact g_nil (call_any p3 t0 t1 n2 n1 c0 (by omega) (more (kk.trans k3) p3 (by omega)))
  · refine g_ret (g_call (g_cons (g_val (by walk_at "v") (g_cons (g_val (by walk_at "v") (g_cons (g_val (by walk_at "v") (g_cons ?_))))))))
    walk_at "call"
    refine call_take p2 (by decide) (by decide) fun c H3 c0 c1 k3 _ p3 => ?_
    exact g_nil (call_any p3 t0 t1 n2 n1 c0 (by omega) (more (kk.trans k3) p3 (by omega)))
theorem call_spans_of {H : Hp} {Q : VK} {E : XK} {p : Addr} {T n : Int} (hp : Pool H p) (t0 : 2 ≤ T) (t1 : T ≤ 60) (n0 : 0 ≤ n) (n1 : n ≤ 12) (q : GotSpans p T n 24 H Q) : sp_l_spans_of [.ref p, .int T, .int n] H Q E := ⟨p, T, n, rfl, hp, t0, t1, n0, n1, q⟩

/-! ## Pu3 -/
theorem filter_all {α : Type} (xs : List α) : xs.filter (fun _ => true) = xs := List.filter_eq_self.mpr fun _ _ => rfl
theorem refs_at {ts : List Addr} {i : Nat} {x : V} (h : (ts.map V.ref)[i]? = some x) : ∃ t, ts[i]? = some t ∧ x = .ref t := by
  rw [List.getElem?_map] at h
  cases e : ts[i]? with
  | none => rw [e] at h; cases h
  | some t => rw [e] at h; exact ⟨t, rfl, (Option.some.inj h).symm⟩
theorem pure_Net___init__ {K : PySem.W.Frag} (c : NetK K) {vs H Q E} (h : sp_Net___init__ K vs H Q E) : t_Net___init__ K { nx := fun _ H' => Q .non H', rt := Q } (start N_Net___init__ vs) H := by
  obtain ⟨x, dx, a, T, n, rows, rfl, hx, ⟨ts, ha, hr⟩, t0, t1, n0, n1, hl, ok, q⟩ := h
  have el : ts.length = rows.length := hr.1
  refine q_no (by walk_at "a") (by simp; omega) ?_
  refine q_no (by walk_at "a") (by simp; omega) ?_
  refine q_no (by walk_at "a") (by simp; omega) ?_
  refine q_forE (by walk_at "ar") (SqL.of ha) (fun i σ' H' => Kp [] H H' ∧ ∃ y z, σ' = [some (.ref x), some (.int T), some (.int n), some (.ref a), y, z]) ⟨Kp.refl _ _, _, _, rfl⟩ (fun i σ' H' _ ⟨k, _⟩ => SqL.of (k _ _ (by simp) ha)) ?_ ?_
  · rintro i v σ' H' t hi ⟨k, y, z, rfl⟩ ht
    obtain ⟨u, hu, rfl⟩ := refs_at hi
    have hlt : i < rows.length := by
      have := (List.getElem?_eq_some_iff.mp hu).1
      omega
    have hru : H u = some (.tup rows[i].vs) := hr.2 i u _ hu (List.getElem?_eq_getElem hlt)
    have k1 : Kp [] H (upd H' t (.tup [.int (i : Int), .ref u])) := k.new ht
    refine g_no (b := !true) (a_not ?_) rfl ⟨k1, _, _, rfl⟩
    intro Q' q'
    refine g_B ?_
    walk_at "call"
    exact ⟨T, n, u, rows[i], rfl, k1 _ _ (by simp) hru, ok _ (List.getElem_mem hlt), true, rfl, q'⟩
  · rintro σ' H' ⟨k, y, z, rfl⟩
    have hx1 : H' x = some (.ins (He.ga K "Net") dx []) := k _ _ (by simp) hx
    have ha1 : H' a = some (.lst (ts.map V.ref)) := k _ _ (by simp) ha
    have nax : a ≠ x := ne_of ha1 hx1 (by intro z; cases z)
    have hr1 : RowsAt H' ts rows := hr.kp k fun _ _ z => nomatch z
    refine q_fld (by walk_at "v") (by walk_at "v") hx1 c.cl c.nT (by decide) ?_
    refine q_fld (by walk_at "v") (by walk_at "v") upd_same c.cl c.nE (Nat.lt_of_le_of_lt (length_putF _ _ _) (by decide)) ?_
    rw [upd_upd]
    refine s_fldc (g_cb (g_cons (e_lcL (fun v => v) (fun _ => true) (by walk_at "v") (SqL.of (by rw [upd_ne nax]; exact ha1)) (by rw [List.length_map]; omega) (fun _ => rfl) (fun _ _ _ _ _ _ => a_yes) (fun i v Dl o hi _ hD => ?_) fun Dl hD => ?_)))
    · obtain ⟨u, hu, rfl⟩ := refs_at hi
      have hlt : i < rows.length := by
        have := (List.getElem?_eq_some_iff.mp hu).1
        omega
      have hru : H' u = some (.tup rows[i].vs) := hr1.2 i u _ hu (List.getElem?_eq_getElem hlt)
      have nux : u ≠ x := ne_of hru hx1 (by intro z; cases z)
      have e1 : upd H' x (.ins (He.ga K "Net") dx (putF "events" (.int n) (putF "round_length" (.int T) []))) u = some (.tup rows[i].vs) := by rw [upd_ne nux]; exact hru
      exact v_tupT (by walk_at "ar") (SqT.of (by rw [upd_ne (ne_of_none e1 hD)]; exact e1))
    · rw [filter_all, List.map_id'] at *
      refine g_nil ⟨Dl, _, rfl, Or.inl ⟨SqL.of upd_same, fun tt htt => ?_⟩⟩
      have nDx : Dl ≠ x := fun z => by rw [z, upd_same] at hD; cases hD
      have ntD : tt ≠ Dl := fun z => by rw [z, upd_same] at htt; cases htt
      have ntx : tt ≠ x := fun z => by rw [z, upd_ne nDx.symm, upd_same] at htt; cases htt
      refine g_var rfl ⟨x, He.ga K "Net", dx, _, rfl, (by rw [upd_ne ntx.symm, upd_ne nDx.symm, upd_same]), c.cl, c.nS, Nat.lt_of_le_of_lt (length_putF _ _ _) (Nat.lt_of_le_of_lt (Nat.add_le_add_right (length_putF _ _ _) 1) (by decide)), ?_⟩
      have kk : Kp [x] H (upd (upd (upd (upd H' x (.ins (He.ga K "Net") dx (putF "events" (.int n) (putF "round_length" (.int T) [])))) Dl (.lst (ts.map V.ref))) tt (.tup (ts.map V.ref))) x (.ins (He.ga K "Net") dx (putF "spans" (.ref tt) (putF "events" (.int n) (putF "round_length" (.int T) []))))) :=
        ((((k.of [x]).upd (by simp)).new hD).new htt).upd (by simp)
      refine q _ kk ⟨dx, tt, ts, upd_same, ?_, ?_⟩
      · rw [upd_ne ntx, upd_same]
      · refine hr.kp kk fun u xs hu z => ?_
        have e : u = x := by simpa using hu
        rw [e, hx] at z; cases z
/-! ### groups -/
def kvOf (ls : List Int) (ts : List Addr) : List (Key × V) := (ls.zip ts).map fun q => (Sum.inl q.1, V.ref q.2)
theorem grp_look (l : Int) : ∀ (G : List (Int × List Int)) (ts : List Addr), ts.length = G.length →
    (valV (kvOf (G.map (·.1)) ts) (Sum.inl l) = none ∧ ∀ e, groupAdd G l e = G ++ [(l, [e])]) ∨
    (∃ (i : Nat) (t : Addr) (q : Int × List Int), ts[i]? = some t ∧ G[i]? = some q ∧ q.1 = l ∧ valV (kvOf (G.map (·.1)) ts) (Sum.inl l) = some (.ref t) ∧ ∀ e, groupAdd G l e = G.set i (l, q.2 ++ [e]))
  | [], [], _ => .inl ⟨rfl, fun _ => rfl⟩
  | [], _ :: _, h => by simp at h
  | _ :: _, [], h => by simp at h
  | g :: G, t :: ts, h => by
    have h' : ts.length = G.length := by simpa using h
    have ek : kvOf ((g :: G).map (·.1)) (t :: ts) = (Sum.inl g.1, V.ref t) :: kvOf (G.map (·.1)) ts := rfl
    rw [ek]
    by_cases hg : g.1 = l
    · refine .inr ⟨0, t, g, rfl, rfl, hg, valV_pos (by rw [hg]), fun e => ?_⟩
      show (if g.1 = l then (l, g.2 ++ [e]) :: G else _) = _
      rw [if_pos hg]
      rfl
    · have hk : ¬ (Sum.inl g.1 : Key) = Sum.inl l := fun z => hg (Sum.inl.inj z)
      rw [valV_neg hk]
      rcases grp_look l G ts h' with ⟨e1, e2⟩ | ⟨i, t', q, e1, e2, e3, e4, e5⟩
      · refine .inl ⟨e1, fun e => ?_⟩
        show (if g.1 = l then _ else g :: groupAdd G l e) = _
        rw [if_neg hg, e2]
        rfl
      · refine .inr ⟨i + 1, t', q, e1, e2, e3, e4, fun e => ?_⟩
        show (if g.1 = l then _ else g :: groupAdd G l e) = _
        rw [if_neg hg, e5]
        rfl
theorem kvOf_snoc {ls : List Int} {ts : List Addr} (l : Int) (t : Addr) (h : ts.length = ls.length) : kvOf (ls ++ [l]) (ts ++ [t]) = kvOf ls ts ++ [(Sum.inl l, V.ref t)] := by
  unfold kvOf
  rw [List.zip_append h.symm, List.map_append]
  rfl
theorem kvOf_len {ls : List Int} {ts : List Addr} (h : ts.length = ls.length) : (kvOf ls ts).length = ls.length := by
  unfold kvOf
  rw [List.length_map, List.length_zip, h, Nat.min_self]
theorem kvOf_vals : ∀ {ls : List Int} {ts : List Addr}, ts.length = ls.length → (kvOf ls ts).map (·.2) = ts.map V.ref
  | [], [], _ => rfl
  | [], _ :: _, h => by simp at h
  | _ :: _, [], h => by simp at h
  | l :: ls, t :: ts, h => by
    show V.ref t :: (kvOf ls ts).map (·.2) = V.ref t :: ts.map V.ref
    rw [kvOf_vals (by simpa using h)]
def GrpAt (H0 H : Hp) (g : Addr) (G : List (Int × List Int)) : Prop := H0 g = none ∧ ∃ ts : List Addr, ts.length = G.length ∧ ts.Nodup ∧ H g = some (.dK (kvOf (G.map (·.1)) ts)) ∧ ∀ (i : Nat) t q, ts[i]? = some t → G[i]? = some q → H0 t = none ∧ H t = some (.lst (q.2.map V.int))
theorem groupAdd_len (l e : Int) : ∀ G : List (Int × List Int), (groupAdd G l e).length ≤ G.length + 1
  | [] => Nat.le_refl _
  | g :: G => by
    show (if g.1 = l then (l, g.2 ++ [e]) :: G else g :: groupAdd G l e).length ≤ _
    split
    · simp
    · simp [groupAdd_len l e G]
theorem groupsP_take {L : List Int} {i : Nat} : (List.range (i + 1)).foldl (fun G i => groupAdd G (L.getD i 0) i) [] = groupAdd ((List.range i).foldl (fun G i => groupAdd G (L.getD i 0) i) []) (L.getD i 0) i := by
  rw [List.range_succ, List.foldl_append]
  rfl
theorem groups_len (L : List Int) (k : Nat) : ((List.range k).foldl (fun G (i : Nat) => groupAdd G (L.getD i 0) i) []).length ≤ k := by
  induction k with
  | zero => exact Nat.le_refl _
  | succ k ih =>
    rw [groupsP_take]
    have := groupAdd_len (L.getD k 0) k ((List.range k).foldl (fun G (i : Nat) => groupAdd G (L.getD i 0) i) [])
    omega
theorem groupAdd_len2 (l e : Int) (b : Nat) : ∀ G : List (Int × List Int), (∀ q ∈ G, q.2.length ≤ b) → ∀ q ∈ groupAdd G l e, q.2.length ≤ b + 1
  | [], _, q, hq => by
    have : q = (l, [e]) := by simpa [groupAdd] using hq
    rw [this]; simp
  | g :: G, h, q, hq => by
    have hq : q ∈ (if g.1 = l then (l, g.2 ++ [e]) :: G else g :: groupAdd G l e) := hq
    split at hq
    · rcases List.mem_cons.mp hq with rfl | hq
      · have := h g List.mem_cons_self
        simp; omega
      · have := h q (List.mem_cons_of_mem _ hq); omega
    · rcases List.mem_cons.mp hq with rfl | hq
      · have := h q List.mem_cons_self; omega
      · exact groupAdd_len2 l e b G (fun q hq => h q (List.mem_cons_of_mem _ hq)) q hq
theorem groups_len2 (L : List Int) (k : Nat) : ∀ q ∈ (List.range k).foldl (fun G (i : Nat) => groupAdd G (L.getD i 0) i) [], q.2.length ≤ k := by
  induction k with
  | zero => intro q hq; simp at hq
  | succ k ih =>
    rw [groupsP_take]
    exact groupAdd_len2 _ _ k _ ih
/-- groups.setdefault(label, []).append(event) -/
theorem grp_turn {H0 H : Hp} {g : Addr} {G : List (Int × List Int)} {l e : Int} {σ : L2.St} {ig il ie : Nat} {K : PySem.W.Frag} {D : Ends} (hk : Kp [] H0 H) (hg : GrpAt H0 H g G) (hlen : G.length ≤ 1000) (hlen2 : ∀ q ∈ G, q.2.length ≤ 1000) (s1 : σ[ig]? = some (some (.ref g))) (s2 : σ[il]? = some (some (.int l))) (s3 : σ[ie]? = some (some (.int e)))
    (q : ∀ H', Kp [] H0 H' → GrpAt H0 H' g (groupAdd G l e) → D.nx σ H') : tDrop (tBM K "list" rAppend (tDSetd (tVar ig) (tVar il) (tLst tNil)) (tCons (tVar ie) tNil)) D σ H := by
  obtain ⟨g0, ts, tl, nd, hd, ht⟩ := hg
  refine g_drop (e_bmc (e_setd (g_var s1 ⟨g, rfl, .inl ⟨_, .inl hd⟩, g_var s2 (g_lst (g_nil ⟨by decide, fun z hz => ?_⟩))⟩)))
  have ngz : g ≠ z := ne_of_none hd hz
  have hz0 : H0 z = none := hk.free (by simp) hz
  have hzts : ∀ (i : Nat) t, ts[i]? = some t → t ≠ z := fun i t h1 => by
    have hi : i < G.length := by rw [← tl]; exact (List.getElem?_eq_some_iff.mp h1).1
    exact ne_of_none (ht i t _ h1 (List.getElem?_eq_getElem hi)).2 hz
  have ngt : ∀ (i : Nat) t, ts[i]? = some t → t ≠ g := fun i t h1 => by
    have hi : i < G.length := by rw [← tl]; exact (List.getElem?_eq_some_iff.mp h1).1
    exact ne_of (ht i t _ h1 (List.getElem?_eq_getElem hi)).2 hd (by intro z; cases z)
  refine ⟨_, Sum.inl l, by rw [upd_ne ngz]; exact hd, rfl, by rw [kvOf_len (by simpa using tl)]; exact sz_lt (by simpa using Nat.le_trans hlen (by decide)), fun v hv => ?_, fun hv => ?_⟩
  · rcases grp_look l G ts tl with ⟨e1, e2⟩ | ⟨i, t, p, e1, e2, e3, e4, e5⟩
    · rw [e1] at hv; cases hv
    · rw [e4] at hv
      cases hv
      obtain ⟨t0, hti⟩ := ht i t p e1 e2
      have ntz := hzts i t e1
      have ntg := ngt i t e1
      refine ⟨Or.inl ⟨rfl, _, SqL.of (by rw [upd_ne ntz]; exact hti)⟩, g_var s3 (g_nil ⟨t, _, _, rfl, rfl, (by rw [upd_ne ntz]; exact hti), sz_lt ?_, ?_⟩)⟩
      · rw [List.length_map]
        exact Nat.le_trans (hlen2 p (List.mem_of_getElem? e2)) (by decide)
      · refine q _ ((hk.new hz).mut t0) ⟨g0, ts, ?_, nd, ?_, fun j u r h1 h2 => ?_⟩
        · rw [e5, List.length_set, tl]
        · have em : (groupAdd G l e).map (·.1) = G.map (·.1) := by
            rw [e5, List.map_set]
            have hi : i < (G.map (·.1)).length := by rw [List.length_map]; exact (List.getElem?_eq_some_iff.mp e2).1
            have ex : (G.map (·.1))[i] = l := by
              rw [List.getElem_map]
              have := (List.getElem?_eq_some_iff.mp e2).2
              rw [this]; exact e3
            show (G.map (·.1)).set i l = _
            rw [← ex]
            exact List.set_getElem_self hi
          rw [em, upd_ne ntg.symm, upd_ne ngz]
          exact hd
        · rw [e5] at h2
          by_cases hij : j = i
          · subst hij
            rw [e1] at h1
            cases h1
            have hi : j < G.length := (List.getElem?_eq_some_iff.mp e2).1
            rw [List.getElem?_set_self hi] at h2
            cases h2
            refine ⟨t0, ?_⟩
            rw [upd_same]
            simp
          · rw [List.getElem?_set_ne (Ne.symm hij)] at h2
            obtain ⟨u0, hu⟩ := ht j u r h1 h2
            have nut : u ≠ t := fun z => by
              subst z
              obtain ⟨a1, b1⟩ := List.getElem?_eq_some_iff.mp e1
              obtain ⟨a2, b2⟩ := List.getElem?_eq_some_iff.mp h1
              exact hij ((List.getElem_inj nd).mp (b2.trans b1.symm))
            refine ⟨u0, ?_⟩
            rw [upd_ne nut, upd_ne (hzts j u h1)]
            exact hu
  · rcases grp_look l G ts tl with ⟨e1, e2⟩ | ⟨i, t, p, e1, e2, e3, e4, e5⟩
    · rw [putK_new _ hv]
      refine ⟨Or.inl ⟨rfl, _, SqL.of (by rw [upd_ne ngz.symm, upd_same])⟩, g_var s3 (g_nil ⟨z, _, _, rfl, rfl, (by rw [upd_ne ngz.symm, upd_same]), by decide, ?_⟩)⟩
      refine q _ (((hk.new hz).mut g0).mut hz0) ⟨g0, ts ++ [z], ?_, ?_, ?_, fun j u r h1 h2 => ?_⟩
      · rw [e2, List.length_append, List.length_append, tl]; rfl
      · rw [List.nodup_append]
        refine ⟨nd, by simp, fun a ha b hb => ?_⟩
        have eb : b = z := by simpa using hb
        subst eb
        obtain ⟨i, hi, rfl⟩ := List.getElem_of_mem ha
        exact hzts i _ (List.getElem?_eq_getElem hi)
      · rw [upd_ne ngz, upd_same, e2, List.map_append]
        have := kvOf_snoc (ls := G.map (·.1)) (ts := ts) l z (by simpa using tl)
        simp only [List.map_cons, List.map_nil]
        rw [this]
      · rw [e2] at h2
        by_cases hj : j < ts.length
        · rw [List.getElem?_append_left hj] at h1
          rw [List.getElem?_append_left (by omega)] at h2
          obtain ⟨u0, hu⟩ := ht j u r h1 h2
          refine ⟨u0, ?_⟩
          rw [upd_ne (hzts j u h1), upd_ne (ngt j u h1), upd_ne (hzts j u h1)]
          exact hu
        · rw [List.getElem?_append_right (by omega)] at h1 h2
          rw [← tl] at h2
          cases e0 : j - ts.length with
          | zero =>
            rw [e0] at h1 h2
            cases h1; cases h2
            exact ⟨hz0, by rw [upd_same]; rfl⟩
          | succ k => rw [e0] at h1; simp at h1
    · rw [e4] at hv; cases hv
theorem labsP_len (n : Nat) (rows : List Row) : (labsP n rows).length = n := by
  unfold labsP
  have : ∀ (rows : List Row) (L : List Int), (rows.foldl (fun L r => joinL L r.s.toNat r.e.toNat) L).length = L.length := by
    intro rows
    induction rows with
    | nil => intro L; rfl
    | cons r rows ih =>
      intro L
      show (rows.foldl _ (joinL L _ _)).length = _
      rw [ih]
      unfold joinL
      rw [List.length_map]
  rw [this, List.length_map, List.length_range]
theorem labsP_more {n : Nat} {rows : List Row} {i : Nat} {r : Row} (h : rows[i]? = some r) : labsP n (rows.take (i + 1)) = joinL (labsP n (rows.take i)) r.s.toNat r.e.toNat := by
  unfold labsP
  rw [List.take_succ, h, List.foldl_append]
  rfl
theorem fl_events (T n : Int) (a : Addr) : (netF T n a).lookup ("events" : Str) = some (.int n) := by
  unfold netF
  rw [lookup_putF, if_neg (by decide +kernel), lookup_putF, if_pos rfl]
theorem fl_spans (T n : Int) (a : Addr) : (netF T n a).lookup ("spans" : Str) = some (.ref a) := by
  unfold netF
  rw [lookup_putF, if_pos rfl]
theorem fl_no (T n : Int) (a : Addr) {f : Str} (h1 : ¬ f = "spans") (h2 : ¬ f = "events") (h3 : ¬ f = "round_length") : (netF T n a).lookup f = none := by
  unfold netF
  rw [lookup_putF, if_neg h1, lookup_putF, if_neg h2, lookup_putF, if_neg h3]
  rfl
theorem pure_Net_pieces {K : PySem.W.Frag} (c : NetK K) {vs H Q E} (h : sp_Net_pieces K vs H Q E) : t_Net_pieces K { nx := fun _ H' => Q .non H', rt := Q } (start N_Net_pieces vs) H := by
  obtain ⟨x, T, n, rows, rfl, ⟨dx, a, ts, hx, ha, hr⟩, n0, n1, ok, q⟩ := h
  have el : ts.length = rows.length := hr.1
  refine q_set (e_lstRg (v_fld (by walk_at "v") hx c.cl c.nE (fl_events _ _ _)) ⟨n0, by omega⟩ fun lb hlb => ?_)
  have nxl : x ≠ lb := ne_of_none hx hlb
  have nal : a ≠ lb := ne_of_none ha hlb
  refine q_forT (v_fld (by walk_at "v") (by rw [upd_ne nxl]; exact hx) c.cl c.nS (fl_spans _ _ _)) (SqT.of (by rw [upd_ne nal]; exact ha)) (fun i σ' H' => ∃ (lb : Addr) (y : Option V), σ' = [some (.ref x), some (.ref lb), y, none, none, none] ∧ Kp [] H H' ∧ H' lb = some (.lst ((labsP n.toNat (rows.take i)).map V.int)))
    ⟨lb, _, rfl, (Kp.refl _ _).new hlb, by rw [upd_same, rgI_map]; rfl⟩ (fun i σ' H' _ ⟨_, _, _, k, _⟩ => SqT.of (k _ _ (by simp) ha)) ?_ ?_
  · rintro i v σ' H' hi ⟨lb, y, rfl, k, hL⟩
    obtain ⟨u, hu, rfl⟩ := refs_at hi
    have hlt : i < rows.length := by
      have := (List.getElem?_eq_some_iff.mp hu).1
      omega
    have hru : H' u = some (.tup rows[i].vs) := k _ _ (by simp) (hr.2 i u _ hu (List.getElem?_eq_getElem hlt))
    have o := ok _ (List.getElem_mem hlt)
    have := o.s0; have := o.s1; have := o.e0; have := o.e1
    refine g_set ?_
    refine g_call (g_args (ar_cons (by walk_at "v") (ar_cons (v_ixT (v := .int rows[i].s) (by walk_at "v") (by walk_at "v") (SqT.of hru) rfl) (ar_cons (v_ixT (v := .int rows[i].e) (by walk_at "v") (by walk_at "v") (SqT.of hru) rfl) ar_nil))) ?_)
    refine call_join hL (by rw [labsP_len]; omega) (by omega) (by rw [labsP_len]; omega) (by omega) (by rw [labsP_len]; omega) fun l H1 hl k1 h1 => ?_
    refine ⟨l, _, rfl, k.trans k1, ?_⟩
    rw [labsP_more (List.getElem?_eq_getElem hlt)]
    exact h1
  · rintro σ' H' ⟨lb, y, rfl, k, hL⟩
    rw [List.length_map, el, List.take_length] at hL
    generalize hLL : labsP n.toNat rows = L at hL
    have eL : L.length = n.toNat := by rw [← hLL, labsP_len]
    refine q_set fun g hg => ?_
    have nlg : lb ≠ g := ne_of_none hL hg
    refine q_forE (by walk_at "ar") (xs := L.map V.int) (SqL.of (by rw [upd_ne nlg]; exact hL)) (fun i σ' H2 => Kp [] H' H2 ∧ GrpAt H' H2 g ((List.range i).foldl (fun G (i : Nat) => groupAdd G (L.getD i 0) i) []) ∧ ∃ y z, σ' = [some (.ref x), some (.ref lb), y, some (.ref g), z.1, z.2])
      ⟨(Kp.refl _ _).new hg, ⟨hg, [], rfl, List.nodup_nil, upd_same, fun i t q h => by simp at h⟩, _, (none, none), rfl⟩ (fun i σ' H2 _ ⟨k2, _⟩ => SqL.of (k2 _ _ (by simp) hL)) ?_ ?_
    · rintro i v σ' H2 t hi ⟨k2, hg2, y, z, rfl⟩ ht
      have hlt : i < L.length := by
        have := (List.getElem?_eq_some_iff.mp hi).1
        rw [List.length_map] at this
        exact this
      obtain rfl : v = .int (L.getD i 0) := by
        rw [List.getElem?_map, List.getElem?_eq_getElem hlt] at hi
        have e := Option.some.inj hi
        rw [← e]
        simp [List.getD_eq_getElem?_getD, List.getElem?_eq_getElem hlt]
      have hg3 : GrpAt H' (upd H2 t (.tup [.int (i : Int), .int (L.getD i 0)])) g ((List.range i).foldl (fun G (i : Nat) => groupAdd G (L.getD i 0) i) []) := by
        obtain ⟨g0, ts2, a1, a2, a3, a4⟩ := hg2
        exact ⟨g0, ts2, a1, a2, by rw [upd_ne (ne_of_none a3 ht)]; exact a3, fun j u q h1 h2 => ⟨(a4 j u q h1 h2).1, by rw [upd_ne (ne_of_none (a4 j u q h1 h2).2 ht)]; exact (a4 j u q h1 h2).2⟩⟩
      refine grp_turn (l := L.getD i 0) (e := (i : Int)) (k2.new ht) hg3 (Nat.le_trans (groups_len L i) (by omega)) (fun q hq => Nat.le_trans (groups_len2 L i q hq) (by omega)) rfl rfl rfl fun H3 k3 hg4 => ?_
      refine ⟨k3, ?_, _, (_, _), rfl⟩
      rw [groupsP_take]
      exact hg4
    · rintro σ' H2 ⟨k2, ⟨g0, ts2, a1, a2, a3, a4⟩, y, z, rfl⟩
      rw [List.length_map] at a1 a3 a4
      refine g_ret (e_listV (g_var rfl ⟨g, _, rfl, a3, fun l hl => ?_⟩))
      have a1' : ts2.length = (((List.range L.length).foldl (fun G (i : Nat) => groupAdd G (L.getD i 0) i) []).map (·.1)).length := by rw [List.length_map]; exact a1
      rw [kvOf_vals a1']
      have kk : Kp [] H H2 := k.trans k2
      refine q l _ (kk.new hl) ⟨kk.free (by simp) hl, ts2, upd_same, ?_, a2, ?_, fun i t M h1 h2 => ?_⟩
      · rw [a1]
        unfold piecesP groupsP
        rw [hLL, List.length_map]
      · intro hm
        obtain ⟨i, hi, e⟩ := List.getElem_of_mem hm
        have hi2 : i < ((List.range L.length).foldl (fun G (i : Nat) => groupAdd G (L.getD i 0) i) []).length := by rw [← a1]; exact hi
        have := (a4 i l _ (by rw [List.getElem?_eq_getElem hi, e]) (List.getElem?_eq_getElem hi2)).2
        rw [hl] at this; cases this
      · unfold piecesP groupsP at h2
        rw [hLL, List.getElem?_map] at h2
        cases e : ((List.range L.length).foldl (fun G (i : Nat) => groupAdd G (L.getD i 0) i) [])[i]? with
        | none => rw [e] at h2; cases h2
        | some p =>
          rw [e] at h2
          have eM : p.2 = M := Option.some.inj h2
          obtain ⟨b1, b2⟩ := a4 i t p h1 e
          refine ⟨k.free (by simp) b1, ?_⟩
          rw [upd_ne (ne_of_none b2 hl), b2, eM]

/-! ## Ma -/
/-! ### the law of the pieces: both ways give the same lists -/
/-- two events are joined by the rows -/
inductive Conn (rows : List Row) : Nat → Nat → Prop
  | refl (a : Nat) : Conn rows a a
  | edge {r : Row} : r ∈ rows → Conn rows r.s.toNat r.e.toNat
  | symm {a b : Nat} : Conn rows a b → Conn rows b a
  | trans {a b c : Nat} : Conn rows a b → Conn rows b c → Conn rows a c
theorem Conn.mono {rows rows' : List Row} (h : ∀ r ∈ rows, r ∈ rows') {a b : Nat} (c : Conn rows a b) : Conn rows' a b := by
  induction c with
  | refl a => exact .refl a
  | edge hr => exact .edge (h _ hr)
  | symm _ ih => exact ih.symm
  | trans _ _ i1 i2 => exact i1.trans i2
/-- what is the same at both ends of each row is the same for joined events -/
theorem Conn.same {rows : List Row} {α : Type} {f : Nat → α} (h : ∀ r ∈ rows, f r.s.toNat = f r.e.toNat) {a b : Nat} (c : Conn rows a b) : f a = f b := by
  induction c with
  | refl a => rfl
  | edge hr => exact h _ hr
  | symm _ ih => exact ih.symm
  | trans _ _ i1 i2 => exact i1.trans i2
abbrev In (n : Nat) (rows : List Row) : Prop := ∀ r ∈ rows, r.s.toNat < n ∧ r.e.toNat < n
theorem getD_join {L : List Int} {s e i : Nat} (hi : i < L.length) : (joinL L s e).getD i 0 = if L.getD i 0 = L.getD e 0 then L.getD s 0 else L.getD i 0 := by
  unfold joinL
  simp [List.getD_eq_getElem?_getD, List.getElem?_eq_getElem hi]
theorem getD_range {n i : Nat} (hi : i < n) : ((List.range n).map fun (i : Nat) => (i : Int)).getD i 0 = (i : Int) := by
  simp [List.getD_eq_getElem?_getD, hi]
/-- the program's labels: equal ones are joined -/
theorem labsP_conn {n : Nat} : ∀ (k : Nat) (rows : List Row), rows.length = k → In n rows → ∀ a b, a < n → b < n → (labsP n rows).getD a 0 = (labsP n rows).getD b 0 → Conn rows a b := by
  intro k
  induction k with
  | zero =>
    intro rows hk hin a b ha hb h
    have : rows = [] := List.eq_nil_of_length_eq_zero hk
    subst this
    change ((List.range n).map fun (i : Nat) => (i : Int)).getD a 0 = ((List.range n).map fun (i : Nat) => (i : Int)).getD b 0 at h
    rw [getD_range ha, getD_range hb] at h
    have : a = b := by omega
    subst this
    exact .refl a
  | succ k ih =>
    intro rows hk hin a b ha hb h
    obtain ⟨init, r, rfl⟩ : ∃ init r, rows = init ++ [r] := by
      obtain ⟨i, r, e⟩ := (List.eq_nil_or_concat rows).resolve_left (by intro z; rw [z] at hk; simp at hk)
      exact ⟨i, r, by rw [e, List.concat_eq_append]⟩
    have hin' : In n init := fun q hq => hin q (List.mem_append_left _ hq)
    have hr := hin r (by simp)
    have e : labsP n (init ++ [r]) = joinL (labsP n init) r.s.toNat r.e.toNat := by
      unfold labsP
      rw [List.foldl_append]
      rfl
    rw [e, getD_join (by rw [labsP_len]; exact ha), getD_join (by rw [labsP_len]; exact hb)] at h
    have I := ih init (by simpa using hk) hin'
    have up : ∀ {a b : Nat}, Conn init a b → Conn (init ++ [r]) a b := fun c => c.mono fun q hq => List.mem_append_left _ hq
    have ed : Conn (init ++ [r]) r.s.toNat r.e.toNat := .edge (by simp)
    by_cases h1 : (labsP n init).getD a 0 = (labsP n init).getD r.e.toNat 0
    · by_cases h2 : (labsP n init).getD b 0 = (labsP n init).getD r.e.toNat 0
      · exact up (I a b ha hb (h1.trans h2.symm))
      · rw [if_pos h1, if_neg h2] at h
        exact (up (I a _ ha hr.2 h1)).trans (ed.symm.trans (up (I _ b hr.1 hb h)))
    · by_cases h2 : (labsP n init).getD b 0 = (labsP n init).getD r.e.toNat 0
      · rw [if_neg h1, if_pos h2] at h
        exact (up (I a _ ha hr.1 h)).trans (ed.trans (up (I _ b hr.2 hb h2.symm)))
      · rw [if_neg h1, if_neg h2] at h
        exact up (I a b ha hb h)
/-- .. and joined ones are equal -/
theorem labsP_edge {n : Nat} : ∀ (k : Nat) (rows : List Row), rows.length = k → In n rows → ∀ r ∈ rows, (labsP n rows).getD r.s.toNat 0 = (labsP n rows).getD r.e.toNat 0 := by
  intro k
  induction k with
  | zero =>
    intro rows hk hin r hr
    have : rows = [] := List.eq_nil_of_length_eq_zero hk
    subst this
    cases hr
  | succ k ih =>
    intro rows hk hin q hq
    obtain ⟨init, r, rfl⟩ : ∃ init r, rows = init ++ [r] := by
      obtain ⟨i, r, e⟩ := (List.eq_nil_or_concat rows).resolve_left (by intro z; rw [z] at hk; simp at hk)
      exact ⟨i, r, by rw [e, List.concat_eq_append]⟩
    have hin' : In n init := fun q hq => hin q (List.mem_append_left _ hq)
    have hb := hin q hq
    have e : labsP n (init ++ [r]) = joinL (labsP n init) r.s.toNat r.e.toNat := by
      unfold labsP
      rw [List.foldl_append]
      rfl
    rw [e, getD_join (by rw [labsP_len]; exact hb.1), getD_join (by rw [labsP_len]; exact hb.2)]
    rcases List.mem_append.mp hq with h | h
    · rw [ih init (by simpa using hk) hin' q h]
    · have : q = r := by simpa using h
      subst this
      rw [if_pos rfl]
      split
      · rfl
      · rfl
theorem labsP_iff {n : Nat} {rows : List Row} (hin : In n rows) {a b : Nat} (ha : a < n) (hb : b < n) : (labsP n rows).getD a 0 = (labsP n rows).getD b 0 ↔ Conn rows a b :=
  ⟨labsP_conn _ rows rfl hin a b ha hb, fun c => c.same (f := fun i => (labsP n rows).getD i 0) (labsP_edge _ rows rfl hin)⟩
/-! the law's labels -/
theorem lowL_len (L : List Int) (s e : Nat) : (lowL L s e).length = L.length := by unfold lowL; simp
theorem roundL_len (rows : List Row) : ∀ L : List Int, (roundL rows L).length = L.length := by
  unfold roundL
  induction rows with
  | nil => intro L; rfl
  | cons r rows ih => intro L; show (rows.foldl _ (lowL L _ _)).length = _; rw [ih, lowL_len]
theorem labsL_len (n : Nat) (rows : List Row) : ∀ k, (labsL n rows k).length = n
  | 0 => by simp [labsL]
  | k + 1 => by show (roundL rows (labsL n rows k)).length = n; rw [roundL_len, labsL_len n rows k]
theorem getD_low {L : List Int} {s e i : Nat} (hs : s < L.length) (he : e < L.length) (hi : i < L.length) : (lowL L s e).getD i 0 = if i = e ∨ i = s then min (L.getD s 0) (L.getD e 0) else L.getD i 0 := by
  unfold lowL
  simp only [List.getD_eq_getElem?_getD, List.getElem?_set, List.length_set]
  by_cases h1 : e = i
  · subst h1; simp [he]
  · by_cases h2 : s = i
    · subst h2; simp [h1, hs]
    · rw [if_neg h1, if_neg h2, if_neg (by rintro (h | h) <;> simp_all)]
/-- the least of the events joined with v -/
theorem least_ex (rows : List Row) (v : Nat) : ∃ m, Conn rows v m ∧ ∀ u, Conn rows v u → m ≤ u := by
  have key : ∀ k u, u ≤ k → Conn rows v u → ∃ m, Conn rows v m ∧ ∀ u, Conn rows v u → m ≤ u := by
    intro k
    induction k with
    | zero => intro u hu c; exact ⟨u, c, fun w _ => by omega⟩
    | succ k ih =>
      intro u hu c
      by_cases h : ∃ w, w < u ∧ Conn rows v w
      · obtain ⟨w, hw, cw⟩ := h
        exact ih w (by omega) cw
      · exact ⟨u, c, fun w cw => by
          by_cases hw : w < u
          · exact (h ⟨w, hw, cw⟩).elim
          · omega⟩
  exact key v v (Nat.le_refl _) (.refl v)
noncomputable def mu (rows : List Row) (v : Nat) : Nat := Classical.choose (least_ex rows v)
theorem mu_conn (rows : List Row) (v : Nat) : Conn rows v (mu rows v) := (Classical.choose_spec (least_ex rows v)).1
theorem mu_le {rows : List Row} {v u : Nat} (c : Conn rows v u) : mu rows v ≤ u := (Classical.choose_spec (least_ex rows v)).2 u c
theorem mu_eq {rows : List Row} {a b : Nat} (c : Conn rows a b) : mu rows a = mu rows b := by
  have h1 := mu_le (c.trans (mu_conn rows b))
  have h2 := mu_le (c.symm.trans (mu_conn rows a))
  omega
theorem mu_self {rows : List Row} (v : Nat) : mu rows (mu rows v) = mu rows v := (mu_eq (mu_conn rows v)).symm
/-- labels that lie between the least and the event itself -/
structure Mid (n : Nat) (rows : List Row) (L : List Int) : Prop where
  len : L.length = n
  lo : ∀ i, i < n → (mu rows i : Int) ≤ L.getD i 0
  hi : ∀ i, i < n → L.getD i 0 ≤ (i : Int)
theorem Mid.low {n : Nat} {rows : List Row} {L : List Int} (h : Mid n rows L) (hin : In n rows) {r : Row} (hr : r ∈ rows) : Mid n rows (lowL L r.s.toNat r.e.toNat) ∧
    (∀ i, i < n → L.getD i 0 = (mu rows i : Int) → (lowL L r.s.toNat r.e.toNat).getD i 0 = (mu rows i : Int)) ∧
    (L.getD r.s.toNat 0 = (mu rows r.s.toNat : Int) ∨ L.getD r.e.toNat 0 = (mu rows r.e.toNat : Int) → (lowL L r.s.toNat r.e.toNat).getD r.s.toNat 0 = (mu rows r.s.toNat : Int) ∧ (lowL L r.s.toNat r.e.toNat).getD r.e.toNat 0 = (mu rows r.e.toNat : Int)) := by
  obtain ⟨hs, he⟩ := hin r hr
  have em : mu rows r.s.toNat = mu rows r.e.toNat := mu_eq (.edge hr)
  have l1 := h.lo _ hs; have l2 := h.lo _ he; have u1 := h.hi _ hs; have u2 := h.hi _ he
  have len := h.len
  have g : ∀ i, i < n → (lowL L r.s.toNat r.e.toNat).getD i 0 = if i = r.e.toNat ∨ i = r.s.toNat then min (L.getD r.s.toNat 0) (L.getD r.e.toNat 0) else L.getD i 0 := fun i hi => getD_low (by omega) (by omega) (by omega)
  refine ⟨⟨by rw [lowL_len, len], fun i hi => ?_, fun i hi => ?_⟩, fun i hi e => ?_, fun hor => ?_⟩
  · rw [g i hi]
    split
    · rename_i hc
      rcases hc with rfl | rfl <;> omega
    · exact h.lo i hi
  · rw [g i hi]
    split
    · rename_i hc
      rcases hc with rfl | rfl <;> omega
    · exact h.hi i hi
  · rw [g i hi]
    split
    · rename_i hc
      rcases hc with rfl | rfl <;> omega
    · exact e
  · rw [g _ hs, g _ he, if_pos (.inr rfl), if_pos (.inl rfl)]
    rcases hor with h | h <;> constructor <;> omega
theorem Mid.round {n : Nat} {rows : List Row} (hin : In n rows) : ∀ (part : List Row) {L : List Int}, (∀ r ∈ part, r ∈ rows) → Mid n rows L → Mid n rows (roundL part L) ∧ (∀ i, i < n → L.getD i 0 = (mu rows i : Int) → (roundL part L).getD i 0 = (mu rows i : Int)) ∧
    ∀ r ∈ part, (L.getD r.s.toNat 0 = (mu rows r.s.toNat : Int) ∨ L.getD r.e.toNat 0 = (mu rows r.e.toNat : Int)) → (roundL part L).getD r.s.toNat 0 = (mu rows r.s.toNat : Int) ∧ (roundL part L).getD r.e.toNat 0 = (mu rows r.e.toNat : Int)
  | [], L, _, h => ⟨h, fun _ _ e => e, fun r hr => nomatch hr⟩
  | q :: part, L, hp, h => by
    obtain ⟨a1, a2, a3⟩ := h.low hin (hp q List.mem_cons_self)
    obtain ⟨b1, b2, b3⟩ := Mid.round hin part (fun r hr => hp r (List.mem_cons_of_mem _ hr)) a1
    have er : roundL (q :: part) L = roundL part (lowL L q.s.toNat q.e.toNat) := rfl
    rw [er]
    refine ⟨b1, fun i hi e => b2 i hi (a2 i hi e), fun r hr hor => ?_⟩
    have hir := hin r (hp r hr)
    rcases List.mem_cons.mp hr with rfl | hr'
    · obtain ⟨c1, c2⟩ := a3 hor
      exact ⟨b2 _ hir.1 c1, b2 _ hir.2 c2⟩
    · refine b3 r hr' ?_
      rcases hor with h | h
      · exact .inl (a2 _ hir.1 h)
      · exact .inr (a2 _ hir.2 h)
/-- how many labels have come down -/
def down (n : Nat) (μ : Nat → Nat) (L : List Int) : Nat := ((List.range n).filter fun i => L.getD i 0 == (μ i : Int)).length
theorem filter_len_mono {p q : Nat → Bool} : ∀ (l : List Nat), (∀ i ∈ l, p i = true → q i = true) → (l.filter p).length ≤ (l.filter q).length ∧ ((∃ i ∈ l, p i = false ∧ q i = true) → (l.filter p).length < (l.filter q).length)
  | [], _ => ⟨Nat.le_refl _, fun ⟨_, h, _⟩ => nomatch h⟩
  | a :: l, h => by
    obtain ⟨i1, i2⟩ := filter_len_mono (p := p) (q := q) l fun i hi => h i (List.mem_cons_of_mem _ hi)
    have ha := h a List.mem_cons_self
    rw [List.filter_cons, List.filter_cons]
    cases hp : p a with
    | true =>
      rw [if_pos rfl, if_pos (ha hp)]
      refine ⟨by simp; exact i1, fun ⟨i, hi, e1, e2⟩ => ?_⟩
      rcases List.mem_cons.mp hi with rfl | hi
      · rw [hp] at e1; cases e1
      · have := i2 ⟨i, hi, e1, e2⟩
        simp; exact this
    | false =>
      rw [if_neg (by decide)]
      cases hq : q a with
      | true => rw [if_pos rfl]; exact ⟨by simp; omega, fun _ => by simp; omega⟩
      | false =>
        rw [if_neg (by decide)]
        refine ⟨i1, fun ⟨i, hi, e1, e2⟩ => ?_⟩
        rcases List.mem_cons.mp hi with rfl | hi
        · rw [hq] at e2; cases e2
        · exact i2 ⟨i, hi, e1, e2⟩
theorem down_le (n : Nat) (μ : Nat → Nat) (L : List Int) : down n μ L ≤ n := by
  unfold down
  exact Nat.le_trans (List.length_filter_le _ _) (by simp)
theorem down_all {n : Nat} {μ : Nat → Nat} {L : List Int} (h : n ≤ down n μ L) : ∀ i, i < n → L.getD i 0 = (μ i : Int) := by
  intro i hi
  have e : ((List.range n).filter fun i => L.getD i 0 == (μ i : Int)) = List.range n := by
    refine List.Sublist.eq_of_length (List.filter_sublist) ?_
    have := down_le n μ L
    unfold down at this h
    rw [List.length_range]
    omega
  have hm : i ∈ (List.range n).filter fun i => L.getD i 0 == (μ i : Int) := by rw [e]; exact List.mem_range.mpr hi
  simpa using (List.mem_filter.mp hm).2
theorem mid0 (n : Nat) (rows : List Row) : Mid n rows (labsL n rows 0) :=
  ⟨labsL_len n rows 0, fun i hi => by show _ ≤ ((List.range n).map fun (i : Nat) => (i : Int)).getD i 0; rw [getD_range hi]; have := mu_le (.refl (rows := rows) i); omega, fun i hi => by show ((List.range n).map fun (i : Nat) => (i : Int)).getD i 0 ≤ _; rw [getD_range hi]; exact Int.le_refl _⟩
theorem round_down {n : Nat} {rows : List Row} (hin : In n rows) {L : List Int} (h : Mid n rows L) (hlt : down n (mu rows) L < n) : down n (mu rows) L < down n (mu rows) (roundL rows L) := by
  obtain ⟨b1, b2, b3⟩ := Mid.round hin rows (fun _ hr => hr) h
  have mono : ∀ i ∈ List.range n, (L.getD i 0 == (mu rows i : Int)) = true → ((roundL rows L).getD i 0 == (mu rows i : Int)) = true := fun i hi e => by
    have := b2 i (List.mem_range.mp hi) (by simpa using e)
    simpa using this
  refine (filter_len_mono (List.range n) mono).2 ?_
  -- some label has not come down
  have hbad : ∃ v, v < n ∧ L.getD v 0 ≠ (mu rows v : Int) := by
    by_cases hc : ∃ v, v < n ∧ L.getD v 0 ≠ (mu rows v : Int)
    · exact hc
    · exfalso
      have e : ((List.range n).filter fun i => L.getD i 0 == (mu rows i : Int)) = List.range n := List.filter_eq_self.mpr fun i hi => by
        by_cases hx : L.getD i 0 = (mu rows i : Int)
        · simpa using hx
        · exact (hc ⟨i, List.mem_range.mp hi, hx⟩).elim
      unfold down at hlt
      rw [e, List.length_range] at hlt
      omega
  obtain ⟨v, hv, hne⟩ := hbad
  have hmn : mu rows v < n := by have := mu_le (.refl (rows := rows) v); omega
  have hmu : L.getD (mu rows v) 0 = (mu rows (mu rows v) : Int) := by
    have l1 := h.lo _ hmn
    have u1 := h.hi _ hmn
    rw [mu_self] at l1 ⊢
    omega
  -- a row with one end down
  have hrow : ∃ r ∈ rows, ¬ ((L.getD r.s.toNat 0 = (mu rows r.s.toNat : Int)) ↔ (L.getD r.e.toNat 0 = (mu rows r.e.toNat : Int))) := by
    by_cases hc : ∃ r ∈ rows, ¬ ((L.getD r.s.toNat 0 = (mu rows r.s.toNat : Int)) ↔ (L.getD r.e.toNat 0 = (mu rows r.e.toNat : Int)))
    · exact hc
    · exfalso
      have hs : ∀ r ∈ rows, (fun i => L.getD i 0 = (mu rows i : Int)) r.s.toNat = (fun i => L.getD i 0 = (mu rows i : Int)) r.e.toNat := fun r hr => propext (by
        by_cases hx : ((L.getD r.s.toNat 0 = (mu rows r.s.toNat : Int)) ↔ (L.getD r.e.toNat 0 = (mu rows r.e.toNat : Int)))
        · exact hx
        · exact (hc ⟨r, hr, hx⟩).elim)
      have := Conn.same (f := fun i => L.getD i 0 = (mu rows i : Int)) hs (mu_conn rows v)
      have e : (L.getD v 0 = (mu rows v : Int)) = (L.getD (mu rows v) 0 = (mu rows (mu rows v) : Int)) := this
      exact hne (Eq.mpr e hmu)
  obtain ⟨r, hr, hx⟩ := hrow
  obtain ⟨hs, he⟩ := hin r hr
  by_cases h1 : L.getD r.s.toNat 0 = (mu rows r.s.toNat : Int)
  · have h2 : ¬ L.getD r.e.toNat 0 = (mu rows r.e.toNat : Int) := fun z => hx ⟨fun _ => z, fun _ => h1⟩
    exact ⟨_, List.mem_range.mpr he, by simpa using h2, by simpa using (b3 r hr (.inl h1)).2⟩
  · have h2 : L.getD r.e.toNat 0 = (mu rows r.e.toNat : Int) := by
      by_cases h2 : L.getD r.e.toNat 0 = (mu rows r.e.toNat : Int)
      · exact h2
      · exact (hx ⟨fun z => (h1 z).elim, fun z => (h2 z).elim⟩).elim
    exact ⟨_, List.mem_range.mpr hs, by simpa using h1, by simpa using (b3 r hr (.inr h2)).1⟩
theorem labs_down {n : Nat} {rows : List Row} (hin : In n rows) : ∀ k, Mid n rows (labsL n rows k) ∧ min k n ≤ down n (mu rows) (labsL n rows k)
  | 0 => ⟨mid0 n rows, by simp⟩
  | k + 1 => by
    obtain ⟨h, hd⟩ := labs_down hin k
    have e : labsL n rows (k + 1) = roundL rows (labsL n rows k) := rfl
    rw [e]
    refine ⟨(Mid.round hin rows (fun _ hr => hr) h).1, ?_⟩
    have hle := down_le n (mu rows) (labsL n rows k)
    by_cases hlt : down n (mu rows) (labsL n rows k) < n
    · have := round_down hin h hlt
      omega
    · have all := down_all (n := n) (μ := mu rows) (L := labsL n rows k) (by omega)
      have b2 := (Mid.round hin rows (fun _ hr => hr) h).2.1
      have mono : ∀ i ∈ List.range n, ((labsL n rows k).getD i 0 == (mu rows i : Int)) = true → ((roundL rows (labsL n rows k)).getD i 0 == (mu rows i : Int)) = true := fun i hi e => by
        have := b2 i (List.mem_range.mp hi) (by simpa using e)
        simpa using this
      have := (filter_len_mono (List.range n) mono).1
      unfold down at hlt ⊢
      omega
theorem labsL_mu {n : Nat} {rows : List Row} (hin : In n rows) {i : Nat} (hi : i < n) : (labsL n rows n).getD i 0 = (mu rows i : Int) :=
  down_all (by have := (labs_down hin n).2; rw [Nat.min_self] at this; exact this) i hi
/-! groups by first coming -/
def isFirst (L : List Int) (f : Nat) : Bool := (List.range f).all fun e => L.getD e 0 != L.getD f 0
def canon (L : List Int) (k : Nat) : List (Int × List Int) := ((List.range k).filter (isFirst L)).map fun (f : Nat) => (L.getD f 0, ((List.range k).filter fun (e : Nat) => L.getD e 0 == L.getD f 0).map fun (e : Nat) => (e : Int))
theorem groupAdd_new (l e : Int) : ∀ G : List (Int × List Int), (∀ g ∈ G, g.1 ≠ l) → groupAdd G l e = G ++ [(l, [e])]
  | [], _ => rfl
  | g :: G, h => by
    show (if g.1 = l then _ else g :: groupAdd G l e) = _
    rw [if_neg (h g List.mem_cons_self), groupAdd_new l e G fun q hq => h q (List.mem_cons_of_mem _ hq)]
    rfl
theorem groupAdd_old (l e : Int) : ∀ G : List (Int × List Int), (G.map (·.1)).Nodup → (∃ g ∈ G, g.1 = l) → groupAdd G l e = G.map fun g => if g.1 = l then (g.1, g.2 ++ [e]) else g
  | [], _, h => by obtain ⟨_, h, _⟩ := h; cases h
  | g :: G, nd, h => by
    rw [List.map_cons, List.nodup_cons] at nd
    show (if g.1 = l then (l, g.2 ++ [e]) :: G else g :: groupAdd G l e) = _
    rw [List.map_cons]
    by_cases hg : g.1 = l
    · rw [if_pos hg, if_pos hg, hg]
      congr 1
      have : G.map (fun g => if g.1 = l then (g.1, g.2 ++ [e]) else g) = G.map id := List.map_congr_left fun q hq => by
        rw [if_neg (fun z => nd.1 (List.mem_map.mpr ⟨q, hq, z.trans hg.symm⟩))]
        rfl
      rw [this, List.map_id]
    · rw [if_neg hg, if_neg hg]
      congr 1
      refine groupAdd_old l e G nd.2 ?_
      obtain ⟨q, hq, e⟩ := h
      rcases List.mem_cons.mp hq with rfl | hq
      · exact (hg e).elim
      · exact ⟨q, hq, e⟩
theorem isFirst_iff {L : List Int} {f : Nat} : isFirst L f = true ↔ ∀ e, e < f → L.getD e 0 ≠ L.getD f 0 := by
  unfold isFirst
  simp [List.all_eq_true]
theorem first_ex (L : List Int) : ∀ k, ∃ f, f ≤ k ∧ L.getD f 0 = L.getD k 0 ∧ isFirst L f = true := by
  intro k
  have key : ∀ m f, f ≤ m → f ≤ k → L.getD f 0 = L.getD k 0 → ∃ f, f ≤ k ∧ L.getD f 0 = L.getD k 0 ∧ isFirst L f = true := by
    intro m
    induction m with
    | zero => intro f hf hk e; exact ⟨f, hk, e, isFirst_iff.mpr fun e he => by omega⟩
    | succ m ih =>
      intro f hf hk e
      by_cases h : ∃ g, g < f ∧ L.getD g 0 = L.getD f 0
      · obtain ⟨g, hg, eg⟩ := h
        exact ih g (by omega) (by omega) (eg.trans e)
      · exact ⟨f, hk, e, isFirst_iff.mpr fun g hg z => h ⟨g, hg, z⟩⟩
  exact key k k (Nat.le_refl _) (Nat.le_refl _) rfl
theorem canon_nodup (L : List Int) (k : Nat) : ((canon L k).map (·.1)).Nodup := by
  unfold canon
  rw [List.map_map]
  refine List.pairwise_map.mpr ?_
  have nd : ((List.range k).filter (isFirst L)).Pairwise (· < ·) := List.Pairwise.filter _ List.pairwise_lt_range
  have nd2 := List.Pairwise.and_mem.mp nd
  refine nd2.imp fun {a b} h => ?_
  obtain ⟨ha, hb, hlt⟩ := h
  exact isFirst_iff.mp (List.mem_filter.mp hb).2 a hlt
theorem canon_step (L : List Int) (k : Nat) : canon L (k + 1) = groupAdd (canon L k) (L.getD k 0) (k : Int) := by
  cases hk : isFirst L k with
  | true =>
    have hk' := isFirst_iff.mp hk
    rw [groupAdd_new]
    · unfold canon
      rw [List.range_succ, List.filter_append, List.map_append]
      congr 1
      · refine List.map_congr_left fun f hf => ?_
        have hf' := List.mem_range.mp (List.mem_filter.mp hf).1
        rw [List.filter_append]
        have : [k].filter (fun e => L.getD e 0 == L.getD f 0) = [] := by
          rw [List.filter_cons, if_neg (by simpa using fun z => hk' f hf' z.symm)]
          rfl
        rw [this, List.append_nil]
      · rw [List.filter_cons, if_pos hk]
        show [_] = _
        congr 1
        dsimp only
        rw [List.filter_append]
        have e1 : (List.range k).filter (fun e => L.getD e 0 == L.getD k 0) = [] := List.filter_eq_nil_iff.mpr fun e he => by simpa using hk' e (List.mem_range.mp he)
        rw [e1]
        simp
    · intro g hg
      unfold canon at hg
      obtain ⟨f, hf, rfl⟩ := List.mem_map.mp hg
      exact hk' f (List.mem_range.mp (List.mem_filter.mp hf).1)
  | false =>
    rw [groupAdd_old _ _ _ (canon_nodup L k)]
    · unfold canon
      rw [List.range_succ, List.filter_append]
      have : [k].filter (isFirst L) = [] := by rw [List.filter_cons, if_neg (by rw [hk]; decide)]; rfl
      rw [this, List.append_nil, List.map_map]
      refine List.map_congr_left fun f hf => ?_
      show _ = if L.getD f 0 = L.getD k 0 then _ else _
      rw [List.filter_append]
      by_cases hc : L.getD f 0 = L.getD k 0
      · rw [if_pos hc, List.filter_cons, if_pos (by simpa using hc.symm)]
        simp
      · rw [if_neg hc, List.filter_cons, if_neg (by simpa using fun z => hc z.symm)]
        simp
    · obtain ⟨f, hf, e, h⟩ := first_ex L k
      have hlt : f < k := by
        rcases Nat.lt_or_eq_of_le hf with h2 | h2
        · exact h2
        · subst h2; rw [hk] at h; cases h
      exact ⟨_, List.mem_map.mpr ⟨f, List.mem_filter.mpr ⟨List.mem_range.mpr hlt, h⟩, rfl⟩, e⟩
theorem groups_canon (L : List Int) (k : Nat) : (List.range k).foldl (fun G (i : Nat) => groupAdd G (L.getD i 0) i) [] = canon L k := by
  induction k with
  | zero => rfl
  | succ k ih => rw [groupsP_take, ih, canon_step]
theorem pieces_eq {n : Nat} {rows : List Row} (hin : In n rows) : joinedL n rows = piecesP n rows := by
  unfold piecesP groupsP joinedL foundL
  rw [groups_canon, labsP_len]
  unfold canon
  rw [List.map_map]
  have hf : ∀ f, f < n → ((labsL n rows n).getD f 0 == (f : Int)) = isFirst (labsP n rows) f := fun f hfn => by
    rw [labsL_mu hin hfn]
    have key : (mu rows f : Int) = (f : Int) ↔ isFirst (labsP n rows) f = true := by
      rw [isFirst_iff]
      constructor
      · intro e g hg z
        have c := (labsP_iff hin (by omega) hfn).mp z
        have := mu_le c.symm
        omega
      · intro h
        have hle := mu_le (.refl (rows := rows) f)
        rcases Nat.lt_or_eq_of_le hle with h2 | h2
        · exact (h _ h2 ((labsP_iff hin (by omega) hfn).mpr (mu_conn rows f).symm)).elim
        · omega
    by_cases hc : (mu rows f : Int) = (f : Int)
    · rw [key.mp hc]; simpa using hc
    · have h2 : isFirst (labsP n rows) f = false := by
        cases e : isFirst (labsP n rows) f with
        | false => rfl
        | true => exact (hc (key.mpr e)).elim
      rw [h2]; simpa using hc
  have e1 : (List.range n).filter (fun (f : Nat) => (labsL n rows n).getD f 0 == (f : Int)) = (List.range n).filter (isFirst (labsP n rows)) := List.filter_congr fun f hfm => hf f (List.mem_range.mp hfm)
  rw [e1]
  refine List.map_congr_left fun f hfm => ?_
  have hfn := List.mem_range.mp (List.mem_filter.mp hfm).1
  have h1 := (List.mem_filter.mp hfm).2
  have hmu : (mu rows f : Int) = (f : Int) := by
    have := hf f hfn
    rw [h1, labsL_mu hin hfn] at this
    simpa using this
  show _ = ((List.range n).filter _).map _
  congr 1
  refine List.filter_congr fun e hem => ?_
  have hen := List.mem_range.mp hem
  rw [labsL_mu hin hen]
  by_cases hc : (mu rows e : Int) = (f : Int)
  · have c : Conn rows e f := by
      have e3 : mu rows e = f := by omega
      rw [← e3]
      exact mu_conn rows e
    have := (labsP_iff hin hen hfn).mpr c
    rw [show ((mu rows e : Int) == (f : Int)) = true by simpa using hc]
    simpa using this
  · have : ¬ (labsP n rows).getD e 0 = (labsP n rows).getD f 0 := fun z => hc (by
      have := mu_eq ((labsP_iff hin hen hfn).mp z)
      omega)
    rw [show ((mu rows e : Int) == (f : Int)) = false by simpa using hc]
    simpa using this

/-! ## Pu4 -/
theorem min2 (a b : Int) : (if b < a then b else a) = min a b := by omega
theorem ListsAt.snoc {H0 H : Hp} {a d : Addr} {Ls : List (List Int)} {M : List Int} (k : Kp [] H0 H) (h : ListsAt H0 H a Ls) (hd : H d = none) : ∃ ts : List Addr, H a = some (.lst (ts.map V.ref)) ∧ ts.length = Ls.length ∧ a ≠ d ∧ ListsAt H0 (upd (upd H d (.lst (M.map V.int))) a (.lst (ts.map V.ref ++ [.ref d]))) a (Ls ++ [M]) := by
  obtain ⟨a0, ts, ha, el, nd, na, ht⟩ := h
  have nad : a ≠ d := ne_of_none ha hd
  have hd0 : H0 d = none := k.free (by simp) hd
  have ntd : ∀ (i : Nat) t, ts[i]? = some t → t ≠ d := fun i t h1 => by
    have hi : i < Ls.length := by rw [← el]; exact (List.getElem?_eq_some_iff.mp h1).1
    exact ne_of_none (ht i t _ h1 (List.getElem?_eq_getElem hi)).2 hd
  refine ⟨ts, ha, el, nad, a0, ts ++ [d], ?_, by simp [el], ?_, ?_, fun i t L h1 h2 => ?_⟩
  · rw [upd_same, List.map_append]; rfl
  · rw [List.nodup_append]
    refine ⟨nd, by simp, fun x hx b hb => ?_⟩
    have eb : b = d := by simpa using hb
    subst eb
    obtain ⟨i, hi, rfl⟩ := List.getElem_of_mem hx
    exact ntd i _ (List.getElem?_eq_getElem hi)
  · intro hm
    rcases List.mem_append.mp hm with h | h
    · exact na h
    · exact nad (by simpa using h)
  · by_cases hi : i < ts.length
    · rw [List.getElem?_append_left hi] at h1
      rw [List.getElem?_append_left (by omega)] at h2
      obtain ⟨b1, b2⟩ := ht i t L h1 h2
      refine ⟨b1, ?_⟩
      have nta : t ≠ a := fun z => na (by rw [← z]; exact List.mem_of_getElem? h1)
      rw [upd_ne nta, upd_ne (ntd i t h1)]
      exact b2
    · rw [List.getElem?_append_right (by omega)] at h1 h2
      rw [← el] at h2
      cases e0 : i - ts.length with
      | zero =>
        rw [e0] at h1 h2
        cases h1; cases h2
        exact ⟨hd0, by rw [upd_ne nad.symm, upd_same]⟩
      | succ k => rw [e0] at h1; simp at h1
theorem foundL_more (L : List Int) (n f : Nat) : foundL L n (f + 1) = foundL L n f ++ (if L.getD f 0 = (f : Int) then [((List.range n).filter fun (e : Nat) => L.getD e 0 == (f : Int)).map fun (e : Nat) => (e : Int)] else []) := by
  unfold foundL
  rw [List.range_succ, List.filter_append, List.map_append]
  congr 1
  rw [List.filter_cons]
  by_cases h : L.getD f 0 = (f : Int)
  · rw [if_pos h, if_pos (by simpa using h)]
    rfl
  · rw [if_neg h, if_neg (by simpa using h)]
    rfl
theorem foundL_len (L : List Int) (n f : Nat) : (foundL L n f).length ≤ f := by
  unfold foundL
  rw [List.length_map]
  exact Nat.le_trans (List.length_filter_le _ _) (by simp)
theorem filter_rgI (n : Nat) (L : List Int) (f : Int) : (rgI n).filter (fun v => match v with | .int z => decide (L.getD z.toNat 0 = f) | _ => false) = (((List.range n).filter fun (e : Nat) => L.getD e 0 == f).map fun (e : Nat) => (e : Int)).map V.int := by
  unfold rgI
  rw [List.filter_map, List.map_map]
  rfl
theorem pure_l_joined {K : PySem.W.Frag} {vs H Q E} (h : sp_l_joined vs H Q E) : t_l_joined K { nx := fun _ H' => Q .non H', rt := Q } (start N_l_joined vs) H := by
  obtain ⟨a, T, n, rows, rfl, ⟨ts, ha, hr⟩, n0, n1, hl, ok, q⟩ := h
  have el : ts.length = rows.length := hr.1
  refine q_set (e_lstRg (by walk_at "v") ⟨n0, by omega⟩ fun lb hlb => ?_)
  have nal : a ≠ lb := ne_of_none ha hlb
  refine q_forR (by walk_at "ar") (by omega) (fun k σ' H' => ∃ y z w, σ' = [some (.int n), some (.ref a), some (.ref lb), y, none, none, z, w, none] ∧ Kp [] H H' ∧ H' lb = some (.lst ((labsL n.toNat rows k).map V.int)))
    ⟨_, _, _, rfl, (Kp.refl _ _).new hlb, by rw [upd_same, rgI_map]; rfl⟩ ?_ ?_
  · rintro k σ' H' hk ⟨y, z, w, rfl, kp, hL⟩
    refine s_forL (by walk_at "v") (SqL.of (kp _ _ (by simp) ha)) (fun j σ' H' => ∃ y z w, σ' = [some (.int n), some (.ref a), some (.ref lb), y, none, none, z, w, none] ∧ Kp [] H H' ∧ H' lb = some (.lst ((roundL (rows.take j) (labsL n.toNat rows k)).map V.int)))
      ⟨_, _, _, rfl, kp, hL⟩ (fun i σ' H' _ ⟨_, _, _, _, kp, _⟩ => SqL.of (kp _ _ (by simp) ha)) ?_ ?_
    · rintro j v σ' H' hi ⟨y, z, w, rfl, kp, hL⟩
      obtain ⟨u, hu, rfl⟩ := refs_at hi
      have hlt : j < rows.length := by
        have := (List.getElem?_eq_some_iff.mp hu).1
        omega
      have hru : H' u = some (.tup rows[j].vs) := kp _ _ (by simp) (hr.2 j u _ hu (List.getElem?_eq_getElem hlt))
      have o := ok _ (List.getElem_mem hlt)
      have := o.s0; have := o.s1; have := o.e0; have := o.e1
      generalize hM : roundL (rows.take j) (labsL n.toNat rows k) = M at hL
      have eM : M.length = n.toNat := by rw [← hM, roundL_len, labsL_len]
      have vs : ∀ {σ : L2.St} {H : Hp}, σ[6]? = some (some (.ref u)) → H u = some (.tup rows[j].vs) → Val (tOp (rIxT K) (tVar 6) (tC (.int 0))) σ H (.int rows[j].s) := fun s h => v_ixT (val_var s) val_c (SqT.of h) rfl
      have ve : ∀ {σ : L2.St} {H : Hp}, σ[6]? = some (some (.ref u)) → H u = some (.tup rows[j].vs) → Val (tOp (rIxT K) (tVar 6) (tC (.int 1))) σ H (.int rows[j].e) := fun s h => v_ixT (val_var s) val_c (SqT.of h) rfl
      have nul : u ≠ lb := ne_of hru hL (by intro z; cases z)
      refine q_val (v_min2 (ar_cons (v_ixL (val_var rfl) (vs rfl hru) (SqL.of hL) (atI_ints (by omega) (by omega))) (ar_cons (v_ixL (val_var rfl) (ve rfl hru) (SqL.of hL) (atI_ints (by omega) (by omega))) ar_nil))) ?_
      rw [min2]
      refine q_setI (val_var rfl) (val_var rfl) (vs rfl hru) hL (ixN_of (by omega) (by rw [List.length_map]; omega)) ?_
      refine g_setI (val_var rfl) (val_var rfl) (ve rfl (by rw [upd_ne nul]; exact hru)) upd_same (ixN_of (by omega) (by rw [List.length_set, List.length_map]; omega)) ?_
      rw [upd_upd]
      refine ⟨_, _, _, rfl, kp.mut hlb, ?_⟩
      rw [upd_same]
      have e1 : roundL (rows.take (j + 1)) (labsL n.toNat rows k) = lowL M rows[j].s.toNat rows[j].e.toNat := by
        rw [← hM]
        unfold roundL
        rw [List.take_succ, List.getElem?_eq_getElem hlt, List.foldl_append]
        rfl
      rw [e1]
      unfold lowL
      rw [List.map_set, List.map_set]
    · rintro σ' H' ⟨y, z, w, rfl, kp, hL⟩
      rw [List.length_map, el, List.take_length] at hL
      exact ⟨_, _, _, rfl, kp, hL⟩
  · rintro σ' H' ⟨y, z, w, rfl, kp, hL⟩
    generalize hLL : labsL n.toNat rows n.toNat = L at hL
    have eL : L.length = n.toNat := by rw [← hLL, labsL_len]
    refine q_set (g_lst (g_nil ⟨by decide, fun fl hfl => ?_⟩))
    have nlf : lb ≠ fl := ne_of_none hL hfl
    refine q_forR (by walk_at "ar") (by omega) (fun f σ' H2 => ∃ y0 y z w, σ' = [some (.int n), some (.ref a), some (.ref lb), y0, some (.ref fl), y, z, w, none] ∧ Kp [] H' H2 ∧ H2 lb = some (.lst (L.map V.int)) ∧ ListsAt H' H2 fl (foundL L n.toNat f))
      ⟨_, _, _, _, rfl, (Kp.refl _ _).new hfl, by rw [upd_ne nlf]; exact hL, hfl, [], upd_same, rfl, List.nodup_nil, by simp, fun i t L h => by simp at h⟩ ?_ ?_
    · rintro f σ' H2 hf ⟨y0, y, z, w, rfl, k2, hL2, hls⟩
      refine g_ifA (a_test (v_eq (v_ixL (val_var rfl) (val_var rfl) (SqL.of hL2) (atI_ints (by omega) (by omega))) (val_var rfl) rfl)) (fun hb => ?_) (fun hb => ?_)
      · have hb' : L.getD f 0 = (f : Int) := by simpa using hb
        have hfl2 := hls
        obtain ⟨_, ts2, hfl3, el3, _⟩ := hls
        refine g_drop (e_appc (by walk_at "v") hfl3 ?_)
        refine e_lcR (fun v => v) (fun v => match v with | .int z => decide (L.getD z.toNat 0 = (f : Int)) | _ => false) (by walk_at "ar") ⟨n0, by omega⟩ (fun _ => rfl) (fun i Dl o hi hD => ?_) (fun i Dl o hi hg hD => val_var rfl) fun Dl hD => ?_
        · have hLD : upd H2 Dl o lb = some (.lst (L.map V.int)) := by rw [upd_ne (ne_of_none hL2 hD)]; exact hL2
          have A := a_test (v_eq (v_ixL (K := K) (σ := (wipe [some (V.int n), some (.ref a), some (.ref lb), y0, some (.ref fl), some (.int (f : Int)), z, w, none] [8]).set 8 (some (.int (i : Nat)))) (ta := tVar 2) (tb := tVar 8) (val_var rfl) (val_var rfl) (SqL.of hLD) (atI_ints (by omega) (by omega))) (tb := tVar 5) (y := .int (f : Int)) (val_var rfl) rfl)
          have e : decide (V.int (L.getD ((i : Nat) : Int).toNat 0) = V.int (f : Int)) = decide (L.getD ((i : Nat) : Int).toNat 0 = (f : Int)) := by simp
          rw [e] at A
          exact A
        · rw [List.map_id', filter_rgI]
          obtain ⟨ts3, b1, b2, b3, b4⟩ := hfl2.snoc k2 hD (M := ((List.range n.toNat).filter fun (e : Nat) => L.getD e 0 == (f : Int)).map fun (e : Nat) => (e : Int))
          refine g_nil ⟨fl, ts3.map V.ref, _, rfl, rfl, by rw [upd_ne b3]; exact b1, sz_lt (by rw [List.length_map, b2]; have := foundL_len L n.toNat f; omega), ?_⟩
          refine ⟨_, _, _, _, rfl, (k2.new hD).mut hfl, ?_, ?_⟩
          · rw [upd_ne nlf, upd_ne (ne_of_none hL2 hD)]; exact hL2
          · rw [foundL_more, if_pos hb']
            exact b4
      · have hb' : ¬ L.getD f 0 = (f : Int) := by simpa using hb
        refine ⟨_, _, _, _, rfl, k2, hL2, ?_⟩
        rw [foundL_more, if_neg hb', List.append_nil]
        exact hls
    · rintro σ' H2 ⟨y0, y, z, w, rfl, k2, hL2, hls⟩
      refine g_ret (g_val (by walk_at "v") (q fl H2 (kp.trans k2) ?_))
      obtain ⟨c1, ts2, c2, c3, c4, c5, c6⟩ := hls
      have ej : joinedL n.toNat rows = foundL L n.toNat n.toNat := by unfold joinedL; rw [hLL]
      rw [ej]
      exact ⟨kp.free (by simp) c1, ts2, c2, c3, c4, c5, fun i t L h1 h2 => ⟨kp.free (by simp) (c6 i t L h1 h2).1, (c6 i t L h1 h2).2⟩⟩
theorem call_joined {H : Hp} {Q : VK} {E : XK} {a : Addr} {T n : Int} {rows : List Row} (ha : SpansAt H a rows) (n0 : 0 ≤ n) (n1 : n ≤ 12) (hl : rows.length ≤ 24) (ok : ∀ r ∈ rows, r.Ok T n) (q : ∀ l H', Kp [] H H' → ListsAt H H' l (joinedL n.toNat rows) → Q (.ref l) H') : sp_l_joined [.int n, .ref a] H Q E := ⟨a, T, n, rows, rfl, ha, n0, n1, hl, ok, q⟩
/-! ### data -/
def llD (Ls : List (List Int)) : PyData := .list (Ls.map fun L => .list (L.map PyData.int))
def Small (Ls : List (List Int)) : Prop := Ls.length ≤ 1000 ∧ ∀ L ∈ Ls, L.length ≤ 1000
theorem LLAt.dat {H : Hp} {a : Addr} {Ls : List (List Int)} (h : LLAt H a Ls) (hs : Small Ls) : Dat H 2 (llD Ls) (.ref a) := by
  obtain ⟨ts, ha, el, ht⟩ := h
  refine ⟨a, _, rfl, ha, by rw [List.length_map]; have := hs.1; omega, by simp [el], fun i d x h1 h2 => ?_⟩
  obtain ⟨t, h3, rfl⟩ := refs_at h2
  rw [List.getElem?_map] at h1
  cases e : Ls[i]? with
  | none => rw [e] at h1; cases h1
  | some L =>
    rw [e] at h1
    cases h1
    refine ⟨t, _, rfl, ht i t L h3 e, by rw [List.length_map]; have := hs.2 L (List.mem_of_getElem? e); omega, by simp, fun j d x g1 g2 => ?_⟩
    rw [List.getElem?_map] at g1 g2
    cases e2 : L[j]? with
    | none => rw [e2] at g1; cases g1
    | some z =>
      rw [e2] at g1 g2
      cases g1; cases g2
      rfl
theorem ListsAt.ll {H0 H : Hp} {a : Addr} {Ls : List (List Int)} (h : ListsAt H0 H a Ls) : LLAt H a Ls := by
  obtain ⟨_, ts, ha, el, _, _, ht⟩ := h
  exact ⟨ts, ha, el, fun i t L h1 h2 => (ht i t L h1 h2).2⟩
theorem LLAt.kp {H H' : Hp} {a : Addr} {Ls : List (List Int)} (h : LLAt H a Ls) (k : Kp [] H H') : LLAt H' a Ls := by
  obtain ⟨ts, ha, el, ht⟩ := h
  exact ⟨ts, k _ _ (by simp) ha, el, fun i t L h1 h2 => k _ _ (by simp) (ht i t L h1 h2)⟩
theorem NetAt.kp {C : Addr} {H H' : Hp} {x : Addr} {T n : Int} {rows : List Row} (h : NetAt C H x T n rows) (k : Kp [] H H') : NetAt C H' x T n rows := by
  obtain ⟨dx, a, ts, hx, ha, hr⟩ := h
  exact ⟨dx, a, ts, k _ _ (by simp) hx, k _ _ (by simp) ha, hr.kp k fun _ _ z => nomatch z⟩
theorem small_pieces (n : Nat) (rows : List Row) (hn : n ≤ 12) : Small (piecesP n rows) := by
  unfold Small piecesP groupsP
  rw [labsP_len]
  refine ⟨?_, fun L hL => ?_⟩
  · rw [List.length_map]
    have := groups_len (labsP n rows) n
    omega
  · obtain ⟨q, hq, rfl⟩ := List.mem_map.mp hL
    have := groups_len2 (labsP n rows) n q hq
    omega
theorem call_pieces {K : PySem.W.Frag} {H : Hp} {Q : VK} {E : XK} {x : Addr} {T n : Int} {rows : List Row} (h : NetAt (He.ga K "Net") H x T n rows) (n0 : 0 ≤ n) (n1 : n ≤ 12) (ok : ∀ r ∈ rows, r.Ok T n) (q : ∀ l H', Kp [] H H' → ListsAt H H' l (piecesP n.toNat rows) → Q (.ref l) H') : sp_Net_pieces K [.ref x] H Q E := ⟨x, T, n, rows, rfl, h, n0, n1, ok, q⟩
/-- net.pieces() -/
theorem e_pieces {K : PySem.W.Frag} {σ : L2.St} {H : Hp} {Q : VK} {i : Nat} {x : Addr} {T n : Int} {rows : List Row} (hs : σ[i]? = some (some (.ref x))) (h : NetAt (He.ga K "Net") H x T n rows) (n0 : 0 ≤ n) (n1 : n ≤ 12) (ok : ∀ r ∈ rows, r.Ok T n) (q : ∀ l H', Kp [] H H' → ListsAt H H' l (piecesP n.toNat rows) → Q (.ref l) H') : tMeth (He.ga K "Net") "pieces" (sp_Net_pieces K) [] E0 (tVar i) tNil σ H Q := by
  have h' := h
  obtain ⟨dx, a, ts, hx, ha, hr⟩ := h
  exact e_meth (val_var hs) hx (fl_no _ _ _ (by decide +kernel) (by decide +kernel) (by decide +kernel)) (g_nil (call_pieces h' n0 n1 ok q))
theorem pure_l_pieces_good {K : PySem.W.Frag} {vs H Q E} (h : sp_l_pieces_good K vs H Q E) : t_l_pieces_good K { nx := fun _ H' => Q .non H', rt := Q } (start N_l_pieces_good vs) H := by
  obtain ⟨x, a, T, n, rows, rfl, hx, n0, n1, ok, hd, q⟩ := h
  have sm := small_pieces n.toNat rows (by omega)
  refine q_set (e_pieces rfl hx n0 n1 ok fun l H1 k1 h1 => ?_)
  refine q_no (b := !true) (a_not ?_) rfl ?_
  · intro Q' q'
    refine g_B ?_
    walk_at "call"
    exact call_same 2 (llD (piecesP n.toNat rows)) (by decide) (h1.ll.dat sm) ((hd.kp k1).dat sm) ⟨true, rfl, q'⟩
  obtain ⟨l0, ts, hl, el, nd, nl, ht⟩ := h1
  have tn : ∀ (i : Nat) t, ts[i]? = some t → H t = none ∧ ∃ L : List Int, L.length ≤ 1000 ∧ H1 t = some (.lst (L.map V.int)) := fun i t e => by
    have hi : i < (piecesP n.toNat rows).length := by rw [← el]; exact (List.getElem?_eq_some_iff.mp e).1
    obtain ⟨b1, b2⟩ := ht i t _ e (List.getElem?_eq_getElem hi)
    exact ⟨b1, _, sm.2 _ (List.getElem_mem hi), b2⟩
  refine q_drop (e_appc (by walk_at "v") hl (g_lst (g_args (by walk_at "ar") ⟨by decide, fun z hz => ?_⟩)))
  have nlz : l ≠ z := ne_of_none hl hz
  have hz0 : H z = none := k1.free (by simp) hz
  refine g_nil ⟨l, _, _, rfl, rfl, by rw [upd_ne nlz]; exact hl, sz_lt (by rw [List.length_map, el]; have := sm.1; omega), ?_⟩
  -- the first of the list
  have hfirst : ∃ (t : Addr) (L : List Int), H t = none ∧ t ≠ l ∧ L.length ≤ 1000 ∧ atI (ts.map V.ref ++ [V.ref z]) 0 = some (.ref t) ∧ (upd (upd H1 z (.lst [.int 0])) l (.lst (ts.map V.ref ++ [V.ref z]))) t = some (.lst (L.map V.int)) := by
    cases hts : ts with
    | nil => exact ⟨z, [0], hz0, nlz.symm, by decide, rfl, by rw [upd_ne nlz.symm, upd_same]; rfl⟩
    | cons t r =>
      have e0 : ts[0]? = some t := by rw [hts]; rfl
      obtain ⟨b1, L, b2, b3⟩ := tn 0 t e0
      have ntl : t ≠ l := fun z => nl (by rw [← z]; exact List.mem_of_getElem? e0)
      exact ⟨t, L, b1, ntl, b2, atI_of (by decide) rfl, by rw [upd_ne ntl, upd_ne (ne_of_none b3 hz)]; exact b3⟩
  obtain ⟨t, L, t0, ntl, hL, e1, e2⟩ := hfirst
  have kk : Kp [] H (upd (upd H1 z (.lst [.int 0])) l (.lst (ts.map V.ref ++ [V.ref z]))) := (k1.new hz).mut l0
  refine q_val (v_ixL (v := .ref t) (val_var rfl) val_c (SqL.of upd_same) e1) ?_
  have hdc := hd
  obtain ⟨us, hdu, elu, _⟩ := hd
  have hdk := kk _ _ (by simp) hdu
  refine q_drop (e_appV (by walk_at "v") (v_len (ar_cons (val_var rfl) ar_nil) (SqL.of hdk)) e2 (sz_lt (by rw [List.length_map]; omega)) ?_)
  have k3 : Kp [] H (upd (upd (upd H1 z (.lst [.int 0])) l (.lst (ts.map V.ref ++ [V.ref z]))) t (.lst (L.map V.int ++ [.int ((us.map V.ref).length : Nat)]))) := kk.mut t0
  refine g_ret (g_call (g_cons (e_pieces rfl (hx.kp k3) n0 n1 ok fun l2 H4 k4 h4 => g_cons (g_var rfl (g_nil ?_)))))
  have hd4 : LLAt H4 a (piecesP n.toNat rows) := hdc.kp (k3.trans k4)
  exact call_same 2 (llD (piecesP n.toNat rows)) (by decide) (h4.ll.dat sm) (hd4.dat sm) (q H4 (k3.trans k4))

/-! ## Pu -/
theorem g_make {C : Addr} {sp : Sp} {E : XK} {ts : TA} {σ : L2.St} {H : Hp} {Q : VK} (h : ts σ H fun vs H1 => ∀ x dx, H1 x = none → H1 dx = none → dx ≠ x → sp (.ref x :: (vs ++ [])) (upd (upd H1 dx (.own x)) x (.ins C dx [])) (fun v H2 => v = .non ∧ Q (.ref x) H2) E) : tMake C sp [] E ts σ H Q := h
/-- a new instance keeps what was -/
theorem kp_made {S : List Addr} {H H1 : Hp} {x dx C : Addr} (k : Kp S H H1) (hx : H1 x = none) (hd : H1 dx = none) (ne : dx ≠ x) : Kp S H (upd (upd H1 dx (.own x)) x (.ins C dx [])) := (k.new hd).new (by rw [upd_ne ne.symm]; exact hx)
theorem kp_drop {S : List Addr} {H0 H H1 : Hp} {x : Addr} (k0 : Kp S H0 H) (hx : H0 x = none) (k : Kp [x] H H1) : Kp S H0 H1 := fun b o nb e => k b o (fun z => by
  have : b = x := by simpa using z
  rw [this, hx] at e; cases e) (k0 b o nb e)
theorem SpansAt.kp {S : List Addr} {H H' : Hp} {a : Addr} {rows : List Row} (h : SpansAt H a rows) (k : Kp S H H') (hS : ∀ t, t ∈ S → (∀ xs, H t ≠ some (.tup xs)) ∧ ∀ ts : List Addr, H t ≠ some (.lst (ts.map V.ref))) : SpansAt H' a rows := by
  obtain ⟨ts, ha, hr⟩ := h
  exact ⟨ts, k _ _ (fun z => (hS a z).2 ts ha) ha, hr.kp k fun t xs ht => (hS t ht).1 xs⟩
theorem call_net {K : PySem.W.Frag} {H : Hp} {Q : VK} {E : XK} {x dx a : Addr} {T n : Int} {rows : List Row} (hx : H x = some (.ins (He.ga K "Net") dx [])) (ha : SpansAt H a rows) (t0 : 2 ≤ T) (t1 : T ≤ 60) (n0 : 0 ≤ n) (n1 : n ≤ 12) (hl : rows.length ≤ 24) (ok : ∀ r ∈ rows, r.Ok T n) (q : ∀ H', Kp [x] H H' → NetAt (He.ga K "Net") H' x T n rows → Q .non H') : sp_Net___init__ K [.ref x, .int T, .int n, .ref a] H Q E :=
  ⟨x, dx, a, T, n, rows, rfl, hx, ha, t0, t1, n0, n1, hl, ok, q⟩
theorem call_good {K : PySem.W.Frag} {H : Hp} {Q : VK} {E : XK} {x a : Addr} {T n : Int} {rows : List Row} (hx : NetAt (He.ga K "Net") H x T n rows) (n0 : 0 ≤ n) (n1 : n ≤ 12) (ok : ∀ r ∈ rows, r.Ok T n) (hd : LLAt H a (piecesP n.toNat rows)) (q : ∀ H', Kp [] H H' → Q (.bl true) H') : sp_l_pieces_good K [.ref x, .ref a] H Q E := ⟨x, a, T, n, rows, rfl, hx, n0, n1, ok, hd, q⟩
theorem in_ok {T n : Int} {rows : List Row} (n0 : 0 ≤ n) (ok : ∀ r ∈ rows, r.Ok T n) : In n.toNat rows := fun r hr => by
  have o := ok r hr
  have := o.s0; have := o.s1; have := o.e0; have := o.e1
  constructor <;> omega
theorem rows_dat {H : Hp} {ts : List Addr} {rows : List Row} (h : RowsAt H ts rows) (i : Nat) (d : PyData) (x : V) (h1 : (rows.map Row.d)[i]? = some d) (h2 : (ts.map V.ref)[i]? = some x) : Dat H 1 d x := by
  obtain ⟨t, h3, rfl⟩ := refs_at h2
  rw [List.getElem?_map] at h1
  cases e : rows[i]? with
  | none => rw [e] at h1; cases h1
  | some r =>
    rw [e] at h1
    cases h1
    refine ⟨t, _, rfl, h.2 i t r h3 e, (by decide : 4 ≤ 1000000), rfl, fun j d x g1 g2 => ?_⟩
    match j with
    | 0 => cases g1; cases g2; rfl
    | 1 => cases g1; cases g2; rfl
    | 2 => cases g1; cases g2; rfl
    | 3 => cases g1; cases g2; rfl
    | j + 4 => simp at g1
theorem pure_law {K : PySem.W.Frag} (c : NetK K) {vs H Q E} (h : sp_law K vs H Q E) : t_law K { nx := fun _ H' => Q .non H', rt := Q } (start N_law vs) H := by
  obtain ⟨sc, ns, rfl, hS, q⟩ := h
  refine q_set ?_
  walk_at "call"
  refine call_pool hS (by decide) (by decide) fun p H1 hp0 k1 p1 => ?_
  refine q_set ?_
  walk_at "call"
  refine call_length p1 fun T H2 t0 t1 k2 p2 => ?_
  refine q_set ?_
  walk_at "call"
  refine call_take p2 (by decide) (by decide) fun n H3 n0 n1 k3 _ p3 => ?_
  refine q_set ?_
  walk_at "call"
  refine call_spans_of p3 t0 t1 n0 (by omega) fun a rows H4 ha k4 p4 hs hl ok => ?_
  obtain ⟨ts, hts, hrs⟩ := hs
  have el : ts.length = rows.length := hrs.1
  refine q_set ?_
  walk_at "call"
  refine call_take p4 (by rw [List.length_map]; omega) (by rw [List.length_map]; omega) fun cnt H5 c0 c1 k5 _ p5 => ?_
  have nap : a ≠ p := pool_ne_refs p4 hts
  have hts5 : H5 a = some (.lst (ts.map V.ref)) := k5 _ _ (by simpa using nap) hts
  have hrs5 : RowsAt H5 ts rows := hrs.kp k5 fun t xs ht => pool_not_tup p4 ht
  -- the first net
  refine q_set (g_make (g_cons (g_val (by walk_at "v") (g_cons (g_val (by walk_at "v") (g_cons (e_listL (by walk_at "ar") (SqL.of hts5) fun l1 hl1 => g_nil fun x dx hx hd ne => ?_)))))))
  have kx : Kp [] H5 (upd (upd (upd H5 l1 (.lst (ts.map V.ref))) dx (.own x)) x (.ins (He.ga K "Net") dx [])) := kp_made ((Kp.refl _ _).new hl1) hx hd ne
  have nlx : l1 ≠ x := fun z => by rw [← z, upd_same] at hx; cases hx
  have nld : l1 ≠ dx := fun z => by rw [← z, upd_same] at hd; cases hd
  have hx5 : H5 x = none := by rw [upd_ne nlx.symm] at hx; exact hx
  refine call_net upd_same ⟨ts, by rw [upd_ne nlx, upd_ne nld, upd_same], hrs5.kp kx fun _ _ z => nomatch z⟩ t0 t1 n0 (by omega) (by omega) ok fun H6 k6 hn6 => ⟨rfl, ?_⟩
  have k56 : Kp [] H5 H6 := kp_drop kx hx5 k6
  -- the second
  have hts6 : H6 a = some (.lst (ts.map V.ref)) := k56 _ _ (by simp) hts5
  have hrs6 : RowsAt H6 ts rows := hrs5.kp k56 fun _ _ z => nomatch z
  refine q_set (g_make (g_cons (g_val (by walk_at "v") (g_cons (g_val (by walk_at "v") (g_cons (e_slL (xs := ts.map V.ref) (by walk_at "v") pt_none (pt_some (by walk_at "v")) (SqL.of hts6) fun l2 hl2 => g_nil fun y dy hy hdy ney => ?_)))))))
  rw [cut_to c0, ← List.map_take] at hy hdy ⊢
  have ky : Kp [] H6 (upd (upd (upd H6 l2 (.lst ((ts.take cnt.toNat).map V.ref))) dy (.own y)) y (.ins (He.ga K "Net") dy [])) := kp_made ((Kp.refl _ _).new hl2) hy hdy ney
  have nly : l2 ≠ y := fun z => by rw [← z, upd_same] at hy; cases hy
  have nldy : l2 ≠ dy := fun z => by rw [← z, upd_same] at hdy; cases hdy
  have hy6 : H6 y = none := by rw [upd_ne nly.symm] at hy; exact hy
  have ok2 : ∀ r ∈ rows.take cnt.toNat, r.Ok T n := fun r hr => ok r (List.mem_of_mem_take hr)
  refine call_net (rows := rows.take cnt.toNat) upd_same ⟨ts.take cnt.toNat, by rw [upd_ne nly, upd_ne nldy, upd_same], (hrs6.take _).kp ky fun _ _ z => nomatch z⟩ t0 t1 n0 (by omega) (by rw [List.length_take]; omega) ok2 fun H7 k7 hn7 => ⟨rfl, ?_⟩
  have k67 : Kp [] H6 H7 := kp_drop ky hy6 k7
  have hts7 : H7 a = some (.lst (ts.map V.ref)) := k67 _ _ (by simp) hts6
  have hrs7 : RowsAt H7 ts rows := hrs6.kp k67 fun _ _ z => nomatch z
  -- due
  refine q_set ?_
  walk_at "call"
  refine call_joined (T := T) ⟨ts, hts7, hrs7⟩ n0 (by omega) (by omega) ok fun du H8 k8 hd8 => ?_
  rw [pieces_eq (in_ok n0 ok)] at hd8
  have hn8 : NetAt (He.ga K "Net") H8 x T n rows := hn6.kp (k67.trans k8)
  have hn8y := hn7.kp k8
  have hts8 := k8 _ _ (by simp) hts7
  have hrs8 : RowsAt H8 ts rows := hrs7.kp k8 fun _ _ z => nomatch z
  have sm := small_pieces n.toNat rows (by omega)
  refine q_whenc (g_or (g_not (g_B ?_)))
  walk_at "call"
  refine call_good hn8 n0 (by omega) ok hd8.ll fun H9 k9 => ⟨true, rfl, iteF ?_⟩
  refine g_not (g_B (g_call (g_cons (g_var rfl (g_cons ?_)))))
  refine g_call (g_cons (g_var rfl (g_cons ?_)))
  refine e_slL (xs := ts.map V.ref) (by walk_at "v") pt_none (pt_some (by walk_at "v")) (SqL.of (k9 _ _ (by simp) hts8)) fun l3 hl3 => g_nil ?_
  rw [cut_to c0, ← List.map_take]
  have kl3 : Kp [] H9 (upd H9 l3 (.lst ((ts.take cnt.toNat).map V.ref))) := (Kp.refl _ _).new hl3
  refine call_joined (T := T) (rows := rows.take cnt.toNat) ⟨ts.take cnt.toNat, upd_same, ((hrs8.take _).kp k9 fun _ _ z => nomatch z).kp kl3 fun _ _ z => nomatch z⟩ n0 (by omega) (by rw [List.length_take]; omega) ok2 fun du2 H10 k10 hd10 => ?_
  rw [pieces_eq (in_ok n0 ok2)] at hd10
  have k9x : Kp [] H8 H10 := k9.trans (kl3.trans k10)
  refine g_nil (call_good (hn8y.kp k9x) n0 (by omega) ok2 hd10.ll fun H11 k11 => ⟨true, rfl, iteF ?_⟩)
  have k811 : Kp [] H8 H11 := k9x.trans k11
  -- the end
  refine g_ret ?_
  show tCall sp_l_same [] E0 (tCons (tMeth (He.ga K "Net") "pieces" (sp_Net_pieces K) [] E0 (tVar 6) tNil) (tCons (tVar 8) tNil)) _ H11 (fun x H1 => ∃ c, x = .bl c ∧ if c = true then tCall sp_l_same [] E0 (tCons (tFld K (tVar 6) "spans") (tCons (tCB (rTupOf K) (tCons (tVar 4) tNil)) tNil)) _ H1 Q else Q (.bl false) H1)
  refine g_call (g_cons (e_pieces rfl (hn8.kp k811) n0 (by omega) ok fun l4 H12 k12 h12 => g_cons (g_var rfl (g_nil ?_))))
  refine call_same 2 (llD (piecesP n.toNat rows)) (by decide) (h12.ll.dat sm) ((hd8.ll.kp (k811.trans k12)).dat sm) ⟨true, rfl, iteT ?_⟩
  obtain ⟨dx', sa, ts', hxx, hsa, hrr⟩ := hn8.kp (k811.trans k12)
  have hts12 : H12 a = some (.lst (ts.map V.ref)) := (k811.trans k12) _ _ (by simp) hts8
  have hrs12 : RowsAt H12 ts rows := hrs8.kp (k811.trans k12) fun _ _ z => nomatch z
  refine g_call (g_cons (g_val (v_fld (val_var rfl) hxx c.cl c.nS (fl_spans _ _ _)) (g_cons (e_tupL (by walk_at "ar") (SqL.of hts12) fun tt htt => g_nil ?_))))
  refine call_same 2 (.tuple (rows.map Row.d)) (by decide) ⟨sa, _, rfl, by rw [upd_ne (ne_of_none hsa htt)]; exact hsa, by rw [List.length_map]; omega, by rw [List.length_map, List.length_map]; exact hrr.1, fun i d x h1 h2 => ?_⟩ ⟨tt, _, rfl, upd_same, by rw [List.length_map]; omega, by rw [List.length_map, List.length_map]; exact el, fun i d x h1 h2 => ?_⟩ (q _)
  · exact rows_dat (hrr.kp ((Kp.refl [] _).new htt) fun _ _ z => nomatch z) i d x h1 h2
  · exact rows_dat (hrs12.kp ((Kp.refl [] _).new htt) fun _ _ z => nomatch z) i d x h1 h2

/-! ## Hd -/
def top (i : Nat) : Stmt := PySem.Challenge.pw_depotday_k13_pieces_of_a_net.main.body.getD i (.Pass ⟨0, 0, 0, 0⟩)
abbrev s_l_cell : Stmt := top 15
def d_l_cell : He.DefD := ⟨("_law_cell", none), "_law_cell", "_law_cell", defArgs s_l_cell, defBody s_l_cell, defScope s_l_cell, [], []⟩
theorem sc_l_cell : FnScope N_l_cell ["_law_script", "_law_k"] (defScope s_l_cell) := ⟨rfl, rfl, rfl, by decide +kernel, rfl, by decide +kernel, by decide +kernel⟩
abbrev s_l_pool : Stmt := top 16
def d_l_pool : He.DefD := ⟨("_law_pool", none), "_law_pool", "_law_pool", defArgs s_l_pool, defBody s_l_pool, defScope s_l_pool, [], []⟩
theorem sc_l_pool : FnScope N_l_pool ["_law_script", "_law_k"] (defScope s_l_pool) := ⟨rfl, rfl, rfl, by decide +kernel, rfl, by decide +kernel, by decide +kernel⟩
abbrev s_l_take : Stmt := top 17
def d_l_take : He.DefD := ⟨("_law_take", none), "_law_take", "_law_take", defArgs s_l_take, defBody s_l_take, defScope s_l_take, [], []⟩
theorem sc_l_take : FnScope N_l_take ["_law_pool_here", "_law_many"] (defScope s_l_take) := ⟨rfl, rfl, rfl, by decide +kernel, rfl, by decide +kernel, by decide +kernel⟩
abbrev s_l_same : Stmt := top 18
def d_l_same : He.DefD := ⟨("_law_same", none), "_law_same", "_law_same", defArgs s_l_same, defBody s_l_same, defScope s_l_same, [], []⟩
theorem sc_l_same : FnScope N_l_same ["_law_got", "_law_due"] (defScope s_l_same) := ⟨rfl, rfl, rfl, by decide +kernel, rfl, by decide +kernel, by decide +kernel⟩
abbrev s_is_window : Stmt := top 10
def d_is_window : He.DefD := ⟨("is_window", none), "is_window", "is_window", defArgs s_is_window, defBody s_is_window, defScope s_is_window, [], []⟩
theorem sc_is_window : FnScope N_is_window ["round_length", "least", "most", "limit"] (defScope s_is_window) := ⟨rfl, rfl, rfl, by decide +kernel, rfl, by decide +kernel, by decide +kernel⟩
abbrev s_is_span : Stmt := top 11
def d_is_span : He.DefD := ⟨("is_span", none), "is_span", "is_span", defArgs s_is_span, defBody s_is_span, defScope s_is_span, [], []⟩
theorem sc_is_span : FnScope N_is_span ["round_length", "events", "span"] (defScope s_is_span) := ⟨rfl, rfl, rfl, by decide +kernel, rfl, by decide +kernel, by decide +kernel⟩
abbrev s_join_labels : Stmt := top 12
def d_join_labels : He.DefD := ⟨("join_labels", none), "join_labels", "join_labels", defArgs s_join_labels, defBody s_join_labels, defScope s_join_labels, [], []⟩
theorem sc_join_labels : FnScope N_join_labels ["labels", "first", "second"] (defScope s_join_labels) := ⟨rfl, rfl, rfl, by decide +kernel, rfl, by decide +kernel, by decide +kernel⟩
abbrev s_Net___init__ : Stmt := inClass (top 13) 0
def d_Net___init__ : He.DefD := ⟨("Net", some "__init__"), "__init__", "Net.__init__", defArgs s_Net___init__, defBody s_Net___init__, defScope s_Net___init__, [], []⟩
theorem sc_Net___init__ : FnScope N_Net___init__ ["self", "round_length", "events", "spans"] (defScope s_Net___init__) := ⟨rfl, rfl, rfl, by decide +kernel, rfl, by decide +kernel, by decide +kernel⟩
abbrev s_Net_pieces : Stmt := inClass (top 13) 4
def d_Net_pieces : He.DefD := ⟨("Net", some "pieces"), "pieces", "Net.pieces", defArgs s_Net_pieces, defBody s_Net_pieces, defScope s_Net_pieces, [], []⟩
theorem sc_Net_pieces : FnScope N_Net_pieces ["self"] (defScope s_Net_pieces) := ⟨rfl, rfl, rfl, by decide +kernel, rfl, by decide +kernel, by decide +kernel⟩
abbrev s_l_length : Stmt := top 19
def d_l_length : He.DefD := ⟨("_law_length", none), "_law_length", "_law_length", defArgs s_l_length, defBody s_l_length, defScope s_l_length, [], []⟩
theorem sc_l_length : FnScope N_l_length ["_law_pool_here"] (defScope s_l_length) := ⟨rfl, rfl, rfl, by decide +kernel, rfl, by decide +kernel, by decide +kernel⟩
abbrev s_l_perm : Stmt := top 20
def d_l_perm : He.DefD := ⟨("_law_perm", none), "_law_perm", "_law_perm", defArgs s_l_perm, defBody s_l_perm, defScope s_l_perm, [], []⟩
theorem sc_l_perm : FnScope N_l_perm ["_law_pool_here", "_law_many"] (defScope s_l_perm) := ⟨rfl, rfl, rfl, by decide +kernel, rfl, by decide +kernel, by decide +kernel⟩
abbrev s_l_span : Stmt := top 21
def d_l_span : He.DefD := ⟨("_law_span", none), "_law_span", "_law_span", defArgs s_l_span, defBody s_l_span, defScope s_l_span, [], []⟩
theorem sc_l_span : FnScope N_l_span ["_law_pool_here", "_law_length_here", "_law_start", "_law_end"] (defScope s_l_span) := ⟨rfl, rfl, rfl, by decide +kernel, rfl, by decide +kernel, by decide +kernel⟩
abbrev s_l_any_spans : Stmt := top 22
def d_l_any_spans : He.DefD := ⟨("_law_any_spans", none), "_law_any_spans", "_law_any_spans", defArgs s_l_any_spans, defBody s_l_any_spans, defScope s_l_any_spans, [], []⟩
theorem sc_l_any_spans : FnScope N_l_any_spans ["_law_pool_here", "_law_length_here", "_law_many", "_law_count"] (defScope s_l_any_spans) := ⟨rfl, rfl, rfl, by decide +kernel, rfl, by decide +kernel, by decide +kernel⟩
abbrev s_l_chained : Stmt := top 23
def d_l_chained : He.DefD := ⟨("_law_chained", none), "_law_chained", "_law_chained", defArgs s_l_chained, defBody s_l_chained, defScope s_l_chained, [], []⟩
theorem sc_l_chained : FnScope N_l_chained ["_law_pool_here", "_law_length_here", "_law_many"] (defScope s_l_chained) := ⟨rfl, rfl, rfl, by decide +kernel, rfl, by decide +kernel, by decide +kernel⟩
abbrev s_l_spans_of : Stmt := top 24
def d_l_spans_of : He.DefD := ⟨("_law_spans_of", none), "_law_spans_of", "_law_spans_of", defArgs s_l_spans_of, defBody s_l_spans_of, defScope s_l_spans_of, [], []⟩
theorem sc_l_spans_of : FnScope N_l_spans_of ["_law_pool_here", "_law_length_here", "_law_many"] (defScope s_l_spans_of) := ⟨rfl, rfl, rfl, by decide +kernel, rfl, by decide +kernel, by decide +kernel⟩
abbrev s_l_joined : Stmt := top 25
def d_l_joined : He.DefD := ⟨("_law_joined", none), "_law_joined", "_law_joined", defArgs s_l_joined, defBody s_l_joined, defScope s_l_joined, [], []⟩
theorem sc_l_joined : FnScope N_l_joined ["_law_many", "_law_spans"] (defScope s_l_joined) := ⟨rfl, rfl, rfl, by decide +kernel, rfl, by decide +kernel, by decide +kernel⟩
abbrev s_l_pieces_good : Stmt := top 26
def d_l_pieces_good : He.DefD := ⟨("_law_pieces_good", none), "_law_pieces_good", "_law_pieces_good", defArgs s_l_pieces_good, defBody s_l_pieces_good, defScope s_l_pieces_good, [], []⟩
theorem sc_l_pieces_good : FnScope N_l_pieces_good ["_law_net", "_law_due"] (defScope s_l_pieces_good) := ⟨rfl, rfl, rfl, by decide +kernel, rfl, by decide +kernel, by decide +kernel⟩
abbrev s_law : Stmt := top 27
def d_law : He.DefD := ⟨("law", none), "law", "law", defArgs s_law, defBody s_law, defScope s_law, [], []⟩
theorem sc_law : FnScope N_law ["_law_script"] (defScope s_law) := ⟨rfl, rfl, rfl, by decide +kernel, rfl, by decide +kernel, by decide +kernel⟩
def fn_0 : List He.DefD := [d_l_cell, d_l_pool, d_l_take, d_l_same, d_is_window, d_is_span, d_join_labels, d_Net___init__, d_Net_pieces, d_l_length, d_l_perm, d_l_span, d_l_any_spans, d_l_chained, d_l_spans_of, d_l_joined, d_l_pieces_good, d_law]
def fn : List He.DefD := fn_0
def fa_0 : List He.Fa := [.free "len", .free "abs", .glo "_law_cell", .free "int", .free "isinstance", .free "bool", .free "str", .free "list", .free "tuple", .free "range", .glo "_law_same", .int "MOST_MINUTES" 999, .glo "is_window", .int "SHORTEST_ROUND" 2, .int "LONGEST_ROUND" 60, .int "MOST_EVENTS" 12, .int "MOST_SPANS" 24, .free "enumerate", .glo "is_span", .glo "join_labels", .glo "_law_take", .free "min", .glo "_law_span", .glo "_law_perm", .glo "_law_chained", .glo "_law_any_spans", .cls "Net", .meth "Net" "pieces", .glo "_law_pool", .glo "_law_length"]
def fa_1 : List He.Fa := [.glo "_law_spans_of", .mkr "Net", .glo "Net", .glo "_law_joined", .glo "_law_pieces_good", .glo "law", .noat "Net" "round_length", .noat "Net" "events", .noat "Net" "spans"]
def fa : List He.Fa := fa_0 ++ fa_1
theorem netK {K : PySem.W.Frag} {mg : Str → Option Value} (c : Fx fa fn K mg) : NetK K := ⟨c.cls 26, c.noat 36, c.noat 37, c.noat 38⟩

/-! ## Ok -/
section
variable {P : Program} {w : World} {K : PySem.W.Frag} {mg : Str → Option Value} {base : Heap}
theorem ok_l_cell_fd (c : Fx fa fn K mg) {fd : FuncData} (F' : FunD K "_law_cell" "_law_cell" (defArgs s_l_cell) (defBody s_l_cell) (defScope s_l_cell) [] [] (He.fAd K ("_law_cell", none)) fd) : FnOk P w K mg base CX0 1 (He.fAd K ("_law_cell", none)) fd ["_law_script", "_law_k"] (sp_l_cell K) := by
  refine F'.ok sc_l_cell (fun vs H Q E h => len_l_cell h) (fun cdv A outer s H vs Q E hr h => ⟨t_l_cell K, PSs.nox ?_, pure_l_cell h⟩)
  exact (pss_cons (ps_if (pt_cmpR op_lt (pv 1) (pe_callB cl_len (by rfl) (c.free 0) (by decide +kernel) (pa_cons (pv 0) pa_nil)) (nomark _)) (pss_one (ps_ret (pe_callB cl_abs (by rfl) (c.free 1) (by decide +kernel) (pa_cons (pe_ix ix_list (pv 0) (pv 1) (fun _ _ => rfl)) pa_nil)))) pss_nil)
      (pss_one (ps_ret pe_int)))
theorem ok_l_cell (c : Fx fa fn K mg) : FnX P w K mg base CX0 1 ("_law_cell", none) ["_law_script", "_law_k"] (sp_l_cell K) := by
  obtain ⟨fd, F⟩ := c.says.def_ 0 (d := d_l_cell) rfl
  have F' : FunD K "_law_cell" "_law_cell" (defArgs s_l_cell) (defBody s_l_cell) (defScope s_l_cell) [] [] (He.fAd K ("_law_cell", none)) fd := F
  exact ⟨⟨fd, ok_l_cell_fd c F', F'.bindsN fun _ _ _ _ _ _ us hl => match us, hl with | [_, _], _ => rfl⟩, F'.kp⟩
theorem ok_l_pool_fd (c : Fx fa fn K mg) {fd : FuncData} (F' : FunD K "_law_pool" "_law_pool" (defArgs s_l_pool) (defBody s_l_pool) (defScope s_l_pool) [] [] (He.fAd K ("_law_pool", none)) fd) : FnOk P w K mg base CX0 2 (He.fAd K ("_law_pool", none)) fd ["_law_script", "_law_k"] (sp_l_pool K) := by
  refine F'.ok sc_l_pool (fun vs H Q E h => len_l_pool h) (fun cdv A outer s H vs Q E hr h => ⟨t_l_pool K, PSs.nox ?_, pure_l_pool h⟩)
  exact (pss_cons (ps_set (i := 2) sc_l_pool.nd rfl (by first | exact Or.inl rfl | exact Or.inr rfl) (pcall (ok_l_cell c) (hr.mono (by decide)) (by rfl) (c.glo 2) pass0 (pa_cons (pv 0) (pa_cons (pv 1) pa_nil))))
      (pss_one (ps_ret (pe_lst (pa_cons (pv 2) (pa_cons (pe_callTy cl_int1 (by rfl) (c.free 3) (by decide +kernel) (pa_cons (pe_cmpR op_ge (pv 2) (pe_op op_pow pe_int pe_int) (nomark _)) pa_nil)) (pa_cons (pe_op op_mul pe_int (pv 1)) pa_nil)))))))
theorem ok_l_pool (c : Fx fa fn K mg) : FnX P w K mg base CX0 2 ("_law_pool", none) ["_law_script", "_law_k"] (sp_l_pool K) := by
  obtain ⟨fd, F⟩ := c.says.def_ 1 (d := d_l_pool) rfl
  have F' : FunD K "_law_pool" "_law_pool" (defArgs s_l_pool) (defBody s_l_pool) (defScope s_l_pool) [] [] (He.fAd K ("_law_pool", none)) fd := F
  exact ⟨⟨fd, ok_l_pool_fd c F', F'.bindsN fun _ _ _ _ _ _ us hl => match us, hl with | [_, _], _ => rfl⟩, F'.kp⟩
theorem ok_l_take_fd (c : Fx fa fn K mg) {fd : FuncData} (F' : FunD K "_law_take" "_law_take" (defArgs s_l_take) (defBody s_l_take) (defScope s_l_take) [] [] (He.fAd K ("_law_take", none)) fd) : FnOk P w K mg base CX0 1 (He.fAd K ("_law_take", none)) fd ["_law_pool_here", "_law_many"] (sp_l_take) := by
  refine F'.ok sc_l_take (fun vs H Q E h => len_l_take h) (fun cdv A outer s H vs Q E hr h => ⟨t_l_take K, PSs.nox ?_, pure_l_take h⟩)
  exact (pss_cons (ps_if (PW.pt (pw_and (pt_cmpR op_eq (pe_ix ix_list (pv 0) pe_int (fun _ _ => rfl)) pe_int (nomark _)) (pw_and1 (pt_cmpR op_gt (pe_ix ix_list (pv 0) pe_int (fun _ _ => rfl)) pe_int (nomark _))))) (pss_cons (ps_set (i := 3) sc_l_take.nd rfl (by first | exact Or.inl rfl | exact Or.inr rfl) (pe_op op_mod (pe_callTy cl_int1 (by rfl) (c.free 3) (by decide +kernel) (pa_cons (pe_ix ix_list (pv 0) pe_int (fun _ _ => rfl)) pa_nil)) (pv 1)))
      (pss_cons (ps_asg (pe_op op_fdiv (pe_ix ix_list (pv 0) pe_int (fun _ _ => rfl)) (pv 1)) (pg_sub (pv 0) pe_int set_list))
      (pss_one (ps_ret (pv 3))))) pss_nil)
      (pss_cons (ps_asg (pe_op op_add (pe_ix ix_list (pv 0) pe_int (fun _ _ => rfl)) pe_int) (pg_sub (pv 0) pe_int set_list))
      (pss_cons (ps_set (i := 2) sc_l_take.nd rfl (by first | exact Or.inl rfl | exact Or.inr rfl) (pe_op op_mod (pe_callTy cl_int1 (by rfl) (c.free 3) (by decide +kernel) (pa_cons (pe_op op_add (pe_op op_mul (pe_op op_add (pe_ix ix_list (pv 0) pe_int (fun _ _ => rfl)) pe_int) pe_int) (pe_op op_mul (pe_ix ix_list (pv 0) pe_int (fun _ _ => rfl)) pe_int)) pa_nil)) pe_int))
      (pss_cons (ps_set (i := 2) sc_l_take.nd rfl (by first | exact Or.inl rfl | exact Or.inr rfl) (pe_op op_mod (pe_callTy cl_int1 (by rfl) (c.free 3) (by decide +kernel) (pa_cons (pe_op op_add (pe_op op_mul (pv 2) pe_int) (pe_op op_mul (pe_ix ix_list (pv 0) pe_int (fun _ _ => rfl)) pe_int)) pa_nil)) pe_int))
      (pss_cons (ps_if (pt_cmpR op_gt (pe_ix ix_list (pv 0) pe_int (fun _ _ => rfl)) pe_int (nomark _)) (pss_one (ps_set (i := 2) sc_l_take.nd rfl (by first | exact Or.inl rfl | exact Or.inr rfl) (pe_op op_mod (pe_callTy cl_int1 (by rfl) (c.free 3) (by decide +kernel) (pa_cons (pe_op op_mul (pe_op op_fdiv (pv 2) pe_int) (pe_op op_add (pe_op op_add (pe_op op_fdiv (pv 2) pe_int) (pe_ix ix_list (pv 0) pe_int (fun _ _ => rfl))) pe_int)) pa_nil)) pe_int))) pss_nil)
      (pss_one (ps_ret (pe_op op_mod (pe_callTy cl_int1 (by rfl) (c.free 3) (by decide +kernel) (pa_cons (pe_op op_fdiv (pv 2) pe_int) pa_nil)) (pv 1)))))))))
theorem ok_l_take (c : Fx fa fn K mg) : FnX P w K mg base CX0 1 ("_law_take", none) ["_law_pool_here", "_law_many"] (sp_l_take) := by
  obtain ⟨fd, F⟩ := c.says.def_ 2 (d := d_l_take) rfl
  have F' : FunD K "_law_take" "_law_take" (defArgs s_l_take) (defBody s_l_take) (defScope s_l_take) [] [] (He.fAd K ("_law_take", none)) fd := F
  exact ⟨⟨fd, ok_l_take_fd c F', F'.bindsN fun _ _ _ _ _ _ us hl => match us, hl with | [_, _], _ => rfl⟩, F'.kp⟩
theorem ok_l_same_st (c : Fx fa fn K mg) {fd : FuncData} (F' : FunD K "_law_same" "_law_same" (defArgs s_l_same) (defBody s_l_same) (defScope s_l_same) [] [] (He.fAd K ("_law_same", none)) fd) (n : Nat) (ih : FnX P w K mg base CX0 n ("_law_same", none) ["_law_got", "_law_due"] (sp_l_same_r n)) : FnOk P w K mg base CX0 (n + 1) (He.fAd K ("_law_same", none)) fd ["_law_got", "_law_due"] (sp_l_same_n n) := by
  refine F'.ok sc_l_same (fun vs H Q E h => len_l_same h) (fun cdv A outer s H vs Q E hr h => ⟨t_l_same K (sp_l_same_r n), PSs.nox ?_, pure_l_same h⟩)
  exact (pss_cons (ps_if (PW.pt (pw_or (pt_val (pe_callB call_isi (by rfl) (c.free 4) (by decide +kernel) (pa_cons (pv 0) (pa_cons (pe_bltn (v := .ty "bool") (by rfl) (c.free 5) (by decide +kernel) rfl) pa_nil)))) (pw_or1 (pt_val (pe_callB call_isi (by rfl) (c.free 4) (by decide +kernel) (pa_cons (pv 1) (pa_cons (pe_bltn (v := .ty "bool") (by rfl) (c.free 5) (by decide +kernel) rfl) pa_nil))))))) (pss_one (ps_ret (pe_and (pe_callB call_isi (by rfl) (c.free 4) (by decide +kernel) (pa_cons (pv 0) (pa_cons (pe_bltn (v := .ty "bool") (by rfl) (c.free 5) (by decide +kernel) rfl) pa_nil))) (pe_and (pe_callB call_isi (by rfl) (c.free 4) (by decide +kernel) (pa_cons (pv 1) (pa_cons (pe_bltn (v := .ty "bool") (by rfl) (c.free 5) (by decide +kernel) rfl) pa_nil))) (pe_one (pe_cmpR op_eq (pv 0) (pv 1) (nomark _))))))) pss_nil)
      (pss_cons (ps_if (PW.pt (pw_or (pt_cmpR op_isN1 (pv 0) pe_non (nomark _)) (pw_or1 (pt_cmpR op_isN1 (pv 1) pe_non (nomark _))))) (pss_one (ps_ret (pe_and (pe_cmpR op_isN1 (pv 0) pe_non (nomark _)) (pe_one (pe_cmpR op_isN1 (pv 1) pe_non (nomark _)))))) pss_nil)
      (pss_cons (ps_if (pt_val (pe_callB call_isi (by rfl) (c.free 4) (by decide +kernel) (pa_cons (pv 1) (pa_cons (pe_bltn (v := .ty "int") (by rfl) (c.free 3) (by decide +kernel) rfl) pa_nil)))) (pss_one (ps_ret (pe_and (pe_callB call_isi (by rfl) (c.free 4) (by decide +kernel) (pa_cons (pv 0) (pa_cons (pe_bltn (v := .ty "int") (by rfl) (c.free 3) (by decide +kernel) rfl) pa_nil))) (pe_one (pe_cmpR op_eq (pv 0) (pv 1) (nomark _)))))) pss_nil)
      (pss_cons (ps_if (pt_val (pe_callB call_isi (by rfl) (c.free 4) (by decide +kernel) (pa_cons (pv 1) (pa_cons (pe_bltn (v := .ty "str") (by rfl) (c.free 6) (by decide +kernel) rfl) pa_nil)))) (pss_one (ps_ret (pe_and (pe_callB call_isi (by rfl) (c.free 4) (by decide +kernel) (pa_cons (pv 0) (pa_cons (pe_bltn (v := .ty "str") (by rfl) (c.free 6) (by decide +kernel) rfl) pa_nil))) (pe_one (pe_cmpR op_eq (pv 0) (pv 1) (nomark _)))))) pss_nil)
      (pss_cons (ps_if (PW.pt (pw_and (pt_val (pe_callB call_isi (by rfl) (c.free 4) (by decide +kernel) (pa_cons (pv 1) (pa_cons (pe_bltn (v := .ty "list") (by rfl) (c.free 7) (by decide +kernel) rfl) pa_nil)))) (pw_and1 (pt_not (pt_val (pe_callB call_isi (by rfl) (c.free 4) (by decide +kernel) (pa_cons (pv 0) (pa_cons (pe_bltn (v := .ty "list") (by rfl) (c.free 7) (by decide +kernel) rfl) pa_nil)))))))) (pss_one (ps_ret pe_bl)) pss_nil)
      (pss_cons (ps_if (PW.pt (pw_and (pt_val (pe_callB call_isi (by rfl) (c.free 4) (by decide +kernel) (pa_cons (pv 1) (pa_cons (pe_bltn (v := .ty "tuple") (by rfl) (c.free 8) (by decide +kernel) rfl) pa_nil)))) (pw_and1 (pt_not (pt_val (pe_callB call_isi (by rfl) (c.free 4) (by decide +kernel) (pa_cons (pv 0) (pa_cons (pe_bltn (v := .ty "tuple") (by rfl) (c.free 8) (by decide +kernel) rfl) pa_nil)))))))) (pss_one (ps_ret pe_bl)) pss_nil)
      (pss_cons (ps_if (pt_cmpR op_ne (pe_callB cl_len (by rfl) (c.free 0) (by decide +kernel) (pa_cons (pv 0) pa_nil)) (pe_callB cl_len (by rfl) (c.free 0) (by decide +kernel) (pa_cons (pv 1) pa_nil)) (nomark _)) (pss_one (ps_ret pe_bl)) pss_nil)
      (pss_cons (ps_for PassesOwn.never rfl (pi_range1 (by rfl) (c.free 9) (pa_cons (pe_callB cl_len (by rfl) (c.free 0) (by decide +kernel) (pa_cons (pv 1) pa_nil)) pa_nil)) (pg_name (i := 2) sc_l_same.nd rfl (by first | exact Or.inl rfl | exact Or.inr rfl)) (pss_one (ps_if (pt_not (pt_val (pcall (ih) (hr.mono (by omega)) (by rfl) (c.glo 10) pass0 (pa_cons (pe_ix ix_seq (pv 0) (pv 2) (fun _ _ => rfl)) (pa_cons (pe_ix ix_seq (pv 1) (pv 2) (fun _ _ => rfl)) pa_nil))))) (pss_one (ps_ret pe_bl)) pss_nil)))
      (pss_one (ps_ret pe_bl))))))))))
theorem ok_l_same_fd (c : Fx fa fn K mg) {fd : FuncData} (F' : FunD K "_law_same" "_law_same" (defArgs s_l_same) (defBody s_l_same) (defScope s_l_same) [] [] (He.fAd K ("_law_same", none)) fd) : ∀ n, FnOk P w K mg base CX0 (n + 1) (He.fAd K ("_law_same", none)) fd ["_law_got", "_law_due"] (sp_l_same_n n) := by
  have bn : Binds K fd ["_law_got", "_law_due"] [] := F'.bindsN fun _ _ _ _ _ _ us hl => match us, hl with | [_, _], _ => rfl
  intro n
  induction n with
  | zero => exact ok_l_same_st c F' 0 ⟨⟨fd, ⟨fun _ _ _ _ h => h.elim, fun _ _ _ _ _ _ _ _ _ _ _ _ _ h => h.elim⟩, bn⟩, F'.kp⟩
  | succ n ih => exact ok_l_same_st c F' (n + 1) ⟨⟨fd, ih, bn⟩, F'.kp⟩
theorem ok_l_same (c : Fx fa fn K mg) : FnX P w K mg base CX0 8 ("_law_same", none) ["_law_got", "_law_due"] sp_l_same := by
  obtain ⟨fd, F⟩ := c.says.def_ 3 (d := d_l_same) rfl
  have F' : FunD K "_law_same" "_law_same" (defArgs s_l_same) (defBody s_l_same) (defScope s_l_same) [] [] (He.fAd K ("_law_same", none)) fd := F
  have bn : Binds K fd ["_law_got", "_law_due"] [] := F'.bindsN fun _ _ _ _ _ _ us hl => match us, hl with | [_, _], _ => rfl
  exact ⟨⟨fd, ⟨fun vs H Q E ⟨n, _, h⟩ => (ok_l_same_fd (P := P) (w := w) (base := base) c F' n).len vs H Q E h, fun A outer s H args us vs Q E hr he hb hv ⟨n, hn, h⟩ => (ok_l_same_fd c F' n).run A outer s H args us vs Q E (hr.mono hn) he hb hv h⟩, bn⟩, F'.kp⟩
theorem ok_is_window_fd (c : Fx fa fn K mg) {fd : FuncData} (F' : FunD K "is_window" "is_window" (defArgs s_is_window) (defBody s_is_window) (defScope s_is_window) [] [] (He.fAd K ("is_window", none)) fd) : FnOk P w K mg base CX0 1 (He.fAd K ("is_window", none)) fd ["round_length", "least", "most", "limit"] (sp_is_window) := by
  refine F'.ok sc_is_window (fun vs H Q E h => len_is_window h) (fun cdv A outer s H vs Q E hr h => ⟨t_is_window K, PSs.nox ?_, pure_is_window h⟩)
  exact (pss_one (ps_ret (pe_and (pe_chain3 op_le op_le op_le pe_int (pv 1) (pv 2) (pe_op op_sub (pe_op op_add (pv 1) (pv 0)) pe_int)) (pe_one (pe_cmpR op_le (pv 2) (pv 3) (nomark _))))))
theorem ok_is_window (c : Fx fa fn K mg) : FnX P w K mg base CX0 1 ("is_window", none) ["round_length", "least", "most", "limit"] (sp_is_window) := by
  obtain ⟨fd, F⟩ := c.says.def_ 4 (d := d_is_window) rfl
  have F' : FunD K "is_window" "is_window" (defArgs s_is_window) (defBody s_is_window) (defScope s_is_window) [] [] (He.fAd K ("is_window", none)) fd := F
  exact ⟨⟨fd, ok_is_window_fd c F', F'.bindsN fun _ _ _ _ _ _ us hl => match us, hl with | [_, _, _, _], _ => rfl⟩, F'.kp⟩
theorem ok_is_span_fd (c : Fx fa fn K mg) {fd : FuncData} (F' : FunD K "is_span" "is_span" (defArgs s_is_span) (defBody s_is_span) (defScope s_is_span) [] [] (He.fAd K ("is_span", none)) fd) : FnOk P w K mg base CX0 2 (He.fAd K ("is_span", none)) fd ["round_length", "events", "span"] (sp_is_span K) := by
  refine F'.ok sc_is_span (fun vs H Q E h => len_is_span h) (fun cdv A outer s H vs Q E hr h => ⟨t_is_span K, PSs.nox ?_, pure_is_span h⟩)
  exact (pss_cons (ps_if (pt_cmpR op_ne (pe_callB cl_len (by rfl) (c.free 0) (by decide +kernel) (pa_cons (pv 2) pa_nil)) pe_int (nomark _)) (pss_one (ps_ret pe_bl)) pss_nil)
      (pss_cons (ps_asg (pv 2) (pg_tup rfl (pgs_cons (pg_name (i := 3) sc_is_span.nd rfl (by first | exact Or.inl rfl | exact Or.inr rfl)) (pgs_cons (pg_name (i := 4) sc_is_span.nd rfl (by first | exact Or.inl rfl | exact Or.inr rfl)) (pgs_cons (pg_name (i := 5) sc_is_span.nd rfl (by first | exact Or.inl rfl | exact Or.inr rfl)) (pgs_cons (pg_name (i := 6) sc_is_span.nd rfl (by first | exact Or.inl rfl | exact Or.inr rfl)) pgs_nil))))))
      (pss_cons (ps_if (PW.pt (pw_or (pt_not (pt_chain op_le op_lt pe_int (pv 3) (pv 1))) (pw_or (pt_not (pt_chain op_le op_lt pe_int (pv 4) (pv 1))) (pw_or1 (pt_cmpR op_eq (pv 3) (pv 4) (nomark _)))))) (pss_one (ps_ret pe_bl)) pss_nil)
      (pss_one (ps_ret (pcall (ok_is_window c) (hr.mono (by decide)) (by rfl) (c.glo 12) pass0 (pa_cons (pv 0) (pa_cons (pv 5) (pa_cons (pv 6) (pa_cons (pgi (by rfl) (c.int 11)) pa_nil))))))))))
theorem ok_is_span (c : Fx fa fn K mg) : FnX P w K mg base CX0 2 ("is_span", none) ["round_length", "events", "span"] (sp_is_span K) := by
  obtain ⟨fd, F⟩ := c.says.def_ 5 (d := d_is_span) rfl
  have F' : FunD K "is_span" "is_span" (defArgs s_is_span) (defBody s_is_span) (defScope s_is_span) [] [] (He.fAd K ("is_span", none)) fd := F
  exact ⟨⟨fd, ok_is_span_fd c F', F'.bindsN fun _ _ _ _ _ _ us hl => match us, hl with | [_, _, _], _ => rfl⟩, F'.kp⟩
theorem ok_join_labels_fd (c : Fx fa fn K mg) {fd : FuncData} (F' : FunD K "join_labels" "join_labels" (defArgs s_join_labels) (defBody s_join_labels) (defScope s_join_labels) [] [] (He.fAd K ("join_labels", none)) fd) : FnOk P w K mg base CX0 1 (He.fAd K ("join_labels", none)) fd ["labels", "first", "second"] (sp_join_labels) := by
  refine F'.ok sc_join_labels (fun vs H Q E h => len_join_labels h) (fun cdv A outer s H vs Q E hr h => ⟨t_join_labels K, PSs.nox ?_, pure_join_labels h⟩)
  exact (pss_one (ps_ret (pe_lc (own := [("label", 3)]) (g := (gName 3)) (tt := tYes) rfl sc_join_labels.nd (pi_list (pv 0)) (blkOk_by (own := [("label", 3)]) (N := N_join_labels) (sc := defScope s_join_labels) (by decide +kernel)) (fun _ _ _ _ _ => (pg_name (i := 3) sc_join_labels.nd rfl (by first | exact Or.inl rfl | exact Or.inr rfl))) (fun _ _ _ _ _ => pts_nil) (fun _ _ _ _ _ => (pe_ifExp (pt_cmpR op_eq (pv 3) (pe_ix ix_list (pv 0) (pv 2) (fun _ _ => rfl)) (nomark _)) (pe_ix ix_list (pv 0) (pv 1) (fun _ _ => rfl)) (pv 3))))))
theorem ok_join_labels (c : Fx fa fn K mg) : FnX P w K mg base CX0 1 ("join_labels", none) ["labels", "first", "second"] (sp_join_labels) := by
  obtain ⟨fd, F⟩ := c.says.def_ 6 (d := d_join_labels) rfl
  have F' : FunD K "join_labels" "join_labels" (defArgs s_join_labels) (defBody s_join_labels) (defScope s_join_labels) [] [] (He.fAd K ("join_labels", none)) fd := F
  exact ⟨⟨fd, ok_join_labels_fd c F', F'.bindsN fun _ _ _ _ _ _ us hl => match us, hl with | [_, _, _], _ => rfl⟩, F'.kp⟩
theorem ok_Net___init___fd (c : Fx fa fn K mg) {fd : FuncData} (F' : FunD K "__init__" "Net.__init__" (defArgs s_Net___init__) (defBody s_Net___init__) (defScope s_Net___init__) [] [] (He.fAd K ("Net", some "__init__")) fd) : FnOk P w K mg base CX0 3 (He.fAd K ("Net", some "__init__")) fd ["self", "round_length", "events", "spans"] (sp_Net___init__ K) := by
  refine F'.ok sc_Net___init__ (fun vs H Q E h => len_Net___init__ h) (fun cdv A outer s H vs Q E hr h => ⟨t_Net___init__ K, PSs.nox ?_, pure_Net___init__ (netK c) h⟩)
  exact (pss_cons (ps_if (pt_not (pt_chain op_le op_le (pgi (by rfl) (c.int 13)) (pv 1) (pgi (by rfl) (c.int 14)))) (pss_one ps_never) pss_nil)
      (pss_cons (ps_if (pt_not (pt_chain op_le op_le pe_int (pv 2) (pgi (by rfl) (c.int 15)))) (pss_one ps_never) pss_nil)
      (pss_cons (ps_if (pt_cmpR op_gt (pe_callB cl_len (by rfl) (c.free 0) (by decide +kernel) (pa_cons (pv 3) pa_nil)) (pgi (by rfl) (c.int 16)) (nomark _)) (pss_one ps_never) pss_nil)
      (pss_cons (ps_for PassesOwn.never rfl (pi_enum (by rfl) (c.free 17) (pa_cons (pv 3) pa_nil)) (pg_tup rfl (pgs_cons (pg_name (i := 4) sc_Net___init__.nd rfl (by first | exact Or.inl rfl | exact Or.inr rfl)) (pgs_cons (pg_name (i := 5) sc_Net___init__.nd rfl (by first | exact Or.inl rfl | exact Or.inr rfl)) pgs_nil))) (pss_one (ps_if (pt_not (pt_val (pcall (ok_is_span c) (hr.mono (by decide)) (by rfl) (c.glo 18) pass0 (pa_cons (pv 1) (pa_cons (pv 2) (pa_cons (pv 5) pa_nil)))))) (pss_one ps_never) pss_nil)))
      (pss_cons (ps_fld (pv 0) (pv 1) rfl)
      (pss_cons (ps_fld (pv 0) (pv 2) rfl)
      (pss_one (ps_fld (pv 0) (pe_callTy cl_tuple (by rfl) (c.free 8) (by decide +kernel) (pa_cons (pe_lc (own := [("span", 5)]) (g := (gName 5)) (tt := tYes) rfl sc_Net___init__.nd (pi_list (pv 3)) (blkOk_by (own := [("span", 5)]) (N := N_Net___init__) (sc := defScope s_Net___init__) (by decide +kernel)) (fun _ _ _ _ _ => (pg_name (i := 5) sc_Net___init__.nd rfl (by first | exact Or.inl rfl | exact Or.inr rfl))) (fun _ _ _ _ _ => pts_nil) (fun _ _ _ _ _ => (pe_callTy cl_tuple (by rfl) (c.free 8) (by decide +kernel) (pa_cons (pv 5) pa_nil)))) pa_nil)) rfl))))))))
theorem ok_Net___init__ (c : Fx fa fn K mg) : FnX P w K mg base CX0 3 ("Net", some "__init__") ["self", "round_length", "events", "spans"] (sp_Net___init__ K) := by
  obtain ⟨fd, F⟩ := c.says.def_ 7 (d := d_Net___init__) rfl
  have F' : FunD K "__init__" "Net.__init__" (defArgs s_Net___init__) (defBody s_Net___init__) (defScope s_Net___init__) [] [] (He.fAd K ("Net", some "__init__")) fd := F
  exact ⟨⟨fd, ok_Net___init___fd c F', F'.bindsN fun _ _ _ _ _ _ us hl => match us, hl with | [_, _, _, _], _ => rfl⟩, F'.kp⟩
theorem ok_Net_pieces_fd (c : Fx fa fn K mg) {fd : FuncData} (F' : FunD K "pieces" "Net.pieces" (defArgs s_Net_pieces) (defBody s_Net_pieces) (defScope s_Net_pieces) [] [] (He.fAd K ("Net", some "pieces")) fd) : FnOk P w K mg base CX0 2 (He.fAd K ("Net", some "pieces")) fd ["self"] (sp_Net_pieces K) := by
  refine F'.ok sc_Net_pieces (fun vs H Q E h => len_Net_pieces h) (fun cdv A outer s H vs Q E hr h => ⟨t_Net_pieces K, PSs.nox ?_, pure_Net_pieces (netK c) h⟩)
  exact (pss_cons (ps_set (i := 1) sc_Net_pieces.nd rfl (by first | exact Or.inl rfl | exact Or.inr rfl) (pe_listRg rfl (by rfl) (c.free 7) (prg_1 (by rfl) (c.free 9) (pe_fld (pv 0) rfl))))
      (pss_cons (ps_for PassesOwn.never rfl (pi_tup (pe_fld (pv 0) rfl)) (pg_name (i := 2) sc_Net_pieces.nd rfl (by first | exact Or.inl rfl | exact Or.inr rfl)) (pss_one (ps_set (i := 1) sc_Net_pieces.nd rfl (by first | exact Or.inl rfl | exact Or.inr rfl) (pcall (ok_join_labels c) (hr.mono (by decide)) (by rfl) (c.glo 19) pass0 (pa_cons (pv 1) (pa_cons (pe_ix ix_tup (pv 2) pe_int (fun _ _ => rfl)) (pa_cons (pe_ix ix_tup (pv 2) pe_int (fun _ _ => rfl)) pa_nil)))))))
      (pss_cons (ps_set (i := 3) sc_Net_pieces.nd rfl (by first | exact Or.inl rfl | exact Or.inr rfl) pe_dnewK)
      (pss_cons (ps_for PassesOwn.never rfl (pi_enum (by rfl) (c.free 17) (pa_cons (pv 1) pa_nil)) (pg_tup rfl (pgs_cons (pg_name (i := 4) sc_Net_pieces.nd rfl (by first | exact Or.inl rfl | exact Or.inr rfl)) (pgs_cons (pg_name (i := 5) sc_Net_pieces.nd rfl (by first | exact Or.inl rfl | exact Or.inr rfl)) pgs_nil))) (pss_one (ps_expr (pe_bm PySem.F.plainAttrs_list PySem.F.slot_list_append PySem.F.type_list_append mt_append (pe_dsetd (pv 3) (pv 5) (pe_lst pa_nil) (m2_of)) (pa_cons (pv 4) pa_nil)))))
      (pss_one (ps_ret (plistV rfl (by rfl) (c.free 7) (pv 3))))))))
theorem ok_Net_pieces (c : Fx fa fn K mg) : FnX P w K mg base CX0 2 ("Net", some "pieces") ["self"] (sp_Net_pieces K) := by
  obtain ⟨fd, F⟩ := c.says.def_ 8 (d := d_Net_pieces) rfl
  have F' : FunD K "pieces" "Net.pieces" (defArgs s_Net_pieces) (defBody s_Net_pieces) (defScope s_Net_pieces) [] [] (He.fAd K ("Net", some "pieces")) fd := F
  exact ⟨⟨fd, ok_Net_pieces_fd c F', F'.bindsN fun _ _ _ _ _ _ us hl => match us, hl with | [_], _ => rfl⟩, F'.kp⟩
theorem ok_l_length_fd (c : Fx fa fn K mg) {fd : FuncData} (F' : FunD K "_law_length" "_law_length" (defArgs s_l_length) (defBody s_l_length) (defScope s_l_length) [] [] (He.fAd K ("_law_length", none)) fd) : FnOk P w K mg base CX0 2 (He.fAd K ("_law_length", none)) fd ["_law_pool_here"] (sp_l_length) := by
  refine F'.ok sc_l_length (fun vs H Q E h => len_l_length h) (fun cdv A outer s H vs Q E hr h => ⟨t_l_length K, PSs.nox ?_, pure_l_length h⟩)
  exact (pss_cons (ps_if (pt_cmpR op_eq (pcall (ok_l_take c) (hr.mono (by decide)) (by rfl) (c.glo 20) pass0 (pa_cons (pv 0) (pa_cons pe_int pa_nil))) pe_int (nomark _)) (pss_one (ps_ret (pe_op op_add pe_int (pcall (ok_l_take c) (hr.mono (by decide)) (by rfl) (c.glo 20) pass0 (pa_cons (pv 0) (pa_cons pe_int pa_nil)))))) pss_nil)
      (pss_one (ps_ret (pe_ix ix_list (pe_lst (pa_cons pe_int (pa_cons pe_int (pa_cons pe_int (pa_cons pe_int (pa_cons pe_int (pa_cons pe_int pa_nil))))))) (pcall (ok_l_take c) (hr.mono (by decide)) (by rfl) (c.glo 20) pass0 (pa_cons (pv 0) (pa_cons pe_int pa_nil))) (fun _ _ => rfl)))))
theorem ok_l_length (c : Fx fa fn K mg) : FnX P w K mg base CX0 2 ("_law_length", none) ["_law_pool_here"] (sp_l_length) := by
  obtain ⟨fd, F⟩ := c.says.def_ 9 (d := d_l_length) rfl
  have F' : FunD K "_law_length" "_law_length" (defArgs s_l_length) (defBody s_l_length) (defScope s_l_length) [] [] (He.fAd K ("_law_length", none)) fd := F
  exact ⟨⟨fd, ok_l_length_fd c F', F'.bindsN fun _ _ _ _ _ _ us hl => match us, hl with | [_], _ => rfl⟩, F'.kp⟩
theorem ok_l_perm_fd (c : Fx fa fn K mg) {fd : FuncData} (F' : FunD K "_law_perm" "_law_perm" (defArgs s_l_perm) (defBody s_l_perm) (defScope s_l_perm) [] [] (He.fAd K ("_law_perm", none)) fd) : FnOk P w K mg base CX0 2 (He.fAd K ("_law_perm", none)) fd ["_law_pool_here", "_law_many"] (sp_l_perm) := by
  refine F'.ok sc_l_perm (fun vs H Q E h => len_l_perm h) (fun cdv A outer s H vs Q E hr h => ⟨t_l_perm K, PSs.nox ?_, pure_l_perm h⟩)
  exact (pss_cons (ps_set (i := 2) sc_l_perm.nd rfl (by first | exact Or.inl rfl | exact Or.inr rfl) (pe_listRg rfl (by rfl) (c.free 7) (prg_1 (by rfl) (c.free 9) (pv 1))))
      (pss_cons (ps_set (i := 3) sc_l_perm.nd rfl (by first | exact Or.inl rfl | exact Or.inr rfl) (pe_lst pa_nil))
      (pss_cons (ps_for PassesOwn.never rfl (pi_range1 (by rfl) (c.free 9) (pa_cons (pv 1) pa_nil)) (pg_name (i := 4) sc_l_perm.nd rfl (by first | exact Or.inl rfl | exact Or.inr rfl)) (pss_cons (ps_set (i := 5) sc_l_perm.nd rfl (by first | exact Or.inl rfl | exact Or.inr rfl) (pcall (ok_l_take c) (hr.mono (by decide)) (by rfl) (c.glo 20) pass0 (pa_cons (pv 0) (pa_cons (pe_callB cl_len (by rfl) (c.free 0) (by decide +kernel) (pa_cons (pv 2) pa_nil)) pa_nil))))
      (pss_cons (ps_expr (pe_bm PySem.F.plainAttrs_list PySem.F.slot_list_append PySem.F.type_list_append mt_append (pv 3) (pa_cons (pe_ix ix_list (pv 2) (pv 5) (fun _ _ => rfl)) pa_nil)))
      (pss_one (ps_set (i := 2) sc_l_perm.nd rfl (by first | exact Or.inl rfl | exact Or.inr rfl) (pe_op op_cat (pe_slice sl_list (pv 2) po_none (po_some (pv 5))) (pe_slice sl_list (pv 2) (po_some (pe_op op_add (pv 5) pe_int)) po_none)))))))
      (pss_one (ps_ret (pv 3))))))
theorem ok_l_perm (c : Fx fa fn K mg) : FnX P w K mg base CX0 2 ("_law_perm", none) ["_law_pool_here", "_law_many"] (sp_l_perm) := by
  obtain ⟨fd, F⟩ := c.says.def_ 10 (d := d_l_perm) rfl
  have F' : FunD K "_law_perm" "_law_perm" (defArgs s_l_perm) (defBody s_l_perm) (defScope s_l_perm) [] [] (He.fAd K ("_law_perm", none)) fd := F
  exact ⟨⟨fd, ok_l_perm_fd c F', F'.bindsN fun _ _ _ _ _ _ us hl => match us, hl with | [_, _], _ => rfl⟩, F'.kp⟩
theorem ok_l_span_fd (c : Fx fa fn K mg) {fd : FuncData} (F' : FunD K "_law_span" "_law_span" (defArgs s_l_span) (defBody s_l_span) (defScope s_l_span) [] [] (He.fAd K ("_law_span", none)) fd) : FnOk P w K mg base CX0 2 (He.fAd K ("_law_span", none)) fd ["_law_pool_here", "_law_length_here", "_law_start", "_law_end"] (sp_l_span) := by
  refine F'.ok sc_l_span (fun vs H Q E h => len_l_span h) (fun cdv A outer s H vs Q E hr h => ⟨t_l_span K, PSs.nox ?_, pure_l_span h⟩)
  exact (pss_cons (ps_set (i := 4) sc_l_span.nd rfl (by first | exact Or.inl rfl | exact Or.inr rfl) (pe_op op_mul pe_int (pv 1)))
      (pss_cons (ps_if (pt_cmpR op_eq (pcall (ok_l_take c) (hr.mono (by decide)) (by rfl) (c.glo 20) pass0 (pa_cons (pv 0) (pa_cons pe_int pa_nil))) pe_int (nomark _)) (pss_one (ps_set (i := 4) sc_l_span.nd rfl (by first | exact Or.inl rfl | exact Or.inr rfl) pe_int)) pss_nil)
      (pss_cons (ps_set (i := 5) sc_l_span.nd rfl (by first | exact Or.inl rfl | exact Or.inr rfl) (pcall (ok_l_take c) (hr.mono (by decide)) (by rfl) (c.glo 20) pass0 (pa_cons (pv 0) (pa_cons (pv 4) pa_nil))))
      (pss_one (ps_ret (pe_tup (pa_cons (pv 2) (pa_cons (pv 3) (pa_cons (pv 5) (pa_cons (pe_op op_add (pv 5) (pcall (ok_l_take c) (hr.mono (by decide)) (by rfl) (c.glo 20) pass0 (pa_cons (pv 0) (pa_cons (pe_callB (cl_min2 rfl) (by rfl) (c.free 21) (by decide +kernel) (pa_cons (pv 1) (pa_cons (pe_op op_sub pe_int (pv 5)) pa_nil))) pa_nil)))) pa_nil))))))))))
theorem ok_l_span (c : Fx fa fn K mg) : FnX P w K mg base CX0 2 ("_law_span", none) ["_law_pool_here", "_law_length_here", "_law_start", "_law_end"] (sp_l_span) := by
  obtain ⟨fd, F⟩ := c.says.def_ 11 (d := d_l_span) rfl
  have F' : FunD K "_law_span" "_law_span" (defArgs s_l_span) (defBody s_l_span) (defScope s_l_span) [] [] (He.fAd K ("_law_span", none)) fd := F
  exact ⟨⟨fd, ok_l_span_fd c F', F'.bindsN fun _ _ _ _ _ _ us hl => match us, hl with | [_, _, _, _], _ => rfl⟩, F'.kp⟩
theorem ok_l_any_spans_fd (c : Fx fa fn K mg) {fd : FuncData} (F' : FunD K "_law_any_spans" "_law_any_spans" (defArgs s_l_any_spans) (defBody s_l_any_spans) (defScope s_l_any_spans) [] [] (He.fAd K ("_law_any_spans", none)) fd) : FnOk P w K mg base CX0 3 (He.fAd K ("_law_any_spans", none)) fd ["_law_pool_here", "_law_length_here", "_law_many", "_law_count"] (sp_l_any_spans) := by
  refine F'.ok sc_l_any_spans (fun vs H Q E h => len_l_any_spans h) (fun cdv A outer s H vs Q E hr h => ⟨t_l_any_spans K, PSs.nox ?_, pure_l_any_spans h⟩)
  exact (pss_cons (ps_set (i := 4) sc_l_any_spans.nd rfl (by first | exact Or.inl rfl | exact Or.inr rfl) (pe_lst pa_nil))
      (pss_cons (ps_for PassesOwn.never rfl (pi_range1 (by rfl) (c.free 9) (pa_cons (pv 3) pa_nil)) (pg_name (i := 5) sc_l_any_spans.nd rfl (by first | exact Or.inl rfl | exact Or.inr rfl)) (pss_cons (ps_set (i := 6) sc_l_any_spans.nd rfl (by first | exact Or.inl rfl | exact Or.inr rfl) (pcall (ok_l_take c) (hr.mono (by decide)) (by rfl) (c.glo 20) pass0 (pa_cons (pv 0) (pa_cons (pv 2) pa_nil))))
      (pss_cons (ps_set (i := 7) sc_l_any_spans.nd rfl (by first | exact Or.inl rfl | exact Or.inr rfl) (pe_op op_mod (pe_callTy cl_int1 (by rfl) (c.free 3) (by decide +kernel) (pa_cons (pe_op op_add (pe_op op_add (pv 6) pe_int) (pcall (ok_l_take c) (hr.mono (by decide)) (by rfl) (c.glo 20) pass0 (pa_cons (pv 0) (pa_cons (pe_op op_sub (pv 2) pe_int) pa_nil)))) pa_nil)) (pv 2)))
      (pss_one (ps_expr (pe_bm PySem.F.plainAttrs_list PySem.F.slot_list_append PySem.F.type_list_append mt_append (pv 4) (pa_cons (pcall (ok_l_span c) (hr.mono (by decide)) (by rfl) (c.glo 22) pass0 (pa_cons (pv 0) (pa_cons (pv 1) (pa_cons (pv 6) (pa_cons (pv 7) pa_nil))))) pa_nil)))))))
      (pss_one (ps_ret (pv 4)))))
theorem ok_l_any_spans (c : Fx fa fn K mg) : FnX P w K mg base CX0 3 ("_law_any_spans", none) ["_law_pool_here", "_law_length_here", "_law_many", "_law_count"] (sp_l_any_spans) := by
  obtain ⟨fd, F⟩ := c.says.def_ 12 (d := d_l_any_spans) rfl
  have F' : FunD K "_law_any_spans" "_law_any_spans" (defArgs s_l_any_spans) (defBody s_l_any_spans) (defScope s_l_any_spans) [] [] (He.fAd K ("_law_any_spans", none)) fd := F
  exact ⟨⟨fd, ok_l_any_spans_fd c F', F'.bindsN fun _ _ _ _ _ _ us hl => match us, hl with | [_, _, _, _], _ => rfl⟩, F'.kp⟩
theorem ok_l_chained_fd (c : Fx fa fn K mg) {fd : FuncData} (F' : FunD K "_law_chained" "_law_chained" (defArgs s_l_chained) (defBody s_l_chained) (defScope s_l_chained) [] [] (He.fAd K ("_law_chained", none)) fd) : FnOk P w K mg base CX0 3 (He.fAd K ("_law_chained", none)) fd ["_law_pool_here", "_law_length_here", "_law_many"] (sp_l_chained) := by
  refine F'.ok sc_l_chained (fun vs H Q E h => len_l_chained h) (fun cdv A outer s H vs Q E hr h => ⟨t_l_chained K, PSs.nox ?_, pure_l_chained h⟩)
  exact (pss_cons (ps_set (i := 3) sc_l_chained.nd rfl (by first | exact Or.inl rfl | exact Or.inr rfl) (pcall (ok_l_perm c) (hr.mono (by decide)) (by rfl) (c.glo 23) pass0 (pa_cons (pv 0) (pa_cons (pv 2) pa_nil))))
      (pss_cons (ps_set (i := 4) sc_l_chained.nd rfl (by first | exact Or.inl rfl | exact Or.inr rfl) (pe_lst pa_nil))
      (pss_cons (ps_for PassesOwn.never rfl (pi_range1 (by rfl) (c.free 9) (pa_cons (pe_op op_sub (pv 2) pe_int) pa_nil)) (pg_name (i := 5) sc_l_chained.nd rfl (by first | exact Or.inl rfl | exact Or.inr rfl)) (pss_cons (ps_set (i := 6) sc_l_chained.nd rfl (by first | exact Or.inl rfl | exact Or.inr rfl) (pcall (ok_l_take c) (hr.mono (by decide)) (by rfl) (c.glo 20) pass0 (pa_cons (pv 0) (pa_cons pe_int pa_nil))))
      (pss_one (ps_if (pt_cmpR op_gt (pv 6) pe_int (nomark _)) (pss_one (ps_expr (pe_bm PySem.F.plainAttrs_list PySem.F.slot_list_append PySem.F.type_list_append mt_append (pv 4) (pa_cons (pcall (ok_l_span c) (hr.mono (by decide)) (by rfl) (c.glo 22) pass0 (pa_cons (pv 0) (pa_cons (pv 1) (pa_cons (pe_ix ix_list (pv 3) (pv 5) (fun _ _ => rfl)) (pa_cons (pe_ix ix_list (pv 3) (pe_op op_add (pv 5) pe_int) (fun _ _ => rfl)) pa_nil))))) pa_nil)))) (pss_one (ps_if (pt_cmpR op_gt (pv 6) pe_int (nomark _)) (pss_one (ps_expr (pe_bm PySem.F.plainAttrs_list PySem.F.slot_list_append PySem.F.type_list_append mt_append (pv 4) (pa_cons (pcall (ok_l_span c) (hr.mono (by decide)) (by rfl) (c.glo 22) pass0 (pa_cons (pv 0) (pa_cons (pv 1) (pa_cons (pe_ix ix_list (pv 3) (pe_op op_add (pv 5) pe_int) (fun _ _ => rfl)) (pa_cons (pe_ix ix_list (pv 3) (pv 5) (fun _ _ => rfl)) pa_nil))))) pa_nil)))) pss_nil))))))
      (pss_one (ps_ret (pv 4))))))
theorem ok_l_chained (c : Fx fa fn K mg) : FnX P w K mg base CX0 3 ("_law_chained", none) ["_law_pool_here", "_law_length_here", "_law_many"] (sp_l_chained) := by
  obtain ⟨fd, F⟩ := c.says.def_ 13 (d := d_l_chained) rfl
  have F' : FunD K "_law_chained" "_law_chained" (defArgs s_l_chained) (defBody s_l_chained) (defScope s_l_chained) [] [] (He.fAd K ("_law_chained", none)) fd := F
  exact ⟨⟨fd, ok_l_chained_fd c F', F'.bindsN fun _ _ _ _ _ _ us hl => match us, hl with | [_, _, _], _ => rfl⟩, F'.kp⟩
theorem ok_l_spans_of_fd (c : Fx fa fn K mg) {fd : FuncData} (F' : FunD K "_law_spans_of" "_law_spans_of" (defArgs s_l_spans_of) (defBody s_l_spans_of) (defScope s_l_spans_of) [] [] (He.fAd K ("_law_spans_of", none)) fd) : FnOk P w K mg base CX0 4 (He.fAd K ("_law_spans_of", none)) fd ["_law_pool_here", "_law_length_here", "_law_many"] (sp_l_spans_of) := by
  refine F'.ok sc_l_spans_of (fun vs H Q E h => len_l_spans_of h) (fun cdv A outer s H vs Q E hr h => ⟨t_l_spans_of K, PSs.nox ?_, pure_l_spans_of h⟩)
  exact (pss_cons (ps_if (pt_cmpR op_lt (pv 2) pe_int (nomark _)) (pss_one (ps_ret (pe_lst pa_nil))) pss_nil)
      (pss_cons (ps_if (pt_cmpR op_eq (pcall (ok_l_take c) (hr.mono (by decide)) (by rfl) (c.glo 20) pass0 (pa_cons (pv 0) (pa_cons pe_int pa_nil))) pe_int (nomark _)) (pss_one (ps_ret (pcall (ok_l_chained c) (hr.mono (by decide)) (by rfl) (c.glo 24) pass0 (pa_cons (pv 0) (pa_cons (pv 1) (pa_cons (pv 2) pa_nil)))))) pss_nil)
      (pss_cons (ps_if (pt_cmpR op_eq (pcall (ok_l_take c) (hr.mono (by decide)) (by rfl) (c.glo 20) pass0 (pa_cons (pv 0) (pa_cons pe_int pa_nil))) pe_int (nomark _)) (pss_one (ps_ret (pcall (ok_l_any_spans c) (hr.mono (by decide)) (by rfl) (c.glo 25) pass0 (pa_cons (pv 0) (pa_cons (pv 1) (pa_cons (pv 2) (pa_cons (pcall (ok_l_take c) (hr.mono (by decide)) (by rfl) (c.glo 20) pass0 (pa_cons (pv 0) (pa_cons pe_int pa_nil))) pa_nil))))))) pss_nil)
      (pss_one (ps_ret (pcall (ok_l_any_spans c) (hr.mono (by decide)) (by rfl) (c.glo 25) pass0 (pa_cons (pv 0) (pa_cons (pv 1) (pa_cons (pv 2) (pa_cons (pcall (ok_l_take c) (hr.mono (by decide)) (by rfl) (c.glo 20) pass0 (pa_cons (pv 0) (pa_cons pe_int pa_nil))) pa_nil))))))))))
theorem ok_l_spans_of (c : Fx fa fn K mg) : FnX P w K mg base CX0 4 ("_law_spans_of", none) ["_law_pool_here", "_law_length_here", "_law_many"] (sp_l_spans_of) := by
  obtain ⟨fd, F⟩ := c.says.def_ 14 (d := d_l_spans_of) rfl
  have F' : FunD K "_law_spans_of" "_law_spans_of" (defArgs s_l_spans_of) (defBody s_l_spans_of) (defScope s_l_spans_of) [] [] (He.fAd K ("_law_spans_of", none)) fd := F
  exact ⟨⟨fd, ok_l_spans_of_fd c F', F'.bindsN fun _ _ _ _ _ _ us hl => match us, hl with | [_, _, _], _ => rfl⟩, F'.kp⟩
theorem ok_l_joined_fd (c : Fx fa fn K mg) {fd : FuncData} (F' : FunD K "_law_joined" "_law_joined" (defArgs s_l_joined) (defBody s_l_joined) (defScope s_l_joined) [] [] (He.fAd K ("_law_joined", none)) fd) : FnOk P w K mg base CX0 1 (He.fAd K ("_law_joined", none)) fd ["_law_many", "_law_spans"] (sp_l_joined) := by
  refine F'.ok sc_l_joined (fun vs H Q E h => len_l_joined h) (fun cdv A outer s H vs Q E hr h => ⟨t_l_joined K, PSs.nox ?_, pure_l_joined h⟩)
  exact (pss_cons (ps_set (i := 2) sc_l_joined.nd rfl (by first | exact Or.inl rfl | exact Or.inr rfl) (pe_listRg rfl (by rfl) (c.free 7) (prg_1 (by rfl) (c.free 9) (pv 0))))
      (pss_cons (ps_for PassesOwn.never rfl (pi_range1 (by rfl) (c.free 9) (pa_cons (pv 0) pa_nil)) (pg_name (i := 3) sc_l_joined.nd rfl (by first | exact Or.inl rfl | exact Or.inr rfl)) (pss_one (ps_for PassesOwn.never rfl (pi_list (pv 1)) (pg_name (i := 6) sc_l_joined.nd rfl (by first | exact Or.inl rfl | exact Or.inr rfl)) (pss_cons (ps_set (i := 7) sc_l_joined.nd rfl (by first | exact Or.inl rfl | exact Or.inr rfl) (pe_callB (cl_min2 rfl) (by rfl) (c.free 21) (by decide +kernel) (pa_cons (pe_ix ix_list (pv 2) (pe_ix ix_tup (pv 6) pe_int (fun _ _ => rfl)) (fun _ _ => rfl)) (pa_cons (pe_ix ix_list (pv 2) (pe_ix ix_tup (pv 6) pe_int (fun _ _ => rfl)) (fun _ _ => rfl)) pa_nil))))
      (pss_cons (ps_asg (pv 7) (pg_sub (pv 2) (pe_ix ix_tup (pv 6) pe_int (fun _ _ => rfl)) set_list))
      (pss_one (ps_asg (pv 7) (pg_sub (pv 2) (pe_ix ix_tup (pv 6) pe_int (fun _ _ => rfl)) set_list))))))))
      (pss_cons (ps_set (i := 4) sc_l_joined.nd rfl (by first | exact Or.inl rfl | exact Or.inr rfl) (pe_lst pa_nil))
      (pss_cons (ps_for PassesOwn.never rfl (pi_range1 (by rfl) (c.free 9) (pa_cons (pv 0) pa_nil)) (pg_name (i := 5) sc_l_joined.nd rfl (by first | exact Or.inl rfl | exact Or.inr rfl)) (pss_one (ps_if (pt_cmpR op_eq (pe_ix ix_list (pv 2) (pv 5) (fun _ _ => rfl)) (pv 5) (nomark _)) (pss_one (ps_expr (pe_bm PySem.F.plainAttrs_list PySem.F.slot_list_append PySem.F.type_list_append mt_append (pv 4) (pa_cons (pe_lc (own := [("_law_event", 8)]) (g := (gName 8)) (tt := (tTest (tOp rEq (tOp (rIxL K) (tVar 2) (tVar 8)) (tVar 5)))) rfl sc_l_joined.nd (pi_range1 (by rfl) (c.free 9) (pa_cons (pv 0) pa_nil)) (blkOk_by (own := [("_law_event", 8)]) (N := N_l_joined) (sc := defScope s_l_joined) (by decide +kernel)) (fun _ _ _ _ _ => (pg_name (i := 8) sc_l_joined.nd rfl (by first | exact Or.inl rfl | exact Or.inr rfl))) (fun _ _ _ _ _ => (pts_one (pt_cmpR op_eq (pe_ix ix_list (pv 2) (pv 8) (fun _ _ => rfl)) (pv 5) (nomark _)))) (fun _ _ _ _ _ => (pv 8))) pa_nil)))) pss_nil)))
      (pss_one (ps_ret (pv 4)))))))
theorem ok_l_joined (c : Fx fa fn K mg) : FnX P w K mg base CX0 1 ("_law_joined", none) ["_law_many", "_law_spans"] (sp_l_joined) := by
  obtain ⟨fd, F⟩ := c.says.def_ 15 (d := d_l_joined) rfl
  have F' : FunD K "_law_joined" "_law_joined" (defArgs s_l_joined) (defBody s_l_joined) (defScope s_l_joined) [] [] (He.fAd K ("_law_joined", none)) fd := F
  exact ⟨⟨fd, ok_l_joined_fd c F', F'.bindsN fun _ _ _ _ _ _ us hl => match us, hl with | [_, _], _ => rfl⟩, F'.kp⟩
theorem ok_l_pieces_good_fd (c : Fx fa fn K mg) {fd : FuncData} (F' : FunD K "_law_pieces_good" "_law_pieces_good" (defArgs s_l_pieces_good) (defBody s_l_pieces_good) (defScope s_l_pieces_good) [] [] (He.fAd K ("_law_pieces_good", none)) fd) : FnOk P w K mg base CX0 9 (He.fAd K ("_law_pieces_good", none)) fd ["_law_net", "_law_due"] (sp_l_pieces_good K) := by
  refine F'.ok sc_l_pieces_good (fun vs H Q E h => len_l_pieces_good h) (fun cdv A outer s H vs Q E hr h => ⟨t_l_pieces_good K, PSs.nox ?_, pure_l_pieces_good h⟩)
  exact (pss_cons (ps_set (i := 2) sc_l_pieces_good.nd rfl (by first | exact Or.inl rfl | exact Or.inr rfl) (pmeth0 (pv 0) (c.cls 26) (c.meth 27) (ok_Net_pieces c) (hr.mono (by decide)) pass0))
      (pss_cons (ps_if (pt_not (pt_val (pcall (ok_l_same c) (hr.mono (by decide)) (by rfl) (c.glo 10) pass0 (pa_cons (pv 2) (pa_cons (pv 1) pa_nil))))) (pss_one (ps_ret pe_bl)) pss_nil)
      (pss_cons (ps_expr (pe_bm PySem.F.plainAttrs_list PySem.F.slot_list_append PySem.F.type_list_append mt_append (pv 2) (pa_cons (pe_lst (pa_cons pe_int pa_nil)) pa_nil)))
      (pss_cons (ps_set (i := 3) sc_l_pieces_good.nd rfl (by first | exact Or.inl rfl | exact Or.inr rfl) (pe_ix ix_list (pv 2) pe_int (fun _ _ => rfl)))
      (pss_cons (ps_expr (pe_bm PySem.F.plainAttrs_list PySem.F.slot_list_append PySem.F.type_list_append mt_append (pv 3) (pa_cons (pe_callB cl_len (by rfl) (c.free 0) (by decide +kernel) (pa_cons (pv 1) pa_nil)) pa_nil)))
      (pss_one (ps_ret (pcall (ok_l_same c) (hr.mono (by decide)) (by rfl) (c.glo 10) pass0 (pa_cons (pmeth0 (pv 0) (c.cls 26) (c.meth 27) (ok_Net_pieces c) (hr.mono (by decide)) pass0) (pa_cons (pv 1) pa_nil))))))))))
theorem ok_l_pieces_good (c : Fx fa fn K mg) : FnX P w K mg base CX0 9 ("_law_pieces_good", none) ["_law_net", "_law_due"] (sp_l_pieces_good K) := by
  obtain ⟨fd, F⟩ := c.says.def_ 16 (d := d_l_pieces_good) rfl
  have F' : FunD K "_law_pieces_good" "_law_pieces_good" (defArgs s_l_pieces_good) (defBody s_l_pieces_good) (defScope s_l_pieces_good) [] [] (He.fAd K ("_law_pieces_good", none)) fd := F
  exact ⟨⟨fd, ok_l_pieces_good_fd c F', F'.bindsN fun _ _ _ _ _ _ us hl => match us, hl with | [_, _], _ => rfl⟩, F'.kp⟩
theorem ok_law_fd (c : Fx fa fn K mg) {fd : FuncData} (F' : FunD K "law" "law" (defArgs s_law) (defBody s_law) (defScope s_law) [] [] (He.fAd K ("law", none)) fd) : FnOk P w K mg base CX0 10 (He.fAd K ("law", none)) fd ["_law_script"] (sp_law K) := by
  refine F'.ok sc_law (fun vs H Q E h => len_law h) (fun cdv A outer s H vs Q E hr h => ⟨t_law K, PSs.nox ?_, pure_law (netK c) h⟩)
  exact (pss_cons (ps_set (i := 1) sc_law.nd rfl (by first | exact Or.inl rfl | exact Or.inr rfl) (pcall (ok_l_pool c) (hr.mono (by decide)) (by rfl) (c.glo 28) pass0 (pa_cons (pv 0) (pa_cons pe_int pa_nil))))
      (pss_cons (ps_set (i := 2) sc_law.nd rfl (by first | exact Or.inl rfl | exact Or.inr rfl) (pcall (ok_l_length c) (hr.mono (by decide)) (by rfl) (c.glo 29) pass0 (pa_cons (pv 1) pa_nil)))
      (pss_cons (ps_set (i := 3) sc_law.nd rfl (by first | exact Or.inl rfl | exact Or.inr rfl) (pcall (ok_l_take c) (hr.mono (by decide)) (by rfl) (c.glo 20) pass0 (pa_cons (pv 1) (pa_cons pe_int pa_nil))))
      (pss_cons (ps_set (i := 4) sc_law.nd rfl (by first | exact Or.inl rfl | exact Or.inr rfl) (pcall (ok_l_spans_of c) (hr.mono (by decide)) (by rfl) (c.glo 30) pass0 (pa_cons (pv 1) (pa_cons (pv 2) (pa_cons (pv 3) pa_nil)))))
      (pss_cons (ps_set (i := 5) sc_law.nd rfl (by first | exact Or.inl rfl | exact Or.inr rfl) (pcall (ok_l_take c) (hr.mono (by decide)) (by rfl) (c.glo 20) pass0 (pa_cons (pv 1) (pa_cons (pe_op op_add (pe_callB cl_len (by rfl) (c.free 0) (by decide +kernel) (pa_cons (pv 4) pa_nil)) pe_int) pa_nil))))
      (pss_cons (ps_set (i := 6) sc_law.nd rfl (by first | exact Or.inl rfl | exact Or.inr rfl) (pmake (c.mkr 31) (ok_Net___init__ c) (hr.mono (by decide)) (by rfl) (c.glo 32) pass0 (pa_cons (pv 2) (pa_cons (pv 3) (pa_cons (pe_callTy cl_list (by rfl) (c.free 7) (by decide +kernel) (pa_cons (pv 4) pa_nil)) pa_nil)))))
      (pss_cons (ps_set (i := 7) sc_law.nd rfl (by first | exact Or.inl rfl | exact Or.inr rfl) (pmake (c.mkr 31) (ok_Net___init__ c) (hr.mono (by decide)) (by rfl) (c.glo 32) pass0 (pa_cons (pv 2) (pa_cons (pv 3) (pa_cons (pe_slice sl_list (pv 4) po_none (po_some (pv 5))) pa_nil)))))
      (pss_cons (ps_set (i := 8) sc_law.nd rfl (by first | exact Or.inl rfl | exact Or.inr rfl) (pcall (ok_l_joined c) (hr.mono (by decide)) (by rfl) (c.glo 33) pass0 (pa_cons (pv 3) (pa_cons (pv 4) pa_nil))))
      (pss_cons (ps_if (PW.pt (pw_or (pt_not (pt_val (pcall (ok_l_pieces_good c) (hr.mono (by decide)) (by rfl) (c.glo 34) pass0 (pa_cons (pv 6) (pa_cons (pv 8) pa_nil))))) (pw_or1 (pt_not (pt_val (pcall (ok_l_pieces_good c) (hr.mono (by decide)) (by rfl) (c.glo 34) pass0 (pa_cons (pv 7) (pa_cons (pcall (ok_l_joined c) (hr.mono (by decide)) (by rfl) (c.glo 33) pass0 (pa_cons (pv 3) (pa_cons (pe_slice sl_list (pv 4) po_none (po_some (pv 5))) pa_nil))) pa_nil)))))))) (pss_one (ps_ret pe_bl)) pss_nil)
      (pss_one (ps_ret (pe_and (pcall (ok_l_same c) (hr.mono (by decide)) (by rfl) (c.glo 10) pass0 (pa_cons (pmeth0 (pv 6) (c.cls 26) (c.meth 27) (ok_Net_pieces c) (hr.mono (by decide)) pass0) (pa_cons (pv 8) pa_nil))) (pe_one (pcall (ok_l_same c) (hr.mono (by decide)) (by rfl) (c.glo 10) pass0 (pa_cons (pe_fld (pv 6) rfl) (pa_cons (pe_callTy cl_tuple (by rfl) (c.free 8) (by decide +kernel) (pa_cons (pv 4) pa_nil)) pa_nil))))))))))))))))
theorem ok_law (c : Fx fa fn K mg) : FnX P w K mg base CX0 10 ("law", none) ["_law_script"] (sp_law K) := by
  obtain ⟨fd, F⟩ := c.says.def_ 17 (d := d_law) rfl
  have F' : FunD K "law" "law" (defArgs s_law) (defBody s_law) (defScope s_law) [] [] (He.fAd K ("law", none)) fd := F
  exact ⟨⟨fd, ok_law_fd c F', F'.bindsN fun _ _ _ _ _ _ us hl => match us, hl with | [_], _ => rfl⟩, F'.kp⟩
end

/-! ## End -/
def names_0 : List Str := ["_wall", "__name__", "DepotError", "BadNet", "SHORTEST_ROUND", "LONGEST_ROUND", "MOST_EVENTS", "MOST_SPANS", "MOST_MINUTES", "is_window", "is_span", "join_labels", "Net", "_law_cell", "_law_pool", "_law_take", "_law_same", "_law_length", "_law_perm", "_law_span", "_law_any_spans", "_law_chained", "_law_spans_of", "_law_joined", "_law_pieces_good"]
def names : List Str := names_0
abbrev R : PySem.W.OpenRow := PySem.W.OpenLaw.row PySem.Challenge.rw_depotday_k13_pieces_of_a_net
abbrev hk : PySem.W.Hook := He.hookD 4 fa fn
def ob (s : PySem.W.SharedT) : He.AlD := He.obsDG 4 fa fn (HandSHeadRun.getT s)
theorem ob_eq (s : PySem.W.SharedT) : ob s = hk.obs s.abs := He.obsDG_eq (HandSHeadRun.getT_eq s)
theorem run (w : World) : HandSHeadRun.RunEq R (PySem.W.view R.prog [27]) hk ob 6000 names w := by
  intro os
  kernel_rfl

end Cl
open PySem PySem.W PySem.Calls PyProof.Rows in
set_option maxRecDepth 100000 in
set_option maxHeartbeats 0 in
theorem PySem.Challenge.cw_depotday_k13_pieces_of_a_net_holds : PySem.Challenge.rw_depotday_k13_pieces_of_a_net.Holds := by
  w_on; o_law
  refine HandSHeadRun.head_any (r := OpenLaw.row PySem.Challenge.rw_depotday_k13_pieces_of_a_net) (q := view (OpenLaw.row PySem.Challenge.rw_depotday_k13_pieces_of_a_net).prog [27]) (H := Cl.hk) (ob := Cl.ob) (M := 6000) (loose := Cl.names) (d := HandSHeadRun.topDef (OpenLaw.row PySem.Challenge.rw_depotday_k13_pieces_of_a_net).prog 27) (kwd := []) Cl.ob_eq
    (by kernel_rfl) (fun s => by kernel_rfl) Cl.run (by kernel_rfl) (by kernel_rfl) (by kernel_rfl) (by rfl) (by first | assumption | decide +kernel) (by decide +kernel) ⟨rfl, rfl, rfl, rfl, rfl, by decide +kernel⟩ ?hw ?hc
  case hw => w_witness2
  case hc =>
    refine L2.walk_ofE (l := PySem.Challenge.rw_depotday_k13_pieces_of_a_net) (n := 63) (k := 10) (x := "_law_script") (CX := L2.CX0) rfl (by decide) (by kernel_rfl) ⟨rfl, by decide, by decide⟩ ?F (fun _ _ _ _ z => z)
    intro w mg fa h Y G hmg0
    obtain ⟨K, KX, says⟩ := Y
    have hmg : mg ("law" : PySem.Str) = some (.ref fa) := by
      have e : (HandSHeadRun.topDef (OpenLaw.row PySem.Challenge.rw_depotday_k13_pieces_of_a_net).prog 27).name = ("law" : PySem.Str) := by kernel_rfl
      rw [← e]
      exact hmg0
    have c : Cl.Fx Cl.fa Cl.fn K mg := Cl.Fx.mk' KX G says
    have ef := hmg.symm.trans (c.glo 35)
    cases ef
    obtain ⟨fd, F⟩ := says.def_ 17 (d := Cl.d_law) rfl
    have hb := L2.FunD.bindsA (ps := ["_law_script"]) F fun _ _ _ _ _ _ us hl => match us, hl with | [_], _ => rfl
    refine ⟨K, fd, Cl.sp_law K, KX, fun s v => hb s [v] rfl, fun H a ns hl _ hS => Cl.start_law hl hS, fun base _ _ => ?_⟩
    exact Cl.ok_law_fd c F
