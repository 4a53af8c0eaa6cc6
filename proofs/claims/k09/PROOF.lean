import PyProof.Rows.All
import Wide.All
import OpenK.AllK
import Wide.FinOn
import PyProof.EqAt
import PyProof.EqKinds
import PyProof.TupleCall
import PyProof.P3Eq
import HandS.ForMost
import HandS.Exc
import HandS.TryOnly
import HandS.ExcOwn
import HandS.WordsExc
import HandS.ExcIs
import HandS.IsInst
import HandS.Codes
import HandS.Small
import HandS.Flow
import HandS.Style
import HandS.Zip
import HandS.TupAny
import HandS.SortInts
import HandS.Defaults
import HandS.HeadEnd
import HandS.HeadHook1
import HandS.HeadHook2
import HandS.HeadHook3
import HandS.Head0
import HandS.Head1
import HandS.Head2
import PySem.Challenge.RW_spindlegate_k09_letters_on_their_way
set_option Elab.async false
set_option linter.all false
set_option maxRecDepth 100000
set_option maxHeartbeats 4000000
namespace Sp
open PySem PySem.Spec PyProof.Rows L2

/-! ### the head's facts in use -/
structure Tx (fa : List He.Fa) (fn : List He.DefD) (K : PySem.W.Frag) (mg : Str → Option Value) : Prop where
  hp : ∃ h : Heap, K.In h ∧ h.Ns mainGlobals mg
  says : He.SaysD fa fn K
section
variable {fa : List He.Fa} {fn : List He.DefD} {K : PySem.W.Frag} {mg : Str → Option Value}
theorem Tx.glo (T : Tx fa fn K mg) (i : Nat) {x : Str} (e : fa[i]? = some (.glo x) := by rfl) : mg x = some (.ref (He.ga K x)) :=
  let ⟨_, X, G⟩ := T.hp; He.glo_ok X G (T.says.fact i e)
theorem Tx.free (T : Tx fa fn K mg) (i : Nat) {x : Str} (e : fa[i]? = some (.free x) := by rfl) : mg x = none :=
  let ⟨_, X, G⟩ := T.hp; He.free_ok X G (T.says.fact i e)
theorem Tx.int (T : Tx fa fn K mg) (i : Nat) {x : Str} {n : Int} (e : fa[i]? = some (.int x n) := by rfl) : ∃ t, mg x = some (.int n t) :=
  let ⟨_, X, G⟩ := T.hp; He.int_ok X G (T.says.fact i e)
theorem Tx.str (T : Tx fa fn K mg) (i : Nat) {x z : Str} (e : fa[i]? = some (.str x z) := by rfl) : ∃ t, mg x = some (.str z t) :=
  let ⟨_, X, G⟩ := T.hp; He.str_ok X G (T.says.fact i e)
theorem Tx.cls (T : Tx fa fn K mg) (i : Nat) {x : Str} (e : fa[i]? = some (.cls x) := by rfl) : Cls K (He.ga K x) := He.cls_ok (T.says.fact i e)
theorem Tx.noat (T : Tx fa fn K mg) (i : Nat) {x f : Str} (e : fa[i]? = some (.noat x f) := by rfl) : NoAttr K (He.ga K x) f := He.noat_ok (T.says.fact i e)
theorem Tx.meth (T : Tx fa fn K mg) (i : Nat) {x m : Str} (e : fa[i]? = some (.meth x m) := by rfl) : Meth K (He.ga K x) m (He.ma K (He.ga K x) m) := He.meth_ok (T.says.fact i e)
theorem Tx.mkr (T : Tx fa fn K mg) (i : Nat) {x : Str} (e : fa[i]? = some (.mkr x) := by rfl) : Mk K (He.ga K x) (He.ma K (He.ga K x) "__init__") := He.mkr_ok (T.says.fact i e)
theorem Tx.exc (T : Tx fa fn K mg) (i : Nat) {x : Str} (e : fa[i]? = some (.exc x) := by rfl) : PySem.W.excIn K (He.ga K x) He.veBase "ValueError.__new__" = true ∧ PySem.W.keepIn K (.ref (He.ga K x)) = true ∧ PySem.W.subIn K (.ref (He.ga K x)) (.type "BaseException") = some true ∧
    PySem.W.typeIn K (.ref (He.ga K x)) = some (.type "type") := He.exc_ok (T.says.fact i e)
theorem Tx.exm (T : Tx fa fn K mg) (i : Nat) {x y : Str} {b : Bool} (e : fa[i]? = some (.exm x y b) := by rfl) : PySem.W.exmOne K (.ref (He.ga K x)) (.ref (He.ga K y)) = some b := He.exm_ok (T.says.fact i e)
end

/-! ### a def that holds its promise -/
def Okd (P : Program) (w : World) (K : PySem.W.Frag) (mg : Str → Option Value) (base : Heap) (p : Str × Option Str) (k : Nat) (ps : List Str) (sp : Sp) : Prop :=
  ∃ fd, Binds K fd ps [] ∧ PySem.W.keepIn K (.ref (He.fAd K p)) = true ∧ FnOk P w K mg base (L2.CX P w) k (He.fAd K p) fd ps sp
section
variable {P : Program} {w : World} {K : PySem.W.Frag} {mg : Str → Option Value} {base : Heap} {fa : List He.Fa} {fn : List He.DefD}
theorem okd (T : Tx fa fn K mg) (i : Nat) {at_ : Str × Option Str} {name qual : Str} {params : Arguments} {body : List Stmt} {scope : Scope} {N ps : List Str} {k : Nat} {sp : Sp}
    (e : fn[i]? = some ⟨at_, name, qual, params, body, scope, [], []⟩) (S : FnScope N ps scope)
    (hb : ∀ (kV doc pm : Value) (an : Option Addr) (cdv ct : Value) (us : List Value), us.length = ps.length → bindArgs (PySem.W.fnOf name qual params body scope .none kV doc pm an cdv ct) ⟨us, []⟩ = pure (ps.zip us))
    (len : ∀ vs H Q E, sp vs H Q E → vs.length = ps.length)
    (hbody : ∀ (f : Addr) (cdv : Value) (A : Around) (outer : List Env) (s : Shared) (H : Hp) (vs : List V) (Q : VK) (E : XK), Room k (A.deeper (envOfC qual scope s.heap.objs.size f cdv)) → sp vs H Q E →
      ∃ t, PSs (cxOf (L2.CX P w) P w K mg base N qual scope f cdv A outer s H E) body t ∧ t { nx := fun _ H' => Q .non H', rt := Q } (start N vs) H) :
    Okd P w K mg base at_ (k + 1) ps sp := by
  obtain ⟨fd, F⟩ := T.says.def_ i e
  exact ⟨fd, F.bindsN hb, F.kp, FunD.ok F S len (hbody _)⟩
end
section
variable {X : Cx} {k : Nat} {ps : List Str} {sp : Sp} {E : XK} {x m C : Str} {p pos apos : Pos} {e o : Expr} {es : List Expr} {ta : TE} {t : TA}
theorem pe_callO (O : Okd X.prog X.w X.K X.mg X.base (x, none) k ps sp) (hr : Room k X.A) (hg : Gl X x) (hm : X.mg x = some (.ref (He.ga X.K x))) (hx : Passes (L2.CX X.prog X.w) X E) (ha : PA X (e :: es) t) (hdb : (x == ("__debug__" : Str)) = false := by decide)
    (he : starEach (e :: es) X.env = (false, eval e X.env) :: starEach es X.env := by rfl) (hpl : (backTo pos (starEach es X.env)).any (·.1) = false := by rfl) : PE X (.Call (.Name x p) (e :: es) [] pos) (tCall sp [] E t) :=
  let ⟨_, hb, hk, F⟩ := O; pe_call F hr hg hm hk hb .nil hx ha hdb he hpl
theorem pe_callO0 (O : Okd X.prog X.w X.K X.mg X.base (x, none) k ps sp) (hr : Room k X.A) (hg : Gl X x) (hm : X.mg x = some (.ref (He.ga X.K x))) (hx : Passes (L2.CX X.prog X.w) X E) (hdb : (x == ("__debug__" : Str)) = false := by decide) :
    PE X (.Call (.Name x p) [] [] pos) (tCall sp [] E tNil) :=
  let ⟨_, hb, hk, F⟩ := O; pe_call0 F hr hg hm hk hb .nil hx hdb
theorem pe_callOS {E : L2.St → XK} (O : Okd X.prog X.w X.K X.mg X.base (x, none) k ps sp) (hr : Room k X.A) (hg : Gl X x) (hm : X.mg x = some (.ref (He.ga X.K x))) (hx : ∀ σ, PassesAt (L2.CX X.prog X.w) X σ (E σ)) (ha : PA X (e :: es) t) (hdb : (x == ("__debug__" : Str)) = false := by decide)
    (he : starEach (e :: es) X.env = (false, eval e X.env) :: starEach es X.env := by rfl) (hpl : (backTo pos (starEach es X.env)).any (·.1) = false := by rfl) : PE X (.Call (.Name x p) (e :: es) [] pos) (tCallS sp E t) :=
  let ⟨_, hb, hk, F⟩ := O; pe_callS F hr hg hm hk hb hx ha hdb he hpl
theorem pe_methO {pl : Sem Bool} (he : PE X o ta) (c : Cls X.K (He.ga X.K C)) (hm : Meth X.K (He.ga X.K C) m (He.ma X.K (He.ga X.K C) m)) (O : Okd X.prog X.w X.K X.mg X.base (C, some m) k ps sp) (hr : Room k X.A) (hx : Passes (L2.CX X.prog X.w) X E) (ha : PA X (e :: es) t)
    (hst : starEach (e :: es) X.env = (false, eval e X.env) :: starEach es X.env := by rfl) (hpl : (backTo pos (starEach es X.env)).any (·.1) = false := by rfl)
    (ht : eval (.Call (.Attribute o m apos) (e :: es) [] pos) X.env = (do
      let ov ← eval o X.env
      standAt apos.atName
      let (f, first) ← holding [ov] (getMethod ov m pl)
      callWith pos f first (backTo pos (starEach (e :: es) X.env)) (backToKw pos (keywordEach [] X.env))) := by rfl) :
    PE X (.Call (.Attribute o m apos) (e :: es) [] pos) (tMeth (He.ga X.K C) m sp [] E ta t) :=
  let ⟨_, hb, _, F⟩ := O; pe_meth he c hm F hr hb .nil hx ha hst hpl ht
theorem pe_methO0 {pl : Sem Bool} (he : PE X o ta) (c : Cls X.K (He.ga X.K C)) (hm : Meth X.K (He.ga X.K C) m (He.ma X.K (He.ga X.K C) m)) (O : Okd X.prog X.w X.K X.mg X.base (C, some m) k ps sp) (hr : Room k X.A) (hx : Passes (L2.CX X.prog X.w) X E)
    (ht : eval (.Call (.Attribute o m apos) [] [] pos) X.env = (do
      let ov ← eval o X.env
      standAt apos.atName
      let (f, first) ← holding [ov] (getMethod ov m pl)
      callWith pos f first (backTo pos (starEach [] X.env)) (backToKw pos (keywordEach [] X.env))) := by rfl) :
    PE X (.Call (.Attribute o m apos) [] [] pos) (tMeth (He.ga X.K C) m sp [] E ta tNil) :=
  let ⟨_, hb, _, F⟩ := O; pe_meth0 he c hm F hr hb .nil hx ht
theorem pe_makeO (M : Mk X.K (He.ga X.K C) (He.ma X.K (He.ga X.K C) "__init__")) (O : Okd X.prog X.w X.K X.mg X.base (C, some "__init__") k ps sp) (hr : Room (k + 1) X.A) (hg : Gl X C) (hm : X.mg C = some (.ref (He.ga X.K C))) (hx : Passes (L2.CX X.prog X.w) X E)
    (ha : PA X (e :: es) t) (hdb : (C == ("__debug__" : Str)) = false := by decide) (he : starEach (e :: es) X.env = (false, eval e X.env) :: starEach es X.env := by rfl) (hpl : (backTo pos (starEach es X.env)).any (·.1) = false := by rfl) :
    PE X (.Call (.Name C p) (e :: es) [] pos) (tMake (He.ga X.K C) sp [] E t) :=
  let ⟨_, hb, _, F⟩ := O; pe_make M F hr hg hm hb .nil hx ha hdb he hpl
theorem pe_makeO0 (M : Mk X.K (He.ga X.K C) (He.ma X.K (He.ga X.K C) "__init__")) (O : Okd X.prog X.w X.K X.mg X.base (C, some "__init__") k ps sp) (hr : Room (k + 1) X.A) (hg : Gl X C) (hm : X.mg C = some (.ref (He.ga X.K C))) (hx : Passes (L2.CX X.prog X.w) X E)
    (hdb : (C == ("__debug__" : Str)) = false := by decide) : PE X (.Call (.Name C p) [] [] pos) (tMake (He.ga X.K C) sp [] E tNil) :=
  let ⟨_, hb, _, F⟩ := O; pe_make0 M F hr hg hm hb .nil hx hdb
/-! ### a module's names as values -/
theorem pe_globI {n : Int} (hg : Gl X x) (hm : ∃ t, X.mg x = some (.int n t)) (hd : (x == ("__debug__" : Str)) = false := by decide) : PE X (.Name x pos) (tC (.int n)) :=
  let ⟨_, h⟩ := hm; pe_glob hg h ⟨_, rfl⟩ hd
theorem pe_globS {z : Str} (hg : Gl X x) (hm : ∃ t, X.mg x = some (.str z t)) (hd : (x == ("__debug__" : Str)) = false := by decide) : PE X (.Name x pos) (tC (.str z)) :=
  let ⟨_, h⟩ := hm; pe_glob hg h ⟨_, rfl⟩ hd
theorem pe_globR {a : Addr} (hg : Gl X x) (hm : X.mg x = some (.ref a)) (hd : (x == ("__debug__" : Str)) = false := by decide) : PE X (.Name x pos) (tC (.ref a)) := pe_glob hg hm rfl hd
/-! ### raise C() -/
theorem pmk_own0 {a : Addr} {B newId initId : String} {bmB : List Value} (F : ExcBaseFacts B newId initId bmB)
    (q : PySem.W.excIn X.K a bmB newId = true ∧ PySem.W.keepIn X.K (.ref a) = true ∧ PySem.W.subIn X.K (.ref a) (.type "BaseException") = some true ∧ PySem.W.typeIn X.K (.ref a) = some (.type "type")) (gC : X.mg x = some (.ref a)) (hg : Gl X x)
    (hdb : (x == ("__debug__" : Str)) = false := by decide) : PMk X (.Call (.Name x p) [] [] pos) (fun _ H Q => Q (.ref a) none H) := by
  obtain ⟨q1, q2, q3, q4⟩ := q
  intro pins s σ H Q I h
  refine wpAny_Call_Name_kw (ld_glob I hg gC ?_ hdb)
  refine PySem.W.callWith_K0 I.kIn q2 ?_
  show wpAny _ _ (call (.ref a) []) _ _ _
  obtain ⟨bm, N, nm, qn, bs, hdct, sn, sub, ab, col, dd, k0, k1, k2, k3, k5, mN, hC, hN, hni, T⟩ := exc_obj I.kIn q1
  refine wpAny_call_exc_subT F T hC hN hni (fun h' e hm => ?_) (by show 0 ≤ sizeLine; rw [sizeLine_eq]; omega)
  exact mk_of I hm (raises_own q3 q4) h (I.hok.gone hm.new)
end

/-! ### readings, step by step: each with a head of its own -/
abbrev TSt := L2.St
def rBl (QB : Bool → Hp → Prop) (x : V) (H : Hp) : Prop := ∃ k, x = .bl k ∧ QB k H
def rIf (b : Bool) (A B : Prop) : Prop := if b = true then A else B
def rNewT (xs : List V) (H : Hp) (Q : VK) : Prop := xs.length ≤ sizeLine ∧ ∀ p, H p = none → Q (.ref p) (upd H p (.tup xs))
def rNewL (xs : List V) (H : Hp) (Q : VK) : Prop := xs.length ≤ sizeLine ∧ ∀ p, H p = none → Q (.ref p) (upd H p (.lst xs))
theorem putF_le {f : Str} {y : V} {n : Nat} : ∀ {fs : List (Str × V)}, fs.length ≤ n → (putF f y fs).length ≤ n + 1
  | [], _ => by show 1 ≤ n + 1; omega
  | (g, x) :: r, h => by
    unfold putF
    have h2 : r.length + 1 ≤ n := h
    split
    · show r.length + 1 ≤ n + 1; omega
    · have := putF_le (f := f) (y := y) (n := n - 1) (fs := r) (by omega)
      show (putF f y r).length + 1 ≤ n + 1; omega
theorem putF_lt {f : Str} {y : V} {n : Nat} {fs : List (Str × V)} (h : fs.length < n) : (putF f y fs).length < n + 1 := Nat.lt_of_le_of_lt (putF_le (Nat.le_refl _)) (Nat.succ_lt_succ h)
def rFldG (K : PySem.W.Frag) (f : Str) (x : V) (H : Hp) (Q : VK) : Prop := ∃ a C dx fs v, x = .ref a ∧ H a = some (.ins C dx fs) ∧ Cls K C ∧ NoAttr K C f ∧ fs.lookup f = some v ∧ Q v H
def rFldS (K : PySem.W.Frag) (f : Str) (y x : V) (H : Hp) (R : Hp → Prop) : Prop := ∃ a C dx fs, x = .ref a ∧ H a = some (.ins C dx fs) ∧ Cls K C ∧ NoAttr K C f ∧ fs.length < 1000 ∧ R (upd H a (.ins C dx (putF f y fs)))
def rMethA (C : Addr) (m : Str) (x : V) (H : Hp) (R : Prop) : Prop := ∃ a dx fs, x = .ref a ∧ H a = some (.ins C dx fs) ∧ fs.lookup m = none ∧ R
def rLenA (K : PySem.W.Frag) : List V → Hp → VK → Prop := fun xs H Q => ∃ x n, xs = [x] ∧ LenV K x H n ∧ Q (.int (n : Nat)) H
def rIntA : List V → Hp → VK → Prop := fun xs H Q => (∃ i, xs = [.int i] ∧ Q (.int i) H) ∨ ∃ k, xs = [.bl k] ∧ Q (.int (if k then 1 else 0)) H
def rAbsA : List V → Hp → VK → Prop := fun xs H Q => ∃ i, xs = [.int i] ∧ Q (.int (if i < 0 then -i else i)) H
def rMinA : List V → Hp → VK → Prop := fun xs H Q => ∃ i j, xs = [.int i, .int j] ∧ Q (.int (if j < i then j else i)) H
def rMaxA : List V → Hp → VK → Prop := fun xs H Q => ∃ i j, xs = [.int i, .int j] ∧ Q (.int (if j > i then j else i)) H
def rListA (K : PySem.W.Frag) : List V → Hp → VK → Prop := fun xs H Q => ∃ p ys, xs = [.ref p] ∧ (SqL K H p ys ∨ SqT K H p ys) ∧ ∀ l, H l = none → Q (.ref l) (upd H l (.lst ys))
def rIsNA : R2 := fun x y H Q => y = .non ∧ Q (.bl (decide (x = .non))) H
def rNotNA : R2 := fun x y H Q => y = .non ∧ Q (.bl (!decide (x = .non))) H
def rTru (K : PySem.W.Frag) (x : V) (H : Hp) (QB : Bool → Hp → Prop) : Prop := ∃ k, TruV K x H k ∧ QB k H
def tTruA (K : PySem.W.Frag) (te : TE) : TT := fun σ H Q => te σ H fun x H' => rTru K x H' Q
def rItL (K : PySem.W.Frag) (x : V) (H : Hp) (R : It → Hp → Prop) : Prop := ∃ a, x = .ref a ∧ (∃ xs, SqL K H a xs) ∧ R (Itl K a) H
def rItT (K : PySem.W.Frag) (x : V) (H : Hp) (R : It → Hp → Prop) : Prop := ∃ a, x = .ref a ∧ (∃ xs, SqT K H a xs) ∧ R (Itt K a) H
def rItR1 (vs : List V) (H : Hp) (R : It → Hp → Prop) : Prop := ∃ j : Int, vs = [.int j] ∧ -(2 ^ 62) ≤ j ∧ j < 2 ^ 62 ∧ R (Itr 0 j.toNat) H
def rItR2 (vs : List V) (H : Hp) (R : It → Hp → Prop) : Prop := ∃ i j : Int, vs = [.int i, .int j] ∧ (-(2 ^ 62) ≤ i ∧ i < 2 ^ 62 ∧ -(2 ^ 62) ≤ j ∧ j < 2 ^ 62) ∧ R (Itr i (j - i).toNat) H
def Loop (g : TG) (tb : TS) (D : Ends) (σ : TSt) (J : It) (H1 : Hp) : Prop := ∃ W : Nat → Nat → TSt → Hp → Prop, (∃ m, W 0 m σ H1) ∧ ∀ i m σ H, W i m σ H →
  (J.stop i H ∧ D.nx σ H) ∨ (J.go i H ∧ ∃ N : TSt → Hp → Prop, (∀ σ' H', N σ' H' → ∃ m', m' < m ∧ W (i + 1) m' σ' H') ∧ ∀ x H', J.yld i H x H' → g x σ H' fun σ2 H2 => tb { D with nx := N, ct := N, bk := D.nx } σ2 H2)
section
variable {X : Cx}
theorem pt_truthA {e : Expr} {te : TE} (h : PE X e te) (hs : ∀ whole, isTrue e X.env whole = (do let v ← whole; standAt e.pos; holding [v] (truthy v)) := by intro _; rfl) : PT X e (tTruA X.K te) := pt_truth h hs
theorem c_len : CallR X (.builtin "len") (rLenA X.K) := call_len
theorem c_int : CallR X (.type "int") rIntA := call_int1
theorem c_abs : CallR X (.builtin "abs") rAbsA := call_abs
theorem c_min2 (hc : X.calm = true) : CallR X (.builtin "min") rMinA := call_min2 hc
theorem c_max2 (hc : X.calm = true) : CallR X (.builtin "max") rMaxA := call_max2 hc
theorem c_list : CallR X (.type "list") (rListA X.K) := call_list_of
theorem o_isN : OpR X (compareOp .Is) rIsNA := op_isN
theorem o_notN : OpR X (compareOp .IsNot) rNotNA := op_notN
end
section
variable {nx bk ct : TSt → Hp → Prop} {rt : VK} {K : PySem.W.Frag} {σ : TSt} {H : Hp} {Q : VK} {QB : Bool → Hp → Prop} {QA : List V → Hp → Prop} {D : Ends} {v x y : V} {i j : Int} {b c : Bool} {p a : Addr} {xs ys : List V} {ta tb te tc : TE} {tt tu : TT} {tA : TA} {r : R2} {s u : TS} {A B R : Prop}
theorem w_var {n : Nat} (h : σ[n]? = some (some v)) (k : Q v H) : tVar n σ H Q := ⟨v, h, k⟩
theorem w_c (k : Q v H) : tC v σ H Q := k
theorem w_op (k : ta σ H fun x H1 => tb σ H1 fun y H2 => r x y H2 Q) : tOp r ta tb σ H Q := k
theorem w_un {r : V → Hp → VK → Prop} (k : ta σ H fun x H1 => r x H1 Q) : tUn r ta σ H Q := k
theorem w_I0 {g : Int → Int → V} (k : Q (g i j) H) : rI0 g (.int i) (.int j) H Q := ⟨i, j, rfl, rfl, k⟩
theorem w_I {C : Int → Int → Prop} {g : Int → Int → V} (hc : C i j) (k : Q (g i j) H) : rI C g (.int i) (.int j) H Q := ⟨i, j, rfl, rfl, hc, k⟩
theorem w_U {g : Int → V} (k : Q (g i) H) : rU g (.int i) H Q := ⟨i, rfl, k⟩
theorem w_eq (h : scal x y = true) (k : Q (.bl (decide (x = y))) H) : rEq x y H Q := ⟨h, k⟩
theorem w_ne (h : scal x y = true) (k : Q (.bl (!decide (x = y))) H) : rNe x y H Q := ⟨h, k⟩
theorem w_eqI (k : Q (.bl (decide (i = j))) H) : rEq (.int i) (.int j) H Q := ⟨rfl, by rw [show decide (V.int i = V.int j) = decide (i = j) from by simp]; exact k⟩
theorem w_neI (k : Q (.bl (!decide (i = j))) H) : rNe (.int i) (.int j) H Q := ⟨rfl, by rw [show decide (V.int i = V.int j) = decide (i = j) from by simp]; exact k⟩
theorem w_eqB (k : Q (.bl (b == c)) H) : rEq (.bl b) (.bl c) H Q := ⟨rfl, by rw [dec_bl]; exact k⟩
theorem w_neB (k : Q (.bl (!(b == c))) H) : rNe (.bl b) (.bl c) H Q := ⟨rfl, by rw [dec_bl]; exact k⟩
theorem w_eqS {i j : Str} (k : Q (.bl (decide (i = j))) H) : rEq (.str i) (.str j) H Q := ⟨rfl, by rw [show decide (V.str i = V.str j) = decide (i = j) from by simp]; exact k⟩
theorem w_neS {i j : Str} (k : Q (.bl (!decide (i = j))) H) : rNe (.str i) (.str j) H Q := ⟨rfl, by rw [show decide (V.str i = V.str j) = decide (i = j) from by simp]; exact k⟩
theorem w_test (k : te σ H fun x H' => rBl QB x H') : tTest te σ H QB := k
theorem w_B (k : te σ H fun x H' => rBl QB x H') : tB te σ H QB := k
theorem w_bl (k : QB b H) : rBl QB (.bl b) H := ⟨b, rfl, k⟩
theorem w_and (k : tt σ H fun c H1 => rIf c (tu σ H1 QB) (QB false H1)) : tAnd tt tu σ H QB := k
theorem w_or (k : tt σ H fun c H1 => rIf c (QB true H1) (tu σ H1 QB)) : tOr tt tu σ H QB := k
theorem w_not (k : tt σ H fun c H1 => QB (!c) H1) : tNot tt σ H QB := k
theorem w_andV (k : ta σ H fun x H1 => rBl (fun c H1 => rIf c (tb σ H1 Q) (Q (.bl false) H1)) x H1) : tAndV ta tb σ H Q := k
theorem w_orV (k : ta σ H fun x H1 => rBl (fun c H1 => rIf c (Q (.bl true) H1) (tb σ H1 Q)) x H1) : tOrV ta tb σ H Q := k
theorem w_notV (k : ta σ H fun x H1 => rBl (fun c H1 => Q (.bl (!c)) H1) x H1) : tNotV ta σ H Q := k
theorem w_ifE (k : tt σ H fun c H1 => rIf c (ta σ H1 Q) (tb σ H1 Q)) : tIf tt ta tb σ H Q := k
theorem w_tru (k : te σ H fun x H' => rTru K x H' QB) : tTruA K te σ H QB := k
theorem w_nil (k : QA [] H) : tNil σ H QA := k
theorem w_cons (k : ta σ H fun x H1 => tA σ H1 fun xs H2 => QA (x :: xs) H2) : tCons ta tA σ H QA := k
theorem w_tup (k : tA σ H fun xs H1 => rNewT xs H1 Q) : tTup tA σ H Q := k
theorem w_lst (k : tA σ H fun xs H1 => rNewL xs H1 Q) : tLst tA σ H Q := k
theorem w_newT (h : xs.length ≤ sizeLine) (k : ∀ p, H p = none → Q (.ref p) (upd H p (.tup xs))) : rNewT xs H Q := ⟨h, k⟩
theorem w_newL (h : xs.length ≤ sizeLine) (k : ∀ p, H p = none → Q (.ref p) (upd H p (.lst xs))) : rNewL xs H Q := ⟨h, k⟩
theorem w_call {sp : Sp} {dvs : List V} {E : XK} (k : tA σ H fun vs H1 => sp (vs ++ dvs) H1 Q E) : tCall sp dvs E tA σ H Q := k
theorem w_callS {sp : Sp} {E : TSt → XK} (k : tA σ H fun vs H1 => sp vs H1 Q (E σ)) : tCallS sp E tA σ H Q := k
theorem w_meth {C : Addr} {m : Str} {sp : Sp} {dvs : List V} {E : XK} (k : ta σ H fun x H1 => rMethA C m x H1 (tA σ H1 fun vs H2 => sp (x :: (vs ++ dvs)) H2 Q E)) : tMeth C m sp dvs E ta tA σ H Q := k
theorem w_m {C dx : Addr} {m : Str} {fs : List (Str × V)} (h : H a = some (.ins C dx fs)) (hl : fs.lookup m = none) (k : R) : rMethA C m (.ref a) H R := ⟨a, dx, fs, rfl, h, hl, k⟩
theorem w_methP {C dx : Addr} {m : Str} {sp : Sp} {dvs : List V} {E : XK} {fs : List (Str × V)} {n : Nat} (e : σ[n]? = some (some (.ref a))) (h : H a = some (.ins C dx fs)) (hl : fs.lookup m = none) (k : tA σ H fun vs H2 => sp (.ref a :: (vs ++ dvs)) H2 Q E) :
    tMeth C m sp dvs E (tVar n) tA σ H Q := ⟨.ref a, e, a, dx, fs, rfl, h, hl, k⟩
theorem w_make {C : Addr} {sp : Sp} {dvs : List V} {E : XK} (k : tA σ H fun vs H1 => ∀ x dx, H1 x = none → H1 dx = none → dx ≠ x → sp (.ref x :: (vs ++ dvs)) (upd (upd H1 dx (.own x)) x (.ins C dx [])) (fun v H2 => v = .non ∧ Q (.ref x) H2) E) : tMake C sp dvs E tA σ H Q := k
theorem w_CB {r : List V → Hp → VK → Prop} (k : tA σ H fun vs H1 => r vs H1 Q) : tCB r tA σ H Q := k
def rBMA (K : PySem.W.Frag) (T : String) (r : V → List V → Hp → VK → Prop) (tA : TA) (σ : TSt) (Q : VK) (x : V) (H : Hp) : Prop := tyV K T x H ∧ tA σ H fun xs H2 => r x xs H2 Q
theorem w_BM0 {T : String} {r : V → List V → Hp → VK → Prop} (k : ta σ H fun x H1 => rBMA K T r tNil σ Q x H1) : tBM0 K T r ta σ H Q := k
theorem w_BM {T : String} {r : V → List V → Hp → VK → Prop} (k : ta σ H fun x H1 => rBMA K T r tA σ Q x H1) : tBM K T r ta tA σ H Q := k
theorem w_BMl {r : V → List V → Hp → VK → Prop} (h : H p = some (.lst xs)) (k : tA σ H fun ys H2 => r (.ref p) ys H2 Q) : rBMA K "list" r tA σ Q (.ref p) H := ⟨.inl ⟨rfl, _, SqL.of h⟩, k⟩
theorem w_append (h : H p = some (.lst xs)) (hz : xs.length < sizeLine) (k : Q .non (upd H p (.lst (xs ++ [y])))) : rAppend (.ref p) [y] H Q := ⟨p, xs, y, rfl, rfl, h, hz, k⟩
theorem w_fld {f : Str} (k : ta σ H fun x H1 => rFldG K f x H1 Q) : tFld K ta f σ H Q := k
theorem w_f {C dx : Addr} {f : Str} {fs : List (Str × V)} (h : H a = some (.ins C dx fs)) (hc : Cls K C) (hn : NoAttr K C f) (hl : fs.lookup f = some v) (k : Q v H) : rFldG K f (.ref a) H Q := ⟨a, C, dx, fs, v, rfl, h, hc, hn, hl, k⟩
theorem w_seq (k : s ⟨u ⟨nx, rt, bk, ct⟩, rt, bk, ct⟩ σ H) : tSeq s u ⟨nx, rt, bk, ct⟩ σ H := k
theorem w_cut (Mid : TSt → Hp → Prop) (h : s ⟨Mid, rt, bk, ct⟩ σ H) (k : ∀ σ' H', Mid σ' H' → u ⟨nx, rt, bk, ct⟩ σ' H') : C8.tCut s u ⟨nx, rt, bk, ct⟩ σ H := ⟨Mid, h, k⟩
theorem w_next (k : nx σ H) : tNext ⟨nx, rt, bk, ct⟩ σ H := k
theorem w_brk (k : bk σ H) : tBreak ⟨nx, rt, bk, ct⟩ σ H := k
theorem w_cont (k : ct σ H) : tCont ⟨nx, rt, bk, ct⟩ σ H := k
theorem w_asg {g : TG} (k : te σ H fun x H1 => g x σ H1 nx) : tAsg te g ⟨nx, rt, bk, ct⟩ σ H := k
theorem w_name {n : Nat} {R : TSt → Hp → Prop} (k : R (σ.set n (some v)) H) : gName n v σ H R := k
theorem w_drop (k : te σ H fun _ H1 => nx σ H1) : tDrop te ⟨nx, rt, bk, ct⟩ σ H := k
theorem w_ret (k : te σ H rt) : tRet te ⟨nx, rt, bk, ct⟩ σ H := k
theorem w_retN (k : rt .non H) : tRetN ⟨nx, rt, bk, ct⟩ σ H := k
theorem w_if (k : tt σ H fun b H1 => rIf b (s D σ H1) (u D σ H1)) : tIfS tt s u D σ H := k
theorem w_aug {n : Nat} {ti : TIp} (h : σ[n]? = some (some x)) (k : te σ H fun y H1 => ti x y H1 fun z H2 => nx (σ.set n (some z)) H2) : tAug n te ti ⟨nx, rt, bk, ct⟩ σ H := ⟨x, h, k⟩
theorem w_sfld {f : Str} (k : te σ H fun y H1 => ta σ H1 fun x H2 => rFldS K f y x H2 (nx σ)) : sFld K ta te f ⟨nx, rt, bk, ct⟩ σ H := k
theorem w_sf {C dx : Addr} {f : Str} {fs : List (Str × V)} {R : Hp → Prop} (h : H a = some (.ins C dx fs)) (hc : Cls K C) (hn : NoAttr K C f) (hl : fs.length < 1000) (k : R (upd H a (.ins C dx (putF f y fs)))) : rFldS K f y (.ref a) H R := ⟨a, C, dx, fs, rfl, h, hc, hn, hl, k⟩
theorem w_ixL (h : H p = some (.lst xs)) (e : atI xs i = some v) (k : Q v H) : rIxL K (.ref p) (.int i) H Q := ⟨p, xs, i, v, rfl, rfl, SqL.of h, e, k⟩
theorem w_ixT (h : H p = some (.tup xs)) (e : atI xs i = some v) (k : Q v H) : rIxT K (.ref p) (.int i) H Q := ⟨p, xs, i, v, rfl, rfl, SqT.of h, e, k⟩
theorem w_ixK (h : SqL K H p xs) (e : atI xs i = some v) (k : Q v H) : rIxL K (.ref p) (.int i) H Q := ⟨p, xs, i, v, rfl, rfl, h, e, k⟩
theorem w_lenL (h : H p = some (.lst xs)) (k : Q (.int xs.length) H) : rLenA K [.ref p] H Q := ⟨_, _, rfl, .inl ⟨xs, SqL.of h, rfl⟩, k⟩
theorem w_lenK (h : SqL K H p xs) (k : Q (.int xs.length) H) : rLenA K [.ref p] H Q := ⟨_, _, rfl, .inl ⟨xs, h, rfl⟩, k⟩
theorem w_lenT (h : H p = some (.tup xs)) (k : Q (.int xs.length) H) : rLenA K [.ref p] H Q := ⟨_, _, rfl, .inr ⟨xs, SqT.of h, rfl⟩, k⟩
theorem w_int (k : Q (.int i) H) : rIntA [.int i] H Q := .inl ⟨i, rfl, k⟩
theorem w_intB (k : Q (.int (if b then 1 else 0)) H) : rIntA [.bl b] H Q := .inr ⟨b, rfl, k⟩
theorem w_abs (k : Q (.int (if i < 0 then -i else i)) H) : rAbsA [.int i] H Q := ⟨i, rfl, k⟩
theorem w_min2 (k : Q (.int (if j < i then j else i)) H) : rMinA [.int i, .int j] H Q := ⟨i, j, rfl, k⟩
theorem w_max2 (k : Q (.int (if j > i then j else i)) H) : rMaxA [.int i, .int j] H Q := ⟨i, j, rfl, k⟩
theorem w_isN (k : Q (.bl (decide (x = .non))) H) : rIsNA x .non H Q := ⟨rfl, k⟩
theorem w_notN (k : Q (.bl (!decide (x = .non))) H) : rNotNA x .non H Q := ⟨rfl, k⟩
theorem w_listL (h : H p = some (.lst ys)) (k : ∀ l, H l = none → Q (.ref l) (upd H l (.lst ys))) : rListA K [.ref p] H Q := ⟨p, ys, rfl, .inl (SqL.of h), k⟩
theorem w_eqD {d e : PyData} (h1 : Dp K H x d) (h2 : Dp K H y e) (s1 : SeqAt.shaped d = true) (s2 : SeqAt.shaped e = true) (k : Q (.bl (PyData.eqv d e)) H) : rEqD K x y H Q := ⟨d, e, h1, h2, s1, s2, k⟩
theorem w_neD {d e : PyData} (h1 : Dp K H x d) (h2 : Dp K H y e) (s1 : SeqAt.shaped d = true) (s2 : SeqAt.shaped e = true) (k : Q (.bl (!PyData.eqv d e)) H) : rNeD K x y H Q := ⟨d, e, h1, h2, s1, s2, k⟩
theorem w_isi {t u : Value} {z : V} (hc : ClsV z u) (ht : TyX K H x t) (e : PySem.W.kitOne K t u = some b) (k : Q (.bl b) H) : rIsi K [x, z] H Q := ⟨x, z, t, u, b, rfl, hc, ht, e, k⟩
theorem w_truL (h : H p = some (.lst xs)) (k : QB (!xs.isEmpty) H) : rTru K (.ref p) H QB := ⟨_, .inl ⟨xs, SqL.of h, rfl⟩, k⟩
theorem w_truB (k : QB b H) : rTru K (.bl b) H QB := ⟨b, rfl, k⟩
theorem w_popAt {n : Nat} (h : H p = some (.lst xs)) (h1 : -(2 ^ 63) ≤ i) (h2 : i < 2 ^ 63) (e : seqIndex? i xs.length = some n) (e2 : xs[n]? = some y) (k : Q y (upd H p (.lst (xs.eraseIdx n)))) : rPopAt (.ref p) [.int i] H Q := ⟨p, xs, i, n, y, rfl, rfl, h, h1, h2, e, e2, k⟩
theorem w_iRng1 {R : It → Hp → Prop} (k : tA σ H fun vs H1 => rItR1 vs H1 R) : iRng1 tA σ H R := k
theorem w_iRng2 {R : It → Hp → Prop} (k : tA σ H fun vs H1 => rItR2 vs H1 R) : iRng2 tA σ H R := k
theorem w_rng1 {R : It → Hp → Prop} (h1 : -(2 ^ 62) ≤ j) (h2 : j < 2 ^ 62) (k : R (Itr 0 j.toNat) H) : rItR1 [.int j] H R := ⟨j, rfl, h1, h2, k⟩
theorem w_rng2 {R : It → Hp → Prop} (h : -(2 ^ 62) ≤ i ∧ i < 2 ^ 62 ∧ -(2 ^ 62) ≤ j ∧ j < 2 ^ 62) (k : R (Itr i (j - i).toNat) H) : rItR2 [.int i, .int j] H R := ⟨i, j, rfl, h, k⟩
theorem w_iList {R : It → Hp → Prop} (k : te σ H fun x H1 => rItL K x H1 R) : iList K te σ H R := k
theorem w_iTup {R : It → Hp → Prop} (k : te σ H fun x H1 => rItT K x H1 R) : iTup K te σ H R := k
theorem w_itL {R : It → Hp → Prop} (h : H a = some (.lst xs)) (k : R (Itl K a) H) : rItL K (.ref a) H R := ⟨a, rfl, ⟨xs, SqL.of h⟩, k⟩
theorem w_itK {R : It → Hp → Prop} (h : SqL K H a xs) (k : R (Itl K a) H) : rItL K (.ref a) H R := ⟨a, rfl, ⟨xs, h⟩, k⟩
theorem w_itT {R : It → Hp → Prop} (h : H a = some (.tup xs)) (k : R (Itt K a) H) : rItT K (.ref a) H R := ⟨a, rfl, ⟨xs, SqT.of h⟩, k⟩
theorem w_for {wi : TI} {g : TG} {tb : TS} (k : wi σ H fun J H1 => Loop g tb D σ J H1) : tFor wi g tb D σ H := k
/-- over a list that the body leaves as it is; over a range -/
theorem loop_list {g : TG} {tb : TS} (Pv : Nat → TSt → Hp → Prop) (h0 : Pv 0 σ H) (hl : ∀ i σ H, i ≤ xs.length → Pv i σ H → SqL K H a xs)
    (hs : ∀ i x σ H, xs[i]? = some x → Pv i σ H → g x σ H fun σ2 H2 => tb ⟨Pv (i + 1), rt, nx, Pv (i + 1)⟩ σ2 H2) (hd : ∀ σ H, Pv xs.length σ H → nx σ H) : Loop g tb ⟨nx, rt, bk, ct⟩ σ (Itl K a) H := for_list (D := ⟨nx, rt, bk, ct⟩) Pv h0 hl hs hd
theorem loop_tup {g : TG} {tb : TS} (Pv : Nat → TSt → Hp → Prop) (h0 : Pv 0 σ H) (hl : ∀ i σ H, i ≤ xs.length → Pv i σ H → SqT K H a xs)
    (hs : ∀ i x σ H, xs[i]? = some x → Pv i σ H → g x σ H fun σ2 H2 => tb ⟨Pv (i + 1), rt, nx, Pv (i + 1)⟩ σ2 H2) (hd : ∀ σ H, Pv xs.length σ H → nx σ H) : Loop g tb ⟨nx, rt, bk, ct⟩ σ (Itt K a) H := for_tup (D := ⟨nx, rt, bk, ct⟩) Pv h0 hl hs hd
theorem loop_range {lo : Int} {n : Nat} {g : TG} {tb : TS} (Pv : Nat → TSt → Hp → Prop) (h0 : Pv 0 σ H)
    (hs : ∀ i σ H, i < n → Pv i σ H → g (.int (lo + i)) σ H fun σ2 H2 => tb ⟨Pv (i + 1), rt, nx, Pv (i + 1)⟩ σ2 H2) (hd : ∀ σ H, Pv n σ H → nx σ H) : Loop g tb ⟨nx, rt, bk, ct⟩ σ (Itr lo n) H := for_range (D := ⟨nx, rt, bk, ct⟩) Pv h0 hs hd
theorem w_ite {c A B : Prop} [Decidable c] (h1 : c → A) (h2 : ¬ c → B) : rIf (decide c) A B := by
  unfold rIf
  by_cases h : c
  · rw [decide_eq_true h, if_pos rfl]; exact h1 h
  · rw [decide_eq_false h, if_neg Bool.false_ne_true]; exact h2 h
theorem w_iteN {c A B : Prop} [Decidable c] (h1 : ¬ c → A) (h2 : c → B) : rIf (!decide c) A B := by
  unfold rIf
  by_cases h : c
  · rw [decide_eq_true h]; exact h2 h
  · rw [decide_eq_false h]; exact h1 h
theorem w_iteB (h1 : b = true → A) (h2 : b = false → B) : rIf b A B := by
  cases b
  · exact h2 rfl
  · exact h1 rfl
theorem w_iteNB (h1 : b = false → A) (h2 : b = true → B) : rIf (!b) A B := by
  cases b
  · exact h1 rfl
  · exact h2 rfl
theorem w_ifT (h : b = true) (k : A) : rIf b A B := by rw [h]; exact k
theorem w_ifF (h : b = false) (k : B) : rIf b A B := by rw [h]; exact k
theorem w_iteT (k : A) : rIf true A B := k
theorem w_iteF (k : B) : rIf false A B := k
theorem w_iteNT (k : B) : rIf (!true) A B := k
theorem w_iteNF (k : A) : rIf (!false) A B := k
theorem w_iteNNT (k : A) : rIf (!!true) A B := k
theorem w_iteNNF (k : B) : rIf (!!false) A B := k
end
section
variable {K : PySem.W.Frag} {H : Hp} {Q : VK} {b : Bool} {i : Int} {z : Str} {p : Addr} {xs : List V} {kvs : List (Key × V)} {kts : List (List Key × V)}
theorem isi_non_int (k : Q (.bl false) H) : rIsi K [.non, .ty "int"] H Q := w_isi (b := false) (.ty _) (.base .non) (kit_ty (by decide +kernel)) k
theorem isi_non_bool (k : Q (.bl false) H) : rIsi K [.non, .ty "bool"] H Q := w_isi (b := false) (.ty _) (.base .non) (kit_ty (by decide +kernel)) k
theorem isi_non_str (k : Q (.bl false) H) : rIsi K [.non, .ty "str"] H Q := w_isi (b := false) (.ty _) (.base .non) (kit_ty (by decide +kernel)) k
theorem isi_non_tuple (k : Q (.bl false) H) : rIsi K [.non, .ty "tuple"] H Q := w_isi (b := false) (.ty _) (.base .non) (kit_ty (by decide +kernel)) k
theorem isi_non_list (k : Q (.bl false) H) : rIsi K [.non, .ty "list"] H Q := w_isi (b := false) (.ty _) (.base .non) (kit_ty (by decide +kernel)) k
theorem isi_non_dict (k : Q (.bl false) H) : rIsi K [.non, .ty "dict"] H Q := w_isi (b := false) (.ty _) (.base .non) (kit_ty (by decide +kernel)) k
theorem isi_bl_int (k : Q (.bl true) H) : rIsi K [.bl b, .ty "int"] H Q := w_isi (b := true) (.ty _) (.base (.bl _)) (kit_ty (by decide +kernel)) k
theorem isi_bl_bool (k : Q (.bl true) H) : rIsi K [.bl b, .ty "bool"] H Q := w_isi (b := true) (.ty _) (.base (.bl _)) (kit_ty (by decide +kernel)) k
theorem isi_bl_str (k : Q (.bl false) H) : rIsi K [.bl b, .ty "str"] H Q := w_isi (b := false) (.ty _) (.base (.bl _)) (kit_ty (by decide +kernel)) k
theorem isi_bl_tuple (k : Q (.bl false) H) : rIsi K [.bl b, .ty "tuple"] H Q := w_isi (b := false) (.ty _) (.base (.bl _)) (kit_ty (by decide +kernel)) k
theorem isi_bl_list (k : Q (.bl false) H) : rIsi K [.bl b, .ty "list"] H Q := w_isi (b := false) (.ty _) (.base (.bl _)) (kit_ty (by decide +kernel)) k
theorem isi_bl_dict (k : Q (.bl false) H) : rIsi K [.bl b, .ty "dict"] H Q := w_isi (b := false) (.ty _) (.base (.bl _)) (kit_ty (by decide +kernel)) k
theorem isi_int_int (k : Q (.bl true) H) : rIsi K [.int i, .ty "int"] H Q := w_isi (b := true) (.ty _) (.base (.int _)) (kit_ty (by decide +kernel)) k
theorem isi_int_bool (k : Q (.bl false) H) : rIsi K [.int i, .ty "bool"] H Q := w_isi (b := false) (.ty _) (.base (.int _)) (kit_ty (by decide +kernel)) k
theorem isi_int_str (k : Q (.bl false) H) : rIsi K [.int i, .ty "str"] H Q := w_isi (b := false) (.ty _) (.base (.int _)) (kit_ty (by decide +kernel)) k
theorem isi_int_tuple (k : Q (.bl false) H) : rIsi K [.int i, .ty "tuple"] H Q := w_isi (b := false) (.ty _) (.base (.int _)) (kit_ty (by decide +kernel)) k
theorem isi_int_list (k : Q (.bl false) H) : rIsi K [.int i, .ty "list"] H Q := w_isi (b := false) (.ty _) (.base (.int _)) (kit_ty (by decide +kernel)) k
theorem isi_int_dict (k : Q (.bl false) H) : rIsi K [.int i, .ty "dict"] H Q := w_isi (b := false) (.ty _) (.base (.int _)) (kit_ty (by decide +kernel)) k
theorem isi_str_int (k : Q (.bl false) H) : rIsi K [.str z, .ty "int"] H Q := w_isi (b := false) (.ty _) (.base (.str _)) (kit_ty (by decide +kernel)) k
theorem isi_str_bool (k : Q (.bl false) H) : rIsi K [.str z, .ty "bool"] H Q := w_isi (b := false) (.ty _) (.base (.str _)) (kit_ty (by decide +kernel)) k
theorem isi_str_str (k : Q (.bl true) H) : rIsi K [.str z, .ty "str"] H Q := w_isi (b := true) (.ty _) (.base (.str _)) (kit_ty (by decide +kernel)) k
theorem isi_str_tuple (k : Q (.bl false) H) : rIsi K [.str z, .ty "tuple"] H Q := w_isi (b := false) (.ty _) (.base (.str _)) (kit_ty (by decide +kernel)) k
theorem isi_str_list (k : Q (.bl false) H) : rIsi K [.str z, .ty "list"] H Q := w_isi (b := false) (.ty _) (.base (.str _)) (kit_ty (by decide +kernel)) k
theorem isi_str_dict (k : Q (.bl false) H) : rIsi K [.str z, .ty "dict"] H Q := w_isi (b := false) (.ty _) (.base (.str _)) (kit_ty (by decide +kernel)) k
theorem isi_lst_int (h : H p = some (.lst xs)) (k : Q (.bl false) H) : rIsi K [.ref p, .ty "int"] H Q := w_isi (b := false) (.ty _) (.base (.lst h)) (kit_ty (by decide +kernel)) k
theorem isi_lst_bool (h : H p = some (.lst xs)) (k : Q (.bl false) H) : rIsi K [.ref p, .ty "bool"] H Q := w_isi (b := false) (.ty _) (.base (.lst h)) (kit_ty (by decide +kernel)) k
theorem isi_lst_str (h : H p = some (.lst xs)) (k : Q (.bl false) H) : rIsi K [.ref p, .ty "str"] H Q := w_isi (b := false) (.ty _) (.base (.lst h)) (kit_ty (by decide +kernel)) k
theorem isi_lst_tuple (h : H p = some (.lst xs)) (k : Q (.bl false) H) : rIsi K [.ref p, .ty "tuple"] H Q := w_isi (b := false) (.ty _) (.base (.lst h)) (kit_ty (by decide +kernel)) k
theorem isi_lst_list (h : H p = some (.lst xs)) (k : Q (.bl true) H) : rIsi K [.ref p, .ty "list"] H Q := w_isi (b := true) (.ty _) (.base (.lst h)) (kit_ty (by decide +kernel)) k
theorem isi_lst_dict (h : H p = some (.lst xs)) (k : Q (.bl false) H) : rIsi K [.ref p, .ty "dict"] H Q := w_isi (b := false) (.ty _) (.base (.lst h)) (kit_ty (by decide +kernel)) k
theorem isi_tup_int (h : H p = some (.tup xs)) (k : Q (.bl false) H) : rIsi K [.ref p, .ty "int"] H Q := w_isi (b := false) (.ty _) (.base (.tup h)) (kit_ty (by decide +kernel)) k
theorem isi_tup_bool (h : H p = some (.tup xs)) (k : Q (.bl false) H) : rIsi K [.ref p, .ty "bool"] H Q := w_isi (b := false) (.ty _) (.base (.tup h)) (kit_ty (by decide +kernel)) k
theorem isi_tup_str (h : H p = some (.tup xs)) (k : Q (.bl false) H) : rIsi K [.ref p, .ty "str"] H Q := w_isi (b := false) (.ty _) (.base (.tup h)) (kit_ty (by decide +kernel)) k
theorem isi_tup_tuple (h : H p = some (.tup xs)) (k : Q (.bl true) H) : rIsi K [.ref p, .ty "tuple"] H Q := w_isi (b := true) (.ty _) (.base (.tup h)) (kit_ty (by decide +kernel)) k
theorem isi_tup_list (h : H p = some (.tup xs)) (k : Q (.bl false) H) : rIsi K [.ref p, .ty "list"] H Q := w_isi (b := false) (.ty _) (.base (.tup h)) (kit_ty (by decide +kernel)) k
theorem isi_tup_dict (h : H p = some (.tup xs)) (k : Q (.bl false) H) : rIsi K [.ref p, .ty "dict"] H Q := w_isi (b := false) (.ty _) (.base (.tup h)) (kit_ty (by decide +kernel)) k
theorem isi_dK_int (h : H p = some (.dK kvs)) (k : Q (.bl false) H) : rIsi K [.ref p, .ty "int"] H Q := w_isi (b := false) (.ty _) (.base (.dK h)) (kit_ty (by decide +kernel)) k
theorem isi_dK_bool (h : H p = some (.dK kvs)) (k : Q (.bl false) H) : rIsi K [.ref p, .ty "bool"] H Q := w_isi (b := false) (.ty _) (.base (.dK h)) (kit_ty (by decide +kernel)) k
theorem isi_dK_str (h : H p = some (.dK kvs)) (k : Q (.bl false) H) : rIsi K [.ref p, .ty "str"] H Q := w_isi (b := false) (.ty _) (.base (.dK h)) (kit_ty (by decide +kernel)) k
theorem isi_dK_tuple (h : H p = some (.dK kvs)) (k : Q (.bl false) H) : rIsi K [.ref p, .ty "tuple"] H Q := w_isi (b := false) (.ty _) (.base (.dK h)) (kit_ty (by decide +kernel)) k
theorem isi_dK_list (h : H p = some (.dK kvs)) (k : Q (.bl false) H) : rIsi K [.ref p, .ty "list"] H Q := w_isi (b := false) (.ty _) (.base (.dK h)) (kit_ty (by decide +kernel)) k
theorem isi_dK_dict (h : H p = some (.dK kvs)) (k : Q (.bl true) H) : rIsi K [.ref p, .ty "dict"] H Q := w_isi (b := true) (.ty _) (.base (.dK h)) (kit_ty (by decide +kernel)) k
theorem isi_dT_int (h : H p = some (.dT kts)) (k : Q (.bl false) H) : rIsi K [.ref p, .ty "int"] H Q := w_isi (b := false) (.ty _) (.base (.dT h)) (kit_ty (by decide +kernel)) k
theorem isi_dT_bool (h : H p = some (.dT kts)) (k : Q (.bl false) H) : rIsi K [.ref p, .ty "bool"] H Q := w_isi (b := false) (.ty _) (.base (.dT h)) (kit_ty (by decide +kernel)) k
theorem isi_dT_str (h : H p = some (.dT kts)) (k : Q (.bl false) H) : rIsi K [.ref p, .ty "str"] H Q := w_isi (b := false) (.ty _) (.base (.dT h)) (kit_ty (by decide +kernel)) k
theorem isi_dT_tuple (h : H p = some (.dT kts)) (k : Q (.bl false) H) : rIsi K [.ref p, .ty "tuple"] H Q := w_isi (b := false) (.ty _) (.base (.dT h)) (kit_ty (by decide +kernel)) k
theorem isi_dT_list (h : H p = some (.dT kts)) (k : Q (.bl false) H) : rIsi K [.ref p, .ty "list"] H Q := w_isi (b := false) (.ty _) (.base (.dT h)) (kit_ty (by decide +kernel)) k
theorem isi_dT_dict (h : H p = some (.dT kts)) (k : Q (.bl true) H) : rIsi K [.ref p, .ty "dict"] H Q := w_isi (b := true) (.ty _) (.base (.dT h)) (kit_ty (by decide +kernel)) k
end
/-! ### heaps -/
theorem at_new {H : Hp} {a p : Addr} {o o' : HO} (n : H p = none) (h : H a = some o) : upd H p o' a = some o := by rw [upd_ne (ne_of_none h n)]; exact h
theorem at_ne {H : Hp} {a p : Addr} {o o' : HO} (n : a ≠ p) (h : H a = some o) : upd H p o' a = some o := by rw [upd_ne n]; exact h
theorem no_new {H : Hp} {q p : Addr} {o' : HO} (n : q ≠ p) (h : H q = none) : upd H p o' q = none := by rw [upd_ne n]; exact h
theorem none1 {H : Hp} {q a : Addr} {o : HO} (h : upd H a o q = none) : q ≠ a ∧ H q = none := by
  have e : q ≠ a := fun e => by rw [e, upd_same] at h; cases h
  exact ⟨e, by rwa [upd_ne e] at h⟩
theorem none2 {H : Hp} {q a b : Addr} {o o' : HO} (h : upd (upd H a o) b o' q = none) : q ≠ a ∧ q ≠ b ∧ H q = none :=
  let ⟨e, h⟩ := none1 h; let ⟨e', h⟩ := none1 h; ⟨e', e, h⟩
theorem none3 {H : Hp} {q a b c : Addr} {o o' o2 : HO} (h : upd (upd (upd H a o) b o') c o2 q = none) : q ≠ a ∧ q ≠ b ∧ q ≠ c ∧ H q = none :=
  let ⟨e, h⟩ := none1 h; let ⟨e1, e2, h⟩ := none2 h; ⟨e1, e2, e, h⟩
theorem none4 {H : Hp} {q a b c d : Addr} {o o' o2 o3 : HO} (h : upd (upd (upd (upd H a o) b o') c o2) d o3 q = none) : q ≠ a ∧ q ≠ b ∧ q ≠ c ∧ q ≠ d ∧ H q = none :=
  let ⟨e, h⟩ := none1 h; let ⟨e1, e2, e3, h⟩ := none3 h; ⟨e1, e2, e3, e, h⟩
theorem lt_line {n : Nat} (h : n ≤ 100000) : n < sizeLine := Nat.lt_of_le_of_lt h (by decide)
theorem le_line {n : Nat} (h : n ≤ 100000) : n ≤ sizeLine := Nat.le_trans h (by decide)

/-! ### data -/
/-- v stands for d, a datum of small depth -/
def Rep (K : PySem.W.Frag) (H : Hp) (n : Nat) (v : V) (d : PyData) : Prop := Dp K H v d ∧ d.canLay0 = true ∧ d.depth ≤ n
section
variable {K : PySem.W.Frag} {H H' : Hp} {v x y : V} {xs ys : List V} {d e : PyData} {n m : Nat} {Q : VK} {p : Addr}
theorem Rep.non : Rep K H n .non .none := ⟨.non, by simp [PyData.canLay0], by simp [PyData.depth]⟩
theorem Rep.bl {b : Bool} : Rep K H n (.bl b) (.bool b) := ⟨.bl b, by simp [PyData.canLay0], by simp [PyData.depth]⟩
theorem Rep.int {i : Int} : Rep K H n (.int i) (.int i) := ⟨.int i, by simp [PyData.canLay0], by simp [PyData.depth]⟩
theorem Rep.str {s : Str} (h : PyData.canLay0 (.str s) = true) : Rep K H n (.str s) (.str s) := ⟨.str s, h, by simp [PyData.depth]⟩
theorem Rep.mono (h : Rep K H n v d) (k : n ≤ m) : Rep K H m v d := ⟨h.1, h.2.1, Nat.le_trans h.2.2 k⟩
inductive Reps (K : PySem.W.Frag) (H : Hp) (n : Nat) : List V → List PyData → Prop
  | nil : Reps K H n [] []
  | cons {v : V} {d : PyData} {vs : List V} {ds : List PyData} : Rep K H n v d → Reps K H n vs ds → Reps K H n (v :: vs) (d :: ds)
theorem Reps.all {ds : List PyData} (h : Reps K H n xs ds) : DpAll K H xs ds ∧ PyData.canLayAll0 ds = true ∧ PyData.depthAll ds ≤ n := by
  induction h with
  | nil => exact ⟨.nil, by simp [PyData.canLayAll0], by simp [PyData.depthAll]⟩
  | cons a b ih => exact ⟨.cons a.1 ih.1, by simp [PyData.canLayAll0, a.2.1, ih.2.1], by simp only [PyData.depthAll]; exact Nat.max_le.mpr ⟨a.2.2, ih.2.2⟩⟩
theorem Rep.tup {ds : List PyData} (h : H p = some (.tup xs)) (r : Reps K H n xs ds) : Rep K H (n + 1) (.ref p) (.tuple ds) := by
  obtain ⟨a, b, c⟩ := r.all
  exact ⟨.tup (SqT.of h) a, by simp only [PyData.canLay0]; exact b, by simp only [PyData.depth]; omega⟩
theorem Rep.lst {ds : List PyData} (h : H p = some (.lst xs)) (r : Reps K H n xs ds) : Rep K H (n + 1) (.ref p) (.list ds) := by
  obtain ⟨a, b, c⟩ := r.all
  exact ⟨.lst (SqL.of h) a, by simp only [PyData.canLay0]; exact b, by simp only [PyData.depth]; omega⟩
theorem Rep.shaped (h : Rep K H n v d) (k : n ≤ 64) : SeqAt.shaped d = true := by
  unfold SeqAt.shaped
  rw [h.2.1, decide_eq_true (Nat.le_trans h.2.2 k)]; rfl
theorem Reps.of (h : ∀ x ∈ xs, ∃ d, Rep K H n x d) : ∃ ds, Reps K H n xs ds := by
  induction xs with
  | nil => exact ⟨[], .nil⟩
  | cons a r ih =>
    obtain ⟨d, hd⟩ := h a (List.mem_cons_self ..)
    obtain ⟨ds, hs⟩ := ih fun x hx => h x (List.mem_cons_of_mem _ hx)
    exact ⟨d :: ds, .cons hd hs⟩
theorem Rep.refl (h : Rep K H n v d) : PyData.eqv d d = true := PySem.SeqAt.eqv_refl d h.2.1
theorem w_eqR (h1 : Rep K H n x d) (h2 : Rep K H m y e) (k1 : n ≤ 64) (k2 : m ≤ 64) (k : Q (.bl (PyData.eqv d e)) H) : rEqD K x y H Q := ⟨d, e, h1.1, h2.1, h1.shaped k1, h2.shaped k2, k⟩
theorem w_neR (h1 : Rep K H n x d) (h2 : Rep K H m y e) (k1 : n ≤ 64) (k2 : m ≤ 64) (k : Q (.bl (!PyData.eqv d e)) H) : rNeD K x y H Q := ⟨d, e, h1.1, h2.1, h1.shaped k1, h2.shaped k2, k⟩
/-- the same datum on both sides -/
theorem w_eqS' (h1 : Rep K H n x d) (h2 : Rep K H m y d) (k1 : n ≤ 64) (k2 : m ≤ 64) (k : Q (.bl true) H) : rEqD K x y H Q := w_eqR h1 h2 k1 k2 (by rw [h1.refl]; exact k)
theorem w_neS' (h1 : Rep K H n x d) (h2 : Rep K H m y d) (k1 : n ≤ 64) (k2 : m ≤ 64) (k : Q (.bl false) H) : rNeD K x y H Q := w_neR h1 h2 k1 k2 (by rw [h1.refl]; exact k)
end
theorem Reps.len {K : PySem.W.Frag} {H : Hp} {n : Nat} {xs : List V} {ds : List PyData} (h : Reps K H n xs ds) : ds.isEmpty = xs.isEmpty := by cases h <;> rfl
theorem eqv_nil {ds : List PyData} : PyData.eqv (.list ds) (.list []) = ds.isEmpty := by cases ds <;> simp [PyData.eqv, PyData.eqvAll]
theorem eqv_bool {a b : Bool} : PyData.eqv (.bool a) (.bool b) = (a == b) := by simp [PyData.eqv]
theorem w_eqBB {K : PySem.W.Frag} {H : Hp} {Q : VK} {a b : Bool} (h : a = b) (k : Q (.bl true) H) : rEqD K (.bl a) (.bl b) H Q := by
  subst h
  exact w_eqS' (Rep.bl (n := 0)) (Rep.bl (n := 0)) (by decide) (by decide) k
/-! ### indices -/
theorem atI_mod {α : Type} {xs : List α} {i : Int} {v : α} (h : xs[(i % (xs.length : Int)).toNat]? = some v) : atI xs (i % (xs.length : Int)) = some v := by
  have h1 := (List.getElem?_eq_some_iff.mp h).1
  have h0 : 0 ≤ i % (xs.length : Int) := Int.emod_nonneg _ (by omega)
  have e := atI_nat h
  rwa [Int.toNat_of_nonneg h0] at e
theorem atI_of {α : Type} {xs : List α} {i : Int} {v : α} (h0 : 0 ≤ i) (h : xs[i.toNat]? = some v) : atI xs i = some v := by
  have e := atI_nat h
  rwa [Int.toNat_of_nonneg h0] at e
theorem seq_mod {n : Nat} {i : Int} (h : 0 < n) : seqIndex? (i % (n : Int)) n = some (i % (n : Int)).toNat := by
  have h0 : 0 ≤ i % (n : Int) := Int.emod_nonneg _ (by omega)
  have h1 : i % (n : Int) < n := Int.emod_lt_of_pos _ (by omega)
  exact seqIndex_of h0 h1
theorem get_map {α β : Type} {f : α → β} {xs : List α} {i : Nat} {y : β} (h : (xs.map f)[i]? = some y) : ∃ x, xs[i]? = some x ∧ y = f x := by
  rw [List.getElem?_map] at h
  cases e : xs[i]? with
  | none => rw [e] at h; cases h
  | some x => rw [e] at h; exact ⟨x, rfl, (Option.some.inj h).symm⟩
theorem get_some {α : Type} {xs : List α} {i : Nat} (h : i < xs.length) : ∃ x, xs[i]? = some x := ⟨xs[i], List.getElem?_eq_getElem h⟩
theorem take_next {α : Type} {xs : List α} {i : Nat} {x : α} (h : xs[i]? = some x) : xs.take (i + 1) = xs.take i ++ [x] := by
  obtain ⟨hl, e⟩ := List.getElem?_eq_some_iff.mp h
  rw [List.take_add_one, h]; rfl
/-- all but what M names is as it was -/
def Kept (M : Addr → Prop) (H H' : Hp) : Prop := ∀ b o, H b = some o → ¬ M b → H' b = some o
theorem _root_.L2.Same.kept {M : Addr → Prop} {H H' : Hp} (h : Same H H') : Kept M H H' := fun b o e _ => h b o e
theorem Kept.trans {M : Addr → Prop} {H H1 H2 : Hp} (h : Kept M H H1) (k : Kept M H1 H2) : Kept M H H2 := fun b o e n => k b o (h b o e n) n
theorem same_new {H : Hp} {p : Addr} {o : HO} (h : H p = none) : Same H (upd H p o) := fun b u e => by rw [upd_ne (ne_of_none e h)]; exact e
theorem _root_.L2.Same.upd_new {H H' : Hp} {p : Addr} {o : HO} (s : Same H H') (h : H p = none) : Same H (upd H' p o) := fun b u e => by rw [upd_ne (ne_of_none e h)]; exact s b u e
theorem kept_upd {M : Addr → Prop} {H : Hp} {p : Addr} {o : HO} (h : M p) : Kept M H (upd H p o) := fun b u e n => by rw [upd_ne (fun q => n (by rw [q]; exact h))]; exact e
/-! ### the end: what a def lets out depends on the world -/
theorem noX {w : World} {P : Program} (H : Hp) (s : Shared) (e : Value) (s' : Shared) (h : L2.CX P w [] H s (fun _ _ _ => False) e s') : False := by
  obtain ⟨_, _, _, _, _, _, _, _, _, _, _, _, z⟩ := h
  exact z
theorem walk_ofW {l : PySem.W.OpenLaw} {n k : Nat} {q : Program} {loose : List Str} {XP : (Str → Option Value) → Heap → Prop} {YP : World → Heap → Prop} {d : DefRec} {x : Str}
    (hn : l.most = some n) (hn2 : n ≤ sizeLine) (hdf : d.params.defaults = []) (hr : Room k callerA)
    (F : ∀ (w : World) (mg : Str → Option Value) (fa : Addr) (h : Heap), YP w h → h.Ns mainGlobals mg → mg d.name = some (.ref fa) →
      ∃ (K : PySem.W.Frag) (fd : FuncData) (sp : Sp), K.In h ∧ (∀ (s : Shared) (u : Value), BindsTo s fd ⟨[u], []⟩ [(x, u)]) ∧
        (∀ (H : Hp) (a : Addr) (ns : List Int), ns.length ≤ n → Only H → SqL K H a (ns.map V.int) → sp [.ref a] H (fun v _ => v = .bl true) fun _ _ _ => False) ∧
        ∀ base : Heap, K.In base → base.Ns mainGlobals mg → FnOk l.prog w K mg base (L2.CX l.prog w) k fa fd [x] sp) :
    PySem.W.WalkO q loose XP YP l.row.toRowW d [] (fun f vs => PySem.call f vs) := by
  refine Att.attach_call hn hdf fun w s₀ s₁ mg mb fa o pm cd doc a vs ns G Y ho hd hcd hmg hobj hints hlen hg => ?_
  obtain ⟨K, fd, sp, KX, hb, hsp, hF⟩ := F w mg fa _ Y G.T.g hmg
  exact law_call KX G.T.g G.T.b G.T.builtins G.T.nolimit hg hobj hints (Nat.le_trans hlen hn2) hr hF hb (fun H hO hS => hsp H a ns hlen hO hS) fun H e s' h => noX H s₁ e s' h
end Sp

set_option Elab.async false
set_option linter.all false
set_option maxRecDepth 100000
set_option maxHeartbeats 2000000
namespace K09
open PySem PySem.Spec PyProof.Rows L2 Sp
def top (i : Nat) : Stmt := PySem.Challenge.pw_spindlegate_k09_letters_on_their_way.main.body.getD i (.Pass ⟨0, 0, 0, 0⟩)
abbrev s_Path___init__ : Stmt := inClass (top 1) 0
def d_Path___init__ : He.DefD := ⟨("Path", some "__init__"), "__init__", "Path.__init__", defArgs s_Path___init__, defBody s_Path___init__, defScope s_Path___init__, [], []⟩
abbrev s__law_many : Stmt := top 5
def d__law_many : He.DefD := ⟨("_law_many", none), "_law_many", "_law_many", defArgs s__law_many, defBody s__law_many, defScope s__law_many, [], []⟩
abbrev s__law_digits : Stmt := top 4
def d__law_digits : He.DefD := ⟨("_law_digits", none), "_law_digits", "_law_digits", defArgs s__law_digits, defBody s__law_digits, defScope s__law_digits, [], []⟩
abbrev s__law_cell : Stmt := top 3
def d__law_cell : He.DefD := ⟨("_law_cell", none), "_law_cell", "_law_cell", defArgs s__law_cell, defBody s__law_cell, defScope s__law_cell, [], []⟩
abbrev s_Path_set_up : Stmt := inClass (top 1) 7
def d_Path_set_up : He.DefD := ⟨("Path", some "set_up"), "set_up", "Path.set_up", defArgs s_Path_set_up, defBody s_Path_set_up, defScope s_Path_set_up, [], []⟩
abbrev s_Path__list : Stmt := inClass (top 1) 1
def d_Path__list : He.DefD := ⟨("Path", some "_list"), "_list", "Path._list", defArgs s_Path__list, defBody s_Path__list, defScope s_Path__list, [], []⟩
abbrev s_Path_send : Stmt := inClass (top 1) 2
def d_Path_send : He.DefD := ⟨("Path", some "send"), "send", "Path.send", defArgs s_Path_send, defBody s_Path_send, defScope s_Path_send, [], []⟩
abbrev s_Path_deliver : Stmt := inClass (top 1) 4
def d_Path_deliver : He.DefD := ⟨("Path", some "deliver"), "deliver", "Path.deliver", defArgs s_Path_deliver, defBody s_Path_deliver, defScope s_Path_deliver, [], []⟩
abbrev s_Path_drop : Stmt := inClass (top 1) 5
def d_Path_drop : He.DefD := ⟨("Path", some "drop"), "drop", "Path.drop", defArgs s_Path_drop, defBody s_Path_drop, defScope s_Path_drop, [], []⟩
abbrev s_Path_double : Stmt := inClass (top 1) 6
def d_Path_double : He.DefD := ⟨("Path", some "double"), "double", "Path.double", defArgs s_Path_double, defBody s_Path_double, defScope s_Path_double, [], []⟩
abbrev s__law_act : Stmt := top 6
def d__law_act : He.DefD := ⟨("_law_act", none), "_law_act", "_law_act", defArgs s__law_act, defBody s__law_act, defScope s__law_act, [], []⟩
abbrev s_Path_letters : Stmt := inClass (top 1) 3
def d_Path_letters : He.DefD := ⟨("Path", some "letters"), "letters", "Path.letters", defArgs s_Path_letters, defBody s_Path_letters, defScope s_Path_letters, [], []⟩
abbrev s_law : Stmt := top 7
def d_law : He.DefD := ⟨("law", none), "law", "law", defArgs s_law, defBody s_law, defScope s_law, [], []⟩
theorem sc_Path___init__ : FnScope ["self"] ["self"] (defScope s_Path___init__) := ⟨rfl, rfl, rfl, by decide +kernel, rfl, by decide +kernel, by decide +kernel⟩
theorem sc__law_many : FnScope ["_law_script", "_law_few", "_law_many_here"] ["_law_script", "_law_few", "_law_many_here"] (defScope s__law_many) := ⟨rfl, rfl, rfl, by decide +kernel, rfl, by decide +kernel, by decide +kernel⟩
theorem sc__law_digits : FnScope ["_law_cell_here", "_law_bases", "_law_digits_here", "_law_rest", "_law_base", "_law_mixed"] ["_law_cell_here", "_law_bases"] (defScope s__law_digits) := ⟨rfl, rfl, rfl, by decide +kernel, rfl, by decide +kernel, by decide +kernel⟩
theorem sc__law_cell : FnScope ["_law_script", "_law_k"] ["_law_script", "_law_k"] (defScope s__law_cell) := ⟨rfl, rfl, rfl, by decide +kernel, rfl, by decide +kernel, by decide +kernel⟩
theorem sc_Path_set_up : FnScope ["self", "up"] ["self", "up"] (defScope s_Path_set_up) := ⟨rfl, rfl, rfl, by decide +kernel, rfl, by decide +kernel, by decide +kernel⟩
theorem sc_Path__list : FnScope ["self", "to_host"] ["self", "to_host"] (defScope s_Path__list) := ⟨rfl, rfl, rfl, by decide +kernel, rfl, by decide +kernel, by decide +kernel⟩
theorem sc_Path_send : FnScope ["self", "letter", "to_host"] ["self", "letter", "to_host"] (defScope s_Path_send) := ⟨rfl, rfl, rfl, by decide +kernel, rfl, by decide +kernel, by decide +kernel⟩
theorem sc_Path_deliver : FnScope ["self", "index", "to_host", "letters"] ["self", "index", "to_host"] (defScope s_Path_deliver) := ⟨rfl, rfl, rfl, by decide +kernel, rfl, by decide +kernel, by decide +kernel⟩
theorem sc_Path_drop : FnScope ["self", "index", "to_host", "letters"] ["self", "index", "to_host"] (defScope s_Path_drop) := ⟨rfl, rfl, rfl, by decide +kernel, rfl, by decide +kernel, by decide +kernel⟩
theorem sc_Path_double : FnScope ["self", "index", "to_host", "letters"] ["self", "index", "to_host"] (defScope s_Path_double) := ⟨rfl, rfl, rfl, by decide +kernel, rfl, by decide +kernel, by decide +kernel⟩
theorem sc__law_act : FnScope ["_law_path", "_law_lists", "_law_digits_here", "_law_up", "_law_letters", "_law_to_host", "_law_index", "_law_letter", "_law_there", "_law_told", "_law_due"] ["_law_path", "_law_lists", "_law_digits_here", "_law_up"] (defScope s__law_act) := ⟨rfl, rfl, rfl, by decide +kernel, rfl, by decide +kernel, by decide +kernel⟩
theorem sc_Path_letters : FnScope ["self", "to_host"] ["self", "to_host"] (defScope s_Path_letters) := ⟨rfl, rfl, rfl, by decide +kernel, rfl, by decide +kernel, by decide +kernel⟩
theorem sc_law : FnScope ["_law_script", "_law_path", "_law_lists", "_law_up", "_law_k", "_law_digits_here", "_law_way", "_law_told"] ["_law_script"] (defScope s_law) := ⟨rfl, rfl, rfl, by decide +kernel, rfl, by decide +kernel, by decide +kernel⟩
def fn : List He.DefD := [d_Path___init__, d__law_many, d__law_digits, d__law_cell, d_Path_set_up, d_Path__list, d_Path_send, d_Path_deliver, d_Path_drop, d_Path_double, d__law_act, d_Path_letters, d_law]
def fa : List He.Fa := [.free "int", .free "len", .cls "Path", .meth "Path" "_list", .meth "Path" "send", .meth "Path" "deliver", .meth "Path" "drop", .free "isinstance", .free "bool", .meth "Path" "double", .free "list", .mkr "Path", .glo "Path", .free "range", .free "min", .glo "_law_many", .glo "_law_digits", .glo "_law_cell", .meth "Path" "set_up", .glo "_law_act", .meth "Path" "letters", .noat "Path" "back", .noat "Path" "there", .noat "Path" "up", .glo "law"]
local macro_rules | `(tactic| walk_at "hp") => `(tactic| first
  | assumption
  | exact upd_same
  | (with_reducible refine' at_new ?n1 ?h1); (case n1 => assumption); (case h1 => walk_at "hp")
  | (with_reducible refine' at_ne ?n1 ?h1); (case n1 => walk_at "ne"); (case h1 => walk_at "hp"))
local macro_rules | `(tactic| walk_at "ne") => `(tactic| first
  | assumption
  | (exact Ne.symm (by assumption))
  | (exact ne_of_none (by assumption) (by assumption))
  | (exact Ne.symm (ne_of_none (by assumption) (by assumption)))
  | (exact ne_of (by assumption) (by assumption) (by intro z; cases z)))
local macro_rules | `(tactic| walk_at "lk") => `(tactic| first | rfl | assumption | (simp; done))
local macro_rules | `(tactic| walk_at "w1") => `(tactic| first
  | ((with_reducible refine' w_var ?h1 ?_); (case h1 => exact rfl))
  | (with_reducible refine' w_c ?_)
  | (with_reducible refine' w_op ?_)
  | (with_reducible refine' w_I0 ?_)
  | ((with_reducible refine' w_I ?h1 ?_); (case h1 => first | assumption | (show (0 : Int) < _; omega) | (exact ⟨by omega, by omega⟩) | (exact Or.inr ⟨by omega, by omega⟩) | (exact Or.inl ⟨by omega, by omega⟩) | (exact ⟨by omega, by omega, by decide⟩)))
  | (with_reducible refine' w_seq ?_)
  | (with_reducible refine' w_asg ?_)
  | (with_reducible refine' w_name ?_)
  | (with_reducible refine' w_cons ?_)
  | (with_reducible refine' w_nil ?_)
  | (with_reducible refine' w_test ?_)
  | (with_reducible refine' w_bl ?_)
  | (with_reducible refine' w_if ?_)
  | (with_reducible refine' w_ret ?_)
  | (with_reducible refine' w_next ?_)
  | (with_reducible refine' w_drop ?_)
  | (with_reducible refine' w_brk ?_)
  | (with_reducible refine' w_cont ?_)
  | (with_reducible refine' w_B ?_)
  | (with_reducible refine' w_and ?_)
  | (with_reducible refine' w_or ?_)
  | (with_reducible refine' w_not ?_)
  | (with_reducible refine' w_iteT ?_)
  | (with_reducible refine' w_iteF ?_)
  | (with_reducible refine' w_eqI ?_)
  | (with_reducible refine' w_neI ?_)
  | (with_reducible refine' w_eqB ?_)
  | (with_reducible refine' w_neB ?_)
  | (with_reducible refine' w_andV ?_)
  | (with_reducible refine' w_orV ?_)
  | (with_reducible refine' w_notV ?_)
  | (with_reducible refine' w_ifE ?_)
  | (with_reducible refine' w_un ?_)
  | (with_reducible refine' w_U ?_)
  | (with_reducible refine' w_CB ?_)
  | (with_reducible refine' w_BM ?_)
  | (with_reducible refine' w_BM0 ?_)
  | (with_reducible refine' w_call ?_)
  | (with_reducible refine' w_callS ?_)
  | (with_reducible refine' w_meth ?_)
  | (with_reducible refine' w_make ?_)
  | (with_reducible refine' w_fld ?_)
  | (with_reducible refine' w_sfld ?_)
  | (with_reducible refine' w_retN ?_)
  | (with_reducible refine' w_for ?_)
  | (with_reducible refine' w_iList ?_)
  | (with_reducible refine' w_iRng1 ?_)
  | ((with_reducible refine' w_tup ?_))
  | ((with_reducible refine' w_lst ?_))
  | ((with_reducible refine' w_f ?h1 ?h2 ?h3 ?h4 ?_); (case h1 => walk_at "hp"); (case h2 => walk_at "cls"); (case h3 => walk_at "cls"); (case h4 => walk_at "lk"))
  | ((with_reducible refine' w_sf ?h1 ?h2 ?h3 ?h4 ?_); (case h1 => walk_at "hp"); (case h2 => walk_at "cls"); (case h3 => walk_at "cls"); (case h4 => walk_at "ln"))
  | ((with_reducible refine' w_m ?h1 ?h2 ?_); (case h1 => walk_at "hp"); (case h2 => walk_at "lk"))
  | ((with_reducible refine' w_BMl ?h1 ?_); (case h1 => walk_at "hp"))
  | ((with_reducible refine' w_append ?h1 ?h2 ?_); (case h1 => walk_at "hp"); (case h2 => walk_at "sz"))
  | ((with_reducible refine' w_ixL ?h1 ?h2 ?_); (case h1 => walk_at "hp"); (case h2 => walk_at "lk"))
  | ((with_reducible refine' w_ixT ?h1 ?h2 ?_); (case h1 => walk_at "hp"); (case h2 => walk_at "lk"))
  | ((with_reducible refine' w_lenL ?h1 ?_); (case h1 => walk_at "hp"))
  | ((with_reducible refine' w_lenK ?h1 ?_); (case h1 => assumption))
  | ((with_reducible refine' w_lenT ?h1 ?_); (case h1 => walk_at "hp"))
  | (with_reducible refine' w_tru ?_)
  | ((with_reducible refine' w_truL ?h1 ?_); (case h1 => walk_at "hp"))
  | (with_reducible refine' w_truB ?_)
  | (with_reducible refine' w_int ?_)
  | (with_reducible refine' w_intB ?_)
  | (with_reducible refine' w_abs ?_)
  | (with_reducible refine' w_min2 ?_)
  | (with_reducible refine' w_max2 ?_)
  | (with_reducible refine' w_isN ?_)
  | (with_reducible refine' w_notN ?_)
  | (with_reducible refine' w_eqS ?_)
  | (with_reducible refine' w_neS ?_)
  | (with_reducible refine' w_iteNT ?_)
  | (with_reducible refine' w_iteNF ?_)
  | (with_reducible refine' w_iteNNT ?_)
  | (with_reducible refine' w_iteNNF ?_)
  | (with_reducible refine' w_iRng2 ?_)
  | (with_reducible refine' w_iTup ?_)
  | ((with_reducible refine' w_newT ?h1 ?_); (case h1 => walk_at "sz"))
  | ((with_reducible refine' w_newL ?h1 ?_); (case h1 => walk_at "sz"))
  | ((with_reducible refine' w_rng1 ?h1 ?h2 ?_); (case h1 => omega); (case h2 => omega))
  | ((with_reducible refine' w_itL ?h1 ?_); (case h1 => walk_at "hp"))
  | ((with_reducible refine' w_itK ?h1 ?_); (case h1 => assumption))
  | ((with_reducible refine' w_itT ?h1 ?_); (case h1 => walk_at "hp")))
local macro_rules | `(tactic| walk_at "ln") => `(tactic| first | decide | (refine putF_lt ?_; walk_at "ln") | (walk_at "lk"))
local macro_rules | `(tactic| walk_at "sz") => `(tactic| first
  | (exact le_line (by first | decide | (simp; done) | (simp; omega) | omega))
  | (exact lt_line (by first | decide | (simp; done) | (simp; omega) | omega)))
local macro_rules | `(tactic| walk_at "if") => `(tactic| first
  | ((with_reducible refine' w_ifT (decide_eq_true ?h1) ?_); (case h1 => first | assumption | omega))
  | ((with_reducible refine' w_ifF (decide_eq_false ?h1) ?_); (case h1 => first | assumption | omega))
  | (with_reducible refine' w_ite ?_ ?_)
  | (with_reducible refine' w_iteN ?_ ?_)
  | (with_reducible refine' w_iteNB ?_ ?_)
  | (with_reducible refine' w_iteB ?_ ?_))
local macro_rules | `(tactic| walk_at "w0") => `(tactic| (dsimp only [cxOf, L2.start, List.map, List.replicate, List.length, List.append, HAppend.hAppend, Append.append, Nat.sub, HSub.hSub, Sub.sub, Nat.pred]))
local macro_rules | `(tactic| walk_at "w") => `(tactic| repeat (first | (walk_at "w1") | (with_reducible show rIsi _ _ _ _; walk_at "isi")))
local macro_rules | `(tactic| walk_at "isi") => `(tactic| first
  | (with_reducible refine' isi_non_int ?_)
  | (with_reducible refine' isi_non_bool ?_)
  | (with_reducible refine' isi_non_str ?_)
  | (with_reducible refine' isi_non_tuple ?_)
  | (with_reducible refine' isi_non_list ?_)
  | (with_reducible refine' isi_non_dict ?_)
  | (with_reducible refine' isi_bl_int ?_)
  | (with_reducible refine' isi_bl_bool ?_)
  | (with_reducible refine' isi_bl_str ?_)
  | (with_reducible refine' isi_bl_tuple ?_)
  | (with_reducible refine' isi_bl_list ?_)
  | (with_reducible refine' isi_bl_dict ?_)
  | (with_reducible refine' isi_int_int ?_)
  | (with_reducible refine' isi_int_bool ?_)
  | (with_reducible refine' isi_int_str ?_)
  | (with_reducible refine' isi_int_tuple ?_)
  | (with_reducible refine' isi_int_list ?_)
  | (with_reducible refine' isi_int_dict ?_)
  | (with_reducible refine' isi_str_int ?_)
  | (with_reducible refine' isi_str_bool ?_)
  | (with_reducible refine' isi_str_str ?_)
  | (with_reducible refine' isi_str_tuple ?_)
  | (with_reducible refine' isi_str_list ?_)
  | (with_reducible refine' isi_str_dict ?_)
  | ((with_reducible refine' isi_lst_int ?h1 ?_); (case h1 => walk_at "hp"))
  | ((with_reducible refine' isi_lst_bool ?h1 ?_); (case h1 => walk_at "hp"))
  | ((with_reducible refine' isi_lst_str ?h1 ?_); (case h1 => walk_at "hp"))
  | ((with_reducible refine' isi_lst_tuple ?h1 ?_); (case h1 => walk_at "hp"))
  | ((with_reducible refine' isi_lst_list ?h1 ?_); (case h1 => walk_at "hp"))
  | ((with_reducible refine' isi_lst_dict ?h1 ?_); (case h1 => walk_at "hp"))
  | ((with_reducible refine' isi_tup_int ?h1 ?_); (case h1 => walk_at "hp"))
  | ((with_reducible refine' isi_tup_bool ?h1 ?_); (case h1 => walk_at "hp"))
  | ((with_reducible refine' isi_tup_str ?h1 ?_); (case h1 => walk_at "hp"))
  | ((with_reducible refine' isi_tup_tuple ?h1 ?_); (case h1 => walk_at "hp"))
  | ((with_reducible refine' isi_tup_list ?h1 ?_); (case h1 => walk_at "hp"))
  | ((with_reducible refine' isi_tup_dict ?h1 ?_); (case h1 => walk_at "hp"))
  | ((with_reducible refine' isi_dK_int ?h1 ?_); (case h1 => walk_at "hp"))
  | ((with_reducible refine' isi_dK_bool ?h1 ?_); (case h1 => walk_at "hp"))
  | ((with_reducible refine' isi_dK_str ?h1 ?_); (case h1 => walk_at "hp"))
  | ((with_reducible refine' isi_dK_tuple ?h1 ?_); (case h1 => walk_at "hp"))
  | ((with_reducible refine' isi_dK_list ?h1 ?_); (case h1 => walk_at "hp"))
  | ((with_reducible refine' isi_dK_dict ?h1 ?_); (case h1 => walk_at "hp"))
  | ((with_reducible refine' isi_dT_int ?h1 ?_); (case h1 => walk_at "hp"))
  | ((with_reducible refine' isi_dT_bool ?h1 ?_); (case h1 => walk_at "hp"))
  | ((with_reducible refine' isi_dT_str ?h1 ?_); (case h1 => walk_at "hp"))
  | ((with_reducible refine' isi_dT_tuple ?h1 ?_); (case h1 => walk_at "hp"))
  | ((with_reducible refine' isi_dT_list ?h1 ?_); (case h1 => walk_at "hp"))
  | ((with_reducible refine' isi_dT_dict ?h1 ?_); (case h1 => walk_at "hp")))

local macro_rules | `(tactic| walk_at "cls") => `(tactic| first | (exact Tx.cls (fa := fa) (fn := fn) (by assumption) 2) | (exact Tx.noat (fa := fa) (fn := fn) (by assumption) 21) | (exact Tx.noat (fa := fa) (fn := fn) (by assumption) 22) | (exact Tx.noat (fa := fa) (fn := fn) (by assumption) 23))
section
variable {P : Program} {w : World} {K : PySem.W.Frag} {mg : Str → Option Value} {base : Heap}
def cell (ns : List Int) (k : Int) : Int := if k < ns.length then ns.getD k.toNat 0 else 0
def sp__law_cell (K : PySem.W.Frag) : Sp := fun vs H Q _ => ∃ (a : Addr) (ns : List Int) (k : Int), vs = [.ref a, .int k] ∧ SqL K H a (ns.map V.int) ∧ 0 ≤ k ∧ ∀ i, Q (.int i) H
theorem at_ints {ns : List Int} {k : Int} (h0 : 0 ≤ k) (h : k < ((ns.map V.int).length : Int)) : atI (ns.map V.int) k = some (.int (ns.getD k.toNat 0)) := by
  refine atI_of h0 ?_
  rw [List.length_map] at h
  have hl : k.toNat < ns.length := by omega
  rw [List.getElem?_map, List.getElem?_eq_getElem hl, List.getD_eq_getElem?_getD, List.getElem?_eq_getElem hl]; rfl
theorem ok__law_cell (T : Tx fa fn K mg) : Okd P w K mg base ("_law_cell", none) 1 ["_law_script", "_law_k"] (sp__law_cell K) := by
  refine okd (k := 0) T 3 rfl sc__law_cell (fun _ _ _ _ _ _ us hl => match us, hl with | [_, _], _ => rfl) (fun vs H Q E h => ?_) (fun f cdv A outer s H vs Q E hr h => ?_)
  · obtain ⟨a, ns, k, rfl, hS, hk, hQ⟩ := h
    rfl
  · obtain ⟨a, ns, k, rfl, hS, hk, hQ⟩ := h
    have hu := hu_of hr
    refine ⟨_, (pss_cons (ps_if (pt_cmpR op_lt (pv 1) (pe_callB c_len (by rfl) (T.free 1) PySem.boot_len (pa_cons (pv 0) pa_nil)) (nomark _)) (pss_one (ps_ret (pe_callTy c_int (by rfl) (T.free 0) (by decide +kernel) (pa_cons (pe_ix ix_list (pv 0) (pv 1) (fun _ _ => rfl)) pa_nil)))) pss_nil)
      (pss_one (ps_ret pe_int))), ?_⟩
    walk_at "w0"
    walk_at "w"
    walk_at "if"
    · intro hc
      walk_at "w"
      refine w_ixK hS (at_ints hk hc) ?_
      walk_at "w"
      exact hQ _
    · intro _
      walk_at "w"
      exact hQ _
def sp__law_many (K : PySem.W.Frag) : Sp := fun vs H Q _ => ∃ (a : Addr) (ns : List Int) (i j : Int), vs = [.ref a, .int i, .int j] ∧ SqL K H a (ns.map V.int) ∧ ∀ r, r = i ∨ r = j → Q (.int r) H
theorem ok__law_many (T : Tx fa fn K mg) : Okd P w K mg base ("_law_many", none) 1 ["_law_script", "_law_few", "_law_many_here"] (sp__law_many K) := by
  refine okd (k := 0) T 1 rfl sc__law_many (fun _ _ _ _ _ _ us hl => match us, hl with | [_, _, _], _ => rfl) (fun vs H Q E h => ?_) (fun f cdv A outer s H vs Q E hr h => ?_)
  · obtain ⟨a, ns, i, j, rfl, hS, hQ⟩ := h
    rfl
  · obtain ⟨a, ns, i, j, rfl, hS, hQ⟩ := h
    have hu := hu_of hr
    refine ⟨_, (pss_cons (ps_if (PW.pt (pw_and (pt_cmpR op_gt (pe_callB c_len (by rfl) (T.free 1) PySem.boot_len (pa_cons (pv 0) pa_nil)) pe_int (nomark _)) (pw_and1 (pt_cmpR op_eq (pe_op op_mod (pe_op op_fdiv (pe_callTy c_int (by rfl) (T.free 0) (by decide +kernel) (pa_cons (pe_ix ix_list (pv 0) pe_int (fun _ _ => rfl)) pa_nil)) pe_int) pe_int) pe_int (nomark _))))) (pss_one (ps_ret (pv 2))) pss_nil)
      (pss_one (ps_ret (pv 1)))), ?_⟩
    have h1 := hQ i (.inl rfl)
    have h2 := hQ j (.inr rfl)
    walk_at "w0"
    walk_at "w"
    walk_at "if"
    · intro hc
      walk_at "w"
      refine w_ixK hS (at_ints (by omega) hc) ?_
      walk_at "w"
      walk_at "if"
      · intro _
        walk_at "w"
        exact h2
      · intro _
        walk_at "w"
        exact h1
    · intro _
      walk_at "w"
      exact h1
/-! digits: each below its base -/
def DigOk (ds bs : List Int) : Prop := ∀ (i : Nat) (d b : Int), ds[i]? = some d → bs[i]? = some b → 0 ≤ d ∧ d < b
theorem DigOk.next {ds bs : List Int} {d b : Int} (h : DigOk ds bs) (e : bs[ds.length]? = some b) (h0 : 0 ≤ d) (h1 : d < b) : DigOk (ds ++ [d]) bs := fun i x y hx hy => by
  by_cases hi : i < ds.length
  · rw [List.getElem?_append_left hi] at hx
    exact h i x y hx hy
  · have hl := (List.getElem?_eq_some_iff.mp hx).1
    rw [List.length_append] at hl
    have e2 : i = ds.length := by simp at hl; omega
    subst e2
    rw [e] at hy
    rw [List.getElem?_append_right (Nat.le_refl _)] at hx
    simp at hx
    cases hy
    omega
def sp__law_digits (K : PySem.W.Frag) : Sp := fun vs H Q _ => ∃ (c : Int) (b : Addr) (bs : List Int), vs = [.int c, .ref b] ∧ H b = some (.lst (bs.map V.int)) ∧ bs.length ≤ 1000 ∧ (∀ x ∈ bs, 0 < x ∧ x < 1073741824) ∧
  ∀ (p : Addr) (ds : List Int), H p = none → ds.length = bs.length → DigOk ds bs → Q (.ref p) (upd H p (.lst (ds.map V.int)))
theorem ok__law_digits (T : Tx fa fn K mg) : Okd P w K mg base ("_law_digits", none) 1 ["_law_cell_here", "_law_bases"] (sp__law_digits K) := by
  refine okd (k := 0) T 2 rfl sc__law_digits (fun _ _ _ _ _ _ us hl => match us, hl with | [_, _], _ => rfl) (fun vs H Q E h => ?_) (fun f cdv A outer s H vs Q E hr h => ?_)
  · obtain ⟨c, b, bs, rfl, hb, hl, hbs, hQ⟩ := h
    rfl
  · obtain ⟨c, b, bs, rfl, hb, hl, hbs, hQ⟩ := h
    have hu := hu_of hr
    refine ⟨_, (pss_cons (ps_set (i := 2) sc__law_digits.nd rfl (Or.inl rfl) (pe_lst pa_nil))
      (pss_cons (ps_set (i := 3) sc__law_digits.nd rfl (Or.inl rfl) (pe_callTy c_int (by rfl) (T.free 0) (by decide +kernel) (pa_cons (pv 0) pa_nil)))
      (pss_cons (ps_for (passes_of rfl) rfl (pi_list (pv 1)) (pg_name (i := 4) sc__law_digits.nd rfl (Or.inl rfl)) (pss_one (ps_if (pt_cmpR op_ge (pv 0) (pe_op op_pow pe_int pe_int) (nomark _)) (pss_cons (ps_expr (pe_bm PySem.F.plainAttrs_list PySem.F.slot_list_append PySem.F.type_list_append mt_append (pv 2) (pa_cons (pe_op op_mod (pe_callTy c_int (by rfl) (T.free 0) (by decide +kernel) (pa_cons (pv 3) pa_nil)) (pv 4)) pa_nil)))
      (pss_one (ps_set (i := 3) sc__law_digits.nd rfl (Or.inl rfl) (pe_op op_fdiv (pv 3) (pv 4))))) (pss_cons (ps_set (i := 3) sc__law_digits.nd rfl (Or.inl rfl) (pe_op op_mod (pe_op op_add (pe_op op_add (pe_op op_mul (pe_callTy c_int (by rfl) (T.free 0) (by decide +kernel) (pa_cons (pv 3) pa_nil)) pe_int) (pe_op op_mul pe_int (pe_callB c_len (by rfl) (T.free 1) PySem.boot_len (pa_cons (pv 2) pa_nil)))) pe_int) pe_int))
      (pss_cons (ps_set (i := 5) sc__law_digits.nd rfl (Or.inl rfl) (pe_op op_mod (pe_op op_mul (pe_callTy c_int (by rfl) (T.free 0) (by decide +kernel) (pa_cons (pv 3) pa_nil)) (pe_callTy c_int (by rfl) (T.free 0) (by decide +kernel) (pa_cons (pv 3) pa_nil))) pe_int))
      (pss_one (ps_expr (pe_bm PySem.F.plainAttrs_list PySem.F.slot_list_append PySem.F.type_list_append mt_append (pv 2) (pa_cons (pe_op op_mod (pe_op op_fdiv (pe_callTy c_int (by rfl) (T.free 0) (by decide +kernel) (pa_cons (pv 5) pa_nil)) pe_int) (pv 4)) pa_nil)))))))))
      (pss_one (ps_ret (pv 2)))))), ?_⟩
    walk_at "w0"
    walk_at "w"
    intro p hp
    walk_at "w"
    refine loop_list (K := K) (a := b) (xs := bs.map V.int) (fun i σ H' => ∃ (r : Int) (ds : List Int) (v4 v5 : Option V), σ = [some (.int c), some (.ref b), some (.ref p), some (.int r), v4, v5] ∧ H' = upd H p (.lst (ds.map V.int)) ∧ ds.length = i ∧ DigOk ds bs)
      ⟨c, [], none, none, rfl, rfl, rfl, fun i d b h => by cases h⟩ (fun i σ H' _ ⟨_, _, _, _, _, e, _⟩ => by rw [e]; exact SqL.of (at_new hp hb)) ?_ ?_
    · rintro i x σ H' hx ⟨r, ds, v4, v5, rfl, rfl, rfl, hd⟩
      obtain ⟨z, hz, rfl⟩ := get_map hx
      have hbz := hbs z (List.mem_of_getElem? hz)
      have hlen : ds.length < bs.length := (List.getElem?_eq_some_iff.mp hz).1
      walk_at "w"
      walk_at "if"
      · intro hc
        walk_at "w"
        exact ⟨_, ds ++ [r % z], _, _, rfl, by rw [upd_upd, List.map_append]; rfl, by simp, hd.next hz (Int.emod_nonneg _ (by omega)) (Int.emod_lt_of_pos _ hbz.1)⟩
      · intro hc
        walk_at "w"
        exact ⟨_, ds ++ [_], _, _, rfl, by rw [upd_upd, List.map_append]; rfl, by simp, hd.next hz (Int.emod_nonneg _ (by omega)) (Int.emod_lt_of_pos _ hbz.1)⟩
    · rintro σ H' ⟨r, ds, v4, v5, rfl, rfl, hl2, hd⟩
      walk_at "w"
      exact hQ p ds hp (by rw [hl2, List.length_map]) hd
/-! the path -/
abbrev CP (K : PySem.W.Frag) : Addr := He.ga K "Path"
def f_Path (x0 x1 x2 : V) : List (Str × V) := [("up", x0), ("there", x1), ("back", x2)]
section
variable {x0 x1 x2 y : V}
theorem f_Path_b_0_1 : (("up" : Str) == ("there" : Str)) = false := by decide +kernel
theorem f_Path_n_0_1 : ¬ (("up" : Str) = ("there" : Str)) := by decide +kernel
theorem f_Path_b_0_2 : (("up" : Str) == ("back" : Str)) = false := by decide +kernel
theorem f_Path_n_0_2 : ¬ (("up" : Str) = ("back" : Str)) := by decide +kernel
theorem f_Path_b_1_0 : (("there" : Str) == ("up" : Str)) = false := by decide +kernel
theorem f_Path_n_1_0 : ¬ (("there" : Str) = ("up" : Str)) := by decide +kernel
theorem f_Path_b_1_2 : (("there" : Str) == ("back" : Str)) = false := by decide +kernel
theorem f_Path_n_1_2 : ¬ (("there" : Str) = ("back" : Str)) := by decide +kernel
theorem f_Path_b_2_0 : (("back" : Str) == ("up" : Str)) = false := by decide +kernel
theorem f_Path_n_2_0 : ¬ (("back" : Str) = ("up" : Str)) := by decide +kernel
theorem f_Path_b_2_1 : (("back" : Str) == ("there" : Str)) = false := by decide +kernel
theorem f_Path_n_2_1 : ¬ (("back" : Str) = ("there" : Str)) := by decide +kernel
theorem f_Path_g0 : (f_Path x0 x1 x2).lookup ("up" : Str) = some x0 := by simp [f_Path, List.lookup, f_Path_b_0_1, f_Path_b_0_2]
theorem f_Path_p0 : putF ("up" : Str) y (f_Path x0 x1 x2) = f_Path y x1 x2 := by simp [f_Path, putF, f_Path_n_1_0, f_Path_n_2_0]
theorem f_Path_g1 : (f_Path x0 x1 x2).lookup ("there" : Str) = some x1 := by simp [f_Path, List.lookup, f_Path_b_1_0, f_Path_b_1_2]
theorem f_Path_p1 : putF ("there" : Str) y (f_Path x0 x1 x2) = f_Path x0 y x2 := by simp [f_Path, putF, f_Path_n_0_1, f_Path_n_2_1]
theorem f_Path_g2 : (f_Path x0 x1 x2).lookup ("back" : Str) = some x2 := by simp [f_Path, List.lookup, f_Path_b_2_0, f_Path_b_2_1]
theorem f_Path_p2 : putF ("back" : Str) y (f_Path x0 x1 x2) = f_Path x0 x1 y := by simp [f_Path, putF, f_Path_n_0_2, f_Path_n_1_2]
theorem f_Path_no {m : Str} (h0 : ¬ m = "up") (h1 : ¬ m = "there") (h2 : ¬ m = "back") : (f_Path x0 x1 x2).lookup m = none := by
  have b0 : (m == ("up" : Str)) = false := by simpa using h0
  have b1 : (m == ("there" : Str)) = false := by simpa using h1
  have b2 : (m == ("back" : Str)) = false := by simpa using h2
  simp [f_Path, List.lookup, b0, b1, b2]
theorem f_Path_mk : (putF ("back" : Str) x2 (putF ("there" : Str) x1 (putF ("up" : Str) x0 []))) = f_Path x0 x1 x2 := by simp [f_Path, putF, f_Path_n_0_1, f_Path_n_0_2, f_Path_n_1_0, f_Path_n_1_2, f_Path_n_2_0, f_Path_n_2_1]
theorem f_Path_len : (f_Path x0 x1 x2).length = 3 := rfl
end
local macro_rules | `(tactic| walk_at "lk") => `(tactic| first | rfl | assumption | exact f_Path_g0 | exact f_Path_g1 | exact f_Path_g2 | exact f_Path_no (by decide +kernel) (by decide +kernel) (by decide +kernel) | (rw [f_Path_len]; decide))
local macro_rules | `(tactic| walk_at "pf") => `(tactic| simp only [f_Path_p0, f_Path_p1, f_Path_p2, f_Path_mk])
abbrev pf (u : Bool) (l1 l2 : Addr) : List (Str × V) := f_Path (.bl u) (.ref l1) (.ref l2)
def sp_Path___init__ (K : PySem.W.Frag) : Sp := fun vs H Q _ => ∃ (p dx : Addr), vs = [.ref p] ∧ H p = some (.ins (CP K) dx []) ∧
  ∀ (l1 l2 : Addr) (H' : Hp), H l1 = none → H l2 = none → l1 ≠ l2 → H' p = some (.ins (CP K) dx (pf true l1 l2)) → H' l1 = some (.lst []) → H' l2 = some (.lst []) → Kept (· = p) H H' → Q .non H'
theorem ok_Path___init__ (T : Tx fa fn K mg) : Okd P w K mg base ("Path", some "__init__") 1 ["self"] (sp_Path___init__ K) := by
  refine okd (k := 0) T 0 rfl sc_Path___init__ (fun _ _ _ _ _ _ us hl => match us, hl with | [_], _ => rfl) (fun vs H Q E h => ?_) (fun f cdv A outer s H vs Q E hr h => ?_)
  · obtain ⟨p, dx, rfl, h1, hQ⟩ := h
    rfl
  · obtain ⟨p, dx, rfl, h1, hQ⟩ := h
    have hu := hu_of hr
    refine ⟨_, (pss_cons (ps_fld (pv 0) pe_bl rfl)
      (pss_cons (ps_fld (pv 0) (pe_lst pa_nil) rfl)
      (pss_one (ps_fld (pv 0) (pe_lst pa_nil) rfl)))), ?_⟩
    walk_at "w0"
    walk_at "w"
    intro l1 n1
    walk_at "w"
    intro l2 n2
    walk_at "w"
    rw [f_Path_mk]
    obtain ⟨e1, n1⟩ := none1 n1
    obtain ⟨e2, e3, _, n2⟩ := none3 n2
    refine hQ l1 l2 _ n1 n2 e3.symm upd_same (by rw [upd_ne e1, upd_ne e3.symm, upd_ne e1, upd_same]) (by rw [upd_ne e2, upd_same]) fun b o e nb => ?_
    have z1 : b ≠ l1 := ne_of_none e n1
    have z2 : b ≠ l2 := ne_of_none e n2
    rw [upd_ne nb, upd_ne z2, upd_ne nb, upd_ne z1, upd_ne nb]
    exact e
def sp_Path__list (K : PySem.W.Frag) : Sp := fun vs H Q _ => ∃ (p dx l1 l2 : Addr) (u b : Bool), vs = [.ref p, .bl b] ∧ H p = some (.ins (CP K) dx (pf u l1 l2)) ∧ Q (.ref (if b then l2 else l1)) H
theorem ok_Path__list (T : Tx fa fn K mg) : Okd P w K mg base ("Path", some "_list") 1 ["self", "to_host"] (sp_Path__list K) := by
  refine okd (k := 0) T 5 rfl sc_Path__list (fun _ _ _ _ _ _ us hl => match us, hl with | [_, _], _ => rfl) (fun vs H Q E h => ?_) (fun f cdv A outer s H vs Q E hr h => ?_)
  · obtain ⟨p, dx, l1, l2, u, b, rfl, h1, hQ⟩ := h
    rfl
  · obtain ⟨p, dx, l1, l2, u, b, rfl, h1, hQ⟩ := h
    have hu := hu_of hr
    refine ⟨_, (pss_cons (ps_if (pt_val (pv 1)) (pss_one (ps_ret (pe_fld (pv 0) rfl))) pss_nil)
      (pss_one (ps_ret (pe_fld (pv 0) rfl)))), ?_⟩
    walk_at "w0"
    walk_at "w"
    walk_at "if"
    · rintro rfl
      walk_at "w"
      exact hQ
    · rintro rfl
      walk_at "w"
      exact hQ
def sp_Path_send (K : PySem.W.Frag) : Sp := fun vs H Q _ => ∃ (p dx l1 l2 l : Addr) (u b : Bool) (x : V) (xs : List V), vs = [.ref p, x, .bl b] ∧ H p = some (.ins (CP K) dx (pf u l1 l2)) ∧ l = (if b then l2 else l1) ∧ H l = some (.lst xs) ∧ xs.length ≤ 1000 ∧
  Q .non (upd H l (.lst (xs ++ [x])))
theorem ok_Path_send (T : Tx fa fn K mg) : Okd P w K mg base ("Path", some "send") 2 ["self", "letter", "to_host"] (sp_Path_send K) := by
  refine okd (k := 1) T 6 rfl sc_Path_send (fun _ _ _ _ _ _ us hl => match us, hl with | [_, _, _], _ => rfl) (fun vs H Q E h => ?_) (fun f cdv A outer s H vs Q E hr h => ?_)
  · obtain ⟨p, dx, l1, l2, l, u, b, x, xs, rfl, h1, rfl, h2, hl, hQ⟩ := h
    rfl
  · obtain ⟨p, dx, l1, l2, l, u, b, x, xs, rfl, h1, rfl, h2, hl, hQ⟩ := h
    have hu := hu_of hr
    refine ⟨_, (pss_one (ps_expr (pe_bm PySem.F.plainAttrs_list PySem.F.slot_list_append PySem.F.type_list_append mt_append (pe_methO (pv 0) (T.cls 2) (T.meth 3) (ok_Path__list T) (hr.mono (by decide)) (passes_call (takes_of rfl rfl rfl rfl) (fun _ _ _ _ h => h)) (pa_cons (pv 2) pa_nil)) (pa_cons (pv 1) pa_nil)))), ?_⟩
    walk_at "w0"
    walk_at "w"
    refine ⟨p, dx, l1, l2, u, b, rfl, h1, ?_⟩
    walk_at "w"
    exact hQ
def sp_Path_letters (K : PySem.W.Frag) : Sp := fun vs H Q _ => ∃ (p dx l1 l2 l : Addr) (u b : Bool) (xs : List V), vs = [.ref p, .bl b] ∧ H p = some (.ins (CP K) dx (pf u l1 l2)) ∧ l = (if b then l2 else l1) ∧ H l = some (.lst xs) ∧
  ∀ q, H q = none → Q (.ref q) (upd H q (.lst xs))
theorem ok_Path_letters (T : Tx fa fn K mg) : Okd P w K mg base ("Path", some "letters") 2 ["self", "to_host"] (sp_Path_letters K) := by
  refine okd (k := 1) T 11 rfl sc_Path_letters (fun _ _ _ _ _ _ us hl => match us, hl with | [_, _], _ => rfl) (fun vs H Q E h => ?_) (fun f cdv A outer s H vs Q E hr h => ?_)
  · obtain ⟨p, dx, l1, l2, l, u, b, xs, rfl, h1, rfl, h2, hQ⟩ := h
    rfl
  · obtain ⟨p, dx, l1, l2, l, u, b, xs, rfl, h1, rfl, h2, hQ⟩ := h
    have hu := hu_of hr
    refine ⟨_, (pss_one (ps_ret (pe_callTy c_list (by rfl) (T.free 10) (by decide +kernel) (pa_cons (pe_methO (pv 0) (T.cls 2) (T.meth 3) (ok_Path__list T) (hr.mono (by decide)) (passes_call (takes_of rfl rfl rfl rfl) (fun _ _ _ _ h => h)) (pa_cons (pv 1) pa_nil)) pa_nil)))), ?_⟩
    walk_at "w0"
    walk_at "w"
    refine ⟨p, dx, l1, l2, u, b, rfl, h1, ?_⟩
    walk_at "w"
    refine w_listL h2 hQ
def sp_Path_set_up (K : PySem.W.Frag) : Sp := fun vs H Q _ => ∃ (p dx l1 l2 : Addr) (u b : Bool), vs = [.ref p, .bl b] ∧ H p = some (.ins (CP K) dx (pf u l1 l2)) ∧ Q .non (upd H p (.ins (CP K) dx (pf b l1 l2)))
theorem ok_Path_set_up (T : Tx fa fn K mg) : Okd P w K mg base ("Path", some "set_up") 1 ["self", "up"] (sp_Path_set_up K) := by
  refine okd (k := 0) T 4 rfl sc_Path_set_up (fun _ _ _ _ _ _ us hl => match us, hl with | [_, _], _ => rfl) (fun vs H Q E h => ?_) (fun f cdv A outer s H vs Q E hr h => ?_)
  · obtain ⟨p, dx, l1, l2, u, b, rfl, h1, hQ⟩ := h
    rfl
  · obtain ⟨p, dx, l1, l2, u, b, rfl, h1, hQ⟩ := h
    have hu := hu_of hr
    refine ⟨_, (pss_one (ps_fld (pv 0) (pv 1) rfl)), ?_⟩
    walk_at "w0"
    walk_at "w"
    walk_at "pf"
    exact hQ
def spPop (K : PySem.W.Frag) : Sp := fun vs H Q _ => ∃ (p dx l1 l2 l : Addr) (u b : Bool) (i : Int) (xs : List V), vs = [.ref p, .int i, .bl b] ∧ H p = some (.ins (CP K) dx (pf u l1 l2)) ∧ l = (if b then l2 else l1) ∧ H l = some (.lst xs) ∧ xs.length ≤ 1000 ∧
  (u = false ∨ xs = [] → Q .non H) ∧ (u = true → ∀ y, xs[(i % (xs.length : Int)).toNat]? = some y → Q y (upd H l (.lst (xs.eraseIdx (i % (xs.length : Int)).toNat))))
abbrev sp_Path_deliver := spPop
theorem mod_get {α : Type} {xs : List α} (i : Int) (h : 0 < xs.length) : ∃ y, xs[(i % (xs.length : Int)).toNat]? = some y := by
  have h0 : 0 ≤ i % (xs.length : Int) := Int.emod_nonneg _ (by omega)
  have h1 : i % (xs.length : Int) < xs.length := Int.emod_lt_of_pos _ (by omega)
  exact get_some (by omega)
theorem mod_lo {n : Nat} (i : Int) (h : 0 < n) : -(2 ^ 63) ≤ i % (n : Int) := by
  have h0 : 0 ≤ i % (n : Int) := Int.emod_nonneg _ (by omega)
  omega
theorem mod_hi {n : Nat} (i : Int) (h : 0 < n) (k : n ≤ 1000) : i % (n : Int) < 2 ^ 63 := by
  have h1 : i % (n : Int) < n := Int.emod_lt_of_pos _ (by omega)
  omega
theorem ok_Path_deliver (T : Tx fa fn K mg) : Okd P w K mg base ("Path", some "deliver") 2 ["self", "index", "to_host"] (sp_Path_deliver K) := by
  refine okd (k := 1) T 7 rfl sc_Path_deliver (fun _ _ _ _ _ _ us hl => match us, hl with | [_, _, _], _ => rfl) (fun vs H Q E h => ?_) (fun f cdv A outer s H vs Q E hr h => ?_)
  · obtain ⟨p, dx, l1, l2, l, u, b, i, xs, rfl, h1, rfl, h2, hl, hN, hY⟩ := h
    rfl
  · obtain ⟨p, dx, l1, l2, l, u, b, i, xs, rfl, h1, rfl, h2, hl, hN, hY⟩ := h
    have hu := hu_of hr
    refine ⟨_, (pss_cons (ps_set (i := 3) sc_Path_deliver.nd rfl (Or.inl rfl) (pe_methO (pv 0) (T.cls 2) (T.meth 3) (ok_Path__list T) (hr.mono (by decide)) (passes_call (takes_of rfl rfl rfl rfl) (fun _ _ _ _ h => h)) (pa_cons (pv 2) pa_nil)))
      (pss_cons (ps_if (PW.pt (pw_or (pt_not (pt_val (pe_fld (pv 0) rfl))) (pw_or1 (pt_not (pt_truthA (pv 3)))))) (pss_one (ps_ret pe_non)) pss_nil)
      (pss_one (ps_ret (pe_bm PySem.F.plainAttrs_list PySem.F.slot_list_pop PySem.F.type_list_pop mt_popAt (pv 3) (pa_cons (pe_op op_mod (pe_callTy c_int (by rfl) (T.free 0) (by decide +kernel) (pa_cons (pv 1) pa_nil)) (pe_callB c_len (by rfl) (T.free 1) PySem.boot_len (pa_cons (pv 3) pa_nil))) pa_nil)))))), ?_⟩
    walk_at "w0"
    walk_at "w"
    refine ⟨p, dx, l1, l2, u, b, rfl, h1, ?_⟩
    walk_at "w"
    walk_at "if"
    · rintro rfl
      walk_at "w"
      exact hN (.inl rfl)
    · rintro rfl
      walk_at "w"
      walk_at "if"
      · intro hc
        walk_at "w"
        exact hN (.inr (List.isEmpty_iff.mp (by simpa using hc)))
      · intro hc
        have h0 : 0 < xs.length := by cases xs with
          | nil => simp at hc
          | cons a b => simp
        obtain ⟨y, hy⟩ := mod_get i h0
        walk_at "w"
        exact w_popAt h2 (mod_lo _ h0) (mod_hi _ h0 hl) (seq_mod h0) hy (hY rfl y hy)
def sp_Path_drop (K : PySem.W.Frag) : Sp := fun vs H Q _ => ∃ (p dx l1 l2 l : Addr) (u b : Bool) (i : Int) (xs : List V), vs = [.ref p, .int i, .bl b] ∧ H p = some (.ins (CP K) dx (pf u l1 l2)) ∧ l = (if b then l2 else l1) ∧ H l = some (.lst xs) ∧ xs.length ≤ 1000 ∧
  (xs = [] → Q (.bl false) H) ∧ (xs ≠ [] → Q (.bl true) (upd H l (.lst (xs.eraseIdx (i % (xs.length : Int)).toNat))))
theorem ok_Path_drop (T : Tx fa fn K mg) : Okd P w K mg base ("Path", some "drop") 2 ["self", "index", "to_host"] (sp_Path_drop K) := by
  refine okd (k := 1) T 8 rfl sc_Path_drop (fun _ _ _ _ _ _ us hl => match us, hl with | [_, _, _], _ => rfl) (fun vs H Q E h => ?_) (fun f cdv A outer s H vs Q E hr h => ?_)
  · obtain ⟨p, dx, l1, l2, l, u, b, i, xs, rfl, h1, rfl, h2, hl, hN, hY⟩ := h
    rfl
  · obtain ⟨p, dx, l1, l2, l, u, b, i, xs, rfl, h1, rfl, h2, hl, hN, hY⟩ := h
    have hu := hu_of hr
    refine ⟨_, (pss_cons (ps_set (i := 3) sc_Path_drop.nd rfl (Or.inl rfl) (pe_methO (pv 0) (T.cls 2) (T.meth 3) (ok_Path__list T) (hr.mono (by decide)) (passes_call (takes_of rfl rfl rfl rfl) (fun _ _ _ _ h => h)) (pa_cons (pv 2) pa_nil)))
      (pss_cons (ps_if (pt_not (pt_truthA (pv 3))) (pss_one (ps_ret pe_bl)) pss_nil)
      (pss_cons (ps_expr (pe_bm PySem.F.plainAttrs_list PySem.F.slot_list_pop PySem.F.type_list_pop mt_popAt (pv 3) (pa_cons (pe_op op_mod (pe_callTy c_int (by rfl) (T.free 0) (by decide +kernel) (pa_cons (pv 1) pa_nil)) (pe_callB c_len (by rfl) (T.free 1) PySem.boot_len (pa_cons (pv 3) pa_nil))) pa_nil)))
      (pss_one (ps_ret pe_bl))))), ?_⟩
    walk_at "w0"
    walk_at "w"
    refine ⟨p, dx, l1, l2, u, b, rfl, h1, ?_⟩
    walk_at "w"
    walk_at "if"
    · intro hc
      walk_at "w"
      exact hN (List.isEmpty_iff.mp (by simpa using hc))
    · intro hc
      have h0 : 0 < xs.length := by cases xs with
        | nil => simp at hc
        | cons a b => simp
      obtain ⟨y, hy⟩ := mod_get i h0
      walk_at "w"
      refine w_popAt h2 (mod_lo _ h0) (mod_hi _ h0 hl) (seq_mod h0) hy ?_
      walk_at "w"
      exact hY (by intro e; rw [e] at h0; simp at h0)
def sp_Path_double (K : PySem.W.Frag) : Sp := fun vs H Q _ => ∃ (p dx l1 l2 l : Addr) (u b : Bool) (i : Int) (xs : List V), vs = [.ref p, .int i, .bl b] ∧ H p = some (.ins (CP K) dx (pf u l1 l2)) ∧ l = (if b then l2 else l1) ∧ H l = some (.lst xs) ∧ xs.length ≤ 1000 ∧
  (xs = [] → Q (.bl false) H) ∧ (∀ y, xs[(i % (xs.length : Int)).toNat]? = some y → Q (.bl true) (upd H l (.lst (xs ++ [y]))))
theorem ok_Path_double (T : Tx fa fn K mg) : Okd P w K mg base ("Path", some "double") 2 ["self", "index", "to_host"] (sp_Path_double K) := by
  refine okd (k := 1) T 9 rfl sc_Path_double (fun _ _ _ _ _ _ us hl => match us, hl with | [_, _, _], _ => rfl) (fun vs H Q E h => ?_) (fun f cdv A outer s H vs Q E hr h => ?_)
  · obtain ⟨p, dx, l1, l2, l, u, b, i, xs, rfl, h1, rfl, h2, hl, hN, hY⟩ := h
    rfl
  · obtain ⟨p, dx, l1, l2, l, u, b, i, xs, rfl, h1, rfl, h2, hl, hN, hY⟩ := h
    have hu := hu_of hr
    refine ⟨_, (pss_cons (ps_set (i := 3) sc_Path_double.nd rfl (Or.inl rfl) (pe_methO (pv 0) (T.cls 2) (T.meth 3) (ok_Path__list T) (hr.mono (by decide)) (passes_call (takes_of rfl rfl rfl rfl) (fun _ _ _ _ h => h)) (pa_cons (pv 2) pa_nil)))
      (pss_cons (ps_if (pt_not (pt_truthA (pv 3))) (pss_one (ps_ret pe_bl)) pss_nil)
      (pss_cons (ps_expr (pe_bm PySem.F.plainAttrs_list PySem.F.slot_list_append PySem.F.type_list_append mt_append (pv 3) (pa_cons (pe_ix ix_list (pv 3) (pe_op op_mod (pe_callTy c_int (by rfl) (T.free 0) (by decide +kernel) (pa_cons (pv 1) pa_nil)) (pe_callB c_len (by rfl) (T.free 1) PySem.boot_len (pa_cons (pv 3) pa_nil))) (fun _ _ => rfl)) pa_nil)))
      (pss_one (ps_ret pe_bl))))), ?_⟩
    walk_at "w0"
    walk_at "w"
    refine ⟨p, dx, l1, l2, u, b, rfl, h1, ?_⟩
    walk_at "w"
    walk_at "if"
    · intro hc
      walk_at "w"
      exact hN (List.isEmpty_iff.mp (by simpa using hc))
    · intro hc
      have h0 : 0 < xs.length := by cases xs with
        | nil => simp at hc
        | cons a b => simp
      obtain ⟨y, hy⟩ := mod_get i h0
      walk_at "w"
      refine w_ixL h2 (atI_mod hy) ?_
      walk_at "w"
      exact hY y hy
/-! the law's own lists beside the path -/
def Ltr (H : Hp) (x : V) : Prop := ∃ (t : Addr) (i j : Int), x = .ref t ∧ H t = some (.tup [.str "do", .int i, .int j])
theorem Ltr.rep {H : Hp} {x : V} (h : Ltr H x) : ∃ d, Rep K H 1 x d := by
  obtain ⟨t, i, j, rfl, h⟩ := h
  exact ⟨_, Rep.tup h (.cons (Rep.str (by decide +kernel)) (.cons .int (.cons .int .nil)))⟩
theorem lst_rep {H : Hp} {xs : List V} (h : ∀ x ∈ xs, Ltr H x) : ∃ ds, Reps K H 1 xs ds := Reps.of fun x hx => (h x hx).rep
abbrev pick {α : Type} (b : Bool) (x y : α) : α := if b then y else x
structure St9 (K : PySem.W.Frag) (H : Hp) (p l1 l2 L m1 m2 : Addr) (u : Bool) (xs1 xs2 : List V) : Prop where
  hp : ∃ dx, H p = some (.ins (CP K) dx (pf u l1 l2))
  h1 : H l1 = some (.lst xs1)
  h2 : H l2 = some (.lst xs2)
  hL : H L = some (.lst [.ref m1, .ref m2])
  g1 : H m1 = some (.lst xs1)
  g2 : H m2 = some (.lst xs2)
  nd : [l1, l2, L, m1, m2].Nodup
  i1 : ∀ x ∈ xs1, Ltr H x
  i2 : ∀ x ∈ xs2, Ltr H x
section
variable {H H' : Hp} {p l1 l2 L m1 m2 : Addr} {u : Bool} {xs1 xs2 xs' : List V}
theorem Ltr.keep {x : V} {l m : Addr} {ys zs : List V} (h : Ltr H x) (hl : H l = some (.lst ys)) (hm : H m = some (.lst zs)) (kp : ∀ c o, H c = some o → c ≠ l → c ≠ m → H' c = some o) : Ltr H' x := by
  obtain ⟨t, i, j, rfl, h⟩ := h
  exact ⟨t, i, j, rfl, kp t _ h (ne_of h hl (by intro z; cases z)) (ne_of h hm (by intro z; cases z))⟩
theorem St9.to (S : St9 K H p l1 l2 L m1 m2 u xs1 xs2) (b : Bool) (hl : H' (pick b l1 l2) = some (.lst xs')) (hm : H' (pick b m1 m2) = some (.lst xs')) (kp : ∀ c o, H c = some o → c ≠ pick b l1 l2 → c ≠ pick b m1 m2 → H' c = some o)
    (hx : ∀ x ∈ xs', Ltr H' x) : St9 K H' p l1 l2 L m1 m2 u (pick b xs' xs1) (pick b xs2 xs') := by
  obtain ⟨⟨dx, hp⟩, h1, h2, hL, g1, g2, nd, i1, i2⟩ := S
  have nd' := nd
  simp only [List.nodup_cons, List.mem_cons, List.not_mem_nil, or_false, not_or, List.nodup_nil, and_true] at nd'
  obtain ⟨⟨n1, n2, n3, n4⟩, ⟨n5, n6, n7⟩, ⟨n8, n9⟩, n10, _⟩ := nd'
  have np : ∀ {a : Addr} {ys : List V}, H a = some (.lst ys) → p ≠ a := fun e => ne_of hp e (by intro z; cases z)
  cases b with
  | false =>
    have hl : H' l1 = some (.lst xs') := hl
    have hm : H' m1 = some (.lst xs') := hm
    have kp : ∀ c o, H c = some o → c ≠ l1 → c ≠ m1 → H' c = some o := kp
    exact ⟨⟨dx, kp p _ hp (np h1) (np g1)⟩, hl, kp _ _ h2 (Ne.symm n1) n6, kp _ _ hL (Ne.symm n2) n8, hm, kp _ _ g2 (Ne.symm n4) (Ne.symm n10), nd, hx, fun x h => (i2 x h).keep h1 g1 kp⟩
  | true =>
    have hl : H' l2 = some (.lst xs') := hl
    have hm : H' m2 = some (.lst xs') := hm
    have kp : ∀ c o, H c = some o → c ≠ l2 → c ≠ m2 → H' c = some o := kp
    exact ⟨⟨dx, kp p _ hp (np h2) (np g2)⟩, kp _ _ h1 n1 n4, hl, kp _ _ hL (Ne.symm n5) n9, kp _ _ g1 (Ne.symm n6) n10, hm, nd, fun x h => (i1 x h).keep h2 g2 kp, hx⟩
theorem St9.same (S : St9 K H p l1 l2 L m1 m2 u xs1 xs2) (s : Same H H') : St9 K H' p l1 l2 L m1 m2 u xs1 xs2 :=
  ⟨let ⟨dx, h⟩ := S.hp; ⟨dx, s _ _ h⟩, s _ _ S.h1, s _ _ S.h2, s _ _ S.hL, s _ _ S.g1, s _ _ S.g2, S.nd, fun x h => let ⟨t, i, j, e, z⟩ := S.i1 x h; ⟨t, i, j, e, s _ _ z⟩, fun x h => let ⟨t, i, j, e, z⟩ := S.i2 x h; ⟨t, i, j, e, s _ _ z⟩⟩
end
def sp__law_act (K : PySem.W.Frag) : Sp := fun vs H Q _ => ∃ (p L q l1 l2 m1 m2 : Addr) (u b : Bool) (d0 d2 d3 : Int) (xs1 xs2 : List V), vs = [.ref p, .ref L, .ref q, .bl u] ∧
  H q = some (.lst [.int d0, .int (if b then 1 else 0), .int d2, .int d3]) ∧ St9 K H p l1 l2 L m1 m2 u xs1 xs2 ∧ q ≠ pick b l1 l2 ∧ q ≠ pick b m1 m2 ∧ xs1.length ≤ 900 ∧ xs2.length ≤ 900 ∧
  ∀ (xs1' xs2' : List V) (H' : Hp), St9 K H' p l1 l2 L m1 m2 u xs1' xs2' → xs1'.length ≤ xs1.length + 1 → xs2'.length ≤ xs2.length + 1 →
    (∀ c o, H c = some o → c ≠ pick b l1 l2 → c ≠ pick b m1 m2 → H' c = some o) → Q (.bl true) H'
theorem ok__law_act (T : Tx fa fn K mg) : Okd P w K mg base ("_law_act", none) 3 ["_law_path", "_law_lists", "_law_digits_here", "_law_up"] (sp__law_act K) := by
  refine okd (k := 2) T 10 rfl sc__law_act (fun _ _ _ _ _ _ us hl => match us, hl with | [_, _, _, _], _ => rfl) (fun vs H Q E h => ?_) (fun f cdv A outer s H vs Q E hr h => ?_)
  · obtain ⟨p, L, q, l1, l2, m1, m2, u, b, d0, d2, d3, xs1, xs2, rfl, hq, S, nql, nqm, z1, z2, hQ⟩ := h
    rfl
  · obtain ⟨p, L, q, l1, l2, m1, m2, u, b, d0, d2, d3, xs1, xs2, rfl, hq, S, nql, nqm, z1, z2, hQ⟩ := h
    have hu := hu_of hr
    refine ⟨_, (pss_cons (ps_set (i := 4) sc__law_act.nd rfl (Or.inl rfl) (pe_ix ix_list (pv 1) (pe_ix ix_list (pv 2) pe_int (fun _ _ => rfl)) (fun _ _ => rfl)))
      (pss_cons (ps_set (i := 5) sc__law_act.nd rfl (Or.inl rfl) (pe_cmpR op_eq (pe_ix ix_list (pv 2) pe_int (fun _ _ => rfl)) pe_int (nomark _)))
      (pss_cons (ps_set (i := 6) sc__law_act.nd rfl (Or.inl rfl) (pe_ix ix_list (pv 2) pe_int (fun _ _ => rfl)))
      (pss_cons (ps_if (pt_cmpR op_lt (pe_ix ix_list (pv 2) pe_int (fun _ _ => rfl)) pe_int (nomark _)) (pss_cons (ps_set (i := 7) sc__law_act.nd rfl (Or.inl rfl) (pe_tup (pa_cons pe_str (pa_cons (pe_ix ix_list (pv 2) pe_int (fun _ _ => rfl)) (pa_cons (pe_ix ix_list (pv 2) pe_int (fun _ _ => rfl)) pa_nil)))))
      (pss_cons (ps_expr (pe_methO (pv 0) (T.cls 2) (T.meth 4) (ok_Path_send T) (hr.mono (by decide)) (passes_call (takes_of rfl rfl rfl rfl) (fun _ _ _ _ h => h)) (pa_cons (pv 7) (pa_cons (pv 5) pa_nil))))
      (pss_cons (ps_expr (pe_bm PySem.F.plainAttrs_list PySem.F.slot_list_append PySem.F.type_list_append mt_append (pv 4) (pa_cons (pv 7) pa_nil)))
      (pss_one (ps_ret pe_bl))))) pss_nil)
      (pss_cons (ps_set (i := 8) sc__law_act.nd rfl (Or.inl rfl) (pe_cmpR (op_neD hr.units) (pv 4) (pe_lst pa_nil) (nomark _)))
      (pss_cons (ps_if (pt_cmpR op_lt (pe_ix ix_list (pv 2) pe_int (fun _ _ => rfl)) pe_int (nomark _)) (pss_cons (ps_set (i := 9) sc__law_act.nd rfl (Or.inl rfl) (pe_methO (pv 0) (T.cls 2) (T.meth 5) (ok_Path_deliver T) (hr.mono (by decide)) (passes_call (takes_of rfl rfl rfl rfl) (fun _ _ _ _ h => h)) (pa_cons (pv 6) (pa_cons (pv 5) pa_nil))))
      (pss_cons (ps_if (PW.pt (pw_or (pt_not (pt_val (pv 8))) (pw_or1 (pt_not (pt_val (pv 3)))))) (pss_one (ps_ret (pe_cmpR o_isN (pv 9) pe_non (nomark _)))) pss_nil)
      (pss_cons (ps_set (i := 10) sc__law_act.nd rfl (Or.inl rfl) (pe_ix ix_list (pv 4) (pe_op op_mod (pv 6) (pe_callB c_len (by rfl) (T.free 1) PySem.boot_len (pa_cons (pv 4) pa_nil))) (fun _ _ => rfl)))
      (pss_cons (ps_expr (pe_bm PySem.F.plainAttrs_list PySem.F.slot_list_pop PySem.F.type_list_pop mt_popAt (pv 4) (pa_cons (pe_op op_mod (pv 6) (pe_callB c_len (by rfl) (T.free 1) PySem.boot_len (pa_cons (pv 4) pa_nil))) pa_nil)))
      (pss_one (ps_ret (pe_cmpR (op_eqD hr.units) (pv 9) (pv 10) (nomark _)))))))) pss_nil)
      (pss_cons (ps_if (pt_cmpR op_eq (pe_ix ix_list (pv 2) pe_int (fun _ _ => rfl)) pe_int (nomark _)) (pss_cons (ps_set (i := 9) sc__law_act.nd rfl (Or.inl rfl) (pe_methO (pv 0) (T.cls 2) (T.meth 6) (ok_Path_drop T) (hr.mono (by decide)) (passes_call (takes_of rfl rfl rfl rfl) (fun _ _ _ _ h => h)) (pa_cons (pv 6) (pa_cons (pv 5) pa_nil))))
      (pss_cons (ps_if (pt_val (pv 8)) (pss_one (ps_expr (pe_bm PySem.F.plainAttrs_list PySem.F.slot_list_pop PySem.F.type_list_pop mt_popAt (pv 4) (pa_cons (pe_op op_mod (pv 6) (pe_callB c_len (by rfl) (T.free 1) PySem.boot_len (pa_cons (pv 4) pa_nil))) pa_nil)))) pss_nil)
      (pss_one (ps_ret (pe_and (pe_callB call_isi (by rfl) (T.free 7) (by decide +kernel) (pa_cons (pv 9) (pa_cons (pe_bltn (v := .ty "bool") rfl (T.free 8) (by decide +kernel) rfl) pa_nil))) (pe_one (pe_cmpR (op_eqD hr.units) (pv 9) (pv 8) (nomark _)))))))) pss_nil)
      (pss_cons (ps_set (i := 9) sc__law_act.nd rfl (Or.inl rfl) (pe_methO (pv 0) (T.cls 2) (T.meth 9) (ok_Path_double T) (hr.mono (by decide)) (passes_call (takes_of rfl rfl rfl rfl) (fun _ _ _ _ h => h)) (pa_cons (pv 6) (pa_cons (pv 5) pa_nil))))
      (pss_cons (ps_if (pt_val (pv 8)) (pss_one (ps_expr (pe_bm PySem.F.plainAttrs_list PySem.F.slot_list_append PySem.F.type_list_append mt_append (pv 4) (pa_cons (pe_ix ix_list (pv 4) (pe_op op_mod (pv 6) (pe_callB c_len (by rfl) (T.free 1) PySem.boot_len (pa_cons (pv 4) pa_nil))) (fun _ _ => rfl)) pa_nil)))) pss_nil)
      (pss_one (ps_ret (pe_and (pe_callB call_isi (by rfl) (T.free 7) (by decide +kernel) (pa_cons (pv 9) (pa_cons (pe_bltn (v := .ty "bool") rfl (T.free 8) (by decide +kernel) rfl) pa_nil))) (pe_one (pe_cmpR (op_eqD hr.units) (pv 9) (pv 8) (nomark _))))))))))))))), ?_⟩
    have S0 := S
    obtain ⟨⟨dx, hp⟩, h1, h2, hL, g1, g2, nd, i1, i2⟩ := S
    have eb : decide ((if b = true then (1 : Int) else 0) = 1) = b := by cases b <;> decide
    have hl : H (pick b l1 l2) = some (.lst (pick b xs1 xs2)) := by cases b; exact h1; exact h2
    have hm : H (pick b m1 m2) = some (.lst (pick b xs1 xs2)) := by cases b; exact g1; exact g2
    have hi : ∀ x ∈ pick b xs1 xs2, Ltr H x := by cases b; exact i1; exact i2
    have hz : (pick b xs1 xs2).length ≤ 900 := by cases b; exact z1; exact z2
    have nlm : pick b l1 l2 ≠ pick b m1 m2 := by
      simp only [List.nodup_cons, List.mem_cons, List.not_mem_nil, or_false, not_or, List.nodup_nil, and_true] at nd
      cases b; exact nd.1.2.2.1; exact nd.2.1.2.2
    walk_at "w0"
    walk_at "w"
    refine w_ixL hL (v := .ref (pick b m1 m2)) (by cases b <;> rfl) ?_
    walk_at "w"
    rw [eb]
    walk_at "w"
    walk_at "if"
    · intro hc
      walk_at "w"
      intro t ht
      walk_at "w"
      refine ⟨p, dx, l1, l2, _, u, b, .ref t, pick b xs1 xs2, rfl, at_new ht hp, rfl, at_new ht hl, by omega, ?_⟩
      have hm' : upd (upd H t (.tup [.str "do", .int d2, .int d3])) (if b = true then l2 else l1) (.lst (pick b xs1 xs2 ++ [.ref t])) (pick b m1 m2) = some (.lst (pick b xs1 xs2)) := at_ne nlm.symm (at_new ht hm)
      walk_at "w"
      have ntl : t ≠ pick b l1 l2 := Ne.symm (ne_of_none hl ht)
      have ntm : t ≠ pick b m1 m2 := Ne.symm (ne_of_none hm ht)
      refine hQ _ _ _ (S0.to b (xs' := pick b xs1 xs2 ++ [.ref t]) (at_ne nlm upd_same) upd_same (fun c o hc n1 n2 => at_ne n2 (at_ne n1 (at_new ht hc))) fun x hx => ?_) ?_ ?_ fun c o hc n1 n2 => at_ne n2 (at_ne n1 (at_new ht hc))
      · rcases List.mem_append.mp hx with hx | hx
        · obtain ⟨t2, i2, j2, rfl, h⟩ := hi x hx
          exact ⟨t2, i2, j2, rfl, at_ne (ne_of h hm (by intro z; cases z)) (at_ne (ne_of h hl (by intro z; cases z)) (at_new ht h))⟩
        · have ex : x = .ref t := by simpa using hx
          exact ⟨t, d2, d3, ex, at_ne ntm (at_ne ntl upd_same)⟩
      · cases b
        · exact Nat.le_of_eq List.length_append
        · exact Nat.le_succ _
      · cases b
        · exact Nat.le_succ _
        · exact Nat.le_of_eq List.length_append
    · intro hc
      walk_at "w"
      intro e he
      obtain ⟨ds, hds⟩ := lst_rep (K := K) (H := upd H e (.lst [])) (xs := pick b xs1 xs2) fun x hx => let ⟨t, i, j, ex, h⟩ := hi x hx; ⟨t, i, j, ex, at_new he h⟩
      have fin0 : Q (.bl true) (upd H e (.lst [])) := hQ _ _ _ (S0.same (same_new he)) (Nat.le_succ _) (Nat.le_succ _) fun c o hc _ _ => at_new he hc
      have fin : ∀ xs', (∀ x ∈ xs', x ∈ pick b xs1 xs2) → xs'.length ≤ (pick b xs1 xs2).length + 1 → Q (.bl true) (upd (upd (upd H e (.lst [])) (pick b l1 l2) (.lst xs')) (pick b m1 m2) (.lst xs')) := fun xs' hx hlen => by
        refine hQ _ _ _ (S0.to b (xs' := xs') (at_ne nlm upd_same) upd_same (fun c o hc n1 n2 => at_ne n2 (at_ne n1 (at_new he hc))) fun x h => ?_) ?_ ?_ fun c o hc n1 n2 => at_ne n2 (at_ne n1 (at_new he hc))
        · obtain ⟨t2, i2, j2, rfl, h5⟩ := hi x (hx x h)
          exact ⟨t2, i2, j2, rfl, at_ne (ne_of h5 hm (by intro z; cases z)) (at_ne (ne_of h5 hl (by intro z; cases z)) (at_new he h5))⟩
        · cases b
          · exact hlen
          · exact Nat.le_succ _
        · cases b
          · exact Nat.le_succ _
          · exact hlen
      have hle := at_new (o' := HO.lst []) he hl
      have hme := at_new (o' := HO.lst []) he hm
      have hq1 := at_new (o' := HO.lst []) he hq
      have hi1 : ∀ x ∈ pick b xs1 xs2, Ltr (upd H e (.lst [])) x := fun x hx => let ⟨t, i, j, ex, h⟩ := hi x hx; ⟨t, i, j, ex, at_new he h⟩
      have hee : upd H e (.lst []) e = some (.lst []) := upd_same
      have hpe := at_new (o' := HO.lst []) he hp
      generalize upd H e (.lst []) = H1 at *
      generalize hxs : pick b xs1 xs2 = xs at *
      generalize hl' : pick b l1 l2 = l at *
      generalize hm' : pick b m1 m2 = m at *
      have em : ∀ {o : HO}, upd H1 l o m = some (.lst xs) := at_ne nlm.symm hme
      have eq2 : ∀ {o : HO}, upd H1 l o q = some (.lst [.int d0, .int (if b = true then 1 else 0), .int d2, .int d3]) := at_ne nql hq1
      walk_at "w"
      refine w_neR (Rep.lst hme hds) (Rep.lst hee (n := 0) .nil) (by decide) (by decide) ?_
      rw [eqv_nil, hds.len]
      have hiH : ∀ {H5 : Hp} (y : V), y ∈ xs → (∀ c o, H1 c = some o → c ≠ l → c ≠ m → H5 c = some o) → ∃ d, Rep K H5 1 y d := fun y hy kp => by
        obtain ⟨t2, i2, j2, rfl, h5⟩ := hi1 y hy
        exact Ltr.rep ⟨t2, i2, j2, rfl, kp _ _ h5 (ne_of h5 hle (by intro z; cases z)) (ne_of h5 hme (by intro z; cases z))⟩
      walk_at "w"
      walk_at "if"
      · intro hc7
        walk_at "w"
        refine ⟨p, dx, l1, l2, l, u, b, d2, xs, rfl, hpe, hl'.symm, hle, by omega, fun hn => ?_, fun hu y hy => ?_⟩
        · walk_at "w"
          walk_at "if"
          · intro _
            walk_at "w"
            exact fin0
          · intro h8
            walk_at "w"
            walk_at "if"
            · intro _
              walk_at "w"
              exact fin0
            · intro h9
              rcases hn with rfl | rfl
              · cases h9
              · cases h8
        · have h0 : 0 < xs.length := by
            have := (List.getElem?_eq_some_iff.mp hy).1
            omega
          have h8 : xs.isEmpty = false := by cases xs with
            | nil => simp at h0
            | cons a b => rfl
          walk_at "w"
          rw [h8, hu]
          walk_at "w"
          refine w_ixL em (atI_mod hy) ?_
          walk_at "w"
          refine w_popAt em (mod_lo _ h0) (mod_hi _ h0 (by omega)) (seq_mod h0) hy ?_
          walk_at "w"
          obtain ⟨d, hd⟩ := hiH y (List.mem_of_getElem? hy) (H5 := upd (upd H1 l (.lst (xs.eraseIdx (d2 % (xs.length : Int)).toNat))) m (.lst (xs.eraseIdx (d2 % (xs.length : Int)).toNat))) fun c o hc n1 n2 => at_ne n2 (at_ne n1 hc)
          refine w_eqS' hd hd (by decide) (by decide) ?_
          exact fin _ (fun x hx => List.mem_of_mem_eraseIdx hx) (Nat.le_trans (by rw [List.length_eraseIdx]; split <;> omega) (Nat.le_succ _))
      · intro hc7
        walk_at "w"
        walk_at "if"
        · intro hc8
          walk_at "w"
          refine ⟨p, dx, l1, l2, l, u, b, d2, xs, rfl, hpe, hl'.symm, hle, by omega, fun hn => ?_, fun hne => ?_⟩
          · subst hn
            walk_at "w"
            refine w_ifF rfl ?_
            walk_at "w"
            exact w_eqBB rfl fin0
          · have h0 : 0 < xs.length := by cases xs with
              | nil => exact absurd rfl hne
              | cons a b => simp
            have h8 : xs.isEmpty = false := by cases xs with
              | nil => exact absurd rfl hne
              | cons a b => rfl
            obtain ⟨y, hy⟩ := mod_get d2 h0
            walk_at "w"
            rw [h8]
            walk_at "w"
            refine w_popAt em (mod_lo _ h0) (mod_hi _ h0 (by omega)) (seq_mod h0) hy ?_
            walk_at "w"
            exact w_eqBB rfl (fin _ (fun x hx => List.mem_of_mem_eraseIdx hx) (Nat.le_trans (by rw [List.length_eraseIdx]; split <;> omega) (Nat.le_succ _)))
        · intro hc8
          walk_at "w"
          refine ⟨p, dx, l1, l2, l, u, b, d2, xs, rfl, hpe, hl'.symm, hle, by omega, fun hn => ?_, fun y hy => ?_⟩
          · subst hn
            walk_at "w"
            refine w_ifF rfl ?_
            walk_at "w"
            exact w_eqBB rfl fin0
          · have h0 : 0 < xs.length := by
              have := (List.getElem?_eq_some_iff.mp hy).1
              omega
            have h8 : xs.isEmpty = false := by cases xs with
              | nil => simp at h0
              | cons a b => rfl
            walk_at "w"
            rw [h8]
            walk_at "w"
            refine w_ixL em (atI_mod hy) ?_
            walk_at "w"
            refine w_eqBB rfl (fin _ (fun x hx => ?_) (Nat.le_of_eq List.length_append))
            rcases List.mem_append.mp hx with hx | hx
            · exact hx
            · rw [List.mem_singleton.mp hx]
              exact List.mem_of_getElem? hy
def sp_law (K : PySem.W.Frag) : Sp := fun vs H Q _ => ∃ (a : Addr) (ns : List Int), vs = [.ref a] ∧ SqL K H a (ns.map V.int) ∧ ns.length ≤ 63 ∧ ∀ H', Q (.bl true) H'
theorem rep_eq {H : Hp} {n : Nat} {x y : V} {d : PyData} (h : Rep K H n x d) (e : x = y) : Rep K H n y d := by rw [← e]; exact h
theorem ok_law (T : Tx fa fn K mg) {fd : FuncData} (F : FunD K "law" "law" (defArgs s_law) (defBody s_law) (defScope s_law) [] [] (He.ga K "law") fd) : FnOk P w K mg base (L2.CX P w) 4 (He.ga K "law") fd ["_law_script"] (sp_law K) := by
  refine FunD.ok (k := 3) F sc_law (fun vs H Q E h => ?_) (fun cdv A outer s H vs Q E hr h => ?_)
  · obtain ⟨a, ns, rfl, hS, hlen, hQ⟩ := h
    rfl
  · obtain ⟨a, ns, rfl, hS, hlen, hQ⟩ := h
    have hu := hu_of hr
    refine ⟨_, (pss_cons (ps_set (i := 1) sc_law.nd rfl (Or.inl rfl) (pe_makeO0 (T.mkr 11) (ok_Path___init__ T) (hr.mono (by decide)) rfl (T.glo 12) (passes_call (takes_of rfl rfl rfl rfl) (fun _ _ _ _ h => h))))
      (pss_cons (ps_set (i := 2) sc_law.nd rfl (Or.inl rfl) (pe_lst (pa_cons (pe_lst pa_nil) (pa_cons (pe_lst pa_nil) pa_nil))))
      (pss_cons (ps_set (i := 3) sc_law.nd rfl (Or.inl rfl) pe_bl)
      (pss_cons (ps_for (passes_of rfl) rfl (pi_range1 rfl (T.free 13) (pa_cons (pe_callB (c_min2 rfl) (by rfl) (T.free 14) (by decide +kernel) (pa_cons (pe_callB c_len (by rfl) (T.free 1) PySem.boot_len (pa_cons (pv 0) pa_nil)) (pa_cons (pe_callO (ok__law_many T) (hr.mono (by decide)) rfl (T.glo 15) (passes_call (takes_of rfl rfl rfl rfl) (fun _ _ _ _ h => h)) (pa_cons (pv 0) (pa_cons pe_int (pa_cons pe_int pa_nil)))) pa_nil))) pa_nil)) (pg_name (i := 4) sc_law.nd rfl (Or.inl rfl)) (pss_cons (ps_set (i := 5) sc_law.nd rfl (Or.inl rfl) (pe_callO (ok__law_digits T) (hr.mono (by decide)) rfl (T.glo 16) (passes_call (takes_of rfl rfl rfl rfl) (fun _ _ _ _ h => h)) (pa_cons (pe_op op_add (pe_callO (ok__law_cell T) (hr.mono (by decide)) rfl (T.glo 17) (passes_call (takes_of rfl rfl rfl rfl) (fun _ _ _ _ h => h)) (pa_cons (pv 0) (pa_cons (pv 4) pa_nil))) (pe_op op_mul pe_int (pv 4))) (pa_cons (pe_lst (pa_cons pe_int (pa_cons pe_int (pa_cons pe_int (pa_cons pe_int pa_nil))))) pa_nil))))
      (C8.pss_cut (ps_if (pt_cmpR op_eq (pe_ix ix_list (pv 5) pe_int (fun _ _ => rfl)) pe_int (nomark _)) (pss_cons (ps_set (i := 3) sc_law.nd rfl (Or.inl rfl) (pe_cmpR op_gt (pe_op op_mod (pe_ix ix_list (pv 5) pe_int (fun _ _ => rfl)) pe_int) pe_int (nomark _)))
      (pss_one (ps_expr (pe_methO (pv 1) (T.cls 2) (T.meth 18) (ok_Path_set_up T) (hr.mono (by decide)) (passes_call (takes_of rfl rfl rfl rfl) (fun _ _ _ _ h => h)) (pa_cons (pv 3) pa_nil))))) (pss_one (ps_if (pt_not (pt_val (pe_callO (ok__law_act T) (hr.mono (by decide)) rfl (T.glo 19) (passes_call (takes_of rfl rfl rfl rfl) (fun _ _ _ _ h => h)) (pa_cons (pv 1) (pa_cons (pv 2) (pa_cons (pv 5) (pa_cons (pv 3) pa_nil))))))) (pss_one (ps_ret pe_bl)) pss_nil)))
      (pss_cons (ps_if (pt_cmpR op_ne (pe_fld (pv 1) rfl) (pv 3) (nomark _)) (pss_one (ps_ret pe_bl)) pss_nil)
      (pss_one (ps_for (passes_of rfl) rfl (pi_range1 rfl (T.free 13) (pa_cons pe_int pa_nil)) (pg_name (i := 6) sc_law.nd rfl (Or.inl rfl)) (pss_cons (ps_set (i := 7) sc_law.nd rfl (Or.inl rfl) (pe_methO (pv 1) (T.cls 2) (T.meth 20) (ok_Path_letters T) (hr.mono (by decide)) (passes_call (takes_of rfl rfl rfl rfl) (fun _ _ _ _ h => h)) (pa_cons (pe_cmpR op_eq (pv 6) pe_int (nomark _)) pa_nil)))
      (pss_cons (ps_if (PW.pt (pw_or (pt_not (pt_val (pe_callB call_isi (by rfl) (T.free 7) (by decide +kernel) (pa_cons (pv 7) (pa_cons (pe_bltn (v := .ty "list") rfl (T.free 10) (by decide +kernel) rfl) pa_nil))))) (pw_or1 (pt_cmpR (op_neD hr.units) (pv 7) (pe_ix ix_list (pv 2) (pv 6) (fun _ _ => rfl)) (nomark _))))) (pss_one (ps_ret pe_bl)) pss_nil)
      (pss_one (ps_expr (pe_bm PySem.F.plainAttrs_list PySem.F.slot_list_append PySem.F.type_list_append mt_append (pv 7) (pa_cons pe_non pa_nil))))))))))))
      (pss_one (ps_ret (pe_and (pe_cmpR (op_eqD hr.units) (pe_methO (pv 1) (T.cls 2) (T.meth 20) (ok_Path_letters T) (hr.mono (by decide)) (passes_call (takes_of rfl rfl rfl rfl) (fun _ _ _ _ h => h)) (pa_cons pe_bl pa_nil)) (pe_ix ix_list (pv 2) pe_int (fun _ _ => rfl)) (nomark _)) (pe_one (pe_cmpR (op_eqD hr.units) (pe_methO (pv 1) (T.cls 2) (T.meth 20) (ok_Path_letters T) (hr.mono (by decide)) (passes_call (takes_of rfl rfl rfl rfl) (fun _ _ _ _ h => h)) (pa_cons pe_bl pa_nil)) (pe_ix ix_list (pv 2) pe_int (fun _ _ => rfl)) (nomark _)))))))))), ?_⟩
    walk_at "w0"
    walk_at "w"
    intro p dx np ndp nep
    refine ⟨p, dx, rfl, upd_same, fun l1 l2 H1 n1 n2 n12 e1 e2 e3 kp => ⟨rfl, ?_⟩⟩
    obtain ⟨q1, q2, n1⟩ := none2 n1
    obtain ⟨q3, q4, n2⟩ := none2 n2
    have s1 : Same H H1 := fun b o e => kp b o (at_new (by rw [upd_ne nep.symm]; exact np) (at_new ndp e)) (ne_of_none e np)
    walk_at "w"
    intro m1 hm1
    walk_at "w"
    intro m2 rm2
    obtain ⟨m12, hm2⟩ := none1 rm2
    walk_at "w"
    intro L rL
    obtain ⟨L1, L2, hL⟩ := none2 rL
    have sS := (s1.upd_new (o := HO.lst []) (s1.free hm1) |>.upd_new (o := HO.lst []) (s1.free hm2) |>.upd_new (o := HO.lst [.ref m1, .ref m2]) (s1.free hL))
    have hSS := sS.seq hS
    walk_at "w"
    refine ⟨a, ns, 16, 50, rfl, hSS, fun r hr => ?_⟩
    have hN : 0 ≤ (if r < ((ns.map V.int).length : Int) then r else ((ns.map V.int).length : Int)) ∧ (if r < ((ns.map V.int).length : Int) then r else ((ns.map V.int).length : Int)) ≤ 50 := by
      rw [List.length_map]
      split <;> rcases hr with rfl | rfl <;> omega
    generalize (if r < ((ns.map V.int).length : Int) then r else ((ns.map V.int).length : Int)) = N at hN ⊢
    walk_at "w"
    have zp : H p = none := np
    have hm1' := s1.free hm1
    have hm2' := s1.free hm2
    have hL' := s1.free hL
    have ne : ∀ {c d : Addr} {o : HO}, H1 c = some o → H1 d = none → c ≠ d := fun h k => ne_of_none h k
    have S0 : St9 K (upd (upd (upd H1 m1 (.lst [])) m2 (.lst [])) L (.lst [.ref m1, .ref m2])) p l1 l2 L m1 m2 true [] [] :=
      ⟨⟨dx, at_new rL (at_new rm2 (at_new hm1 e1))⟩, at_new rL (at_new rm2 (at_new hm1 e2)), at_new rL (at_new rm2 (at_new hm1 e3)), upd_same, at_ne L1.symm (at_ne m12.symm upd_same), at_ne L2.symm upd_same,
        by simp only [List.nodup_cons, List.mem_cons, List.not_mem_nil, or_false, not_or, List.nodup_nil, and_true, not_false_eq_true]; exact ⟨⟨n12, ne e2 hL, ne e2 hm1, ne e2 hm2⟩, ⟨ne e3 hL, ne e3 hm1, ne e3 hm2⟩, ⟨L1, L2⟩, m12.symm⟩, fun x h => (by cases h), fun x h => (by cases h)⟩
    refine loop_range (fun i σ H' => ∃ (u : Bool) (xs1 xs2 : List V) (v4 v5 v6 v7 : Option V), σ = [some (.ref a), some (.ref p), some (.ref L), some (.bl u), v4, v5, v6, v7] ∧ St9 K H' p l1 l2 L m1 m2 u xs1 xs2 ∧ Same H H' ∧ xs1.length ≤ i ∧ xs2.length ≤ i)
      ⟨true, [], [], none, none, none, none, rfl, S0, sS, Nat.le_refl _, Nat.le_refl _⟩ ?_ ?_
    · rintro i σ H' hi ⟨u, xs1, xs2, v4, v5, v6, v7, rfl, S, s2, z1, z2⟩
      have hS2 := s2.seq hS
      have hi' : (i : Int) < 50 := by omega
      walk_at "w"
      refine ⟨a, ns, _, rfl, hS2, by omega, fun c => ?_⟩
      walk_at "w"
      intro bs hbs
      walk_at "w"
      refine ⟨_, bs, [10, 2, 30, 5], rfl, upd_same, by decide, by decide, fun q ds rq hdl hd => ?_⟩
      obtain ⟨d0, d1, d2, d3, rfl⟩ : ∃ d0 d1 d2 d3, ds = [d0, d1, d2, d3] := by
        match ds, hdl with
        | [d0, d1, d2, d3], _ => exact ⟨d0, d1, d2, d3, rfl⟩
      obtain ⟨nqb, hq⟩ := none1 rq
      have hd1 := hd 1 d1 2 rfl rfl
      obtain ⟨b, rfl⟩ : ∃ b : Bool, d1 = (if b then 1 else 0) := by
        by_cases h : d1 = 1
        · exact ⟨true, h⟩
        · exact ⟨false, by show d1 = 0; omega⟩
      -- the heap ahead of the act
      have s3 : Same H' (upd (upd H' bs (.lst [.int 10, .int 2, .int 30, .int 5])) q (.lst [.int d0, .int (if b then 1 else 0), .int d2, .int d3])) := (same_new hbs).trans (same_new rq)
      have S3 := S.same s3
      have e3 : (upd (upd H' bs (.lst [.int 10, .int 2, .int 30, .int 5])) q (.lst [.int d0, .int (if b then 1 else 0), .int d2, .int d3])) q = some (.lst [.int d0, .int (if b then 1 else 0), .int d2, .int d3]) := upd_same
      have eL : ∀ {c : Addr} {o : HO}, H' c = some o → q ≠ c := fun h => Ne.symm (ne_of_none h hq)
      have q1 : q ≠ pick b l1 l2 := by cases b; exact eL S.h1; exact eL S.h2
      have q2 : q ≠ pick b m1 m2 := by cases b; exact eL S.g1; exact eL S.g2
      have s4 : Same H _ := s2.trans s3
      dsimp only [List.map]
      generalize hH3 : (upd (upd H' bs (.lst [.int 10, .int 2, .int 30, .int 5])) q (.lst [.int d0, .int (if b then 1 else 0), .int d2, .int d3])) = H3 at *
      obtain ⟨dy, hp3⟩ := S3.hp
      walk_at "w"
      refine w_cut (fun σ H4 => ∃ (u : Bool) (xs1 xs2 : List V), σ = [some (.ref a), some (.ref p), some (.ref L), some (.bl u), some (.int (0 + i)), some (.ref q), v6, v7] ∧ St9 K H4 p l1 l2 L m1 m2 u xs1 xs2 ∧ Same H H4 ∧ xs1.length ≤ i + 1 ∧ xs2.length ≤ i + 1) ?_ ?_
      · walk_at "w"
        walk_at "if"
        · intro hc
          walk_at "w"
          refine ⟨p, dy, l1, l2, u, _, rfl, hp3, ?_⟩
          walk_at "w"
          have np3 : ∀ {c : Addr} {xs : List V}, H3 c = some (.lst xs) → c ≠ p := fun h => ne_of h hp3 (by intro z; cases z)
          refine ⟨_, xs1, xs2, rfl, ⟨⟨dy, upd_same⟩, at_ne (np3 S3.h1) S3.h1, at_ne (np3 S3.h2) S3.h2, at_ne (np3 S3.hL) S3.hL, at_ne (np3 S3.g1) S3.g1, at_ne (np3 S3.g2) S3.g2, S3.nd, fun x h => ?_, fun x h => ?_⟩, fun c o e => at_ne (ne_of_none e np) (s4 c o e), by omega, by omega⟩
          · obtain ⟨t, i2, j2, rfl, h5⟩ := S3.i1 x h
            exact ⟨t, i2, j2, rfl, at_ne (ne_of h5 hp3 (by intro z; cases z)) h5⟩
          · obtain ⟨t, i2, j2, rfl, h5⟩ := S3.i2 x h
            exact ⟨t, i2, j2, rfl, at_ne (ne_of h5 hp3 (by intro z; cases z)) h5⟩
        · intro hc
          walk_at "w"
          refine ⟨p, L, q, l1, l2, m1, m2, u, b, d0, d2, d3, xs1, xs2, rfl, e3, S3, q1, q2, by omega, by omega, fun xs1' xs2' H4 S4 y1 y2 kp4 => ?_⟩
          walk_at "w"
          refine ⟨u, xs1', xs2', rfl, S4, fun c o e => kp4 c o (s4 c o e) ?_ ?_, by omega, by omega⟩
          · cases b
            · exact ne_of_none e n1
            · exact ne_of_none e n2
          · cases b
            · exact ne_of_none e hm1'
            · exact ne_of_none e hm2'
      · rintro σ H4 ⟨u, xs1, xs2, rfl, S4, s5, z1, z2⟩
        obtain ⟨dz, hp4⟩ := S4.hp
        walk_at "w"
        refine w_ifF (by simp) ?_
        walk_at "w"
        refine loop_range (fun j σ H5 => ∃ (v6 v7 : Option V), σ = [some (.ref a), some (.ref p), some (.ref L), some (.bl u), some (.int (0 + i)), some (.ref q), v6, v7] ∧ St9 K H5 p l1 l2 L m1 m2 u xs1 xs2 ∧ Same H H5)
          ⟨_, _, rfl, S4, s5⟩ ?_ ?_
        · rintro j σ H5 hj ⟨v6, v7, rfl, S5, s6⟩
          obtain ⟨dw, hp5⟩ := S5.hp
          obtain ⟨c, hc⟩ : ∃ c : Bool, j = (if c then 1 else 0) := by
            have hj : j < 2 := hj
            by_cases h : j = 1
            · exact ⟨true, h⟩
            · exact ⟨false, by show j = 0; omega⟩
          have ec : decide ((0 : Int) + (j : Nat) = 1) = c := by rw [hc]; cases c <;> decide
          walk_at "w"
          rw [ec]
          refine ⟨p, dw, l1, l2, pick c l1 l2, u, c, pick c xs1 xs2, rfl, hp5, rfl, by cases c; exact S5.h1; exact S5.h2, fun t ht => ?_⟩
          have S6 := S5.same (same_new (o := .lst (pick c xs1 xs2)) ht)
          obtain ⟨ds, rs⟩ := lst_rep (K := K) (H := upd H5 t (.lst (pick c xs1 xs2))) (xs := pick c xs1 xs2) (by cases c; exact S6.i1; exact S6.i2)
          have hLs := S6.hL
          have hms : upd H5 t (.lst (pick c xs1 xs2)) (pick c m1 m2) = some (.lst (pick c xs1 xs2)) := by cases c; exact S6.g1; exact S6.g2
          have ze : (pick c xs1 xs2).length ≤ 1000 := by cases c; exact (show xs1.length ≤ 1000 by omega); exact (show xs2.length ≤ 1000 by omega)
          walk_at "w"
          refine w_ixL hLs (v := .ref (pick c m1 m2)) (by rw [hc]; cases c <;> rfl) ?_
          refine w_neS' (Rep.lst upd_same rs) (Rep.lst hms rs) (by decide) (by decide) ?_
          walk_at "w"
          rw [upd_upd]
          exact ⟨_, _, rfl, S5.same (same_new ht), s6.upd_new (s6.free ht)⟩
        · rintro σ H5 ⟨v6, v7, rfl, S5, s6⟩
          exact ⟨u, xs1, xs2, _, _, _, _, rfl, S5, s6, z1, z2⟩
    · rintro σ H' ⟨u, xs1, xs2, v4, v5, v6, v7, rfl, S, s2, z1, z2⟩
      obtain ⟨dy, hp⟩ := S.hp
      have h1 := S.h1
      have h2 := S.h2
      have hL6 := S.hL
      have g1 := S.g1
      have g2 := S.g2
      obtain ⟨ds1, r1⟩ := lst_rep (K := K) S.i1
      obtain ⟨ds2, r2⟩ := lst_rep (K := K) S.i2
      walk_at "w"
      refine ⟨p, dy, l1, l2, l1, u, false, xs1, rfl, hp, rfl, h1, fun t ht => ?_⟩
      have S6 := S.same (same_new (o := .lst xs1) ht)
      obtain ⟨ds1, r1⟩ := lst_rep (K := K) S6.i1
      have hL6 := S6.hL
      walk_at "w"
      refine w_eqS' (Rep.lst upd_same r1) (Rep.lst S6.g1 r1) (by decide) (by decide) ?_
      walk_at "w"
      refine ⟨p, dy, l1, l2, l2, u, true, xs2, rfl, at_new ht hp, rfl, S6.h2, fun t2 ht2 => ?_⟩
      have S7 := S6.same (same_new (o := .lst xs2) ht2)
      obtain ⟨ds2, r2⟩ := lst_rep (K := K) S7.i2
      have hL7 := S7.hL
      walk_at "w"
      exact w_eqS' (Rep.lst upd_same r2) (Rep.lst S7.g2 r2) (by decide) (by decide) (hQ _)
end
abbrev R : PySem.W.OpenRow := PySem.W.OpenLaw.row PySem.Challenge.rw_spindlegate_k09_letters_on_their_way
abbrev hk : PySem.W.Hook := He.hookD 5 fa fn
def ob (s : PySem.W.SharedT) : He.AlD := He.obsDG 5 fa fn (HandSHeadRun.getT s)
theorem ob_eq (s : PySem.W.SharedT) : ob s = hk.obs s.abs := He.obsDG_eq (HandSHeadRun.getT_eq s)
theorem run (w : World) : HandSHeadRun.RunEq R (PySem.W.view R.prog [7]) hk ob 2000 ["Path", "_law_cell", "_law_digits", "_law_many", "_law_act"] w := by
  intro os
  kernel_rfl
theorem facts {P : Program} {w : World} {K : PySem.W.Frag} {h : Heap} {mg : Str → Option Value} {f : Addr} (X : K.In h) (G : h.Ns mainGlobals mg) (hfa : mg ("law" : Str) = some (.ref f)) (c : He.SaysD fa fn K) :
    ∃ fd : FuncData, (∀ (s : Shared) (v : Value), BindsTo s fd ⟨[v], []⟩ [("_law_script", v)]) ∧ ∀ base : Heap, K.In base → base.Ns mainGlobals mg → FnOk P w K mg base (L2.CX P w) 4 f fd ["_law_script"] (sp_law K) := by
  obtain ⟨fd, F⟩ := c.def_ 12 (d := d_law) rfl
  have e := hfa.symm.trans (He.glo_ok X G (c.fact 24 (f := .glo "law") rfl))
  cases e
  have b := FunD.bindsA (ps := ["_law_script"]) F fun _ _ _ _ _ _ us hl => match us, hl with | [_], _ => rfl
  exact ⟨fd, fun s v => b s [v] rfl, fun base _ _ => ok_law ⟨⟨h, X, G⟩, c⟩ F⟩
end K09
open PySem PySem.W PySem.Calls PyProof.Rows
set_option maxRecDepth 100000 in
set_option maxHeartbeats 0 in
theorem PySem.Challenge.cw_spindlegate_k09_letters_on_their_way_holds : PySem.Challenge.rw_spindlegate_k09_letters_on_their_way.Holds := by
  w_on; o_law
  refine HandSHeadRun.head_any (r := OpenLaw.row PySem.Challenge.rw_spindlegate_k09_letters_on_their_way) (q := view (OpenLaw.row PySem.Challenge.rw_spindlegate_k09_letters_on_their_way).prog [7]) (H := K09.hk) (ob := K09.ob) (M := 2000) (loose := ["Path", "_law_cell", "_law_digits", "_law_many", "_law_act"]) (d := HandSHeadRun.topDef (OpenLaw.row PySem.Challenge.rw_spindlegate_k09_letters_on_their_way).prog 7) (kwd := []) K09.ob_eq
    (by kernel_rfl) (fun s => by kernel_rfl) K09.run (by kernel_rfl) (by kernel_rfl) (by kernel_rfl) (by rfl) (by first | assumption | decide +kernel) (by decide +kernel) ⟨rfl, rfl, rfl, rfl, rfl, by decide +kernel⟩ ?hw ?hc
  case hw => w_witness2
  case hc =>
    refine Sp.walk_ofW (l := PySem.Challenge.rw_spindlegate_k09_letters_on_their_way) (n := 63) (k := 4) (x := "_law_script") rfl (by decide) (by kernel_rfl) ⟨rfl, by decide, by decide⟩ ?F
    intro w mg fa h Y G hmg0
    obtain ⟨K, KX, c⟩ := Y
    have hmg : mg ("law" : PySem.Str) = some (.ref fa) := by
      have e : (HandSHeadRun.topDef (OpenLaw.row PySem.Challenge.rw_spindlegate_k09_letters_on_their_way).prog 7).name = ("law" : PySem.Str) := by kernel_rfl
      rw [← e]
      exact hmg0
    obtain ⟨fd, hb, hF⟩ := K09.facts (P := (PySem.Challenge.rw_spindlegate_k09_letters_on_their_way).prog) (w := w) KX G hmg c
    exact ⟨K, fd, K09.sp_law K, KX, hb, fun H a ns hl _ hS => ⟨a, ns, rfl, hS, hl, fun _ => rfl⟩, hF⟩

