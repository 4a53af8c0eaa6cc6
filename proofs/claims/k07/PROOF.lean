import PyProof.Rows.All
import Wide.All
import OpenK.AllK
import Wide.FinOn
import PyProof.EqAt
import PyProof.EqKinds
import PyProof.TupleCall
import PyProof.P3Eq
import HandS.ForMost
import HandS.Exc
import HandS.TryOnly
import HandS.ExcOwn
import HandS.WordsExc
import HandS.ExcIs
import HandS.IsInst
import HandS.Codes
import HandS.DeepEq
import HandS.More
import HandS.Dict
import HandS.Conv
import HandS.Small
import HandS.Flow
import HandS.Style
import HandS.Zip
import HandS.TupAny
import HandS.SortInts
import HandS.Defaults
import HandS.HeadEnd
import HandS.HeadHook1
import HandS.HeadHook2
import HandS.HeadHook3
import HandS.HeadHook4
import HandS.Head0
import HandS.Head1
import HandS.Head2
import HandS.TupLen
import HandS.Strs
import HandS.SortRule
import KE.DatumOrd
import HandS.SortKw
import PySem.Challenge.RW_spindlegate_k07_log_after_cuts
set_option Elab.async false
set_option linter.all false
set_option maxRecDepth 100000
set_option maxHeartbeats 4000000
namespace Sp
open PySem PySem.Spec PyProof.Rows L2

/-! ### the head's facts in use -/
structure Tx (fa : List He.Fa) (fn : List He.DefD) (ts : List He.Tab) (exs : List (PySem.W.Frag → Bool)) (w : World) (K : PySem.W.Frag) (mg : Str → Option Value) : Prop where
  hp : ∃ h : Heap, K.In h ∧ h.Ns mainGlobals mg
  says : He.SaysT fa fn ts w K
  more : (exs.all fun f => f K) = true
section
variable {fa : List He.Fa} {fn : List He.DefD} {ts : List He.Tab} {exs : List (PySem.W.Frag → Bool)} {w : World} {K : PySem.W.Frag} {mg : Str → Option Value}
theorem Tx.glo (T : Tx fa fn ts exs w K mg) (i : Nat) {x : Str} (e : fa[i]? = some (.glo x) := by rfl) : mg x = some (.ref (He.ga K x)) :=
  let ⟨_, X, G⟩ := T.hp; He.glo_ok X G (T.says.d.fact i e)
theorem Tx.free (T : Tx fa fn ts exs w K mg) (i : Nat) {x : Str} (e : fa[i]? = some (.free x) := by rfl) : mg x = none :=
  let ⟨_, X, G⟩ := T.hp; He.free_ok X G (T.says.d.fact i e)
theorem Tx.int (T : Tx fa fn ts exs w K mg) (i : Nat) {x : Str} {n : Int} (e : fa[i]? = some (.int x n) := by rfl) : ∃ t, mg x = some (.int n t) :=
  let ⟨_, X, G⟩ := T.hp; He.int_ok X G (T.says.d.fact i e)
theorem Tx.str (T : Tx fa fn ts exs w K mg) (i : Nat) {x z : Str} (e : fa[i]? = some (.str x z) := by rfl) : ∃ t, mg x = some (.str z t) :=
  let ⟨_, X, G⟩ := T.hp; He.str_ok X G (T.says.d.fact i e)
theorem Tx.cls (T : Tx fa fn ts exs w K mg) (i : Nat) {x : Str} (e : fa[i]? = some (.cls x) := by rfl) : Cls K (He.ga K x) := He.cls_ok (T.says.d.fact i e)
theorem Tx.noat (T : Tx fa fn ts exs w K mg) (i : Nat) {x f : Str} (e : fa[i]? = some (.noat x f) := by rfl) : NoAttr K (He.ga K x) f := He.noat_ok (T.says.d.fact i e)
theorem Tx.meth (T : Tx fa fn ts exs w K mg) (i : Nat) {x m : Str} (e : fa[i]? = some (.meth x m) := by rfl) : Meth K (He.ga K x) m (He.ma K (He.ga K x) m) := He.meth_ok (T.says.d.fact i e)
theorem Tx.mkr (T : Tx fa fn ts exs w K mg) (i : Nat) {x : Str} (e : fa[i]? = some (.mkr x) := by rfl) : Mk K (He.ga K x) (He.ma K (He.ga K x) "__init__") := He.mkr_ok (T.says.d.fact i e)
theorem Tx.exc (T : Tx fa fn ts exs w K mg) (i : Nat) {x : Str} (e : fa[i]? = some (.exc x) := by rfl) : PySem.W.excIn K (He.ga K x) He.veBase "ValueError.__new__" = true ∧ PySem.W.keepIn K (.ref (He.ga K x)) = true ∧ PySem.W.subIn K (.ref (He.ga K x)) (.type "BaseException") = some true ∧
    PySem.W.typeIn K (.ref (He.ga K x)) = some (.type "type") := He.exc_ok (T.says.d.fact i e)
theorem Tx.exm (T : Tx fa fn ts exs w K mg) (i : Nat) {x y : Str} {b : Bool} (e : fa[i]? = some (.exm x y b) := by rfl) : PySem.W.exmOne K (.ref (He.ga K x)) (.ref (He.ga K y)) = some b := He.exm_ok (T.says.d.fact i e)
theorem Tx.ex (T : Tx fa fn ts exs w K mg) (i : Nat) {f : PySem.W.Frag → Bool} (e : exs[i]? = some f := by rfl) : f K = true := List.all_eq_true.mp T.more f (List.mem_of_getElem? e)
end
/-! an empty tuple within a written tuple, as a look -/
def fstA (x : Str) (K : PySem.W.Frag) : Addr := match K.lookup (He.ga K x) with
  | some ⟨_, _, .seq its _, _⟩ => (match its.toList with
    | .ref a :: _ => a
    | _ => 0)
  | _ => 0
def emptyB (p : PySem.W.Frag → Addr) (K : PySem.W.Frag) : Bool := match K.lookup (p K) with
  | some ⟨.type c, _, .seq its _, _⟩ => decide (c = "tuple") && its.isEmpty
  | _ => false
theorem emptyB_ok {p : PySem.W.Frag → Addr} {K : PySem.W.Frag} (h : emptyB p K = true) (H : Hp) : SqT K H (p K) [] := by
  unfold emptyB at h
  cases q : K.lookup (p K) with
  | none => rw [q] at h; cases h
  | some o =>
    obtain ⟨oc, od, dt, osl⟩ := o
    rw [q] at h
    cases oc with
    | type c =>
      cases dt with
      | seq its n =>
        obtain ⟨h1, h2⟩ := He.ba (show (decide (c = "tuple") && its.isEmpty) = true from h)
        have e : its = #[] := Array.isEmpty_iff.mp h2
        subst e
        exact .inr ⟨_, #[], n, q, congrArg Value.type (of_decide_eq_true h1), rfl, Nat.zero_le _, .nil⟩
      | _ => cases h
    | _ => cases dt <;> cases h
/-! what the class of an own error says, as a look -/
def excB (x : Str) (K : PySem.W.Frag) : Bool :=
  He.eqO (PySem.W.findIn K (.ref (He.ga K x)) "__getattribute__") (some (some (.builtin "BaseException.__getattribute__"))) && (He.eqO (PySem.W.findIn K (.ref (He.ga K x)) "__getattr__") (some none) && (decide (PySem.W.subIn K (.ref (He.ga K x)) (.type "BaseException") = some true) &&
  (PySem.W.hasDictIn K (He.ga K x) && (He.eqO (PySem.W.findIn K (.ref (He.ga K x)) "__class__") (some (some (.builtin "object.__class__"))) && (He.eqO (PySem.W.specialIn K (.builtin "object.__class__") "__get__") (some (some (.builtin "getset_descriptor.__get__"))) &&
  (decide (PySem.W.takesIn K (.builtin "object.__class__") = some true) && decide (PySem.W.mroIn K (He.ga K x) (.type "object") = some true)))))))
theorem excB_ok {x : Str} {K : PySem.W.Frag} (h : excB x K = true) : ExcC K (He.ga K x) := by
  obtain ⟨h1, h⟩ := He.ba h
  obtain ⟨h2, h⟩ := He.ba h
  obtain ⟨h3, h⟩ := He.ba h
  obtain ⟨h4, h⟩ := He.ba h
  obtain ⟨h5, h⟩ := He.ba h
  obtain ⟨h6, h⟩ := He.ba h
  obtain ⟨h7, h8⟩ := He.ba h
  exact ⟨He.eqO_ok h1, He.eqO_ok h2, of_decide_eq_true h3, h4, He.eqO_ok h5, He.eqO_ok h6, of_decide_eq_true h7, of_decide_eq_true h8⟩
/-- isinstance of an error of the class x and a class y -/
def kitB2 (x y : Str) (b : Bool) (K : PySem.W.Frag) : Bool := decide (PySem.W.kitOne K (.ref (He.ga K x)) (.ref (He.ga K y)) = some b)
theorem kitB2_ok {x y : Str} {b : Bool} {K : PySem.W.Frag} (h : kitB2 x y b K = true) : PySem.W.kitOne K (.ref (He.ga K x)) (.ref (He.ga K y)) = some b := of_decide_eq_true h
/-- isinstance(e, C) within a suite, whatever error it holds -/
def rIsG (K : PySem.W.Frag) (a : Addr) (cls : Value) (d : Option Addr) : List V → Hp → VK → Prop := fun xs H Q => ∃ D c b, cls = .ref D ∧ d = none ∧ ExcC K D ∧ xs = [.ref a, .ref c] ∧ PySem.W.kitOne K (.ref D) (.ref c) = some b ∧ Q (.bl b) H
theorem call_isG {X : Cx} {a : Addr} {cls : Value} {d : Option Addr} {oe : Obj} {pn : List (Addr × Obj)} (hz : Zc cls d oe) (hf : ∃ vs, oe.data = .fields vs) : CallR (X.suite a ((a, oe) :: pn)) (.builtin "isinstance") (rIsG X.K a cls d) := by
  intro pins s σ H xs us Q I r h
  obtain ⟨D, c, b, rfl, rfl, C, rfl, e, q⟩ := h
  exact call_isE C hz hf pins s σ H _ us Q I r ⟨.ref c, .ref c, b, rfl, fun u ru => ru, e, q⟩
theorem w_isG {K : PySem.W.Frag} {a D c : Addr} {b : Bool} {H : Hp} {Q : VK} (C : ExcC K D) (e : PySem.W.kitOne K (.ref D) (.ref c) = some b) (k : Q (.bl b) H) : rIsG K a (.ref D) none [.ref a, .ref c] H Q := ⟨D, c, b, rfl, rfl, C, rfl, e, k⟩

/-! ### a def that holds its promise -/
def Okd (P : Program) (w : World) (K : PySem.W.Frag) (mg : Str → Option Value) (base : Heap) (p : Str × Option Str) (k : Nat) (ps : List Str) (sp : Sp) : Prop :=
  ∃ fd, Binds K fd ps [] ∧ PySem.W.keepIn K (.ref (He.fAd K p)) = true ∧ FnOk P w K mg base (L2.CX P w) k (He.fAd K p) fd ps sp
section
variable {P : Program} {w : World} {K : PySem.W.Frag} {mg : Str → Option Value} {base : Heap} {fa : List He.Fa} {fn : List He.DefD} {ts : List He.Tab} {exs : List (PySem.W.Frag → Bool)}
theorem okd (T : Tx fa fn ts exs w K mg) (i : Nat) {at_ : Str × Option Str} {name qual : Str} {params : Arguments} {body : List Stmt} {scope : Scope} {N ps : List Str} {k : Nat} {sp : Sp}
    (e : fn[i]? = some ⟨at_, name, qual, params, body, scope, [], []⟩) (S : FnScope N ps scope)
    (hb : ∀ (kV doc pm : Value) (an : Option Addr) (cdv ct : Value) (us : List Value), us.length = ps.length → bindArgs (PySem.W.fnOf name qual params body scope .none kV doc pm an cdv ct) ⟨us, []⟩ = pure (ps.zip us))
    (len : ∀ vs H Q E, sp vs H Q E → vs.length = ps.length)
    (hbody : ∀ (f : Addr) (cdv : Value) (A : Around) (outer : List Env) (s : Shared) (H : Hp) (vs : List V) (Q : VK) (E : XK), Room k (A.deeper (envOfC qual scope s.heap.objs.size f cdv)) → sp vs H Q E →
      ∃ t, PSs (cxOf (L2.CX P w) P w K mg base N qual scope f cdv A outer s H E) body t ∧ t { nx := fun _ H' => Q .non H', rt := Q } (start N vs) H) :
    Okd P w K mg base at_ (k + 1) ps sp := by
  obtain ⟨fd, F⟩ := T.says.d.def_ i e
  exact ⟨fd, F.bindsN hb, F.kp, FunD.ok F S len (hbody _)⟩
end
section
variable {X : Cx} {k : Nat} {ps : List Str} {sp : Sp} {E : XK} {x m C : Str} {p pos apos : Pos} {e o : Expr} {es : List Expr} {ta : TE} {t : TA}
theorem pe_callO (O : Okd X.prog X.w X.K X.mg X.base (x, none) k ps sp) (hr : Room k X.A) (hg : Gl X x) (hm : X.mg x = some (.ref (He.ga X.K x))) (hx : Passes (L2.CX X.prog X.w) X E) (ha : PA X (e :: es) t) (hdb : (x == ("__debug__" : Str)) = false := by decide)
    (he : starEach (e :: es) X.env = (false, eval e X.env) :: starEach es X.env := by rfl) (hpl : (backTo pos (starEach es X.env)).any (·.1) = false := by rfl) : PE X (.Call (.Name x p) (e :: es) [] pos) (tCall sp [] E t) :=
  let ⟨_, hb, hk, F⟩ := O; pe_call F hr hg hm hk hb .nil hx ha hdb he hpl
theorem pe_callO0 (O : Okd X.prog X.w X.K X.mg X.base (x, none) k ps sp) (hr : Room k X.A) (hg : Gl X x) (hm : X.mg x = some (.ref (He.ga X.K x))) (hx : Passes (L2.CX X.prog X.w) X E) (hdb : (x == ("__debug__" : Str)) = false := by decide) :
    PE X (.Call (.Name x p) [] [] pos) (tCall sp [] E tNil) :=
  let ⟨_, hb, hk, F⟩ := O; pe_call0 F hr hg hm hk hb .nil hx hdb
theorem pe_callOS {E : L2.St → XK} (O : Okd X.prog X.w X.K X.mg X.base (x, none) k ps sp) (hr : Room k X.A) (hg : Gl X x) (hm : X.mg x = some (.ref (He.ga X.K x))) (hx : ∀ σ, PassesAt (L2.CX X.prog X.w) X σ (E σ)) (ha : PA X (e :: es) t) (hdb : (x == ("__debug__" : Str)) = false := by decide)
    (he : starEach (e :: es) X.env = (false, eval e X.env) :: starEach es X.env := by rfl) (hpl : (backTo pos (starEach es X.env)).any (·.1) = false := by rfl) : PE X (.Call (.Name x p) (e :: es) [] pos) (tCallS sp E t) :=
  let ⟨_, hb, hk, F⟩ := O; pe_callS F hr hg hm hk hb hx ha hdb he hpl
theorem pe_methO {pl : Sem Bool} (he : PE X o ta) (c : Cls X.K (He.ga X.K C)) (hm : Meth X.K (He.ga X.K C) m (He.ma X.K (He.ga X.K C) m)) (O : Okd X.prog X.w X.K X.mg X.base (C, some m) k ps sp) (hr : Room k X.A) (hx : Passes (L2.CX X.prog X.w) X E) (ha : PA X (e :: es) t)
    (hst : starEach (e :: es) X.env = (false, eval e X.env) :: starEach es X.env := by rfl) (hpl : (backTo pos (starEach es X.env)).any (·.1) = false := by rfl)
    (ht : eval (.Call (.Attribute o m apos) (e :: es) [] pos) X.env = (do
      let ov ← eval o X.env
      standAt apos.atName
      let (f, first) ← holding [ov] (getMethod ov m pl)
      callWith pos f first (backTo pos (starEach (e :: es) X.env)) (backToKw pos (keywordEach [] X.env))) := by rfl) :
    PE X (.Call (.Attribute o m apos) (e :: es) [] pos) (tMeth (He.ga X.K C) m sp [] E ta t) :=
  let ⟨_, hb, _, F⟩ := O; pe_meth he c hm F hr hb .nil hx ha hst hpl ht
theorem pe_methO0 {pl : Sem Bool} (he : PE X o ta) (c : Cls X.K (He.ga X.K C)) (hm : Meth X.K (He.ga X.K C) m (He.ma X.K (He.ga X.K C) m)) (O : Okd X.prog X.w X.K X.mg X.base (C, some m) k ps sp) (hr : Room k X.A) (hx : Passes (L2.CX X.prog X.w) X E)
    (ht : eval (.Call (.Attribute o m apos) [] [] pos) X.env = (do
      let ov ← eval o X.env
      standAt apos.atName
      let (f, first) ← holding [ov] (getMethod ov m pl)
      callWith pos f first (backTo pos (starEach [] X.env)) (backToKw pos (keywordEach [] X.env))) := by rfl) :
    PE X (.Call (.Attribute o m apos) [] [] pos) (tMeth (He.ga X.K C) m sp [] E ta tNil) :=
  let ⟨_, hb, _, F⟩ := O; pe_meth0 he c hm F hr hb .nil hx ht
theorem pe_makeO (M : Mk X.K (He.ga X.K C) (He.ma X.K (He.ga X.K C) "__init__")) (O : Okd X.prog X.w X.K X.mg X.base (C, some "__init__") k ps sp) (hr : Room (k + 1) X.A) (hg : Gl X C) (hm : X.mg C = some (.ref (He.ga X.K C))) (hx : Passes (L2.CX X.prog X.w) X E)
    (ha : PA X (e :: es) t) (hdb : (C == ("__debug__" : Str)) = false := by decide) (he : starEach (e :: es) X.env = (false, eval e X.env) :: starEach es X.env := by rfl) (hpl : (backTo pos (starEach es X.env)).any (·.1) = false := by rfl) :
    PE X (.Call (.Name C p) (e :: es) [] pos) (tMake (He.ga X.K C) sp [] E t) :=
  let ⟨_, hb, _, F⟩ := O; pe_make M F hr hg hm hb .nil hx ha hdb he hpl
theorem pe_makeO0 (M : Mk X.K (He.ga X.K C) (He.ma X.K (He.ga X.K C) "__init__")) (O : Okd X.prog X.w X.K X.mg X.base (C, some "__init__") k ps sp) (hr : Room (k + 1) X.A) (hg : Gl X C) (hm : X.mg C = some (.ref (He.ga X.K C))) (hx : Passes (L2.CX X.prog X.w) X E)
    (hdb : (C == ("__debug__" : Str)) = false := by decide) : PE X (.Call (.Name C p) [] [] pos) (tMake (He.ga X.K C) sp [] E tNil) :=
  let ⟨_, hb, _, F⟩ := O; pe_make0 M F hr hg hm hb .nil hx hdb
/-! ### a module's names as values -/
theorem pe_globI {n : Int} (hg : Gl X x) (hm : ∃ t, X.mg x = some (.int n t)) (hd : (x == ("__debug__" : Str)) = false := by decide) : PE X (.Name x pos) (tC (.int n)) :=
  let ⟨_, h⟩ := hm; pe_glob hg h ⟨_, rfl⟩ hd
theorem pe_globS {z : Str} (hg : Gl X x) (hm : ∃ t, X.mg x = some (.str z t)) (hd : (x == ("__debug__" : Str)) = false := by decide) : PE X (.Name x pos) (tC (.str z)) :=
  let ⟨_, h⟩ := hm; pe_glob hg h ⟨_, rfl⟩ hd
theorem pe_globR {a : Addr} (hg : Gl X x) (hm : X.mg x = some (.ref a)) (hd : (x == ("__debug__" : Str)) = false := by decide) : PE X (.Name x pos) (tC (.ref a)) := pe_glob hg hm rfl hd
/-! ### raise C() -/
theorem pmk_own0 {a : Addr} {B newId initId : String} {bmB : List Value} (F : ExcBaseFacts B newId initId bmB)
    (q : PySem.W.excIn X.K a bmB newId = true ∧ PySem.W.keepIn X.K (.ref a) = true ∧ PySem.W.subIn X.K (.ref a) (.type "BaseException") = some true ∧ PySem.W.typeIn X.K (.ref a) = some (.type "type")) (gC : X.mg x = some (.ref a)) (hg : Gl X x)
    (hdb : (x == ("__debug__" : Str)) = false := by decide) : PMk X (.Call (.Name x p) [] [] pos) (fun _ H Q => Q (.ref a) none H) := by
  obtain ⟨q1, q2, q3, q4⟩ := q
  intro pins s σ H Q I h
  refine wpAny_Call_Name_kw (ld_glob I hg gC ?_ hdb)
  refine PySem.W.callWith_K0 I.kIn q2 ?_
  show wpAny _ _ (call (.ref a) []) _ _ _
  obtain ⟨bm, N, nm, qn, bs, hdct, sn, sub, ab, col, dd, k0, k1, k2, k3, k5, mN, hC, hN, hni, T⟩ := exc_obj I.kIn q1
  refine wpAny_call_exc_subT F T hC hN hni (fun h' e hm => ?_) (by show 0 ≤ sizeLine; rw [sizeLine_eq]; omega)
  exact mk_of I hm (raises_own q3 q4) h (I.hok.gone hm.new)
end

/-! ### readings, step by step: each with a head of its own -/
abbrev TSt := L2.St
def rBl (QB : Bool → Hp → Prop) (x : V) (H : Hp) : Prop := ∃ k, x = .bl k ∧ QB k H
def rIf (b : Bool) (A B : Prop) : Prop := if b = true then A else B
def rNewT (xs : List V) (H : Hp) (Q : VK) : Prop := xs.length ≤ sizeLine ∧ ∀ p, H p = none → Q (.ref p) (upd H p (.tup xs))
def rNewL (xs : List V) (H : Hp) (Q : VK) : Prop := xs.length ≤ sizeLine ∧ ∀ p, H p = none → Q (.ref p) (upd H p (.lst xs))
theorem putF_le {f : Str} {y : V} {n : Nat} : ∀ {fs : List (Str × V)}, fs.length ≤ n → (putF f y fs).length ≤ n + 1
  | [], _ => by show 1 ≤ n + 1; omega
  | (g, x) :: r, h => by
    unfold putF
    have h2 : r.length + 1 ≤ n := h
    split
    · show r.length + 1 ≤ n + 1; omega
    · have := putF_le (f := f) (y := y) (n := n - 1) (fs := r) (by omega)
      show (putF f y r).length + 1 ≤ n + 1; omega
theorem putF_lt {f : Str} {y : V} {n : Nat} {fs : List (Str × V)} (h : fs.length < n) : (putF f y fs).length < n + 1 := Nat.lt_of_le_of_lt (putF_le (Nat.le_refl _)) (Nat.succ_lt_succ h)
def rFldG (K : PySem.W.Frag) (f : Str) (x : V) (H : Hp) (Q : VK) : Prop := ∃ a C dx fs v, x = .ref a ∧ H a = some (.ins C dx fs) ∧ Cls K C ∧ NoAttr K C f ∧ fs.lookup f = some v ∧ Q v H
def rFldS (K : PySem.W.Frag) (f : Str) (y x : V) (H : Hp) (R : Hp → Prop) : Prop := ∃ a C dx fs, x = .ref a ∧ H a = some (.ins C dx fs) ∧ Cls K C ∧ NoAttr K C f ∧ fs.length < 1000 ∧ R (upd H a (.ins C dx (putF f y fs)))
def rMethA (C : Addr) (m : Str) (x : V) (H : Hp) (R : Prop) : Prop := ∃ a dx fs, x = .ref a ∧ H a = some (.ins C dx fs) ∧ fs.lookup m = none ∧ R
def rLenA (K : PySem.W.Frag) : List V → Hp → VK → Prop := fun xs H Q => ∃ x n, xs = [x] ∧ LenV K x H n ∧ Q (.int (n : Nat)) H
def rIntA : List V → Hp → VK → Prop := fun xs H Q => (∃ i, xs = [.int i] ∧ Q (.int i) H) ∨ ∃ k, xs = [.bl k] ∧ Q (.int (if k then 1 else 0)) H
def rAbsA : List V → Hp → VK → Prop := fun xs H Q => ∃ i, xs = [.int i] ∧ Q (.int (if i < 0 then -i else i)) H
def rMinA : List V → Hp → VK → Prop := fun xs H Q => ∃ i j, xs = [.int i, .int j] ∧ Q (.int (if j < i then j else i)) H
def rMaxA : List V → Hp → VK → Prop := fun xs H Q => ∃ i j, xs = [.int i, .int j] ∧ Q (.int (if j > i then j else i)) H
def rListA (K : PySem.W.Frag) : List V → Hp → VK → Prop := fun xs H Q => ∃ p ys, xs = [.ref p] ∧ (SqL K H p ys ∨ SqT K H p ys) ∧ ∀ l, H l = none → Q (.ref l) (upd H l (.lst ys))
def rIsNA : R2 := fun x y H Q => y = .non ∧ Q (.bl (decide (x = .non))) H
def rNotNA : R2 := fun x y H Q => y = .non ∧ Q (.bl (!decide (x = .non))) H
def rTru (K : PySem.W.Frag) (x : V) (H : Hp) (QB : Bool → Hp → Prop) : Prop := ∃ k, TruV K x H k ∧ QB k H
def tTruA (K : PySem.W.Frag) (te : TE) : TT := fun σ H Q => te σ H fun x H' => rTru K x H' Q
def rItL (K : PySem.W.Frag) (x : V) (H : Hp) (R : It → Hp → Prop) : Prop := ∃ a, x = .ref a ∧ (∃ xs, SqL K H a xs) ∧ R (Itl K a) H
def rItT (K : PySem.W.Frag) (x : V) (H : Hp) (R : It → Hp → Prop) : Prop := ∃ a, x = .ref a ∧ (∃ xs, SqT K H a xs) ∧ R (Itt K a) H
def rItR1 (vs : List V) (H : Hp) (R : It → Hp → Prop) : Prop := ∃ j : Int, vs = [.int j] ∧ -(2 ^ 62) ≤ j ∧ j < 2 ^ 62 ∧ R (Itr 0 j.toNat) H
def rItR2 (vs : List V) (H : Hp) (R : It → Hp → Prop) : Prop := ∃ i j : Int, vs = [.int i, .int j] ∧ (-(2 ^ 62) ≤ i ∧ i < 2 ^ 62 ∧ -(2 ^ 62) ≤ j ∧ j < 2 ^ 62) ∧ R (Itr i (j - i).toNat) H
def Loop (g : TG) (tb : TS) (D : Ends) (σ : TSt) (J : It) (H1 : Hp) : Prop := ∃ W : Nat → Nat → TSt → Hp → Prop, (∃ m, W 0 m σ H1) ∧ ∀ i m σ H, W i m σ H →
  (J.stop i H ∧ D.nx σ H) ∨ (J.go i H ∧ ∃ N : TSt → Hp → Prop, (∀ σ' H', N σ' H' → ∃ m', m' < m ∧ W (i + 1) m' σ' H') ∧ ∀ x H', J.yld i H x H' → g x σ H' fun σ2 H2 => tb { D with nx := N, ct := N, bk := D.nx } σ2 H2)
section
variable {X : Cx}
theorem pt_truthA {e : Expr} {te : TE} (h : PE X e te) (hs : ∀ whole, isTrue e X.env whole = (do let v ← whole; standAt e.pos; holding [v] (truthy v)) := by intro _; rfl) : PT X e (tTruA X.K te) := pt_truth h hs
theorem c_len : CallR X (.builtin "len") (rLenA X.K) := call_len
theorem c_int : CallR X (.type "int") rIntA := call_int1
theorem c_abs : CallR X (.builtin "abs") rAbsA := call_abs
theorem c_min2 (hc : X.calm = true) : CallR X (.builtin "min") rMinA := call_min2 hc
theorem c_max2 (hc : X.calm = true) : CallR X (.builtin "max") rMaxA := call_max2 hc
theorem c_list : CallR X (.type "list") (rListA X.K) := call_list_of
theorem o_isN : OpR X (compareOp .Is) rIsNA := op_isN
theorem o_notN : OpR X (compareOp .IsNot) rNotNA := op_notN
end
section
variable {nx bk ct : TSt → Hp → Prop} {rt : VK} {K : PySem.W.Frag} {σ : TSt} {H : Hp} {Q : VK} {QB : Bool → Hp → Prop} {QA : List V → Hp → Prop} {D : Ends} {v x y : V} {i j : Int} {b c : Bool} {p a : Addr} {xs ys : List V} {ta tb te tc : TE} {tt tu : TT} {tA : TA} {r : R2} {s u : TS} {A B R : Prop}
theorem w_start {t : TS} {σ' : TSt} (e : σ = σ') (k : t D σ' H) : t D σ H := by rw [e]; exact k
theorem w_var {n : Nat} (h : σ[n]? = some (some v)) (k : Q v H) : tVar n σ H Q := ⟨v, h, k⟩
theorem w_c (k : Q v H) : tC v σ H Q := k
theorem w_op (k : ta σ H fun x H1 => tb σ H1 fun y H2 => r x y H2 Q) : tOp r ta tb σ H Q := k
theorem w_un {r : V → Hp → VK → Prop} (k : ta σ H fun x H1 => r x H1 Q) : tUn r ta σ H Q := k
theorem w_I0 {g : Int → Int → V} (k : Q (g i j) H) : rI0 g (.int i) (.int j) H Q := ⟨i, j, rfl, rfl, k⟩
theorem w_I {C : Int → Int → Prop} {g : Int → Int → V} (hc : C i j) (k : Q (g i j) H) : rI C g (.int i) (.int j) H Q := ⟨i, j, rfl, rfl, hc, k⟩
theorem w_U {g : Int → V} (k : Q (g i) H) : rU g (.int i) H Q := ⟨i, rfl, k⟩
theorem w_eq (h : scal x y = true) (k : Q (.bl (decide (x = y))) H) : rEq x y H Q := ⟨h, k⟩
theorem w_ne (h : scal x y = true) (k : Q (.bl (!decide (x = y))) H) : rNe x y H Q := ⟨h, k⟩
theorem w_eqI (k : Q (.bl (decide (i = j))) H) : rEq (.int i) (.int j) H Q := ⟨rfl, by rw [show decide (V.int i = V.int j) = decide (i = j) from by simp]; exact k⟩
theorem w_neI (k : Q (.bl (!decide (i = j))) H) : rNe (.int i) (.int j) H Q := ⟨rfl, by rw [show decide (V.int i = V.int j) = decide (i = j) from by simp]; exact k⟩
theorem w_eqB (k : Q (.bl (b == c)) H) : rEq (.bl b) (.bl c) H Q := ⟨rfl, by rw [dec_bl]; exact k⟩
theorem w_neB (k : Q (.bl (!(b == c))) H) : rNe (.bl b) (.bl c) H Q := ⟨rfl, by rw [dec_bl]; exact k⟩
theorem w_eqS {i j : Str} (k : Q (.bl (decide (i = j))) H) : rEq (.str i) (.str j) H Q := ⟨rfl, by rw [show decide (V.str i = V.str j) = decide (i = j) from by simp]; exact k⟩
theorem w_neS {i j : Str} (k : Q (.bl (!decide (i = j))) H) : rNe (.str i) (.str j) H Q := ⟨rfl, by rw [show decide (V.str i = V.str j) = decide (i = j) from by simp]; exact k⟩
theorem w_test (k : te σ H fun x H' => rBl QB x H') : tTest te σ H QB := k
theorem w_B (k : te σ H fun x H' => rBl QB x H') : tB te σ H QB := k
theorem w_bl (k : QB b H) : rBl QB (.bl b) H := ⟨b, rfl, k⟩
theorem w_and (k : tt σ H fun c H1 => rIf c (tu σ H1 QB) (QB false H1)) : tAnd tt tu σ H QB := k
theorem w_or (k : tt σ H fun c H1 => rIf c (QB true H1) (tu σ H1 QB)) : tOr tt tu σ H QB := k
theorem w_not (k : tt σ H fun c H1 => QB (!c) H1) : tNot tt σ H QB := k
theorem w_andV (k : ta σ H fun x H1 => rBl (fun c H1 => rIf c (tb σ H1 Q) (Q (.bl false) H1)) x H1) : tAndV ta tb σ H Q := k
theorem w_orV (k : ta σ H fun x H1 => rBl (fun c H1 => rIf c (Q (.bl true) H1) (tb σ H1 Q)) x H1) : tOrV ta tb σ H Q := k
theorem w_notV (k : ta σ H fun x H1 => rBl (fun c H1 => Q (.bl (!c)) H1) x H1) : tNotV ta σ H Q := k
theorem w_ifE (k : tt σ H fun c H1 => rIf c (ta σ H1 Q) (tb σ H1 Q)) : tIf tt ta tb σ H Q := k
theorem w_tru (k : te σ H fun x H' => rTru K x H' QB) : tTruA K te σ H QB := k
theorem w_nil (k : QA [] H) : tNil σ H QA := k
theorem w_cons (k : ta σ H fun x H1 => tA σ H1 fun xs H2 => QA (x :: xs) H2) : tCons ta tA σ H QA := k
theorem w_tup (k : tA σ H fun xs H1 => rNewT xs H1 Q) : tTup tA σ H Q := k
theorem w_lst (k : tA σ H fun xs H1 => rNewL xs H1 Q) : tLst tA σ H Q := k
theorem w_newT (h : xs.length ≤ sizeLine) (k : ∀ p, H p = none → Q (.ref p) (upd H p (.tup xs))) : rNewT xs H Q := ⟨h, k⟩
theorem w_newL (h : xs.length ≤ sizeLine) (k : ∀ p, H p = none → Q (.ref p) (upd H p (.lst xs))) : rNewL xs H Q := ⟨h, k⟩
theorem w_call {sp : Sp} {dvs : List V} {E : XK} (k : tA σ H fun vs H1 => sp (vs ++ dvs) H1 Q E) : tCall sp dvs E tA σ H Q := k
theorem w_callS {sp : Sp} {E : TSt → XK} (k : tA σ H fun vs H1 => sp vs H1 Q (E σ)) : tCallS sp E tA σ H Q := k
theorem w_meth {C : Addr} {m : Str} {sp : Sp} {dvs : List V} {E : XK} (k : ta σ H fun x H1 => rMethA C m x H1 (tA σ H1 fun vs H2 => sp (x :: (vs ++ dvs)) H2 Q E)) : tMeth C m sp dvs E ta tA σ H Q := k
theorem w_m {C dx : Addr} {m : Str} {fs : List (Str × V)} (h : H a = some (.ins C dx fs)) (hl : fs.lookup m = none) (k : R) : rMethA C m (.ref a) H R := ⟨a, dx, fs, rfl, h, hl, k⟩
theorem w_methP {C dx : Addr} {m : Str} {sp : Sp} {dvs : List V} {E : XK} {fs : List (Str × V)} {n : Nat} (e : σ[n]? = some (some (.ref a))) (h : H a = some (.ins C dx fs)) (hl : fs.lookup m = none) (k : tA σ H fun vs H2 => sp (.ref a :: (vs ++ dvs)) H2 Q E) :
    tMeth C m sp dvs E (tVar n) tA σ H Q := ⟨.ref a, e, a, dx, fs, rfl, h, hl, k⟩
theorem w_make {C : Addr} {sp : Sp} {dvs : List V} {E : XK} (k : tA σ H fun vs H1 => ∀ x dx, H1 x = none → H1 dx = none → dx ≠ x → sp (.ref x :: (vs ++ dvs)) (upd (upd H1 dx (.own x)) x (.ins C dx [])) (fun v H2 => v = .non ∧ Q (.ref x) H2) E) : tMake C sp dvs E tA σ H Q := k
theorem w_CB {r : List V → Hp → VK → Prop} (k : tA σ H fun vs H1 => r vs H1 Q) : tCB r tA σ H Q := k
def rBMA (K : PySem.W.Frag) (T : String) (r : V → List V → Hp → VK → Prop) (tA : TA) (σ : TSt) (Q : VK) (x : V) (H : Hp) : Prop := tyV K T x H ∧ tA σ H fun xs H2 => r x xs H2 Q
theorem w_BM0 {T : String} {r : V → List V → Hp → VK → Prop} (k : ta σ H fun x H1 => rBMA K T r tNil σ Q x H1) : tBM0 K T r ta σ H Q := k
theorem w_BM {T : String} {r : V → List V → Hp → VK → Prop} (k : ta σ H fun x H1 => rBMA K T r tA σ Q x H1) : tBM K T r ta tA σ H Q := k
theorem w_BMl {r : V → List V → Hp → VK → Prop} (h : H p = some (.lst xs)) (k : tA σ H fun ys H2 => r (.ref p) ys H2 Q) : rBMA K "list" r tA σ Q (.ref p) H := ⟨.inl ⟨rfl, _, SqL.of h⟩, k⟩
theorem w_append (h : H p = some (.lst xs)) (hz : xs.length < sizeLine) (k : Q .non (upd H p (.lst (xs ++ [y])))) : rAppend (.ref p) [y] H Q := ⟨p, xs, y, rfl, rfl, h, hz, k⟩
theorem w_fld {f : Str} (k : ta σ H fun x H1 => rFldG K f x H1 Q) : tFld K ta f σ H Q := k
theorem w_f {C dx : Addr} {f : Str} {fs : List (Str × V)} (h : H a = some (.ins C dx fs)) (hc : Cls K C) (hn : NoAttr K C f) (hl : fs.lookup f = some v) (k : Q v H) : rFldG K f (.ref a) H Q := ⟨a, C, dx, fs, v, rfl, h, hc, hn, hl, k⟩
theorem w_seq (k : s ⟨u ⟨nx, rt, bk, ct⟩, rt, bk, ct⟩ σ H) : tSeq s u ⟨nx, rt, bk, ct⟩ σ H := k
theorem w_cut (Mid : TSt → Hp → Prop) (h : s ⟨Mid, rt, bk, ct⟩ σ H) (k : ∀ σ' H', Mid σ' H' → u ⟨nx, rt, bk, ct⟩ σ' H') : C8.tCut s u ⟨nx, rt, bk, ct⟩ σ H := ⟨Mid, h, k⟩
theorem w_next (k : nx σ H) : tNext ⟨nx, rt, bk, ct⟩ σ H := k
theorem w_brk (k : bk σ H) : tBreak ⟨nx, rt, bk, ct⟩ σ H := k
theorem w_cont (k : ct σ H) : tCont ⟨nx, rt, bk, ct⟩ σ H := k
theorem w_asg {g : TG} (k : te σ H fun x H1 => g x σ H1 nx) : tAsg te g ⟨nx, rt, bk, ct⟩ σ H := k
theorem w_name {n : Nat} {R : TSt → Hp → Prop} (k : R (σ.set n (some v)) H) : gName n v σ H R := k
theorem w_drop (k : te σ H fun _ H1 => nx σ H1) : tDrop te ⟨nx, rt, bk, ct⟩ σ H := k
theorem w_ret (k : te σ H rt) : tRet te ⟨nx, rt, bk, ct⟩ σ H := k
theorem w_retN (k : rt .non H) : tRetN ⟨nx, rt, bk, ct⟩ σ H := k
theorem w_if (k : tt σ H fun b H1 => rIf b (s D σ H1) (u D σ H1)) : tIfS tt s u D σ H := k
theorem w_aug {n : Nat} {ti : TIp} (h : σ[n]? = some (some x)) (k : te σ H fun y H1 => ti x y H1 fun z H2 => nx (σ.set n (some z)) H2) : tAug n te ti ⟨nx, rt, bk, ct⟩ σ H := ⟨x, h, k⟩
theorem w_sfld {f : Str} (k : te σ H fun y H1 => ta σ H1 fun x H2 => rFldS K f y x H2 (nx σ)) : sFld K ta te f ⟨nx, rt, bk, ct⟩ σ H := k
theorem w_sf {C dx : Addr} {f : Str} {fs : List (Str × V)} {R : Hp → Prop} (h : H a = some (.ins C dx fs)) (hc : Cls K C) (hn : NoAttr K C f) (hl : fs.length < 1000) (k : R (upd H a (.ins C dx (putF f y fs)))) : rFldS K f y (.ref a) H R := ⟨a, C, dx, fs, rfl, h, hc, hn, hl, k⟩
theorem w_ixL (h : H p = some (.lst xs)) (e : atI xs i = some v) (k : Q v H) : rIxL K (.ref p) (.int i) H Q := ⟨p, xs, i, v, rfl, rfl, SqL.of h, e, k⟩
theorem w_ixT (h : H p = some (.tup xs)) (e : atI xs i = some v) (k : Q v H) : rIxT K (.ref p) (.int i) H Q := ⟨p, xs, i, v, rfl, rfl, SqT.of h, e, k⟩
theorem w_ixK (h : SqL K H p xs) (e : atI xs i = some v) (k : Q v H) : rIxL K (.ref p) (.int i) H Q := ⟨p, xs, i, v, rfl, rfl, h, e, k⟩
theorem w_lenL (h : H p = some (.lst xs)) (k : Q (.int xs.length) H) : rLenA K [.ref p] H Q := ⟨_, _, rfl, .inl ⟨xs, SqL.of h, rfl⟩, k⟩
theorem w_lenK (h : SqL K H p xs) (k : Q (.int xs.length) H) : rLenA K [.ref p] H Q := ⟨_, _, rfl, .inl ⟨xs, h, rfl⟩, k⟩
theorem w_lenT (h : H p = some (.tup xs)) (k : Q (.int xs.length) H) : rLenA K [.ref p] H Q := ⟨_, _, rfl, .inr ⟨xs, SqT.of h, rfl⟩, k⟩
theorem w_int (k : Q (.int i) H) : rIntA [.int i] H Q := .inl ⟨i, rfl, k⟩
theorem w_intB (k : Q (.int (if b then 1 else 0)) H) : rIntA [.bl b] H Q := .inr ⟨b, rfl, k⟩
theorem w_abs (k : Q (.int (if i < 0 then -i else i)) H) : rAbsA [.int i] H Q := ⟨i, rfl, k⟩
theorem w_min2 (k : Q (.int (if j < i then j else i)) H) : rMinA [.int i, .int j] H Q := ⟨i, j, rfl, k⟩
theorem w_max2 (k : Q (.int (if j > i then j else i)) H) : rMaxA [.int i, .int j] H Q := ⟨i, j, rfl, k⟩
theorem w_isN (k : Q (.bl (decide (x = .non))) H) : rIsNA x .non H Q := ⟨rfl, k⟩
theorem w_notN (k : Q (.bl (!decide (x = .non))) H) : rNotNA x .non H Q := ⟨rfl, k⟩
theorem w_listL (h : H p = some (.lst ys)) (k : ∀ l, H l = none → Q (.ref l) (upd H l (.lst ys))) : rListA K [.ref p] H Q := ⟨p, ys, rfl, .inl (SqL.of h), k⟩
theorem w_eqD {d e : PyData} (h1 : Dp K H x d) (h2 : Dp K H y e) (s1 : SeqAt.shaped d = true) (s2 : SeqAt.shaped e = true) (k : Q (.bl (PyData.eqv d e)) H) : rEqD K x y H Q := ⟨d, e, h1, h2, s1, s2, k⟩
theorem w_neD {d e : PyData} (h1 : Dp K H x d) (h2 : Dp K H y e) (s1 : SeqAt.shaped d = true) (s2 : SeqAt.shaped e = true) (k : Q (.bl (!PyData.eqv d e)) H) : rNeD K x y H Q := ⟨d, e, h1, h2, s1, s2, k⟩
theorem w_isi {t u : Value} {z : V} (hc : ClsV z u) (ht : TyX K H x t) (e : PySem.W.kitOne K t u = some b) (k : Q (.bl b) H) : rIsi K [x, z] H Q := ⟨x, z, t, u, b, rfl, hc, ht, e, k⟩
theorem w_truL (h : H p = some (.lst xs)) (k : QB (!xs.isEmpty) H) : rTru K (.ref p) H QB := ⟨_, .inl ⟨xs, SqL.of h, rfl⟩, k⟩
theorem w_truB (k : QB b H) : rTru K (.bl b) H QB := ⟨b, rfl, k⟩
theorem w_popAt {n : Nat} (h : H p = some (.lst xs)) (h1 : -(2 ^ 63) ≤ i) (h2 : i < 2 ^ 63) (e : seqIndex? i xs.length = some n) (e2 : xs[n]? = some y) (k : Q y (upd H p (.lst (xs.eraseIdx n)))) : rPopAt (.ref p) [.int i] H Q := ⟨p, xs, i, n, y, rfl, rfl, h, h1, h2, e, e2, k⟩
theorem w_iRng1 {R : It → Hp → Prop} (k : tA σ H fun vs H1 => rItR1 vs H1 R) : iRng1 tA σ H R := k
theorem w_iRng2 {R : It → Hp → Prop} (k : tA σ H fun vs H1 => rItR2 vs H1 R) : iRng2 tA σ H R := k
theorem w_rng1 {R : It → Hp → Prop} (h1 : -(2 ^ 62) ≤ j) (h2 : j < 2 ^ 62) (k : R (Itr 0 j.toNat) H) : rItR1 [.int j] H R := ⟨j, rfl, h1, h2, k⟩
theorem w_rng2 {R : It → Hp → Prop} (h : -(2 ^ 62) ≤ i ∧ i < 2 ^ 62 ∧ -(2 ^ 62) ≤ j ∧ j < 2 ^ 62) (k : R (Itr i (j - i).toNat) H) : rItR2 [.int i, .int j] H R := ⟨i, j, rfl, h, k⟩
theorem w_iList {R : It → Hp → Prop} (k : te σ H fun x H1 => rItL K x H1 R) : iList K te σ H R := k
theorem w_iTup {R : It → Hp → Prop} (k : te σ H fun x H1 => rItT K x H1 R) : iTup K te σ H R := k
theorem w_itL {R : It → Hp → Prop} (h : H a = some (.lst xs)) (k : R (Itl K a) H) : rItL K (.ref a) H R := ⟨a, rfl, ⟨xs, SqL.of h⟩, k⟩
theorem w_itK {R : It → Hp → Prop} (h : SqL K H a xs) (k : R (Itl K a) H) : rItL K (.ref a) H R := ⟨a, rfl, ⟨xs, h⟩, k⟩
theorem w_itT {R : It → Hp → Prop} (h : H a = some (.tup xs)) (k : R (Itt K a) H) : rItT K (.ref a) H R := ⟨a, rfl, ⟨xs, SqT.of h⟩, k⟩
theorem w_for {wi : TI} {g : TG} {tb : TS} (k : wi σ H fun J H1 => Loop g tb D σ J H1) : tFor wi g tb D σ H := k
/-- over a list that the body leaves as it is; over a range -/
theorem loop_list {g : TG} {tb : TS} (Pv : Nat → TSt → Hp → Prop) (h0 : Pv 0 σ H) (hl : ∀ i σ H, i ≤ xs.length → Pv i σ H → SqL K H a xs)
    (hs : ∀ i x σ H, xs[i]? = some x → Pv i σ H → g x σ H fun σ2 H2 => tb ⟨Pv (i + 1), rt, nx, Pv (i + 1)⟩ σ2 H2) (hd : ∀ σ H, Pv xs.length σ H → nx σ H) : Loop g tb ⟨nx, rt, bk, ct⟩ σ (Itl K a) H := for_list (D := ⟨nx, rt, bk, ct⟩) Pv h0 hl hs hd
theorem loop_tup {g : TG} {tb : TS} (Pv : Nat → TSt → Hp → Prop) (h0 : Pv 0 σ H) (hl : ∀ i σ H, i ≤ xs.length → Pv i σ H → SqT K H a xs)
    (hs : ∀ i x σ H, xs[i]? = some x → Pv i σ H → g x σ H fun σ2 H2 => tb ⟨Pv (i + 1), rt, nx, Pv (i + 1)⟩ σ2 H2) (hd : ∀ σ H, Pv xs.length σ H → nx σ H) : Loop g tb ⟨nx, rt, bk, ct⟩ σ (Itt K a) H := for_tup (D := ⟨nx, rt, bk, ct⟩) Pv h0 hl hs hd
theorem loop_range {lo : Int} {n : Nat} {g : TG} {tb : TS} (Pv : Nat → TSt → Hp → Prop) (h0 : Pv 0 σ H)
    (hs : ∀ i σ H, i < n → Pv i σ H → g (.int (lo + i)) σ H fun σ2 H2 => tb ⟨Pv (i + 1), rt, nx, Pv (i + 1)⟩ σ2 H2) (hd : ∀ σ H, Pv n σ H → nx σ H) : Loop g tb ⟨nx, rt, bk, ct⟩ σ (Itr lo n) H := for_range (D := ⟨nx, rt, bk, ct⟩) Pv h0 hs hd
theorem w_ite {c A B : Prop} [Decidable c] (h1 : c → A) (h2 : ¬ c → B) : rIf (decide c) A B := by
  unfold rIf
  by_cases h : c
  · rw [decide_eq_true h, if_pos rfl]; exact h1 h
  · rw [decide_eq_false h, if_neg Bool.false_ne_true]; exact h2 h
theorem w_iteN {c A B : Prop} [Decidable c] (h1 : ¬ c → A) (h2 : c → B) : rIf (!decide c) A B := by
  unfold rIf
  by_cases h : c
  · rw [decide_eq_true h]; exact h2 h
  · rw [decide_eq_false h]; exact h1 h
theorem w_iteB (h1 : b = true → A) (h2 : b = false → B) : rIf b A B := by
  cases b
  · exact h2 rfl
  · exact h1 rfl
theorem w_iteNB (h1 : b = false → A) (h2 : b = true → B) : rIf (!b) A B := by
  cases b
  · exact h1 rfl
  · exact h2 rfl
theorem w_ifT (h : b = true) (k : A) : rIf b A B := by rw [h]; exact k
theorem w_ifF (h : b = false) (k : B) : rIf b A B := by rw [h]; exact k
theorem w_iteT (k : A) : rIf true A B := k
theorem w_iteF (k : B) : rIf false A B := k
theorem w_iteNT (k : B) : rIf (!true) A B := k
theorem w_iteNF (k : A) : rIf (!false) A B := k
theorem w_iteNNT (k : A) : rIf (!!true) A B := k
theorem w_iteNNF (k : B) : rIf (!!false) A B := k
end
section
variable {K : PySem.W.Frag} {H : Hp} {Q : VK} {b : Bool} {i : Int} {z : Str} {p : Addr} {xs : List V} {kvs : List (Key × V)} {kts : List (List Key × V)}
theorem isi_non_int (k : Q (.bl false) H) : rIsi K [.non, .ty "int"] H Q := w_isi (b := false) (.ty _) (.base .non) (kit_ty (by decide +kernel)) k
theorem isi_non_bool (k : Q (.bl false) H) : rIsi K [.non, .ty "bool"] H Q := w_isi (b := false) (.ty _) (.base .non) (kit_ty (by decide +kernel)) k
theorem isi_non_str (k : Q (.bl false) H) : rIsi K [.non, .ty "str"] H Q := w_isi (b := false) (.ty _) (.base .non) (kit_ty (by decide +kernel)) k
theorem isi_non_tuple (k : Q (.bl false) H) : rIsi K [.non, .ty "tuple"] H Q := w_isi (b := false) (.ty _) (.base .non) (kit_ty (by decide +kernel)) k
theorem isi_non_list (k : Q (.bl false) H) : rIsi K [.non, .ty "list"] H Q := w_isi (b := false) (.ty _) (.base .non) (kit_ty (by decide +kernel)) k
theorem isi_non_dict (k : Q (.bl false) H) : rIsi K [.non, .ty "dict"] H Q := w_isi (b := false) (.ty _) (.base .non) (kit_ty (by decide +kernel)) k
theorem isi_bl_int (k : Q (.bl true) H) : rIsi K [.bl b, .ty "int"] H Q := w_isi (b := true) (.ty _) (.base (.bl _)) (kit_ty (by decide +kernel)) k
theorem isi_bl_bool (k : Q (.bl true) H) : rIsi K [.bl b, .ty "bool"] H Q := w_isi (b := true) (.ty _) (.base (.bl _)) (kit_ty (by decide +kernel)) k
theorem isi_bl_str (k : Q (.bl false) H) : rIsi K [.bl b, .ty "str"] H Q := w_isi (b := false) (.ty _) (.base (.bl _)) (kit_ty (by decide +kernel)) k
theorem isi_bl_tuple (k : Q (.bl false) H) : rIsi K [.bl b, .ty "tuple"] H Q := w_isi (b := false) (.ty _) (.base (.bl _)) (kit_ty (by decide +kernel)) k
theorem isi_bl_list (k : Q (.bl false) H) : rIsi K [.bl b, .ty "list"] H Q := w_isi (b := false) (.ty _) (.base (.bl _)) (kit_ty (by decide +kernel)) k
theorem isi_bl_dict (k : Q (.bl false) H) : rIsi K [.bl b, .ty "dict"] H Q := w_isi (b := false) (.ty _) (.base (.bl _)) (kit_ty (by decide +kernel)) k
theorem isi_int_int (k : Q (.bl true) H) : rIsi K [.int i, .ty "int"] H Q := w_isi (b := true) (.ty _) (.base (.int _)) (kit_ty (by decide +kernel)) k
theorem isi_int_bool (k : Q (.bl false) H) : rIsi K [.int i, .ty "bool"] H Q := w_isi (b := false) (.ty _) (.base (.int _)) (kit_ty (by decide +kernel)) k
theorem isi_int_str (k : Q (.bl false) H) : rIsi K [.int i, .ty "str"] H Q := w_isi (b := false) (.ty _) (.base (.int _)) (kit_ty (by decide +kernel)) k
theorem isi_int_tuple (k : Q (.bl false) H) : rIsi K [.int i, .ty "tuple"] H Q := w_isi (b := false) (.ty _) (.base (.int _)) (kit_ty (by decide +kernel)) k
theorem isi_int_list (k : Q (.bl false) H) : rIsi K [.int i, .ty "list"] H Q := w_isi (b := false) (.ty _) (.base (.int _)) (kit_ty (by decide +kernel)) k
theorem isi_int_dict (k : Q (.bl false) H) : rIsi K [.int i, .ty "dict"] H Q := w_isi (b := false) (.ty _) (.base (.int _)) (kit_ty (by decide +kernel)) k
theorem isi_str_int (k : Q (.bl false) H) : rIsi K [.str z, .ty "int"] H Q := w_isi (b := false) (.ty _) (.base (.str _)) (kit_ty (by decide +kernel)) k
theorem isi_str_bool (k : Q (.bl false) H) : rIsi K [.str z, .ty "bool"] H Q := w_isi (b := false) (.ty _) (.base (.str _)) (kit_ty (by decide +kernel)) k
theorem isi_str_str (k : Q (.bl true) H) : rIsi K [.str z, .ty "str"] H Q := w_isi (b := true) (.ty _) (.base (.str _)) (kit_ty (by decide +kernel)) k
theorem isi_str_tuple (k : Q (.bl false) H) : rIsi K [.str z, .ty "tuple"] H Q := w_isi (b := false) (.ty _) (.base (.str _)) (kit_ty (by decide +kernel)) k
theorem isi_str_list (k : Q (.bl false) H) : rIsi K [.str z, .ty "list"] H Q := w_isi (b := false) (.ty _) (.base (.str _)) (kit_ty (by decide +kernel)) k
theorem isi_str_dict (k : Q (.bl false) H) : rIsi K [.str z, .ty "dict"] H Q := w_isi (b := false) (.ty _) (.base (.str _)) (kit_ty (by decide +kernel)) k
theorem isi_lst_int (h : H p = some (.lst xs)) (k : Q (.bl false) H) : rIsi K [.ref p, .ty "int"] H Q := w_isi (b := false) (.ty _) (.base (.lst h)) (kit_ty (by decide +kernel)) k
theorem isi_lst_bool (h : H p = some (.lst xs)) (k : Q (.bl false) H) : rIsi K [.ref p, .ty "bool"] H Q := w_isi (b := false) (.ty _) (.base (.lst h)) (kit_ty (by decide +kernel)) k
theorem isi_lst_str (h : H p = some (.lst xs)) (k : Q (.bl false) H) : rIsi K [.ref p, .ty "str"] H Q := w_isi (b := false) (.ty _) (.base (.lst h)) (kit_ty (by decide +kernel)) k
theorem isi_lst_tuple (h : H p = some (.lst xs)) (k : Q (.bl false) H) : rIsi K [.ref p, .ty "tuple"] H Q := w_isi (b := false) (.ty _) (.base (.lst h)) (kit_ty (by decide +kernel)) k
theorem isi_lst_list (h : H p = some (.lst xs)) (k : Q (.bl true) H) : rIsi K [.ref p, .ty "list"] H Q := w_isi (b := true) (.ty _) (.base (.lst h)) (kit_ty (by decide +kernel)) k
theorem isi_lst_dict (h : H p = some (.lst xs)) (k : Q (.bl false) H) : rIsi K [.ref p, .ty "dict"] H Q := w_isi (b := false) (.ty _) (.base (.lst h)) (kit_ty (by decide +kernel)) k
theorem isi_tup_int (h : H p = some (.tup xs)) (k : Q (.bl false) H) : rIsi K [.ref p, .ty "int"] H Q := w_isi (b := false) (.ty _) (.base (.tup h)) (kit_ty (by decide +kernel)) k
theorem isi_tup_bool (h : H p = some (.tup xs)) (k : Q (.bl false) H) : rIsi K [.ref p, .ty "bool"] H Q := w_isi (b := false) (.ty _) (.base (.tup h)) (kit_ty (by decide +kernel)) k
theorem isi_tup_str (h : H p = some (.tup xs)) (k : Q (.bl false) H) : rIsi K [.ref p, .ty "str"] H Q := w_isi (b := false) (.ty _) (.base (.tup h)) (kit_ty (by decide +kernel)) k
theorem isi_tup_tuple (h : H p = some (.tup xs)) (k : Q (.bl true) H) : rIsi K [.ref p, .ty "tuple"] H Q := w_isi (b := true) (.ty _) (.base (.tup h)) (kit_ty (by decide +kernel)) k
theorem isi_tup_list (h : H p = some (.tup xs)) (k : Q (.bl false) H) : rIsi K [.ref p, .ty "list"] H Q := w_isi (b := false) (.ty _) (.base (.tup h)) (kit_ty (by decide +kernel)) k
theorem isi_tup_dict (h : H p = some (.tup xs)) (k : Q (.bl false) H) : rIsi K [.ref p, .ty "dict"] H Q := w_isi (b := false) (.ty _) (.base (.tup h)) (kit_ty (by decide +kernel)) k
theorem isi_dK_int (h : H p = some (.dK kvs)) (k : Q (.bl false) H) : rIsi K [.ref p, .ty "int"] H Q := w_isi (b := false) (.ty _) (.base (.dK h)) (kit_ty (by decide +kernel)) k
theorem isi_dK_bool (h : H p = some (.dK kvs)) (k : Q (.bl false) H) : rIsi K [.ref p, .ty "bool"] H Q := w_isi (b := false) (.ty _) (.base (.dK h)) (kit_ty (by decide +kernel)) k
theorem isi_dK_str (h : H p = some (.dK kvs)) (k : Q (.bl false) H) : rIsi K [.ref p, .ty "str"] H Q := w_isi (b := false) (.ty _) (.base (.dK h)) (kit_ty (by decide +kernel)) k
theorem isi_dK_tuple (h : H p = some (.dK kvs)) (k : Q (.bl false) H) : rIsi K [.ref p, .ty "tuple"] H Q := w_isi (b := false) (.ty _) (.base (.dK h)) (kit_ty (by decide +kernel)) k
theorem isi_dK_list (h : H p = some (.dK kvs)) (k : Q (.bl false) H) : rIsi K [.ref p, .ty "list"] H Q := w_isi (b := false) (.ty _) (.base (.dK h)) (kit_ty (by decide +kernel)) k
theorem isi_dK_dict (h : H p = some (.dK kvs)) (k : Q (.bl true) H) : rIsi K [.ref p, .ty "dict"] H Q := w_isi (b := true) (.ty _) (.base (.dK h)) (kit_ty (by decide +kernel)) k
theorem isi_dT_int (h : H p = some (.dT kts)) (k : Q (.bl false) H) : rIsi K [.ref p, .ty "int"] H Q := w_isi (b := false) (.ty _) (.base (.dT h)) (kit_ty (by decide +kernel)) k
theorem isi_dT_bool (h : H p = some (.dT kts)) (k : Q (.bl false) H) : rIsi K [.ref p, .ty "bool"] H Q := w_isi (b := false) (.ty _) (.base (.dT h)) (kit_ty (by decide +kernel)) k
theorem isi_dT_str (h : H p = some (.dT kts)) (k : Q (.bl false) H) : rIsi K [.ref p, .ty "str"] H Q := w_isi (b := false) (.ty _) (.base (.dT h)) (kit_ty (by decide +kernel)) k
theorem isi_dT_tuple (h : H p = some (.dT kts)) (k : Q (.bl false) H) : rIsi K [.ref p, .ty "tuple"] H Q := w_isi (b := false) (.ty _) (.base (.dT h)) (kit_ty (by decide +kernel)) k
theorem isi_dT_list (h : H p = some (.dT kts)) (k : Q (.bl false) H) : rIsi K [.ref p, .ty "list"] H Q := w_isi (b := false) (.ty _) (.base (.dT h)) (kit_ty (by decide +kernel)) k
theorem isi_dT_dict (h : H p = some (.dT kts)) (k : Q (.bl true) H) : rIsi K [.ref p, .ty "dict"] H Q := w_isi (b := true) (.ty _) (.base (.dT h)) (kit_ty (by decide +kernel)) k
end
/-! ### comparisons in a chain; xs[i] op= v; comprehensions -/
section
variable {K : PySem.W.Frag} {σ : TSt} {H : Hp} {Q : VK} {ta tb tc te : TE} {r r' : R2} {X : Cx} {nx bk ct : TSt → Hp → Prop} {rt : VK}
theorem w_chain (k : ta σ H fun x H1 => tb σ H1 fun y H2 => r x y H2 fun z H3 => rBl (fun c H3 => rIf c (tc σ H3 fun w H4 => r' y w H4 Q) (Q (.bl false) H3)) z H3) : tChain r r' ta tb tc σ H Q := k
theorem get_list : PGet X (rIxL X.K) := by
  intro pins s σ H x y v u Q I rx ry h
  obtain ⟨p, xs, i, z, rfl, rfl, hq, he, q⟩ := h
  cases rx
  obtain ⟨t, rfl⟩ := ry
  obtain ⟨its, r, pl, hz⟩ := I.list hq
  obtain ⟨j, h1, h2, h3, h4, h5⟩ := atI_get he
  obtain ⟨w, ew, rw'⟩ := r.get h2
  have hl := r.length
  have hn := line63
  have fin : EP X pins σ Q w s := ⟨z, H, I, rw', q⟩
  by_cases h0 : 0 ≤ i
  · have hj : i.toNat = j := by
      rw [seqIndex_of h0 h5] at h1
      exact Option.some.inj h1
    exact wpAny_getItem_list pl.isList h0 (by omega) (by rw [hj]; simpa using ew) fin
  · have hj : (i + xs.length).toNat = j := by
      rw [seqIndex_neg (by omega) h4] at h1
      exact Option.some.inj h1
    exact wpAny_getItem_list_neg pl.isList (by omega) (by simp; omega) (by omega) (by simpa [← hl, hj] using ew) fin
def rIpAdd : V → V → Hp → VK → Prop := fun x y H Q => ∃ i j, x = .int i ∧ y = .int j ∧ Q (.int (i + j)) H
theorem i_add : PIp X .Add rIpAdd := ip_add
def rIpSub : V → V → Hp → VK → Prop := fun x y H Q => ∃ i j, x = .int i ∧ y = .int j ∧ Q (.int (i - j)) H
theorem i_sub : PIp X .Sub rIpSub := ip_sub
theorem n_add : InOp X .Add rIpAdd := in_add
theorem n_sub : InOp X .Sub rIpSub := in_sub
theorem w_ipAdd {i j : Int} (k : Q (.int (i + j)) H) : rIpAdd (.int i) (.int j) H Q := ⟨i, j, rfl, rfl, k⟩
theorem w_ipSub {i j : Int} (k : Q (.int (i - j)) H) : rIpSub (.int i) (.int j) H Q := ⟨i, j, rfl, rfl, k⟩
theorem w_augS {to ti : TE} {tget : V → V → Hp → VK → Prop} {tip : TIp} {tset : TSet}
    (k : to σ H fun o H1 => ti σ H1 fun i H2 => tget o i H2 fun x H3 => te σ H3 fun y H4 => tip x y H4 fun z H5 => tset o i z H5 fun H6 => nx σ H6) : tAugS to ti te tget tip tset ⟨nx, rt, bk, ct⟩ σ H := k
theorem w_setL {p : Addr} {xs : List V} {i : Int} {j : Nat} {v : V} {R : Hp → Prop} (h : H p = some (.lst xs)) (e : ixN xs.length i = some j) (k : R (upd H p (.lst (xs.set j v)))) : rSetL (.ref p) (.int i) v H R := ⟨p, xs, i, j, rfl, rfl, h, e, k⟩
theorem w_gsub {to ti : TE} {t : TSet} {v : V} {R : TSt → Hp → Prop} (k : to σ H fun o H1 => ti σ H1 fun i H2 => t o i v H2 fun H3 => R σ H3) : gSub to ti t v σ H R := k
def rFldA (K : PySem.W.Frag) (te : TE) (rd : V → V → Hp → VK → Prop) (f : Str) (nx : TSt → Hp → Prop) (σ : TSt) (x : V) (H1 : Hp) : Prop := ∃ a C dx fs v, x = .ref a ∧ H1 a = some (.ins C dx fs) ∧ Cls K C ∧ NoAttr K C f ∧ fs.lookup f = some v ∧
  te σ H1 fun y H2 => rd v y H2 fun z H3 => ∃ dx' fs', H3 a = some (.ins C dx' fs') ∧ fs'.length < 1000 ∧ nx σ (upd H3 a (.ins C dx' (putF f z fs')))
theorem w_fldaug {rd : V → V → Hp → VK → Prop} {f : Str} (k : ta σ H fun x H1 => rFldA K te rd f nx σ x H1) : sFldAug K ta te rd f ⟨nx, rt, bk, ct⟩ σ H := k
theorem w_fa {a C dx : Addr} {f : Str} {fs : List (Str × V)} {v : V} {rd : V → V → Hp → VK → Prop} (h : H a = some (.ins C dx fs)) (hc : Cls K C) (hn : NoAttr K C f) (hl : fs.lookup f = some v)
    (k : te σ H fun y H2 => rd v y H2 fun z H3 => ∃ dx' fs', H3 a = some (.ins C dx' fs') ∧ fs'.length < 1000 ∧ nx σ (upd H3 a (.ins C dx' (putF f z fs')))) : rFldA K te rd f nx σ (.ref a) H := ⟨a, C, dx, fs, v, rfl, h, hc, hn, hl, k⟩
/-- a list comprehension: D the new list -/
def Comp (g : TG) (tt : TT) (te : TE) (vs : List Nat) (σ : TSt) (Q : VK) (J : It) (H1 : Hp) : Prop := ∀ D, H1 D = none → ∃ W : Nat → Nat → Hp → Prop, (∃ m, W 0 m (upd H1 D (.lst []))) ∧ ∀ i m H, W i m H →
  (J.stop i H ∧ Q (.ref D) H) ∨ (J.go i H ∧ ∃ Nx : Hp → Prop, (∀ H', Nx H' → ∃ m', m' < m ∧ W (i + 1) m' H') ∧ ∀ x H', J.yld i H x H' → g x (wipe σ vs) H' fun σ2 H2 => wipe σ2 vs = wipe σ vs ∧ tt σ2 H2 fun b H3 =>
    if b = true then te σ2 H3 fun y H4 => ∃ acc, H4 D = some (.lst acc) ∧ acc.length < sizeLine ∧ Nx (upd H4 D (.lst (acc ++ [y]))) else Nx H3)
theorem w_lc {wi : TI} {g : TG} {tt : TT} {vs : List Nat} (k : wi σ H fun J H1 => Comp g tt te vs σ Q J H1) : tLc wi g tt te vs σ H Q := k
def rPut (D : Addr) (R : Hp → Prop) (y : V) (H : Hp) : Prop := ∃ acc, H D = some (.lst acc) ∧ acc.length < sizeLine ∧ R (upd H D (.lst (acc ++ [y])))
theorem w_put {D : Addr} {acc : List V} {y : V} {R : Hp → Prop} (h : H D = some (.lst acc)) (hz : acc.length < sizeLine) (k : R (upd H D (.lst (acc ++ [y])))) : rPut D R y H := ⟨acc, h, hz, k⟩
def rWipe (σ2 : TSt) (vs : List Nat) (σ : TSt) (R : Prop) : Prop := wipe σ2 vs = wipe σ vs ∧ R
theorem w_wipe {σ2 : TSt} {vs : List Nat} {R : Prop} (h : wipe σ2 vs = wipe σ vs) (k : R) : rWipe σ2 vs σ R := ⟨h, k⟩
theorem w_yes {QB : Bool → Hp → Prop} (k : QB true H) : tYes σ H QB := k
/-- over a list, a range, a tuple -/
theorem comp_list {a : Addr} {xs : List V} {g : TG} {tt : TT} {vs : List Nat} (Pv : Addr → Nat → Hp → Prop) (h0 : ∀ D, H D = none → Pv D 0 (upd H D (.lst []))) (hl : ∀ D i H', H D = none → i ≤ xs.length → Pv D i H' → SqL K H' a xs)
    (hs : ∀ D i x H', H D = none → xs[i]? = some x → Pv D i H' → g x (wipe σ vs) H' fun σ2 H2 => rWipe σ2 vs σ (tt σ2 H2 fun b H3 => rIf b (te σ2 H3 fun y H4 => rPut D (Pv D (i + 1)) y H4) (Pv D (i + 1) H3)))
    (hd : ∀ D H', H D = none → Pv D xs.length H' → Q (.ref D) H') : Comp g tt te vs σ Q (Itl K a) H := fun D hD => lc_list (Pv D) (h0 D hD) (fun i H' h p => hl D i H' hD h p) (fun i x H' h p => hs D i x H' hD h p) (fun H' p => hd D H' hD p)
theorem comp_range {lo : Int} {n : Nat} {g : TG} {tt : TT} {vs : List Nat} (Pv : Addr → Nat → Hp → Prop) (h0 : ∀ D, H D = none → Pv D 0 (upd H D (.lst [])))
    (hs : ∀ D i H', H D = none → i < n → Pv D i H' → g (.int (lo + i)) (wipe σ vs) H' fun σ2 H2 => rWipe σ2 vs σ (tt σ2 H2 fun b H3 => rIf b (te σ2 H3 fun y H4 => rPut D (Pv D (i + 1)) y H4) (Pv D (i + 1) H3)))
    (hd : ∀ D H', H D = none → Pv D n H' → Q (.ref D) H') : Comp g tt te vs σ Q (Itr lo n) H := fun D hD => lc_range (Pv D) (h0 D hD) (fun i H' h p => hs D i H' hD h p) (fun H' p => hd D H' hD p)
theorem w_rep {p : Addr} {xs : List V} {n : Int} (h : H p = some (.lst xs)) (h1 : -(2 ^ 63) ≤ n) (h2 : n < 2 ^ 63) (hz : xs.length * n.toNat ≤ sizeLine) (k : ∀ q, H q = none → Q (.ref q) (upd H q (.lst (List.replicate n.toNat xs).flatten))) : rRep (.ref p) (.int n) H Q := ⟨p, n, xs, rfl, rfl, h, h1, h2, hz, k⟩
end
/-! the same with the fragment named (within a comprehension's own scope) -/
section
variable {X : Cx}
theorem pe_fldK (K : PySem.W.Frag) {e : Expr} {ta : TE} {f : Str} {pos : Pos} (he : PE X e ta) (hb : attributeBase e f X.env (eval e X.env) = eval e X.env) (h : X.K = K := by rfl) : PE X (.Attribute e f pos) (tFld K ta f) := by subst h; exact pe_fld he hb
theorem pt_truthAK (K : PySem.W.Frag) {e : Expr} {te : TE} (h : PE X e te) (hs : ∀ whole, isTrue e X.env whole = (do let v ← whole; standAt e.pos; holding [v] (truthy v)) := by intro _; rfl) (hK : X.K = K := by rfl) : PT X e (tTruA K te) := by subst hK; exact pt_truthA h hs
theorem c_listK (K : PySem.W.Frag) (h : X.K = K := by rfl) : CallR X (.type "list") (rListA K) := by subst h; exact c_list
theorem c_lenK (K : PySem.W.Frag) (h : X.K = K := by rfl) : CallR X (.builtin "len") (rLenA K) := by subst h; exact c_len
theorem ix_listK (K : PySem.W.Frag) (h : X.K = K := by rfl) : IxR X (rIxL K) := by subst h; exact ix_list
theorem ix_tupK (K : PySem.W.Frag) (h : X.K = K := by rfl) : IxR X (rIxT K) := by subst h; exact ix_tup
theorem ix_seqK (K : PySem.W.Frag) (h : X.K = K := by rfl) : IxR X (rIx K) := by subst h; exact ix_seq
theorem call_isiK (K : PySem.W.Frag) (h : X.K = K := by rfl) : CallR X (.builtin "isinstance") (rIsi K) := by subst h; exact call_isi
theorem call_isGK (K : PySem.W.Frag) {X : Cx} {a : Addr} {cls : Value} {d : Option Addr} {oe : Obj} {pn : List (Addr × Obj)} (hz : Zc cls d oe) (hf : ∃ vs, oe.data = .fields vs) (h : X.K = K := by rfl) : CallR (X.suite a ((a, oe) :: pn)) (.builtin "isinstance") (rIsG K a cls d) := by subst h; exact call_isG hz hf
theorem op_catAK (K : PySem.W.Frag) (h : X.K = K := by rfl) : OpR X (binaryOp .Add) (rCatA K) := by subst h; exact op_catA
end
/-! ### heaps -/
theorem at_new {H : Hp} {a p : Addr} {o o' : HO} (n : H p = none) (h : H a = some o) : upd H p o' a = some o := by rw [upd_ne (ne_of_none h n)]; exact h
theorem at_ne {H : Hp} {a p : Addr} {o o' : HO} (n : a ≠ p) (h : H a = some o) : upd H p o' a = some o := by rw [upd_ne n]; exact h
theorem no_new {H : Hp} {q p : Addr} {o' : HO} (n : q ≠ p) (h : H q = none) : upd H p o' q = none := by rw [upd_ne n]; exact h
theorem none1 {H : Hp} {q a : Addr} {o : HO} (h : upd H a o q = none) : q ≠ a ∧ H q = none := by
  have e : q ≠ a := fun e => by rw [e, upd_same] at h; cases h
  exact ⟨e, by rwa [upd_ne e] at h⟩
theorem none2 {H : Hp} {q a b : Addr} {o o' : HO} (h : upd (upd H a o) b o' q = none) : q ≠ a ∧ q ≠ b ∧ H q = none :=
  let ⟨e, h⟩ := none1 h; let ⟨e', h⟩ := none1 h; ⟨e', e, h⟩
theorem none3 {H : Hp} {q a b c : Addr} {o o' o2 : HO} (h : upd (upd (upd H a o) b o') c o2 q = none) : q ≠ a ∧ q ≠ b ∧ q ≠ c ∧ H q = none :=
  let ⟨e, h⟩ := none1 h; let ⟨e1, e2, h⟩ := none2 h; ⟨e1, e2, e, h⟩
theorem none4 {H : Hp} {q a b c d : Addr} {o o' o2 o3 : HO} (h : upd (upd (upd (upd H a o) b o') c o2) d o3 q = none) : q ≠ a ∧ q ≠ b ∧ q ≠ c ∧ q ≠ d ∧ H q = none :=
  let ⟨e, h⟩ := none1 h; let ⟨e1, e2, e3, h⟩ := none3 h; ⟨e1, e2, e3, e, h⟩
theorem same_new0 {H : Hp} {p : Addr} {o : HO} (h : H p = none) : Same H (upd H p o) := fun b u e => by rw [upd_ne (ne_of_none e h)]; exact e
theorem lt_line {n : Nat} (h : n ≤ 100000) : n < sizeLine := Nat.lt_of_le_of_lt h (by decide)
theorem le_line {n : Nat} (h : n ≤ 100000) : n ≤ sizeLine := Nat.le_trans h (by decide)

/-! ### o.m(..) within a suite: what it lets out may name the slots -/
def tMethX (C : Addr) (m : Str) (sp : Sp) (E : TSt → XK) (ta : TE) (t : TA) : TE := fun σ H Q => ta σ H fun x H1 => rMethA C m x H1 (t σ H1 fun vs H2 => sp (x :: vs) H2 Q (E σ))
section
variable {X : Cx} {k : Nat} {ps : List Str} {sp : Sp} {E : TSt → XK} {m C : Str} {pos apos : Pos} {e o : Expr} {es : List Expr} {ta : TE} {t : TA}
theorem pe_methOS (K : PySem.W.Frag) {pl : Sem Bool} (he : PE X o ta) (c : Cls K (He.ga K C)) (hm : Meth K (He.ga K C) m (He.ma K (He.ga K C) m)) (O : Okd X.prog X.w K X.mg X.base (C, some m) k ps sp) (hr : Room k X.A) (hx : ∀ σ, PassesAt (L2.CX X.prog X.w) X σ (E σ)) (ha : PA X (e :: es) t)
    (hst : starEach (e :: es) X.env = (false, eval e X.env) :: starEach es X.env := by rfl) (hpl : (backTo pos (starEach es X.env)).any (·.1) = false := by rfl)
    (ht : eval (.Call (.Attribute o m apos) (e :: es) [] pos) X.env = (do
      let ov ← eval o X.env
      standAt apos.atName
      let (f, first) ← holding [ov] (getMethod ov m pl)
      callWith pos f first (backTo pos (starEach (e :: es) X.env)) (backToKw pos (keywordEach [] X.env))) := by rfl) (hK : X.K = K := by rfl) :
    PE X (.Call (.Attribute o m apos) (e :: es) [] pos) (tMethX (He.ga K C) m sp E ta t) := by
  subst hK
  obtain ⟨_, hb, _, F⟩ := O
  refine ⟨fun pins s σ H Q I h => ?_⟩
  refine PySem.W.methodCall_KW (pl := pl) (thn (he.run pins s σ H _ I h) fun u s1 ⟨x, H1, I1, rx, a, dx, fs, ex, ea, l, q⟩ => ?_) ht
  subst ex
  cases rx
  refine getmeth_ok I1 ea c hm l ?_
  refine PySem.W.callWith_K (first := [.ref a]) (h₀ := X.base) I.ok.mod.kin hm.kp (thn (ha.run pos pins s1 σ H1 _ I1 q) fun us s2 ⟨vs, H2, I2, r, q2⟩ => ⟨I2.kIn, ?_⟩) hst hpl
  exact run_fnS (us := .ref a :: us) (vs := .ref a :: vs) F hr hb (hx σ) I2 (.cons rfl r) q2
theorem pe_methOS0 (K : PySem.W.Frag) {pl : Sem Bool} (he : PE X o ta) (c : Cls K (He.ga K C)) (hm : Meth K (He.ga K C) m (He.ma K (He.ga K C) m)) (O : Okd X.prog X.w K X.mg X.base (C, some m) k ps sp) (hr : Room k X.A) (hx : ∀ σ, PassesAt (L2.CX X.prog X.w) X σ (E σ))
    (ht : eval (.Call (.Attribute o m apos) [] [] pos) X.env = (do
      let ov ← eval o X.env
      standAt apos.atName
      let (f, first) ← holding [ov] (getMethod ov m pl)
      callWith pos f first (backTo pos (starEach [] X.env)) (backToKw pos (keywordEach [] X.env))) := by rfl) (hK : X.K = K := by rfl) :
    PE X (.Call (.Attribute o m apos) [] [] pos) (tMethX (He.ga K C) m sp E ta tNil) := by
  subst hK
  obtain ⟨_, hb, _, F⟩ := O
  refine ⟨fun pins s σ H Q I h => ?_⟩
  refine PySem.W.methodCall_KW (pl := pl) (thn (he.run pins s σ H _ I h) fun u s1 ⟨x, H1, I1, rx, a, dx, fs, ex, ea, l, q⟩ => ?_) ht
  subst ex
  cases rx
  refine getmeth_ok I1 ea c hm l ?_
  exact PySem.W.callWith_K0 (first := [.ref a]) I1.kIn hm.kp (run_fnS (us := [.ref a]) (vs := [.ref a]) F hr hb (hx σ) I1 (.cons rfl .nil) q)
theorem w_methX {σ : TSt} {H : Hp} {Q : VK} {C : Addr} (k : ta σ H fun x H1 => rMethA C m x H1 (t σ H1 fun vs H2 => sp (x :: vs) H2 Q (E σ))) : tMethX C m sp E ta t σ H Q := k
end
/-! ### data -/
/-- v stands for d, a datum of small depth -/
def Rep (K : PySem.W.Frag) (H : Hp) (n : Nat) (v : V) (d : PyData) : Prop := Dp K H v d ∧ d.canLay0 = true ∧ d.depth ≤ n
section
variable {K : PySem.W.Frag} {H H' : Hp} {v x y : V} {xs ys : List V} {d e : PyData} {n m : Nat} {Q : VK} {p : Addr}
theorem Rep.non : Rep K H n .non .none := ⟨.non, by simp [PyData.canLay0], by simp [PyData.depth]⟩
theorem Rep.bl {b : Bool} : Rep K H n (.bl b) (.bool b) := ⟨.bl b, by simp [PyData.canLay0], by simp [PyData.depth]⟩
theorem Rep.int {i : Int} : Rep K H n (.int i) (.int i) := ⟨.int i, by simp [PyData.canLay0], by simp [PyData.depth]⟩
theorem Rep.str {s : Str} (h : PyData.canLay0 (.str s) = true) : Rep K H n (.str s) (.str s) := ⟨.str s, h, by simp [PyData.depth]⟩
theorem Rep.mono (h : Rep K H n v d) (k : n ≤ m) : Rep K H m v d := ⟨h.1, h.2.1, Nat.le_trans h.2.2 k⟩
inductive Reps (K : PySem.W.Frag) (H : Hp) (n : Nat) : List V → List PyData → Prop
  | nil : Reps K H n [] []
  | cons {v : V} {d : PyData} {vs : List V} {ds : List PyData} : Rep K H n v d → Reps K H n vs ds → Reps K H n (v :: vs) (d :: ds)
theorem Reps.all {ds : List PyData} (h : Reps K H n xs ds) : DpAll K H xs ds ∧ PyData.canLayAll0 ds = true ∧ PyData.depthAll ds ≤ n := by
  induction h with
  | nil => exact ⟨.nil, by simp [PyData.canLayAll0], by simp [PyData.depthAll]⟩
  | cons a b ih => exact ⟨.cons a.1 ih.1, by simp [PyData.canLayAll0, a.2.1, ih.2.1], by simp only [PyData.depthAll]; exact Nat.max_le.mpr ⟨a.2.2, ih.2.2⟩⟩
theorem Rep.tup {ds : List PyData} (h : H p = some (.tup xs)) (r : Reps K H n xs ds) : Rep K H (n + 1) (.ref p) (.tuple ds) := by
  obtain ⟨a, b, c⟩ := r.all
  exact ⟨.tup (SqT.of h) a, by simp only [PyData.canLay0]; exact b, by simp only [PyData.depth]; omega⟩
theorem Rep.lst {ds : List PyData} (h : H p = some (.lst xs)) (r : Reps K H n xs ds) : Rep K H (n + 1) (.ref p) (.list ds) := by
  obtain ⟨a, b, c⟩ := r.all
  exact ⟨.lst (SqL.of h) a, by simp only [PyData.canLay0]; exact b, by simp only [PyData.depth]; omega⟩
theorem Rep.shaped (h : Rep K H n v d) (k : n ≤ 64) : SeqAt.shaped d = true := by
  unfold SeqAt.shaped
  rw [h.2.1, decide_eq_true (Nat.le_trans h.2.2 k)]; rfl
theorem Reps.of (h : ∀ x ∈ xs, ∃ d, Rep K H n x d) : ∃ ds, Reps K H n xs ds := by
  induction xs with
  | nil => exact ⟨[], .nil⟩
  | cons a r ih =>
    obtain ⟨d, hd⟩ := h a (List.mem_cons_self ..)
    obtain ⟨ds, hs⟩ := ih fun x hx => h x (List.mem_cons_of_mem _ hx)
    exact ⟨d :: ds, .cons hd hs⟩
theorem Rep.refl (h : Rep K H n v d) : PyData.eqv d d = true := PySem.SeqAt.eqv_refl d h.2.1
theorem w_eqR (h1 : Rep K H n x d) (h2 : Rep K H m y e) (k1 : n ≤ 64) (k2 : m ≤ 64) (k : Q (.bl (PyData.eqv d e)) H) : rEqD K x y H Q := ⟨d, e, h1.1, h2.1, h1.shaped k1, h2.shaped k2, k⟩
theorem w_neR (h1 : Rep K H n x d) (h2 : Rep K H m y e) (k1 : n ≤ 64) (k2 : m ≤ 64) (k : Q (.bl (!PyData.eqv d e)) H) : rNeD K x y H Q := ⟨d, e, h1.1, h2.1, h1.shaped k1, h2.shaped k2, k⟩
/-- the same datum on both sides -/
theorem w_eqS' (h1 : Rep K H n x d) (h2 : Rep K H m y d) (k1 : n ≤ 64) (k2 : m ≤ 64) (k : Q (.bl true) H) : rEqD K x y H Q := w_eqR h1 h2 k1 k2 (by rw [h1.refl]; exact k)
theorem w_neS' (h1 : Rep K H n x d) (h2 : Rep K H m y d) (k1 : n ≤ 64) (k2 : m ≤ 64) (k : Q (.bl false) H) : rNeD K x y H Q := w_neR h1 h2 k1 k2 (by rw [h1.refl]; exact k)
end
theorem Reps.len {K : PySem.W.Frag} {H : Hp} {n : Nat} {xs : List V} {ds : List PyData} (h : Reps K H n xs ds) : ds.isEmpty = xs.isEmpty := by cases h <;> rfl
theorem eqv_nil {ds : List PyData} : PyData.eqv (.list ds) (.list []) = ds.isEmpty := by cases ds <;> simp [PyData.eqv, PyData.eqvAll]
theorem eqv_bool {a b : Bool} : PyData.eqv (.bool a) (.bool b) = (a == b) := by simp [PyData.eqv]
theorem w_eqBB {K : PySem.W.Frag} {H : Hp} {Q : VK} {a b : Bool} (h : a = b) (k : Q (.bl true) H) : rEqD K (.bl a) (.bl b) H Q := by
  subst h
  exact w_eqS' (Rep.bl (n := 0)) (Rep.bl (n := 0)) (by decide) (by decide) k
/-! ### data that never changes -/
mutual
inductive Im (H : Hp) : V → PyData → Prop
  | non : Im H .non .none
  | bl (b : Bool) : Im H (.bl b) (.bool b)
  | int (i : Int) : Im H (.int i) (.int i)
  | str (s : Str) (h : PyData.canLay0 (.str s) = true) : Im H (.str s) (.str s)
  | tup {a : Addr} {xs : List V} {ds : List PyData} : H a = some (.tup xs) → Ims H xs ds → Im H (.ref a) (.tuple ds)
inductive Ims (H : Hp) : List V → List PyData → Prop
  | nil : Ims H [] []
  | cons {v : V} {vs : List V} {d : PyData} {ds : List PyData} : Im H v d → Ims H vs ds → Ims H (v :: vs) (d :: ds)
end
/-- tuples stay -/
def TK (H H' : Hp) : Prop := ∀ a xs, H a = some (.tup xs) → H' a = some (.tup xs)
theorem TK.refl (H : Hp) : TK H H := fun _ _ h => h
theorem TK.trans {H H1 H2 : Hp} (h : TK H H1) (k : TK H1 H2) : TK H H2 := fun a xs e => k a xs (h a xs e)
theorem _root_.L2.Same.tk {H H' : Hp} (h : Same H H') : TK H H' := fun a xs e => h a _ e
theorem tk_new {H : Hp} {p : Addr} {o : HO} (n : H p = none) : TK H (upd H p o) := (same_new0 n).tk
theorem tk_lst {H : Hp} {p : Addr} {o : HO} {ys : List V} (n : H p = some (.lst ys)) : TK H (upd H p o) := fun a xs e => by rw [upd_ne (ne_of e n (by intro z; cases z))]; exact e
theorem tk_ins {H : Hp} {p C dx : Addr} {fs : List (Str × V)} {o : HO} (n : H p = some (.ins C dx fs)) : TK H (upd H p o) := fun a xs e => by rw [upd_ne (ne_of e n (by intro z; cases z))]; exact e
section
variable {K : PySem.W.Frag} {H H' : Hp}
mutual
theorem Im.mono (k : TK H H') : ∀ {v : V} {d : PyData}, Im H v d → Im H' v d
  | _, _, .non => .non
  | _, _, .bl b => .bl b
  | _, _, .int i => .int i
  | _, _, .str s h => .str s h
  | _, _, .tup h r => .tup (k _ _ h) (Ims.mono k r)
theorem Ims.mono (k : TK H H') : ∀ {vs : List V} {ds : List PyData}, Ims H vs ds → Ims H' vs ds
  | _, _, .nil => .nil
  | _, _, .cons h r => .cons (Im.mono k h) (Ims.mono k r)
end
mutual
theorem Im.dp : ∀ {v : V} {d : PyData}, Im H v d → Dp K H v d ∧ d.canLay0 = true
  | _, _, .non => ⟨.non, by simp [PyData.canLay0]⟩
  | _, _, .bl b => ⟨.bl b, by simp [PyData.canLay0]⟩
  | _, _, .int i => ⟨.int i, by simp [PyData.canLay0]⟩
  | _, _, .str s h => ⟨.str s, h⟩
  | _, _, .tup h r => ⟨.tup (SqT.of h) (Ims.dp r).1, by simp only [PyData.canLay0]; exact (Ims.dp r).2⟩
theorem Ims.dp : ∀ {vs : List V} {ds : List PyData}, Ims H vs ds → DpAll K H vs ds ∧ PyData.canLayAll0 ds = true
  | _, _, .nil => ⟨.nil, by simp [PyData.canLayAll0]⟩
  | _, _, .cons h r => ⟨.cons (Im.dp h).1 (Ims.dp r).1, by simp only [PyData.canLayAll0, Bool.and_eq_true]; exact ⟨(Im.dp h).2, (Ims.dp r).2⟩⟩
end
theorem Im.rep {v : V} {d : PyData} {n : Nat} (h : Im H v d) (k : d.depth ≤ n) : Rep K H n v d := ⟨(Im.dp h).1, (Im.dp (K := K) h).2, k⟩
end
/-! ### what changed: the objects of one owner alone, or new ones -/
structure Chg (own own' : Addr → Prop) (H H' : Hp) : Prop where
  keep : ∀ b o, H b = some o → ¬ own b → H' b = some o
  new : ∀ b, own' b → own b ∨ H b = none
  tk : TK H H'
theorem Chg.refl {own : Addr → Prop} {H : Hp} : Chg own own H H := ⟨fun _ _ e _ => e, fun _ h => .inl h, TK.refl H⟩
theorem w_inT {K : PySem.W.Frag} {H : Hp} {Q : VK} {x : V} {xs : List V} {p : Addr} {b : Bool} (h : H p = some (.tup xs)) (hx : flatV x = true) (ha : xs.all flatV = true) (e : inV x xs = b) (k : Q (.bl b) H) : rIn K false x (.ref p) H Q := ⟨p, xs, rfl, .inr (SqT.of h), hx, ha, by rw [if_neg (by decide), e]; exact k⟩
theorem w_iaL {K : PySem.W.Frag} {H : Hp} {Q : VK} {p : Addr} {xs : List V} {i : Int} {v : V} (h : H p = some (.lst xs)) (e : atI xs i = some v) (k : Q v H) : rIx K (.ref p) (.int i) H Q := .inl (w_ixL h e k)
theorem w_iaT {K : PySem.W.Frag} {H : Hp} {Q : VK} {p : Addr} {xs : List V} {i : Int} {v : V} (h : H p = some (.tup xs)) (e : atI xs i = some v) (k : Q v H) : rIx K (.ref p) (.int i) H Q := .inr (.inl (w_ixT h e k))
theorem w_ninT {K : PySem.W.Frag} {H : Hp} {Q : VK} {x : V} {xs : List V} {p : Addr} {b : Bool} (h : H p = some (.tup xs)) (hx : flatV x = true) (ha : xs.all flatV = true) (e : inV x xs = b) (k : Q (.bl !b) H) : rIn K true x (.ref p) H Q := ⟨p, xs, rfl, .inr (SqT.of h), hx, ha, by rw [if_pos rfl, e]; exact k⟩
theorem Chg.same {own : Addr → Prop} {H H' : Hp} (s : Same H H') : Chg own own H H' := ⟨fun b o e _ => s b o e, fun _ h => .inl h, s.tk⟩
theorem Chg.pre {own own' : Addr → Prop} {H H1 H' : Hp} (s : Same H H1) (c : Chg own own' H1 H') : Chg own own' H H' := ⟨fun b o e n => c.keep b o (s b o e) n, fun b h => (c.new b h).imp id s.free, s.tk.trans c.tk⟩
theorem Chg.trans {own own1 own2 : Addr → Prop} {H H1 H' : Hp} (c : Chg own own1 H H1) (d : Chg own1 own2 H1 H') (g : ∀ b, H1 b = none → H b = none) : Chg own own2 H H' :=
  ⟨fun b o e n => d.keep b o (c.keep b o e n) fun h => (c.new b h).elim n fun z => (by rw [e] at z; cases z), fun b h => (d.new b h).elim (c.new b) fun z => .inr (g b z), c.tk.trans d.tk⟩
section
variable {K : PySem.W.Frag} {H : Hp} {Q : VK} {i j : Int} {a b : Bool}
theorem eqD_non_non (k : Q (.bl true) H) : rEqD K (.non) (.non) H Q := w_eqR (Rep.non (n := 0)) (Rep.non (n := 0)) (by decide) (by decide) (by rw [show PyData.eqv (.none) (.none) = true from by simp [PyData.eqv]]; exact k)
theorem neD_non_non (k : Q (.bl false) H) : rNeD K (.non) (.non) H Q := w_neR (Rep.non (n := 0)) (Rep.non (n := 0)) (by decide) (by decide) (by rw [show PyData.eqv (.none) (.none) = true from by simp [PyData.eqv]]; exact k)
theorem eqD_int_int (k : Q (.bl (decide (i = j))) H) : rEqD K (.int i) (.int j) H Q := w_eqR (Rep.int (n := 0)) (Rep.int (n := 0)) (by decide) (by decide) (by rw [show PyData.eqv (.int i) (.int j) = decide (i = j) from by rw [Bool.eq_iff_iff]; simp [PyData.eqv]]; exact k)
theorem neD_int_int (k : Q (.bl (!decide (i = j))) H) : rNeD K (.int i) (.int j) H Q := w_neR (Rep.int (n := 0)) (Rep.int (n := 0)) (by decide) (by decide) (by rw [show PyData.eqv (.int i) (.int j) = decide (i = j) from by rw [Bool.eq_iff_iff]; simp [PyData.eqv]]; exact k)
theorem eqD_bl_bl (k : Q (.bl ((a == b))) H) : rEqD K (.bl a) (.bl b) H Q := w_eqR (Rep.bl (n := 0)) (Rep.bl (n := 0)) (by decide) (by decide) (by rw [show PyData.eqv (.bool a) (.bool b) = (a == b) from by simp [PyData.eqv]]; exact k)
theorem neD_bl_bl (k : Q (.bl (!(a == b))) H) : rNeD K (.bl a) (.bl b) H Q := w_neR (Rep.bl (n := 0)) (Rep.bl (n := 0)) (by decide) (by decide) (by rw [show PyData.eqv (.bool a) (.bool b) = (a == b) from by simp [PyData.eqv]]; exact k)
theorem eqD_non_int (k : Q (.bl false) H) : rEqD K (.non) (.int j) H Q := w_eqR (Rep.non (n := 0)) (Rep.int (n := 0)) (by decide) (by decide) (by rw [show PyData.eqv (.none) (.int j) = false from by simp [PyData.eqv]]; exact k)
theorem neD_non_int (k : Q (.bl true) H) : rNeD K (.non) (.int j) H Q := w_neR (Rep.non (n := 0)) (Rep.int (n := 0)) (by decide) (by decide) (by rw [show PyData.eqv (.none) (.int j) = false from by simp [PyData.eqv]]; exact k)
theorem eqD_int_non (k : Q (.bl false) H) : rEqD K (.int i) (.non) H Q := w_eqR (Rep.int (n := 0)) (Rep.non (n := 0)) (by decide) (by decide) (by rw [show PyData.eqv (.int i) (.none) = false from by simp [PyData.eqv]]; exact k)
theorem neD_int_non (k : Q (.bl true) H) : rNeD K (.int i) (.non) H Q := w_neR (Rep.int (n := 0)) (Rep.non (n := 0)) (by decide) (by decide) (by rw [show PyData.eqv (.int i) (.none) = false from by simp [PyData.eqv]]; exact k)
theorem eqD_non_bl (k : Q (.bl false) H) : rEqD K (.non) (.bl b) H Q := w_eqR (Rep.non (n := 0)) (Rep.bl (n := 0)) (by decide) (by decide) (by rw [show PyData.eqv (.none) (.bool b) = false from by simp [PyData.eqv]]; exact k)
theorem neD_non_bl (k : Q (.bl true) H) : rNeD K (.non) (.bl b) H Q := w_neR (Rep.non (n := 0)) (Rep.bl (n := 0)) (by decide) (by decide) (by rw [show PyData.eqv (.none) (.bool b) = false from by simp [PyData.eqv]]; exact k)
theorem eqD_bl_non (k : Q (.bl false) H) : rEqD K (.bl a) (.non) H Q := w_eqR (Rep.bl (n := 0)) (Rep.non (n := 0)) (by decide) (by decide) (by rw [show PyData.eqv (.bool a) (.none) = false from by simp [PyData.eqv]]; exact k)
theorem neD_bl_non (k : Q (.bl true) H) : rNeD K (.bl a) (.non) H Q := w_neR (Rep.bl (n := 0)) (Rep.non (n := 0)) (by decide) (by decide) (by rw [show PyData.eqv (.bool a) (.none) = false from by simp [PyData.eqv]]; exact k)
end
section
variable {K : PySem.W.Frag} {H : Hp} {Q : VK} {a : Addr} {i : Int} {b : Bool} {z : Str}
theorem w_isN0 (k : Q (.bl true) H) : rIsNA .non .non H Q := ⟨rfl, by rw [decide_eq_true rfl]; exact k⟩
theorem w_isNr (k : Q (.bl false) H) : rIsNA (.ref a) .non H Q := ⟨rfl, by rw [decide_eq_false (by intro z; cases z)]; exact k⟩
theorem w_isNi (k : Q (.bl false) H) : rIsNA (.int i) .non H Q := ⟨rfl, by rw [decide_eq_false (by intro z; cases z)]; exact k⟩
theorem w_isNb (k : Q (.bl false) H) : rIsNA (.bl b) .non H Q := ⟨rfl, by rw [decide_eq_false (by intro z; cases z)]; exact k⟩
theorem w_isNs (k : Q (.bl false) H) : rIsNA (.str z) .non H Q := ⟨rfl, by rw [decide_eq_false (by intro z; cases z)]; exact k⟩
theorem w_noN0 (k : Q (.bl false) H) : rNotNA .non .non H Q := ⟨rfl, by rw [decide_eq_true rfl]; exact k⟩
theorem w_noNr (k : Q (.bl true) H) : rNotNA (.ref a) .non H Q := ⟨rfl, by rw [decide_eq_false (by intro z; cases z)]; exact k⟩
theorem w_noNi (k : Q (.bl true) H) : rNotNA (.int i) .non H Q := ⟨rfl, by rw [decide_eq_false (by intro z; cases z)]; exact k⟩
theorem w_noNs (k : Q (.bl true) H) : rNotNA (.str z) .non H Q := ⟨rfl, by rw [decide_eq_false (by intro z; cases z)]; exact k⟩
end
/-! ### dicts -/
section
variable {K : PySem.W.Frag} {σ : TSt} {H : Hp} {Q : VK} {td ty tv : TE} {a : Addr} {kvs ks ls : List (Key × V)} {i j : Int} {v x y : V} {nx bk ct : TSt → Hp → Prop} {rt : VK} {z : Str} {xs : List V} {X : Cx}
theorem putK_le {κ : Type} [DecidableEq κ] {c : List (κ × V)} {k : κ} {x : V} : (putK c k x).length ≤ c.length + 1 := by
  unfold putK
  split <;> simp
def rDG (x y : V) (H : Hp) (Q : VK) : Prop := ∃ a v, x = .ref a ∧ DGet H a y (some v) ∧ Q v H
def rDI (x y : V) (H : Hp) (Q : VK) : Prop := ∃ a o, x = .ref a ∧ DGet H a y o ∧ Q (.bl o.isSome) H
def rDN (x y : V) (H : Hp) (Q : VK) : Prop := ∃ a o, x = .ref a ∧ DGet H a y o ∧ Q (.bl (!o.isSome)) H
def rDO (a : Addr) (z y : V) (H : Hp) (Q : VK) : Prop := ∃ o, DGet H a y o ∧ Q (o.getD z) H
def rD1 (ty : TE) (σ : TSt) (Q : VK) (x : V) (H : Hp) : Prop := ∃ a, x = .ref a ∧ IsD H a ∧ ty σ H fun y H2 => rDO a .non y H2 Q
def rD2 (ty tv : TE) (σ : TSt) (Q : VK) (x : V) (H : Hp) : Prop := ∃ a, x = .ref a ∧ IsD H a ∧ ty σ H fun y H2 => tv σ H2 fun z H3 => rDO a z y H3 Q
def rDP (v x y : V) (R : Hp → Prop) (H : Hp) : Prop := ∃ a H4, x = .ref a ∧ DPut H a y v H4 ∧ R H4
def rDCopy : List V → Hp → VK → Prop := fun xs H Q => ∃ (a : Addr) (kvs : List (Key × V)), xs = [.ref a] ∧ Rd H a (.dK kvs) ∧ ∀ p, H p = none → Q (.ref p) (upd H p (.dK kvs))
theorem c_dict : CallR X (.type "dict") rDCopy := call_dictD
theorem w_dget (k : td σ H fun x H1 => ty σ H1 fun y H2 => rDG x y H2 Q) : tDGet td ty σ H Q := k
theorem w_din (k : ty σ H fun y H1 => td σ H1 fun x H2 => rDI x y H2 Q) : tDIn ty td σ H Q := k
theorem w_dnin (k : ty σ H fun y H1 => td σ H1 fun x H2 => rDN x y H2 Q) : tDNotIn ty td σ H Q := k
theorem w_dget1 (k : td σ H fun x H1 => rD1 ty σ Q x H1) : tDGet1 td ty σ H Q := k
theorem w_dget2 (k : td σ H fun x H1 => rD2 ty tv σ Q x H1) : tDGet2 td ty tv σ H Q := k
theorem w_dputS (k : tv σ H fun v H1 => td σ H1 fun x H2 => ty σ H2 fun y H3 => rDP v x y (fun H4 => nx σ H4) H3) : sDPut td ty tv ⟨nx, rt, bk, ct⟩ σ H := k
theorem w_dnewK (k : ∀ p, H p = none → Q (.ref p) (upd H p (.dK []))) : tDNewK σ H Q := k
theorem isd_of (h : H a = some (.dK kvs)) : IsD H a := .inl ⟨kvs, .inl h⟩
theorem w_d1 (h : H a = some (.dK kvs)) (k : ty σ H fun y H2 => rDO a .non y H2 Q) : rD1 ty σ Q (.ref a) H := ⟨a, rfl, isd_of h, k⟩
theorem w_d2 (h : H a = some (.dK kvs)) (k : ty σ H fun y H2 => tv σ H2 fun z H3 => rDO a z y H3 Q) : rD2 ty tv σ Q (.ref a) H := ⟨a, rfl, isd_of h, k⟩
theorem w_dg (h : H a = some (.dK kvs)) (e : valV kvs (.inl i) = some v) (k : Q v H) : rDG (.ref a) (.int i) H Q := ⟨a, v, rfl, by rw [← e]; exact DGet.k (k := .inl i) h, k⟩
theorem w_di (h : H a = some (.dK kvs)) (k : Q (.bl (valV kvs (.inl i)).isSome) H) : rDI (.ref a) (.int i) H Q := ⟨a, _, rfl, DGet.k (k := .inl i) h, k⟩
theorem w_dn (h : H a = some (.dK kvs)) (k : Q (.bl (!(valV kvs (.inl i)).isSome)) H) : rDN (.ref a) (.int i) H Q := ⟨a, _, rfl, DGet.k (k := .inl i) h, k⟩
theorem w_do {z : V} (h : H a = some (.dK kvs)) (k : Q ((valV kvs (.inl i)).getD z) H) : rDO a z (.int i) H Q := ⟨_, DGet.k (k := .inl i) h, k⟩
theorem w_dp {R : Hp → Prop} (h : H a = some (.dK kvs)) (hz : kvs.length < sizeLine) (k : R (upd H a (.dK (putK kvs (.inl i) v)))) : rDP v (.ref a) (.int i) R H := ⟨a, _, rfl, .inl ⟨kvs, .inl i, h, rfl, hz, rfl⟩, k⟩
theorem w_dgs (h : H a = some (.dK kvs)) (e : valV kvs (.inr z) = some v) (k : Q v H) : rDG (.ref a) (.str z) H Q := ⟨a, v, rfl, by rw [← e]; exact DGet.k (k := .inr z) h, k⟩
theorem w_dis (h : H a = some (.dK kvs)) (k : Q (.bl (valV kvs (.inr z)).isSome) H) : rDI (.ref a) (.str z) H Q := ⟨a, _, rfl, DGet.k (k := .inr z) h, k⟩
theorem w_dns (h : H a = some (.dK kvs)) (k : Q (.bl (!(valV kvs (.inr z)).isSome)) H) : rDN (.ref a) (.str z) H Q := ⟨a, _, rfl, DGet.k (k := .inr z) h, k⟩
theorem w_dps {R : Hp → Prop} (h : H a = some (.dK kvs)) (hz : kvs.length < sizeLine) (k : R (upd H a (.dK (putK kvs (.inr z) v)))) : rDP v (.ref a) (.str z) R H := ⟨a, _, rfl, .inl ⟨kvs, .inr z, h, rfl, hz, rfl⟩, k⟩
theorem w_dcopy (h : H a = some (.dK kvs)) (k : ∀ p, H p = none → Q (.ref p) (upd H p (.dK kvs))) : rDCopy [.ref a] H Q := ⟨a, kvs, rfl, .inl h, k⟩
/-- t, u, .. = a tuple -/
theorem w_gt {n : Nat} {t : TGs} {R : TSt → Hp → Prop} (h : H a = some (.tup xs)) (hl : xs.length = n) (k : t xs σ H R) : gTup K n t (.ref a) σ H R := ⟨a, xs, rfl, SqT.of h, hl, k⟩
theorem w_gc {t : TG} {u : TGs} {R : TSt → Hp → Prop} (k : t v σ H fun σ' H' => u xs σ' H' R) : gCons t u (v :: xs) σ H R := ⟨v, xs, rfl, k⟩
theorem w_gn {R : TSt → Hp → Prop} (k : R σ H) : gNil [] σ H R := ⟨rfl, k⟩
/-- slices -/
def rPart (Q : Option Int → Hp → Prop) (x : V) (H : Hp) : Prop := ∃ i, x = .int i ∧ Q (some i) H
theorem w_sl {r : V → Option Int → Option Int → Hp → VK → Prop} {tl th : TO} (k : td σ H fun x H1 => tl σ H1 fun l H2 => th σ H2 fun u H3 => r x l u H3 Q) : tSl r td tl th σ H Q := k
theorem w_noPart {R : Option Int → Hp → Prop} (k : R none H) : tNoPart σ H R := k
theorem w_part {R : Option Int → Hp → Prop} (k : td σ H fun x H1 => rPart R x H1) : tPart td σ H R := k
theorem w_partI {R : Option Int → Hp → Prop} (k : R (some i) H) : rPart R (.int i) H := ⟨i, rfl, k⟩
theorem w_slL {lo hi : Option Int} (h : H a = some (.lst xs)) (k : ∀ p, H p = none → Q (.ref p) (upd H p (.lst (cutV xs lo hi)))) : rSlL K (.ref a) lo hi H Q := ⟨a, xs, rfl, SqL.of h, k⟩
theorem w_slA {lo hi : Option Int} (h : H a = some (.tup xs)) (k1 : HT.sIx xs.length 0 lo = 0 ∧ HT.sIx xs.length xs.length hi = xs.length → Q (.ref a) H) (k2 : ¬ (HT.sIx xs.length 0 lo = 0 ∧ HT.sIx xs.length xs.length hi = xs.length) → ∀ p, H p = none → Q (.ref p) (upd H p (.tup (cutV xs lo hi)))) :
    rSlA K (.ref a) lo hi H Q := ⟨a, xs, rfl, SqT.of h, k1, k2⟩
theorem w_isB {b c : Bool} (k : Q (.bl (decide (b = c))) H) : rIsB (.bl b) (.bl c) H Q := ⟨b, c, rfl, rfl, k⟩
/-- == of dicts of the same entries, whatever they hold -/
theorem w_eqDs {b : Addr} (ha : H a = some (.dK kvs)) (hb : H b = some (.dK kvs)) (nd : (kvs.map (·.1)).Nodup) (hv : ∀ p ∈ kvs, ∃ c, p.2 = .ref c) (k : Q (.bl true) H) : rEqV K (.ref a) (.ref b) H Q :=
  ⟨1, by decide, .inr ⟨a, b, kvs, kvs, rfl, rfl, ha, hb, rfl, fun p hp => ⟨p.2, val_nodup nd p hp, .inr (.inl (let ⟨c, e⟩ := hv p hp; ⟨c, e, e⟩))⟩⟩, k⟩
theorem TK.dK {H : Hp} {p : Addr} {o : HO} (n : H p = some (.dK kvs)) : TK H (upd H p o) := fun a xs e => by rw [upd_ne (ne_of e n (by intro z; cases z))]; exact e
end
/-! ### tables of the module, tuple(..), list(a dict), sorted(ints), a dict against {} -/
section
variable {K : PySem.W.Frag} {H : Hp} {Q : VK} {a p : Addr} {xs : List V} {i : Int} {v x : V} {kvs : List (Key × V)} {X : Cx} {b : Bool} {n : Nat} {ds : List PyData}
def rTupA (K : PySem.W.Frag) : List V → Hp → VK → Prop := fun xs H Q => ∃ p ys, xs = [.ref p] ∧ ((SqL K H p ys ∧ ∀ l, H l = none → Q (.ref l) (upd H l (.tup ys))) ∨ (SqT K H p ys ∧ Q (.ref p) H))
theorem c_tuple : CallR X (.type "tuple") (rTupA X.K) := call_tuple_of
theorem c_tupleK (K : PySem.W.Frag) (h : X.K = K := by rfl) : CallR X (.type "tuple") (rTupA K) := by subst h; exact c_tuple
theorem w_tupL (h : H p = some (.lst xs)) (k : ∀ l, H l = none → Q (.ref l) (upd H l (.tup xs))) : rTupA K [.ref p] H Q := ⟨p, xs, rfl, .inl ⟨SqL.of h, k⟩⟩
theorem w_tupT (h : H p = some (.tup xs)) (k : Q (.ref p) H) : rTupA K [.ref p] H Q := ⟨p, xs, rfl, .inr ⟨SqT.of h, k⟩⟩
theorem w_listD (h : H p = some (.dK kvs)) (k : ∀ q, H q = none → Q (.ref q) (upd H q (.lst (kvs.map fun kv => kV kv.1)))) : rListD [.ref p] H Q := ⟨p, kvs, rfl, h, k⟩
theorem w_sortI {ns : List Int} (h : H a = some (.lst (ns.map V.int))) (k : ∀ (ns' : List Int) (p : Addr), ns'.Perm ns → ns'.Pairwise (· ≤ ·) → H p = none → Q (.ref p) (upd H p (.lst (ns'.map V.int)))) : rSortedI K [.ref a] H Q := ⟨a, ns, rfl, SqL.of h, k⟩
theorem w_ixTK (h : SqT K H p xs) (e : atI xs i = some v) (k : Q v H) : rIxT K (.ref p) (.int i) H Q := ⟨p, xs, i, v, rfl, rfl, h, e, k⟩
theorem w_inK (h : SqT K H p xs) (hx : flatV x = true) (ha : xs.all flatV = true) (k : Q (.bl (inV x xs)) H) : rIn K false x (.ref p) H Q := ⟨p, xs, rfl, .inr h, hx, ha, by rw [if_neg (by decide)]; exact k⟩
theorem w_inKb (h : SqT K H p xs) (hx : flatV x = true) (ha : xs.all flatV = true) (e : inV x xs = b) (k : Q (.bl b) H) : rIn K false x (.ref p) H Q := w_inK h hx ha (by rw [e]; exact k)
theorem w_ninK (h : SqT K H p xs) (hx : flatV x = true) (ha : xs.all flatV = true) (k : Q (.bl (!inV x xs)) H) : rIn K true x (.ref p) H Q := ⟨p, xs, rfl, .inr h, hx, ha, by rw [if_pos rfl]; exact k⟩
theorem Rep.tupK (h : SqT K H p xs) (r : Reps K H n xs ds) : Rep K H (n + 1) (.ref p) (.tuple ds) := by
  obtain ⟨z, y, c⟩ := r.all
  exact ⟨.tup h z, by simp only [PyData.canLay0]; exact y, by simp only [PyData.depth]; omega⟩
def rNeE : R2 := fun x y H Q => ∃ a b ks, x = .ref a ∧ y = .ref b ∧ H a = some (.dK ks) ∧ H b = some (.dK []) ∧ Q (.bl (!ks.isEmpty)) H
theorem op_neE (hu : X.A.units < cLine) : OpR X (compareOp .NotEq) rNeE := by
  rintro pins s σ H x y v u Q I rx ry ⟨a, b, ks, rfl, rfl, ea, eb, q⟩
  cases (show v = Value.ref a from rx)
  cases (show u = Value.ref b from ry)
  obtain ⟨_, ya, va, ra, da⟩ := (show ObjOk X.prog X.w H s.heap a (.dK ks) from I.hok a _ ea)
  obtain ⟨_, yb, vb, rb, db⟩ := (show ObjOk X.prog X.w H s.heap b (.dK []) from I.hok b _ eb)
  have la := ra.length
  have lb := rb.length
  refine PySem.W.keq_ne (knd := mixKind X.prog X.w) (r := true) ya yb da db hu (fun hl => ?_) (fin_bl I q ?_)
  · have e : va = [] := List.eq_nil_of_length_eq_zero (by rw [hl, ← lb]; rfl)
    rw [e]; exact .nil
  · rw [← la, ← lb]
    cases ks <;> simp
theorem w_neE {b : Addr} (h1 : H a = some (.dK kvs)) (h2 : H b = some (.dK [])) (k : Q (.bl (!kvs.isEmpty)) H) : rNeE (.ref a) (.ref b) H Q := ⟨a, b, kvs, rfl, rfl, h1, h2, k⟩
end
/-! ### indices -/
theorem atI_mod {α : Type} {xs : List α} {i : Int} {v : α} (h : xs[(i % (xs.length : Int)).toNat]? = some v) : atI xs (i % (xs.length : Int)) = some v := by
  have h1 := (List.getElem?_eq_some_iff.mp h).1
  have h0 : 0 ≤ i % (xs.length : Int) := Int.emod_nonneg _ (by omega)
  have e := atI_nat h
  rwa [Int.toNat_of_nonneg h0] at e
theorem atI_of {α : Type} {xs : List α} {i : Int} {v : α} (h0 : 0 ≤ i) (h : xs[i.toNat]? = some v) : atI xs i = some v := by
  have e := atI_nat h
  rwa [Int.toNat_of_nonneg h0] at e
theorem seq_mod {n : Nat} {i : Int} (h : 0 < n) : seqIndex? (i % (n : Int)) n = some (i % (n : Int)).toNat := by
  have h0 : 0 ≤ i % (n : Int) := Int.emod_nonneg _ (by omega)
  have h1 : i % (n : Int) < n := Int.emod_lt_of_pos _ (by omega)
  exact seqIndex_of h0 h1
theorem ints_mod {xs : List Int} {m : Int} (z : Int) (hm : m = xs.length) (h : 0 < xs.length) : ∃ b, atI (xs.map V.int) (z % m) = some (.int b) ∧ b ∈ xs := by
  subst hm
  have h0 : 0 ≤ z % (xs.length : Int) := Int.emod_nonneg _ (by omega)
  have h1 : z % (xs.length : Int) < xs.length := Int.emod_lt_of_pos _ (by omega)
  have hl : (z % (xs.length : Int)).toNat < xs.length := by omega
  exact ⟨_, atI_of h0 (by rw [List.getElem?_map, List.getElem?_eq_getElem hl]; rfl), List.getElem_mem hl⟩
theorem get_map {α β : Type} {f : α → β} {xs : List α} {i : Nat} {y : β} (h : (xs.map f)[i]? = some y) : ∃ x, xs[i]? = some x ∧ y = f x := by
  rw [List.getElem?_map] at h
  cases e : xs[i]? with
  | none => rw [e] at h; cases h
  | some x => rw [e] at h; exact ⟨x, rfl, (Option.some.inj h).symm⟩
theorem get_some {α : Type} {xs : List α} {i : Nat} (h : i < xs.length) : ∃ x, xs[i]? = some x := ⟨xs[i], List.getElem?_eq_getElem h⟩
theorem take_next {α : Type} {xs : List α} {i : Nat} {x : α} (h : xs[i]? = some x) : xs.take (i + 1) = xs.take i ++ [x] := by
  obtain ⟨hl, e⟩ := List.getElem?_eq_some_iff.mp h
  rw [List.take_add_one, h]; rfl
/-- all but what M names is as it was -/
def Kept (M : Addr → Prop) (H H' : Hp) : Prop := ∀ b o, H b = some o → ¬ M b → H' b = some o
theorem _root_.L2.Same.kept {M : Addr → Prop} {H H' : Hp} (h : Same H H') : Kept M H H' := fun b o e _ => h b o e
theorem Kept.trans {M : Addr → Prop} {H H1 H2 : Hp} (h : Kept M H H1) (k : Kept M H1 H2) : Kept M H H2 := fun b o e n => k b o (h b o e n) n
theorem same_new {H : Hp} {p : Addr} {o : HO} (h : H p = none) : Same H (upd H p o) := fun b u e => by rw [upd_ne (ne_of_none e h)]; exact e
theorem _root_.L2.Same.upd_new {H H' : Hp} {p : Addr} {o : HO} (s : Same H H') (h : H p = none) : Same H (upd H' p o) := fun b u e => by rw [upd_ne (ne_of_none e h)]; exact s b u e
theorem kept_upd {M : Addr → Prop} {H : Hp} {p : Addr} {o : HO} (h : M p) : Kept M H (upd H p o) := fun b u e n => by rw [upd_ne (fun q => n (by rw [q]; exact h))]; exact e
/-! ### the end: what a def lets out depends on the world -/
theorem noX {w : World} {P : Program} (H : Hp) (s : Shared) (e : Value) (s' : Shared) (h : L2.CX P w [] H s (fun _ _ _ => False) e s') : False := by
  obtain ⟨_, _, _, _, _, _, _, _, _, _, _, _, z⟩ := h
  exact z
theorem walk_ofW {l : PySem.W.OpenLaw} {n k : Nat} {q : Program} {loose : List Str} {XP : (Str → Option Value) → Heap → Prop} {YP : World → Heap → Prop} {d : DefRec} {x : Str}
    (hn : l.most = some n) (hn2 : n ≤ sizeLine) (hdf : d.params.defaults = []) (hr : Room k callerA)
    (F : ∀ (w : World) (mg : Str → Option Value) (fa : Addr) (h : Heap), YP w h → h.Ns mainGlobals mg → mg d.name = some (.ref fa) →
      ∃ (K : PySem.W.Frag) (fd : FuncData) (sp : Sp), K.In h ∧ (∀ (s : Shared) (u : Value), BindsTo s fd ⟨[u], []⟩ [(x, u)]) ∧
        (∀ (H : Hp) (a : Addr) (ns : List Int), ns.length ≤ n → Only H → SqL K H a (ns.map V.int) → sp [.ref a] H (fun v _ => v = .bl true) fun _ _ _ => False) ∧
        ∀ base : Heap, K.In base → base.Ns mainGlobals mg → FnOk l.prog w K mg base (L2.CX l.prog w) k fa fd [x] sp) :
    PySem.W.WalkO q loose XP YP l.row.toRowW d [] (fun f vs => PySem.call f vs) := by
  refine Att.attach_call hn hdf fun w s₀ s₁ mg mb fa o pm cd doc a vs ns G Y ho hd hcd hmg hobj hints hlen hg => ?_
  obtain ⟨K, fd, sp, KX, hb, hsp, hF⟩ := F w mg fa _ Y G.T.g hmg
  exact law_call KX G.T.g G.T.b G.T.builtins G.T.nolimit hg hobj hints (Nat.le_trans hlen hn2) hr hF hb (fun H hO hS => hsp H a ns hlen hO hS) fun H e s' h => noX H s₁ e s' h
end Sp

namespace Ab
open PySem PySem.Spec PyProof.Rows L2 Sp

/-! ## values as trees, a store of what changes -/
inductive T where
  | non | bl (b : Bool) | int (i : Int) | str (s : String) | tup (l : List T) | lst (l : List T) | dct (b : Bool) (l : List (T × T)) | tupk (l : List T) | scr (l : List T) | ref (n : Nat) | ty (n : String) | con (x : String)
inductive O where
  | lst (l : List T) | dct (b : Bool) (l : List (T × T)) | lck (b : Bool) (l : List (T × T)) | obj (c : String) (fs : List (String × T)) | dead
abbrev Sto := List O
inductive R (α : Type) where
  | ok (a : α) (S : Sto) | exc (c : String) (S : Sto) | bad
def R.bind {α β : Type} (r : R α) (f : α → Sto → R β) : R β := match r with
  | .ok a S => f a S
  | .exc c S => .exc c S
  | .bad => .bad
/-- the ghost: where the handles stand, what is frozen -/
structure G where
  mu : List Addr
  F : Hp
def isKey : T → Bool
  | .int _ => true
  | .str _ => true
  | _ => false
def keyb (ts : List T) : Bool := !ts.isEmpty && ts.all isKey
def KR : T → Key → Prop
  | .int i, k => k = .inl i
  | .str s, k => k = .inr (.ofString s)
  | _, _ => False
abbrev KRs : List T → List Key → Prop := Paired KR
mutual
inductive Rp (K : PySem.W.Frag) (g : G) : T → V → Prop
  | non : Rp K g .non .non
  | bl (b : Bool) : Rp K g (.bl b) (.bl b)
  | int (i : Int) : Rp K g (.int i) (.int i)
  | str (s : String) : Rp K g (.str s) (.str (.ofString s))
  | ty (n : String) : Rp K g (.ty n) (.ty n)
  | con (x : String) : Rp K g (.con x) (.ref (He.ga K (.ofString x)))
  | ref {n : Nat} {a : Addr} : g.mu[n]? = some a → Rp K g (.ref n) (.ref a)
  | tup {ts : List T} {a : Addr} {vs : List V} : SqT K g.F a vs → (keyb ts = true → g.F a = some (.tup vs)) → Rps K g ts vs → Rp K g (.tup ts) (.ref a)
  | tupk {ts : List T} {a : Addr} {vs : List V} : SqT K g.F a vs → Rps K g ts vs → Rp K g (.tupk ts) (.ref a)
  | lst {ts : List T} {a : Addr} {vs : List V} : g.F a = some (.lst vs) → Rps K g ts vs → Rp K g (.lst ts) (.ref a)
  | scr {ts : List T} {a : Addr} {vs : List V} : SqL K g.F a vs → Rps K g ts vs → Rp K g (.scr ts) (.ref a)
  | dct {ps : List (T × T)} {a : Addr} {od : Obj} {kvs : List (Key × V)} : g.F a = some (.frz od (.dK kvs)) → Rpk K g ps kvs → Rp K g (.dct false ps) (.ref a)
  | dctT {ps : List (T × T)} {a : Addr} {od : Obj} {kvs : List (List Key × V)} : g.F a = some (.frz od (.dT kvs)) → Rpt K g ps kvs → Rp K g (.dct true ps) (.ref a)
inductive Rps (K : PySem.W.Frag) (g : G) : List T → List V → Prop
  | nil : Rps K g [] []
  | cons {t : T} {ts : List T} {v : V} {vs : List V} : Rp K g t v → Rps K g ts vs → Rps K g (t :: ts) (v :: vs)
inductive Rpk (K : PySem.W.Frag) (g : G) : List (T × T) → List (Key × V) → Prop
  | nil : Rpk K g [] []
  | cons {k x : T} {kk : Key} {v : V} {ps : List (T × T)} {kvs : List (Key × V)} : KR k kk → Rp K g x v → Rpk K g ps kvs → Rpk K g ((k, x) :: ps) ((kk, v) :: kvs)
inductive Rpt (K : PySem.W.Frag) (g : G) : List (T × T) → List (List Key × V) → Prop
  | nil : Rpt K g [] []
  | cons {ks : List T} {x : T} {kk : List Key} {v : V} {ps : List (T × T)} {kvs : List (List Key × V)} : KRs ks kk → Rp K g x v → Rpt K g ps kvs → Rpt K g ((.tup ks, x) :: ps) ((kk, v) :: kvs)
end
/-- the ghost has grown -/
structure GLe (g g' : G) : Prop where
  mu : ∀ (n : Nat) (a : Addr), g.mu[n]? = some a → g'.mu[n]? = some a
  F : ∀ a o, g.F a = some o → g'.F a = some o
theorem GLe.refl (g : G) : GLe g g := ⟨fun _ _ e => e, fun _ _ e => e⟩
theorem GLe.trans {g g1 g2 : G} (h : GLe g g1) (k : GLe g1 g2) : GLe g g2 := ⟨fun n a e => k.mu n a (h.mu n a e), fun a o e => k.F a o (h.F a o e)⟩
theorem SqT.sub {K : PySem.W.Frag} {H H' : Hp} {a : Addr} {vs : List V} (h : SqT K H a vs) (k : ∀ a o, H a = some o → H' a = some o) : SqT K H' a vs := by
  rcases h with (h | ⟨o, h⟩) | h
  · exact .inl (.inl (k _ _ h))
  · exact .inl (.inr ⟨o, k _ _ h⟩)
  · exact .inr h
theorem SqL.sub {K : PySem.W.Frag} {H H' : Hp} {a : Addr} {vs : List V} (h : SqL K H a vs) (k : ∀ a o, H a = some o → H' a = some o) : SqL K H' a vs := by
  rcases h with (h | ⟨o, h⟩) | h
  · exact .inl (.inl (k _ _ h))
  · exact .inl (.inr ⟨o, k _ _ h⟩)
  · exact .inr h
section
variable {K : PySem.W.Frag} {g g' : G}
mutual
theorem Rp.mono (l : GLe g g') : ∀ {t : T} {v : V}, Rp K g t v → Rp K g' t v
  | _, _, .non => .non
  | _, _, .bl b => .bl b
  | _, _, .int i => .int i
  | _, _, .str s => .str s
  | _, _, .ty n => .ty n
  | _, _, .con x => .con x
  | _, _, .ref h => .ref (l.mu _ _ h)
  | _, _, .tup h k r => .tup (SqT.sub h l.F) (fun e => l.F _ _ (k e)) (Rps.mono l r)
  | _, _, .tupk h r => .tupk (SqT.sub h l.F) (Rps.mono l r)
  | _, _, .lst h r => .lst (l.F _ _ h) (Rps.mono l r)
  | _, _, .scr h r => .scr (SqL.sub h l.F) (Rps.mono l r)
  | _, _, .dct h r => .dct (l.F _ _ h) (Rpk.mono l r)
  | _, _, .dctT h r => .dctT (l.F _ _ h) (Rpt.mono l r)
theorem Rps.mono (l : GLe g g') : ∀ {t : List T} {v : List V}, Rps K g t v → Rps K g' t v
  | _, _, .nil => .nil
  | _, _, .cons h r => .cons (Rp.mono l h) (Rps.mono l r)
theorem Rpk.mono (l : GLe g g') : ∀ {t : List (T × T)} {v : List (Key × V)}, Rpk K g t v → Rpk K g' t v
  | _, _, .nil => .nil
  | _, _, .cons k h r => .cons k (Rp.mono l h) (Rpk.mono l r)
theorem Rpt.mono (l : GLe g g') : ∀ {t : List (T × T)} {v : List (List Key × V)}, Rpt K g t v → Rpt K g' t v
  | _, _, .nil => .nil
  | _, _, .cons k h r => .cons k (Rp.mono l h) (Rpt.mono l r)
end
theorem Rps.length : ∀ {ts : List T} {vs : List V}, Rps K g ts vs → ts.length = vs.length
  | _, _, .nil => rfl
  | _, _, .cons _ r => congrArg (· + 1) (Rps.length r)
theorem Rps.get : ∀ {ts : List T} {vs : List V} {i : Nat} {t : T}, Rps K g ts vs → ts[i]? = some t → ∃ v, vs[i]? = some v ∧ Rp K g t v
  | _, _, 0, _, .cons h _, e => ⟨_, rfl, by cases e; exact h⟩
  | _, _, i + 1, _, .cons _ r, e => Rps.get (i := i) r (by simpa using e)
  | _, _, _, _, .nil, e => by simp at e
theorem Rps.get' : ∀ {ts : List T} {vs : List V} {i : Nat} {v : V}, Rps K g ts vs → vs[i]? = some v → ∃ t, ts[i]? = some t ∧ Rp K g t v
  | _, _, 0, _, .cons h _, e => ⟨_, rfl, by cases e; exact h⟩
  | _, _, i + 1, _, .cons _ r, e => Rps.get' (i := i) r (by simpa using e)
  | _, _, _, _, .nil, e => by simp at e
theorem Rps.append : ∀ {ts us : List T} {vs ws : List V}, Rps K g ts vs → Rps K g us ws → Rps K g (ts ++ us) (vs ++ ws)
  | _, _, _, _, .nil, h => h
  | _, _, _, _, .cons a r, h => .cons a (Rps.append r h)
theorem Rps.set : ∀ {ts : List T} {vs : List V} {t : T} {v : V} (i : Nat), Rps K g ts vs → Rp K g t v → Rps K g (ts.set i t) (vs.set i v)
  | _, _, _, _, _, .nil, _ => .nil
  | _, _, _, _, 0, .cons _ r, h => .cons h r
  | _, _, _, _, i + 1, .cons a r, h => .cons a (Rps.set i r h)
theorem Rps.erase : ∀ {ts : List T} {vs : List V} (i : Nat), Rps K g ts vs → Rps K g (ts.eraseIdx i) (vs.eraseIdx i)
  | _, _, _, .nil => .nil
  | _, _, 0, .cons _ r => r
  | _, _, i + 1, .cons a r => .cons a (Rps.erase i r)
theorem Rps.take : ∀ {ts : List T} {vs : List V} (n : Nat), Rps K g ts vs → Rps K g (ts.take n) (vs.take n)
  | _, _, _, .nil => by simp; exact .nil
  | _, _, 0, .cons _ _ => .nil
  | _, _, n + 1, .cons a r => .cons a (Rps.take n r)
theorem Rps.drop : ∀ {ts : List T} {vs : List V} (n : Nat), Rps K g ts vs → Rps K g (ts.drop n) (vs.drop n)
  | _, _, _, .nil => by simp; exact .nil
  | _, _, 0, .cons a r => .cons a r
  | _, _, n + 1, .cons _ r => Rps.drop n r
theorem Rps.repl {ts : List T} {vs : List V} (h : Rps K g ts vs) : ∀ n : Nat, Rps K g (List.replicate n ts).flatten (List.replicate n vs).flatten
  | 0 => .nil
  | n + 1 => by
    rw [List.replicate_succ, List.replicate_succ, List.flatten_cons, List.flatten_cons]
    exact h.append (Rps.repl h n)
end
/-- fields of an instance -/
inductive Rpf (K : PySem.W.Frag) (g : G) : List (String × T) → List (Str × V) → Prop
  | nil : Rpf K g [] []
  | cons {f : String} {t : T} {v : V} {fs : List (String × T)} {vs : List (Str × V)} : Rp K g t v → Rpf K g fs vs → Rpf K g ((f, t) :: fs) ((.ofString f, v) :: vs)
theorem Rpf.mono {K : PySem.W.Frag} {g g' : G} (l : GLe g g') : ∀ {fs : List (String × T)} {vs : List (Str × V)}, Rpf K g fs vs → Rpf K g' fs vs
  | _, _, .nil => .nil
  | _, _, .cons h r => .cons (h.mono l) (Rpf.mono l r)
theorem ofString_inj {s t : String} (h : Str.ofString s = Str.ofString t) : s = t := by
  rw [Str.ofString_eq_toList, Str.ofString_eq_toList] at h
  have e : s.toList.map Char.toNat = t.toList.map Char.toNat := by simpa using h
  have inj : ∀ {a b : List Char}, a.map Char.toNat = b.map Char.toNat → a = b := by
    intro a
    induction a with
    | nil => intro b h; cases b with
      | nil => rfl
      | cons => simp at h
    | cons c a ih => intro b h; cases b with
      | nil => simp at h
      | cons d b =>
        simp only [List.map_cons, List.cons.injEq] at h
        rw [ih h.2, Char.ext (UInt32.toNat_inj.mp h.1)]
  exact String.ext (inj e)
theorem ofString_iff {s t : String} : Str.ofString s = Str.ofString t ↔ s = t := ⟨ofString_inj, fun e => by rw [e]⟩
theorem strOk_of (s : String) : PySem.PyData.strOk (.ofString s) = true := by
  rw [Str.ofString_eq_toList]
  unfold PySem.PyData.strOk
  simp only [List.all_toArray, List.all_map, List.all_eq_true, Function.comp, decide_eq_true_eq]
  intro c _
  have h := c.valid
  simp only [UInt32.isValidChar, Nat.isValidChar] at h
  have : c.toNat = c.val.toNat := rfl
  omega
/-! ## the relation of a store to a heap -/
def OR (K : PySem.W.Frag) (g : G) (H : Hp) (a : Addr) : O → Prop
  | .lst ts => ∃ vs, H a = some (.lst vs) ∧ Rps K g ts vs
  | .dct false ps => ∃ kvs, H a = some (.dK kvs) ∧ Rpk K g ps kvs
  | .dct true ps => ∃ kvs, H a = some (.dT kvs) ∧ Rpt K g ps kvs
  | .lck false ps => ∃ od kvs, H a = some (.frz od (.dK kvs)) ∧ Rpk K g ps kvs
  | .lck true ps => ∃ od kvs, H a = some (.frz od (.dT kvs)) ∧ Rpt K g ps kvs
  | .obj c fs => ∃ dx vs, H a = some (.ins (He.ga K (.ofString c)) dx vs) ∧ Rpf K g fs vs
  | .dead => True
def lv (g : G) (S : Sto) (a : Addr) : Prop := ∃ (n : Nat) (o : O), S[n]? = some o ∧ o ≠ .dead ∧ g.mu[n]? = some a
structure Wd (K : PySem.W.Frag) (S : Sto) (H : Hp) (g : G) : Prop where
  len : g.mu.length = S.length
  sub : ∀ a o, g.F a = some o → H a = some o
  cell : ∀ (n : Nat) (o : O) (a : Addr), S[n]? = some o → o ≠ .dead → g.mu[n]? = some a → OR K g H a o
  off : ∀ a, lv g S a → g.F a = none
  inj : ∀ (i j : Nat) (o o' : O) (a : Addr), S[i]? = some o → o ≠ .dead → S[j]? = some o' → o' ≠ .dead → g.mu[i]? = some a → g.mu[j]? = some a → i = j
structure Ext (S : Sto) (H : Hp) (g : G) (S' : Sto) (H' : Hp) (g' : G) : Prop where
  le : GLe g g'
  fz : ∀ a o, g.F a = some o → H' a = H a
  fr : ∀ a o, H a = some o → g.F a = none → ¬ lv g S a → H' a = some o ∧ g'.F a = none ∧ ¬ lv g' S' a
theorem Ext.refl (S : Sto) (H : Hp) (g : G) : Ext S H g S H g := ⟨.refl g, fun _ _ _ => rfl, fun _ _ h f l => ⟨h, f, l⟩⟩
theorem Ext.trans {S S1 S2 : Sto} {H H1 H2 : Hp} {g g1 g2 : G} (h : Ext S H g S1 H1 g1) (k : Ext S1 H1 g1 S2 H2 g2) : Ext S H g S2 H2 g2 :=
  ⟨h.le.trans k.le, fun a o e => (k.fz a o (h.le.F a o e)).trans (h.fz a o e), fun a o e f l => let ⟨e1, f1, l1⟩ := h.fr a o e f l; k.fr a o e1 f1 l1⟩
theorem OR.mono {K : PySem.W.Frag} {g g' : G} {H H' : Hp} {a : Addr} (l : GLe g g') (e : H' a = H a) : ∀ {o : O}, OR K g H a o → OR K g' H' a o
  | .lst _, ⟨vs, h, r⟩ => ⟨vs, e.trans h, r.mono l⟩
  | .dct false _, ⟨vs, h, r⟩ => ⟨vs, e.trans h, r.mono l⟩
  | .dct true _, ⟨vs, h, r⟩ => ⟨vs, e.trans h, r.mono l⟩
  | .lck false _, ⟨od, vs, h, r⟩ => ⟨od, vs, e.trans h, r.mono l⟩
  | .lck true _, ⟨od, vs, h, r⟩ => ⟨od, vs, e.trans h, r.mono l⟩
  | .obj _ _, ⟨dx, vs, h, r⟩ => ⟨dx, vs, e.trans h, r.mono l⟩
  | .dead, _ => trivial
theorem OR.there {K : PySem.W.Frag} {g : G} {H : Hp} {a : Addr} {o : O} (h : OR K g H a o) (n : o ≠ .dead) : ∃ u, H a = some u := by
  cases o with
  | lst => obtain ⟨_, h, _⟩ := h; exact ⟨_, h⟩
  | dct b => cases b <;> (obtain ⟨_, h, _⟩ := h; exact ⟨_, h⟩)
  | lck b => cases b <;> (obtain ⟨_, _, h, _⟩ := h; exact ⟨_, h⟩)
  | obj => obtain ⟨_, _, h, _⟩ := h; exact ⟨_, h⟩
  | dead => exact absurd rfl n
section
variable {K : PySem.W.Frag} {S : Sto} {H : Hp} {g : G} {p a : Addr} {ho : HO} {n : Nat} {o o' : O}
theorem Wd.lvH (W : Wd K S H g) (h : lv g S a) : ∃ u, H a = some u := let ⟨n, o, e, d, m⟩ := h; (W.cell n o a e d m).there d
theorem Wd.FH (W : Wd K S H g) {u : HO} (h : g.F a = some u) : ∃ u, H a = some u := ⟨_, W.sub a u h⟩
def G.put (g : G) (p : Addr) (o : HO) : G := ⟨g.mu, upd g.F p o⟩
def G.snoc (g : G) (p : Addr) : G := ⟨g.mu ++ [p], g.F⟩
theorem G.le_put (h : g.F p = none) : GLe g (g.put p ho) := ⟨fun _ _ e => e, fun a o e => by show upd _ _ _ _ = _; rw [upd_ne (ne_of_none e h)]; exact e⟩
theorem G.le_snoc : GLe g (g.snoc p) := ⟨fun n a e => by show (g.mu ++ [p])[n]? = some a; rw [List.getElem?_append_left (List.getElem?_eq_some_iff.mp e).1]; exact e, fun _ _ e => e⟩
/-- a new frozen thing -/
theorem Wd.frozen (W : Wd K S H g) (hp : H p = none) : Wd K S (upd H p ho) (g.put p ho) ∧ Ext S H g S (upd H p ho) (g.put p ho) := by
  have hF : g.F p = none := by
    cases q : g.F p with
    | none => rfl
    | some u => obtain ⟨_, e⟩ := W.FH q; rw [hp] at e; cases e
  have le := G.le_put (ho := ho) hF
  have ne : ∀ {b u}, H b = some u → b ≠ p := fun e => ne_of_none e hp
  have lvn : ∀ b, lv g S b → b ≠ p := fun b h => let ⟨_, e⟩ := W.lvH h; ne e
  refine ⟨⟨W.len, fun b u e => ?_, fun n o b e d m => (W.cell n o b e d m).mono le ?_, fun b h => ?_, W.inj⟩, le, fun b u e => ?_, fun b u e f l => ⟨?_, ?_, l⟩⟩
  · have e' : upd g.F p ho b = some u := e
    by_cases hb : b = p
    · subst hb; rw [upd_same] at e'; cases e'; exact upd_same
    · rw [upd_ne hb] at e'; rw [upd_ne hb]; exact W.sub b u e'
  · obtain ⟨_, e⟩ := (W.cell n o b e d m).there d
    rw [upd_ne (ne e)]
  · show upd _ _ _ _ = _
    rw [upd_ne (lvn b h)]; exact W.off b h
  · obtain ⟨_, e⟩ := W.FH e
    rw [upd_ne (ne e)]
  · rw [upd_ne (ne e)]; exact e
  · show upd _ _ _ _ = _
    rw [upd_ne (ne e)]; exact f
theorem get_snoc {α : Type} {l : List α} {x y : α} {n : Nat} (h : (l ++ [x])[n]? = some y) : l[n]? = some y ∨ (n = l.length ∧ y = x) := by
  by_cases e : n < l.length
  · rw [List.getElem?_append_left e] at h; exact .inl h
  · rw [List.getElem?_append_right (by omega)] at h
    have : n - l.length = 0 := by
      cases q : n - l.length with
      | zero => rfl
      | succ k => rw [q] at h; simp at h
    rw [this] at h
    exact .inr ⟨by omega, by simpa using h.symm⟩
/-- a new handle -/
theorem Wd.alloc (W : Wd K S H g) (hp : H p = none) (hd : o ≠ .dead) (ok : OR K (g.snoc p) (upd H p ho) p o) : Wd K (S ++ [o]) (upd H p ho) (g.snoc p) ∧ Ext S H g (S ++ [o]) (upd H p ho) (g.snoc p) ∧ (g.snoc p).mu[S.length]? = some p := by
  have hF : g.F p = none := by
    cases q : g.F p with
    | none => rfl
    | some u => obtain ⟨_, e⟩ := W.FH q; rw [hp] at e; cases e
  have le := G.le_snoc (g := g) (p := p)
  have ne : ∀ {b u}, H b = some u → b ≠ p := fun e => ne_of_none e hp
  have mu_eq : ∀ {n b}, (g.snoc p).mu[n]? = some b → g.mu[n]? = some b ∨ (n = S.length ∧ b = p) := fun {n b} h => by
    rcases get_snoc h with h | ⟨h, h'⟩
    · exact .inl h
    · exact .inr ⟨by rw [← W.len]; exact h, h'⟩
  have lt : ∀ {n b}, g.mu[n]? = some b → n < S.length := fun {n b} h => by rw [← W.len]; exact (List.getElem?_eq_some_iff.mp h).1
  have ltS : ∀ {n u}, S[n]? = some u → n < S.length := fun h => (List.getElem?_eq_some_iff.mp h).1
  have case : ∀ {n u b}, (S ++ [o])[n]? = some u → (g.snoc p).mu[n]? = some b → (S[n]? = some u ∧ g.mu[n]? = some b) ∨ (n = S.length ∧ u = o ∧ b = p) := fun {n u b} h k => by
    rcases get_snoc h with h | ⟨rfl, rfl⟩
    · rcases mu_eq k with k | ⟨k, _⟩
      · exact .inl ⟨h, k⟩
      · exact absurd (ltS h) (by omega)
    · rcases mu_eq k with k | ⟨_, k⟩
      · exact absurd (lt k) (by omega)
      · exact .inr ⟨rfl, rfl, k⟩
  refine ⟨⟨by show (g.mu ++ [p]).length = _; simp [W.len], fun b u e => ?_, fun n u b e d m => ?_, fun b h => ?_, fun i j u u' b e1 d1 e2 d2 m1 m2 => ?_⟩, ⟨le, fun b u e => ?_, fun b u e f l => ⟨?_, f, fun ⟨n, u', e1, d1, m1⟩ => ?_⟩⟩, ?_⟩
  · obtain ⟨_, e'⟩ := W.FH e
    rw [upd_ne (ne e')]; exact W.sub b u e
  · rcases case e m with ⟨e, m⟩ | ⟨rfl, rfl, rfl⟩
    · refine (W.cell n u b e d m).mono le ?_
      obtain ⟨_, e⟩ := (W.cell n u b e d m).there d
      rw [upd_ne (ne e)]
    · exact ok
  · obtain ⟨n, u, e, d, m⟩ := h
    rcases case e m with ⟨e, m⟩ | ⟨rfl, rfl, rfl⟩
    · exact W.off b ⟨n, u, e, d, m⟩
    · exact hF
  · have fresh : ∀ {n : Nat} {u : O}, S[n]? = some u → u ≠ .dead → g.mu[n]? = some p → False := fun e d m => by
      obtain ⟨_, e⟩ := (W.cell _ _ _ e d m).there d
      rw [hp] at e; cases e
    rcases case e1 m1 with ⟨f1, n1⟩ | ⟨q1, _, r1⟩ <;> rcases case e2 m2 with ⟨f2, n2⟩ | ⟨q2, _, r2⟩
    · exact W.inj i j u u' b f1 d1 f2 d2 n1 n2
    · rw [r2] at n1; exact (fresh f1 d1 n1).elim
    · rw [r1] at n2; exact (fresh f2 d2 n2).elim
    · rw [q1, q2]
  · obtain ⟨_, e⟩ := W.FH e
    rw [upd_ne (ne e)]
  · rw [upd_ne (ne e)]; exact e
  · rcases case e1 m1 with ⟨e1, m1⟩ | ⟨rfl, rfl, rfl⟩
    · exact l ⟨n, u', e1, d1, m1⟩
    · rw [hp] at e; cases e
  · show (g.mu ++ [p])[S.length]? = some p
    rw [← W.len]; simp
theorem get_set' {S : Sto} {n m : Nat} {o u : O} (h : (S.set n o)[m]? = some u) (hn : n < S.length) : (m = n ∧ u = o) ∨ (m ≠ n ∧ S[m]? = some u) := by
  by_cases e : m = n
  · subst e
    rw [List.getElem?_set_self hn] at h
    exact .inl ⟨rfl, (Option.some.inj h).symm⟩
  · rw [List.getElem?_set_ne (Ne.symm e)] at h
    exact .inr ⟨e, h⟩
/-- a handle's object is changed -/
theorem Wd.write (W : Wd K S H g) (hn : S[n]? = some o) (hd : o ≠ .dead) (hm : g.mu[n]? = some a) (hd' : o' ≠ .dead) (ok : OR K g (upd H a ho) a o') : Wd K (S.set n o') (upd H a ho) g ∧ Ext S H g (S.set n o') (upd H a ho) g := by
  have hl := (List.getElem?_eq_some_iff.mp hn).1
  have la : lv g S a := ⟨n, o, hn, hd, hm⟩
  have lvs : ∀ b, lv g (S.set n o') b ↔ lv g S b := fun b => by
    constructor
    · rintro ⟨m, u, e, d, mm⟩
      rcases get_set' e hl with ⟨rfl, rfl⟩ | ⟨_, e⟩
      · rw [hm] at mm; cases mm; exact la
      · exact ⟨m, u, e, d, mm⟩
    · rintro ⟨m, u, e, d, mm⟩
      by_cases q : m = n
      · subst q
        exact ⟨m, o', List.getElem?_set_self hl, hd', mm⟩
      · exact ⟨m, u, by rw [List.getElem?_set_ne (Ne.symm q)]; exact e, d, mm⟩
  have neF : ∀ {b u}, g.F b = some u → b ≠ a := fun {b u} e q => by subst q; rw [W.off b la] at e; cases e
  refine ⟨⟨by simp [W.len], fun b u e => ?_, fun m u b e d mm => ?_, fun b h => W.off b ((lvs b).mp h), fun i j u u' b e1 d1 e2 d2 m1 m2 => ?_⟩, .refl g, fun b u e => ?_, fun b u e f l => ⟨?_, f, fun h => l ((lvs b).mp h)⟩⟩
  · rw [upd_ne (neF e)]; exact W.sub b u e
  · rcases get_set' e hl with ⟨rfl, rfl⟩ | ⟨q, e⟩
    · rw [hm] at mm; cases mm; exact ok
    · refine (W.cell m u b e d mm).mono (.refl g) ?_
      rw [upd_ne]
      rintro rfl
      exact q (W.inj m n u o b e d hn hd mm hm)
  · rcases get_set' e1 hl with ⟨q1, _⟩ | ⟨_, f1⟩ <;> rcases get_set' e2 hl with ⟨q2, _⟩ | ⟨_, f2⟩
    · rw [q1, q2]
    · rw [q1] at m1 ⊢; exact W.inj n j o u' b hn hd f2 d2 m1 m2
    · rw [q2] at m2 ⊢; exact W.inj i n u o b f1 d1 hn hd m1 m2
    · exact W.inj i j u u' b f1 d1 f2 d2 m1 m2
  · rw [upd_ne (neF e)]
  · rw [upd_ne (fun q => l (by subst q; exact la))]; exact e
/-- a handle is frozen: its object (as ho) is a value from now on -/
theorem Wd.freeze (W : Wd K S H g) (hn : S[n]? = some o) (hd : o ≠ .dead) (hm : g.mu[n]? = some a) : Wd K (S.set n .dead) (upd H a ho) (g.put a ho) ∧ Ext S H g (S.set n .dead) (upd H a ho) (g.put a ho) := by
  have hl := (List.getElem?_eq_some_iff.mp hn).1
  have la : lv g S a := ⟨n, o, hn, hd, hm⟩
  have hF : g.F a = none := W.off a la
  have le := G.le_put (ho := ho) hF
  have case : ∀ {m : Nat} {u : O}, (S.set n .dead)[m]? = some u → u ≠ .dead → m ≠ n ∧ S[m]? = some u := fun {m u} e d => by
    rcases get_set' e hl with ⟨_, rfl⟩ | h
    · exact absurd rfl d
    · exact h
  have nea : ∀ {m : Nat} {u : O} {b : Addr}, m ≠ n → S[m]? = some u → u ≠ .dead → g.mu[m]? = some b → b ≠ a := fun {m u b} q e d mm z => by
    subst z
    exact q (W.inj m n u o b e d hn hd mm hm)
  have neF : ∀ {b u}, g.F b = some u → b ≠ a := fun {b u} e q => by subst q; rw [hF] at e; cases e
  refine ⟨⟨by show g.mu.length = _; simp [W.len], fun b u e => ?_, fun m u b e d mm => ?_, fun b h => ?_, fun i j u u' b e1 d1 e2 d2 m1 m2 => ?_⟩, le, fun b u e => ?_, fun b u e f l => ⟨?_, ?_, fun h => ?_⟩⟩
  · have e' : upd g.F a ho b = some u := e
    by_cases hb : b = a
    · subst hb; rw [upd_same] at e'; cases e'; exact upd_same
    · rw [upd_ne hb] at e'; rw [upd_ne hb]; exact W.sub b u e'
  · obtain ⟨q, e⟩ := case e d
    exact (W.cell m u b e d mm).mono le (by rw [upd_ne (nea q e d mm)])
  · obtain ⟨m, u, e, d, mm⟩ := h
    obtain ⟨q, e⟩ := case e d
    show upd _ _ _ _ = _
    rw [upd_ne (nea q e d mm)]
    exact W.off b ⟨m, u, e, d, mm⟩
  · obtain ⟨_, e1⟩ := case e1 d1
    obtain ⟨_, e2⟩ := case e2 d2
    exact W.inj i j u u' b e1 d1 e2 d2 m1 m2
  · rw [upd_ne (neF e)]
  · rw [upd_ne (fun q => l (by subst q; exact la))]; exact e
  · show upd _ _ _ _ = _
    rw [upd_ne (fun q => l (by subst q; exact la))]; exact f
  · obtain ⟨m, u, e, d, mm⟩ := h
    obtain ⟨_, e⟩ := case e d
    exact l ⟨m, u, e, d, mm⟩
end
end Ab

namespace Ab
open PySem PySem.Spec PyProof.Rows L2 Sp
/-! ## readings over stores -/
abbrev Slots := List (Option T)
def Sl (K : PySem.W.Frag) (g : G) (st : Slots) (σ : TSt) : Prop := st.length = σ.length ∧ ∀ (i : Nat) (t : T), st[i]? = some (some t) → ∃ v, σ[i]? = some (some v) ∧ Rp K g t v
theorem Sl.mono {K : PySem.W.Frag} {g g' : G} {st : Slots} {σ : TSt} (h : Sl K g st σ) (l : GLe g g') : Sl K g' st σ := ⟨h.1, fun i t e => let ⟨v, e1, r⟩ := h.2 i t e; ⟨v, e1, r.mono l⟩⟩
theorem Sl.set {K : PySem.W.Frag} {g : G} {st : Slots} {σ : TSt} {t : T} {v : V} (h : Sl K g st σ) (i : Nat) (r : Rp K g t v) : Sl K g (st.set i (some t)) (σ.set i (some v)) := by
  refine ⟨by simp [h.1], fun j u e => ?_⟩
  by_cases q : j = i
  · subst q
    have hl : j < st.length := by
      have := (List.getElem?_eq_some_iff.mp e).1
      simpa using this
    rw [List.getElem?_set_self hl] at e
    cases e
    exact ⟨v, List.getElem?_set_self (by rw [← h.1]; exact hl), r⟩
  · rw [List.getElem?_set_ne (Ne.symm q)] at e
    rw [List.getElem?_set_ne (Ne.symm q)]
    exact h.2 j u e
theorem Sl.unset {K : PySem.W.Frag} {g : G} {st : Slots} {σ : TSt} (h : Sl K g st σ) (i : Nat) (x : Option V) : Sl K g (st.set i none) (σ.set i x) := by
  refine ⟨by simp [h.1], fun j u e => ?_⟩
  by_cases q : j = i
  · subst q
    have hl : j < st.length := by
      have := (List.getElem?_eq_some_iff.mp e).1
      simpa using this
    rw [List.getElem?_set_self hl] at e
    cases e
  · rw [List.getElem?_set_ne (Ne.symm q)] at e
    rw [List.getElem?_set_ne (Ne.symm q)]
    exact h.2 j u e
abbrev XS := TSt → XK
def cR (K : PySem.W.Frag) (c : String) : Value := .ref (He.ga K (.ofString c))
def Post {α β : Type} (K : PySem.W.Frag) (E : XK) (S : Sto) (H : Hp) (g : G) (rel : G → α → β → Prop) (r : R α) (Q : β → Hp → Prop) : Prop := match r with
  | .ok t S' => ∀ v H' g', Wd K S' H' g' → Ext S H g S' H' g' → rel g' t v → Q v H'
  | .exc c S' => ∀ H' g', Wd K S' H' g' → Ext S H g S' H' g' → E (cR K c) none H'
  | .bad => False
abbrev bRel : G → Bool → Bool → Prop := fun _ a b => a = b
abbrev AE := Slots → Sto → R T
abbrev AT := Slots → Sto → R Bool
abbrev AA := Slots → Sto → R (List T)
def LE (K : PySem.W.Frag) (E : XS) (a : AE) : TE := fun σ H Q => ∃ st S g, Wd K S H g ∧ Sl K g st σ ∧ Post K (E σ) S H g (Rp K) (a st S) Q
def LT (K : PySem.W.Frag) (E : XS) (a : AT) : TT := fun σ H Q => ∃ st S g, Wd K S H g ∧ Sl K g st σ ∧ Post K (E σ) S H g bRel (a st S) Q
def LA (K : PySem.W.Frag) (E : XS) (a : AA) : TA := fun σ H Q => ∃ st S g, Wd K S H g ∧ Sl K g st σ ∧ Post K (E σ) S H g (Rps K) (a st S) Q
section
variable {K : PySem.W.Frag} {E : XK} {S S1 : Sto} {H H1 : Hp} {g g1 : G} {α β γ δ : Type} {rel : G → α → β → Prop} {rel1 : G → γ → δ → Prop} {Q : β → Hp → Prop} {Q1 : δ → Hp → Prop}
theorem Post.trans {r : R α} (h : Post K E S H g rel r Q) (x : Ext S H g S1 H1 g1) : Post K E S1 H1 g1 rel r Q := by
  cases r with
  | ok t S' => exact fun v H' g' w e r => h v H' g' w (x.trans e) r
  | exc c S' => exact fun H' g' w e => h H' g' w (x.trans e)
  | bad => exact h
theorem Post.bind {r : R γ} {f : γ → Sto → R α} (h : Post K E S H g rel (r.bind f) Q) (k : ∀ t S1 v H1 g1, Wd K S1 H1 g1 → Ext S H g S1 H1 g1 → rel1 g1 t v → Post K E S1 H1 g1 rel (f t S1) Q → Q1 v H1) : Post K E S H g rel1 r Q1 := by
  cases r with
  | ok t S' =>
    intro v H' g' w e r
    have h' : Post K E S H g rel (f t S') Q := h
    exact k t S' v H' g' w e r (h'.trans e)
  | exc c S' => exact h
  | bad => exact h
theorem Post.val {t : α} {v : β} (h : Post K E S H g rel (.ok t S) Q) (w : Wd K S H g) (r : rel g t v) : Q v H := h v H g w (.refl S H g) r
end
def m1 (f : T → Sto → R T) (a : AE) : AE := fun st S => (a st S).bind f
def m2 (f : T → T → Sto → R T) (a b : AE) : AE := fun st S => (a st S).bind fun x S => (b st S).bind fun y S => f x y S
def mN (f : List T → Sto → R T) (a : AA) : AE := fun st S => (a st S).bind f
def mNil : AA := fun _ S => .ok [] S
def mCons (a : AE) (r : AA) : AA := fun st S => (a st S).bind fun x S => (r st S).bind fun xs S => .ok (x :: xs) S
def mV (i : Nat) : AE := fun st S => match st[i]? with
  | some (some t) => .ok t S
  | _ => .bad
def mC (t : T) : AE := fun _ S => .ok t S
def Up1 (K : PySem.W.Frag) (f : T → Sto → R T) (r : V → Hp → VK → Prop) : Prop := ∀ {E S H g x v Q}, Wd K S H g → Rp K g x v → Post K E S H g (Rp K) (f x S) Q → r v H Q
def Up2 (K : PySem.W.Frag) (f : T → T → Sto → R T) (r : R2) : Prop := ∀ {E S H g x y v w Q}, Wd K S H g → Rp K g x v → Rp K g y w → Post K E S H g (Rp K) (f x y S) Q → r v w H Q
def UpN (K : PySem.W.Frag) (f : List T → Sto → R T) (r : List V → Hp → VK → Prop) : Prop := ∀ {E S H g xs vs Q}, Wd K S H g → Rps K g xs vs → Post K E S H g (Rp K) (f xs S) Q → r vs H Q
section
variable {X : Cx} {K : PySem.W.Frag} {E : XS} {e a b : Expr} {es : List Expr} {pos : Pos} {ea eb : AE} {ra : AA} {r : R2}
theorem PE.weak {t t' : TE} (h : PE X e t) (k : ∀ σ H Q, t' σ H Q → t σ H Q) : PE X e t' := ⟨fun pins s σ H Q I q => h.run pins s σ H Q I (k σ H Q q)⟩
theorem PT.weak {t t' : TT} (h : PT X e t) (k : ∀ σ H Q, t' σ H Q → t σ H Q) : PT X e t' := ⟨fun pins s σ H Q I q => h.run pins s σ H Q I (k σ H Q q)⟩
theorem PW.weak {t t' : TT} (h : PW X e t) (k : ∀ σ H Q, t' σ H Q → t σ H Q) : PW X e t' := ⟨fun wh pins s σ H Q I q => h.run wh pins s σ H Q I (k σ H Q q)⟩
theorem PA.weak {t t' : TA} (h : PA X es t) (k : ∀ σ H Q, t' σ H Q → t σ H Q) : PA X es t' := ⟨fun po pins s σ H Q I q => h.run po pins s σ H Q I (k σ H Q q)⟩
theorem LE.bind {α β : Type} {rel : G → α → β → Prop} {Q : β → Hp → Prop} {Q1 : VK} {f : T → Slots → Sto → R α} {σ : TSt} {H : Hp} {st : Slots} {S : Sto} {g : G} (w : Wd K S H g) (sl : Sl K g st σ) (h : Post K (E σ) S H g rel ((ea st S).bind fun t S => f t st S) Q)
    (k : ∀ t S1 v H1 g1, Wd K S1 H1 g1 → Sl K g1 st σ → Ext S H g S1 H1 g1 → Rp K g1 t v → Post K (E σ) S1 H1 g1 rel (f t st S1) Q → Q1 v H1) : LE K E ea σ H Q1 :=
  ⟨st, S, g, w, sl, h.bind (rel1 := Rp K) fun t S1 v H1 g1 w1 x r p => k t S1 v H1 g1 w1 (sl.mono x.le) x r p⟩
theorem LT.bind {α β : Type} {rel : G → α → β → Prop} {Q : β → Hp → Prop} {Q1 : Bool → Hp → Prop} {ea : AT} {f : Bool → Slots → Sto → R α} {σ : TSt} {H : Hp} {st : Slots} {S : Sto} {g : G} (w : Wd K S H g) (sl : Sl K g st σ) (h : Post K (E σ) S H g rel ((ea st S).bind fun t S => f t st S) Q)
    (k : ∀ t S1 H1 g1, Wd K S1 H1 g1 → Sl K g1 st σ → Ext S H g S1 H1 g1 → Post K (E σ) S1 H1 g1 rel (f t st S1) Q → Q1 t H1) : LT K E ea σ H Q1 :=
  ⟨st, S, g, w, sl, h.bind (rel1 := bRel) fun t S1 v H1 g1 w1 x r p => by cases (show t = v from r); exact k t S1 H1 g1 w1 (sl.mono x.le) x p⟩
theorem LA.bind {α β : Type} {rel : G → α → β → Prop} {Q : β → Hp → Prop} {Q1 : List V → Hp → Prop} {f : List T → Slots → Sto → R α} {σ : TSt} {H : Hp} {st : Slots} {S : Sto} {g : G} (w : Wd K S H g) (sl : Sl K g st σ) (h : Post K (E σ) S H g rel ((ra st S).bind fun t S => f t st S) Q)
    (k : ∀ t S1 v H1 g1, Wd K S1 H1 g1 → Sl K g1 st σ → Ext S H g S1 H1 g1 → Rps K g1 t v → Post K (E σ) S1 H1 g1 rel (f t st S1) Q → Q1 v H1) : LA K E ra σ H Q1 :=
  ⟨st, S, g, w, sl, h.bind (rel1 := Rps K) fun t S1 v H1 g1 w1 x r p => k t S1 v H1 g1 w1 (sl.mono x.le) x r p⟩
/-! names, constants, arguments -/
theorem aV (i : Nat) {x : Str} {pos : Pos} (hN : X.N[i]? = some x := by rfl) (hv : Vis X.env.scope x := by first | exact .inl rfl | exact .inr (.inl rfl) | exact .inr (.inr rfl)) (hd : (x == ("__debug__" : Str)) = false := by decide) (hcd : (x == ("__classdict__" : Str)) = false := by decide) : PE X (.Name x pos) (LE K E (mV i)) :=
  PE.weak (pe_var hN hv hd hcd) fun σ H Q ⟨st, S, g, w, sl, p⟩ => by
    unfold mV at p
    split at p
    · rename_i t e
      obtain ⟨v, e1, r⟩ := sl.2 i t e
      exact ⟨v, e1, p.val w r⟩
    · exact p.elim
theorem aC {t : T} {v : V} (h : PE X e (tC v)) (r : ∀ g, Rp K g t v) : PE X e (LE K E (mC t)) := PE.weak h fun σ H Q ⟨st, S, g, w, sl, p⟩ => p.val w (r g)
theorem aInt {i j} : PE X (.Constant (.int i) j pos) (LE K E (mC (.int i))) := aC pe_int fun _ => .int i
theorem aBl {i j} : PE X (.Constant (.bool i) j pos) (LE K E (mC (.bl i))) := aC pe_bl fun _ => .bl i
theorem aNon {j} : PE X (.Constant .none j pos) (LE K E (mC .non)) := aC pe_non fun _ => .non
theorem aStr {x j} {s : String} (h : x = Str.ofString s := by rfl) : PE X (.Constant (.str x) j pos) (LE K E (mC (.str s))) := by subst h; exact aC pe_str fun _ => .str s
theorem aGlob {x : Str} {t : T} {v : V} (h : PE X (.Name x pos) (tC v)) (r : ∀ g, Rp K g t v) : PE X (.Name x pos) (LE K E (mC t)) := aC h r
theorem aNil : PA X [] (LA K E mNil) := PA.weak pa_nil fun σ H Q ⟨st, S, g, w, sl, p⟩ => p.val (v := []) w .nil
theorem aCons (ha : PE X e (LE K E ea)) (hr : PA X es (LA K E ra)) (hs : starEach (e :: es) X.env = (false, eval e X.env) :: starEach es X.env := by rfl) : PA X (e :: es) (LA K E (mCons ea ra)) :=
  PA.weak (pa_cons ha hr hs) fun σ H Q ⟨st, S, g, w, sl, p⟩ => LE.bind (f := fun x st S => (ra st S).bind fun xs S => .ok (x :: xs) S) w sl p fun t S1 v H1 g1 w1 sl1 x1 r1 p1 =>
    LA.bind (f := fun xs _ S => .ok (t :: xs) S) w1 sl1 p1 fun ts S2 vs H2 g2 w2 sl2 x2 r2 p2 => p2.val (v := v :: vs) w2 (.cons (r1.mono x2.le) r2)
/-! operators -/
theorem LE.op1 {f : T → Sto → R T} {r : V → Hp → VK → Prop} (u : Up1 K f r) {σ H Q} (h : LE K E (m1 f ea) σ H Q) : LE K E ea σ H fun x H1 => r x H1 Q :=
  let ⟨st, S, g, w, sl, p⟩ := h
  LE.bind (f := fun x _ S => f x S) w sl p fun t S1 v H1 g1 w1 sl1 x1 r1 p1 => u w1 r1 p1
theorem LE.op2 {f : T → T → Sto → R T} (u : Up2 K f r) {σ H Q} (h : LE K E (m2 f ea eb) σ H Q) : LE K E ea σ H fun x H1 => LE K E eb σ H1 fun y H2 => r x y H2 Q :=
  let ⟨st, S, g, w, sl, p⟩ := h
  LE.bind (f := fun x st S => (eb st S).bind fun y S => f x y S) w sl p fun t S1 v H1 g1 w1 sl1 x1 r1 p1 =>
    LE.bind (f := fun y _ S => f t y S) w1 sl1 p1 fun t2 S2 v2 H2 g2 w2 sl2 x2 r2 p2 => u w2 (r1.mono x2.le) r2 p2
theorem LA.opN {f : List T → Sto → R T} {r : List V → Hp → VK → Prop} (u : UpN K f r) {σ H Q} (h : LE K E (mN f ra) σ H Q) : LA K E ra σ H fun x H1 => r x H1 Q :=
  let ⟨st, S, g, w, sl, p⟩ := h
  LA.bind (f := fun x _ S => f x S) w sl p fun t S1 v H1 g1 w1 sl1 x1 r1 p1 => u w1 r1 p1
theorem aOp {op : Operator} {f : T → T → Sto → R T} (u : Up2 K f r) (ho : OpR X (binaryOp op) r) (ha : PE X a (LE K E ea)) (hb : PE X b (LE K E eb)) : PE X (.BinOp a op b pos) (LE K E (m2 f ea eb)) :=
  PE.weak (pe_op ho ha hb) fun _ _ _ h => LE.op2 u h
theorem aUn {op : UnaryOp} {f : T → Sto → R T} {r : V → Hp → VK → Prop} (u : Up1 K f r) (ho : UnR X (unaryOp op) r) (ha : PE X a (LE K E ea)) : PE X (.UnaryOp op a pos) (LE K E (m1 f ea)) :=
  PE.weak (pe_un ho ha) fun _ _ _ h => LE.op1 u h
theorem aCmp {op : CmpOp} {f : T → T → Sto → R T} (u : Up2 K f r) (ho : OpR X (compareOp op) r) (ha : PE X a (LE K E ea)) (hb : PE X b (LE K E eb)) (hm : behindInMarks op b = false) : PE X (.Compare a [op] [b] pos) (LE K E (m2 f ea eb)) :=
  PE.weak (pe_cmpR ho ha hb hm) fun _ _ _ h => LE.op2 u h
theorem or_op {X : Cx} {f : Value → Value → Sem Value} {r r' : R2} (h : OpR X f r) (h' : OpR X f r') : OpR X f fun x y H Q => r x y H Q ∨ r' x y H Q :=
  fun pins s σ H x y v u Q I rx ry k => k.elim (h pins s σ H x y v u Q I rx ry) (h' pins s σ H x y v u Q I rx ry)
end
/-! what the operators do -/
def opAdd : T → T → Sto → R T
  | .int i, .int j, S => .ok (.int (i + j)) S
  | .tup a, .tup b, S => if a.length + b.length ≤ sizeLine then .ok (.tup (a ++ b)) S else .bad
  | .lst a, .lst b, S => if a.length + b.length ≤ sizeLine then .ok (.lst (a ++ b)) S else .bad
  | .ref n, .lst b, S => match S[n]? with
    | some (.lst a) => if a.length + b.length ≤ sizeLine then .ok (.lst (a ++ b)) S else .bad
    | _ => .bad
  | .lst a, .ref n, S => match S[n]? with
    | some (.lst b) => if a.length + b.length ≤ sizeLine then .ok (.lst (a ++ b)) S else .bad
    | _ => .bad
  | _, _, _ => .bad
def opSub : T → T → Sto → R T
  | .int i, .int j, S => .ok (.int (i - j)) S
  | _, _, _ => .bad
open Classical in
noncomputable def opMul : T → T → Sto → R T
  | .int i, .int j, S => if CMul i j then .ok (.int (i * j)) S else .bad
  | .lst a, .int k, S => if -(2 ^ 63) ≤ k ∧ k < 2 ^ 63 ∧ a.length * k.toNat ≤ sizeLine then .ok (.lst (List.replicate k.toNat a).flatten) S else .bad
  | _, _, _ => .bad
open Classical in
noncomputable def opDiv : T → T → Sto → R T
  | .int i, .int j, S => if CDiv i j then .ok (.int (i / j)) S else .bad
  | _, _, _ => .bad
def opMod : T → T → Sto → R T
  | .int i, .int j, S => if 0 < j then .ok (.int (i % j)) S else .bad
  | _, _, _ => .bad
open Classical in
noncomputable def opPow : T → T → Sto → R T
  | .int i, .int j, S => if CPow i j then .ok (.int (i ^ j.toNat)) S else .bad
  | _, _, _ => .bad
def opNeg : T → Sto → R T
  | .int i, S => .ok (.int (-i)) S
  | _, _ => .bad
def opLt : T → T → Sto → R T
  | .int i, .int j, S => .ok (.bl (decide (i < j))) S
  | _, _, _ => .bad
def opLe : T → T → Sto → R T
  | .int i, .int j, S => .ok (.bl (decide (i ≤ j))) S
  | _, _, _ => .bad
def opGt : T → T → Sto → R T
  | .int i, .int j, S => .ok (.bl (decide (j < i))) S
  | _, _, _ => .bad
def opGe : T → T → Sto → R T
  | .int i, .int j, S => .ok (.bl (decide (j ≤ i))) S
  | _, _, _ => .bad
section
variable {K : PySem.W.Frag} {X : Cx}
theorem Rp.lstH {g : G} {S : Sto} {H : Hp} {ts : List T} {v : V} (r : Rp K g (.lst ts) v) (w : Wd K S H g) : ∃ a vs, v = .ref a ∧ H a = some (.lst vs) ∧ Rps K g ts vs := by
  cases r with
  | lst h r =>
    exact ⟨_, _, rfl, w.sub _ _ h, r⟩
theorem Rp.tupH {g : G} {S : Sto} {H : Hp} {ts : List T} {v : V} (r : Rp K g (.tup ts) v) (w : Wd K S H g) : ∃ a vs, v = .ref a ∧ SqT K H a vs ∧ Rps K g ts vs := by
  cases r with
  | tup h k r =>
    refine ⟨_, _, rfl, ?_, r⟩
    exact SqT.sub h w.sub
theorem Rp.tupkH {g : G} {S : Sto} {H : Hp} {ts : List T} {v : V} (r : Rp K g (.tupk ts) v) (w : Wd K S H g) : ∃ a vs, v = .ref a ∧ SqT K H a vs ∧ Rps K g ts vs := by
  cases r with
  | tupk h r =>
    refine ⟨_, _, rfl, ?_, r⟩
    exact SqT.sub h w.sub
theorem Rp.scrH {g : G} {S : Sto} {H : Hp} {ts : List T} {v : V} (r : Rp K g (.scr ts) v) (w : Wd K S H g) : ∃ a vs, v = .ref a ∧ SqL K H a vs ∧ Rps K g ts vs := by
  cases r with
  | scr h r =>
    refine ⟨_, _, rfl, ?_, r⟩
    exact SqL.sub h w.sub
theorem Rp.refH {g : G} {S : Sto} {H : Hp} {n : Nat} {o : O} {v : V} (r : Rp K g (.ref n) v) (w : Wd K S H g) (e : S[n]? = some o) (d : o ≠ .dead) : ∃ a, v = .ref a ∧ g.mu[n]? = some a ∧ OR K g H a o := by
  cases r with
  | ref m => exact ⟨_, rfl, m, w.cell n o _ e d m⟩
/-- a frozen value is made -/
theorem Post.newL {E : XK} {S : Sto} {H : Hp} {g : G} {ts : List T} {vs : List V} {Q : VK} (h : Post K E S H g (Rp K) (.ok (.lst ts) S) Q) (w : Wd K S H g) (r : Rps K g ts vs) : ∀ p, H p = none → Q (.ref p) (upd H p (.lst vs)) := fun p hp =>
  let ⟨w', x⟩ := w.frozen (ho := .lst vs) hp
  h _ _ _ w' x (.lst (by show upd _ _ _ _ = _; rw [upd_same]) (r.mono x.le))
theorem Post.newT {E : XK} {S : Sto} {H : Hp} {g : G} {ts : List T} {vs : List V} {Q : VK} (h : Post K E S H g (Rp K) (.ok (.tup ts) S) Q) (w : Wd K S H g) (r : Rps K g ts vs) : ∀ p, H p = none → Q (.ref p) (upd H p (.tup vs)) := fun p hp =>
  let ⟨w', x⟩ := w.frozen (ho := .tup vs) hp
  have e : upd g.F p (.tup vs) p = some (.tup vs) := upd_same
  h _ _ _ w' x (.tup (.inl (.inl e)) (fun _ => e) (r.mono x.le))
def rAddU (K : PySem.W.Frag) : R2 := fun x y H Q => (rI0 (fun i j => .int (i + j)) x y H Q ∨ rCatA K x y H Q) ∨ rCat x y H Q
theorem op_addU : OpR X (binaryOp .Add) (rAddU X.K) := or_op (or_op L2.op_add op_catA) op_cat
theorem op_addUK (hK : X.K = K := by rfl) : OpR X (binaryOp .Add) (rAddU K) := by subst hK; exact op_addU
theorem up_add : Up2 K opAdd (rAddU K) := by
  intro E S H g x y v w Q W rx ry p
  unfold opAdd at p
  split at p
  · cases rx; cases ry; exact .inl (.inl ⟨_, _, rfl, rfl, p.val W (.int _)⟩)
  · split at p
    · rename_i hl
      have rx0 := rx
      have ry0 := ry
      obtain ⟨a, vs, rfl, h1, r1⟩ := rx.tupH W
      obtain ⟨b, ws, rfl, h2, r2⟩ := ry.tupH W
      refine .inl (.inr ⟨a, b, vs, ws, rfl, rfl, h1, h2, by rw [← r1.length, ← r2.length]; exact hl, fun e => ?_, fun _ e => ?_, fun _ _ => p.newT W (r1.append r2)⟩)
      · subst e
        cases r1
        exact p.val W ry0
      · subst e
        cases r2
        rw [List.append_nil] at p
        exact p.val W rx0
    · exact p.elim
  · split at p
    · rename_i hl
      obtain ⟨a, vs, rfl, h1, r1⟩ := rx.lstH W
      obtain ⟨b, ws, rfl, h2, r2⟩ := ry.lstH W
      exact .inr ⟨a, b, vs, ws, rfl, rfl, h1, h2, by rw [← r1.length, ← r2.length]; exact hl, p.newL W (r1.append r2)⟩
    · exact p.elim
  · split at p
    · rename_i e
      split at p
      · rename_i hl
        obtain ⟨a, rfl, m, vs, h1, r1⟩ := rx.refH W e (fun z => nomatch z)
        obtain ⟨b, ws, rfl, h2, r2⟩ := ry.lstH W
        exact .inr ⟨a, b, vs, ws, rfl, rfl, h1, h2, by rw [← r1.length, ← r2.length]; exact hl, p.newL W (r1.append r2)⟩
      · exact p.elim
    · exact p.elim
  · split at p
    · rename_i e
      split at p
      · rename_i hl
        obtain ⟨a, vs, rfl, h1, r1⟩ := rx.lstH W
        obtain ⟨b, rfl, m, ws, h2, r2⟩ := ry.refH W e (fun z => nomatch z)
        exact .inr ⟨a, b, vs, ws, rfl, rfl, h1, h2, by rw [← r1.length, ← r2.length]; exact hl, p.newL W (r1.append r2)⟩
      · exact p.elim
    · exact p.elim
  · exact p.elim
theorem up_sub : Up2 K opSub (rI0 fun i j => .int (i - j)) := by
  intro E S H g x y v w Q W rx ry p
  unfold opSub at p
  split at p
  · cases rx; cases ry; exact ⟨_, _, rfl, rfl, p.val W (.int _)⟩
  · exact p.elim
theorem up_div : Up2 K opDiv (rI CDiv fun i j => .int (i / j)) := by
  intro E S H g x y v w Q W rx ry p
  unfold opDiv at p
  split at p
  · split at p
    · rename_i c; cases rx; cases ry; exact ⟨_, _, rfl, rfl, c, p.val W (.int _)⟩
    · exact p.elim
  · exact p.elim
theorem up_mod : Up2 K opMod (rI (fun _ j => 0 < j) fun i j => .int (i % j)) := by
  intro E S H g x y v w Q W rx ry p
  unfold opMod at p
  split at p
  · split at p
    · rename_i c; cases rx; cases ry; exact ⟨_, _, rfl, rfl, c, p.val W (.int _)⟩
    · exact p.elim
  · exact p.elim
theorem up_pow : Up2 K opPow (rI CPow fun i j => .int (i ^ j.toNat)) := by
  intro E S H g x y v w Q W rx ry p
  unfold opPow at p
  split at p
  · split at p
    · rename_i c; cases rx; cases ry; exact ⟨_, _, rfl, rfl, c, p.val W (.int _)⟩
    · exact p.elim
  · exact p.elim
def rMulU : R2 := fun x y H Q => rI CMul (fun i j => .int (i * j)) x y H Q ∨ rRep x y H Q
theorem op_mulU : OpR X (binaryOp .Mult) rMulU := or_op L2.op_mul op_rep
theorem up_mul : Up2 K opMul rMulU := by
  intro E S H g x y v w Q W rx ry p
  unfold opMul at p
  split at p
  · split at p
    · rename_i c; cases rx; cases ry; exact .inl ⟨_, _, rfl, rfl, c, p.val W (.int _)⟩
    · exact p.elim
  · split at p
    · rename_i c
      obtain ⟨a, vs, rfl, h1, r1⟩ := rx.lstH W
      cases ry
      exact .inr ⟨a, _, vs, rfl, rfl, h1, c.1, c.2.1, by rw [← r1.length]; exact c.2.2, p.newL W (r1.repl _)⟩
    · exact p.elim
  · exact p.elim
theorem up_neg : Up1 K opNeg (rU fun i => .int (-i)) := by
  intro E S H g x v Q W rx p
  unfold opNeg at p
  split at p
  · cases rx; exact ⟨_, rfl, p.val W (.int _)⟩
  · exact p.elim
theorem up_lt : Up2 K opLt (rI0 fun i j => .bl (decide (i < j))) := by
  intro E S H g x y v w Q W rx ry p
  unfold opLt at p
  split at p
  · cases rx; cases ry; exact ⟨_, _, rfl, rfl, p.val W (.bl _)⟩
  · exact p.elim
theorem up_le : Up2 K opLe (rI0 fun i j => .bl (decide (i ≤ j))) := by
  intro E S H g x y v w Q W rx ry p
  unfold opLe at p
  split at p
  · cases rx; cases ry; exact ⟨_, _, rfl, rfl, p.val W (.bl _)⟩
  · exact p.elim
theorem up_gt : Up2 K opGt (rI0 fun i j => .bl (decide (j < i))) := by
  intro E S H g x y v w Q W rx ry p
  unfold opGt at p
  split at p
  · cases rx; cases ry; exact ⟨_, _, rfl, rfl, p.val W (.bl _)⟩
  · exact p.elim
theorem up_ge : Up2 K opGe (rI0 fun i j => .bl (decide (j ≤ i))) := by
  intro E S H g x y v w Q W rx ry p
  unfold opGe at p
  split at p
  · cases rx; cases ry; exact ⟨_, _, rfl, rfl, p.val W (.bl _)⟩
  · exact p.elim
end
end Ab

namespace Ab
open PySem PySem.Spec PyProof.Rows L2 Sp
/-! ## data: ==, in -/
mutual
def toD : T → PyData
  | .non => .none
  | .bl b => .bool b
  | .int i => .int i
  | .str s => .str (.ofString s)
  | .tup l => .tuple (toDs l)
  | .tupk l => .tuple (toDs l)
  | .lst l => .list (toDs l)
  | .scr l => .list (toDs l)
  | .dct _ _ => .none
  | .ref _ => .none
  | .ty _ => .none
  | .con _ => .none
def toDs : List T → List PyData
  | [] => []
  | t :: ts => toD t :: toDs ts
end
mutual
/-- data: no dict, no handle -/
def dat : T → Bool
  | .non => true
  | .bl _ => true
  | .int _ => true
  | .str _ => true
  | .tup l => dats l
  | .tupk l => dats l
  | .lst l => dats l
  | .scr l => dats l
  | .dct _ _ => false
  | .ref _ => false
  | .ty _ => false
  | .con _ => false
def dats : List T → Bool
  | [] => true
  | t :: ts => dat t && dats ts
end
def eqT (t u : T) : Bool := PyData.eqv (toD t) (toD u)
def dep (t : T) : Nat := (toD t).depth
def deps (ts : List T) : Nat := PyData.depthAll (toDs ts)
theorem toDs_map : ∀ ts : List T, toDs ts = ts.map toD
  | [] => rfl
  | t :: ts => by rw [toDs, toDs_map ts]; rfl
theorem dats_all : ∀ ts : List T, dats ts = ts.all dat
  | [] => rfl
  | t :: ts => by rw [dats, dats_all ts]; rfl
mutual
theorem canLay_toD : ∀ t : T, (toD t).canLay0 = true
  | .non => rfl
  | .bl _ => rfl
  | .int _ => rfl
  | .str s => strOk_of s
  | .tup l => by simp only [toD, PyData.canLay0]; exact canLay_toDs l
  | .tupk l => by simp only [toD, PyData.canLay0]; exact canLay_toDs l
  | .lst l => by simp only [toD, PyData.canLay0]; exact canLay_toDs l
  | .scr l => by simp only [toD, PyData.canLay0]; exact canLay_toDs l
  | .dct _ _ => rfl
  | .ref _ => rfl
  | .ty _ => rfl
  | .con _ => rfl
theorem canLay_toDs : ∀ ts : List T, PyData.canLayAll0 (toDs ts) = true
  | [] => rfl
  | t :: ts => by simp only [toDs, PyData.canLayAll0, canLay_toD t, canLay_toDs ts, Bool.and_self]
end
section
variable {K : PySem.W.Frag} {S : Sto} {H : Hp} {g : G}
/-! a handle's value, looked through -/
def rsA (f : T → T) (S : Sto) : T → T
  | .ref n => match S[n]? with
    | some (.lst l) => .lst (l.map f)
    | _ => .ref n
  | .tup l => .tup (l.map f)
  | .lst l => .lst (l.map f)
  | t => t
def rs : Nat → Sto → T → T
  | 0, _, t => t
  | k + 1, S, t => rsA (rs k S) S t
def vw (S : Sto) (t : T) : T := if dat t = true then t else rs 4 S t
mutual
inductive Rh (K : PySem.W.Frag) (H : Hp) : T → V → Prop
  | non : Rh K H .non .non
  | bl (b : Bool) : Rh K H (.bl b) (.bl b)
  | int (i : Int) : Rh K H (.int i) (.int i)
  | str (s : String) : Rh K H (.str s) (.str (.ofString s))
  | tup {ts : List T} {a : Addr} {vs : List V} : SqT K H a vs → Rhs K H ts vs → Rh K H (.tup ts) (.ref a)
  | tupk {ts : List T} {a : Addr} {vs : List V} : SqT K H a vs → Rhs K H ts vs → Rh K H (.tupk ts) (.ref a)
  | lst {ts : List T} {a : Addr} {vs : List V} : SqL K H a vs → Rhs K H ts vs → Rh K H (.lst ts) (.ref a)
  | scr {ts : List T} {a : Addr} {vs : List V} : SqL K H a vs → Rhs K H ts vs → Rh K H (.scr ts) (.ref a)
  | oth {t : T} {v : V} : dat t = false → Rh K H t v
inductive Rhs (K : PySem.W.Frag) (H : Hp) : List T → List V → Prop
  | nil : Rhs K H [] []
  | cons {t : T} {ts : List T} {v : V} {vs : List V} : Rh K H t v → Rhs K H ts vs → Rhs K H (t :: ts) (v :: vs)
end
mutual
theorem Rh.dp : ∀ {t : T} {v : V}, Rh K H t v → dat t = true → Dp K H v (toD t)
  | _, _, .non, _ => .non
  | _, _, .bl b, _ => .bl b
  | _, _, .int i, _ => .int i
  | _, _, .str s, _ => .str _
  | _, _, .tup h r, d => by rw [toD]; exact .tup h (Rhs.dp r (by simpa [dat] using d))
  | _, _, .tupk h r, d => by rw [toD]; exact .tup h (Rhs.dp r (by simpa [dat] using d))
  | _, _, .lst h r, d => by rw [toD]; exact .lst h (Rhs.dp r (by simpa [dat] using d))
  | _, _, .scr h r, d => by rw [toD]; exact .lst h (Rhs.dp r (by simpa [dat] using d))
  | _, _, .oth h, d => by rw [h] at d; cases d
theorem Rhs.dp : ∀ {ts : List T} {vs : List V}, Rhs K H ts vs → dats ts = true → DpAll K H vs (toDs ts)
  | _, _, .nil, _ => .nil
  | t :: ts, _, .cons h r, d => by
    have d' : dat t = true ∧ dats ts = true := by simpa [dats] using d
    exact .cons (Rh.dp h d'.1) (Rhs.dp r d'.2)
end
theorem SqT.wd (w : Wd K S H g) {a : Addr} {vs : List V} (h : SqT K g.F a vs) : SqT K H a vs := SqT.sub h w.sub
theorem SqL.wd (w : Wd K S H g) {a : Addr} {vs : List V} (h : SqL K g.F a vs) : SqL K H a vs := SqL.sub h w.sub
theorem lst_wd (w : Wd K S H g) {a : Addr} {vs : List V} (h : g.F a = some (.lst vs)) : H a = some (.lst vs) := w.sub _ _ h
theorem tup_wd (w : Wd K S H g) {a : Addr} {vs : List V} (h : g.F a = some (.tup vs)) : H a = some (.tup vs) := w.sub _ _ h
mutual
theorem Rp.rh0 (w : Wd K S H g) : ∀ {t : T} {v : V}, Rp K g t v → Rh K H t v
  | _, _, .non => .non
  | _, _, .bl b => .bl b
  | _, _, .int i => .int i
  | _, _, .str s => .str _
  | _, _, .tup h k r => .tup (SqT.wd w h) (Rps.rh0 w r)
  | _, _, .tupk h r => .tupk (SqT.wd w h) (Rps.rh0 w r)
  | _, _, .lst h r => .lst (SqL.of (lst_wd w h)) (Rps.rh0 w r)
  | _, _, .scr h r => .scr (SqL.wd w h) (Rps.rh0 w r)
  | _, _, .ty _ => .oth rfl
  | _, _, .con _ => .oth rfl
  | _, _, .ref _ => .oth rfl
  | _, _, .dct _ _ => .oth rfl
  | _, _, .dctT _ _ => .oth rfl
theorem Rps.rh0 (w : Wd K S H g) : ∀ {ts : List T} {vs : List V}, Rps K g ts vs → Rhs K H ts vs
  | _, _, .nil => .nil
  | _, _, .cons h r => .cons (Rp.rh0 w h) (Rps.rh0 w r)
end
theorem Rps.mapR {f : T → T} (hf : ∀ {t v}, Rp K g t v → Rh K H (f t) v) : ∀ {ts : List T} {vs : List V}, Rps K g ts vs → Rhs K H (ts.map f) vs
  | _, _, .nil => .nil
  | _, _, .cons h r => .cons (hf h) (Rps.mapR hf r)
theorem Rp.rs (w : Wd K S H g) : ∀ (k : Nat) {t : T} {v : V}, Rp K g t v → Rh K H (rs k S t) v
  | 0, _, _, h => h.rh0 w
  | k + 1, t, v, h => by
    have ih := fun {t v} (h : Rp K g t v) => Rp.rs w k h
    cases h with
    | ref m =>
      rename_i n a
      show Rh K H (match S[n]? with
        | some (.lst l) => .lst (l.map (Ab.rs k S))
        | _ => .ref n) _
      split
      · rename_i l e
        obtain ⟨vs, h1, r1⟩ := w.cell n _ _ e (fun z => nomatch z) m
        exact .lst (SqL.of h1) (r1.mapR ih)
      · exact .oth rfl
    | tup h k r => exact .tup (SqT.wd w h) (r.mapR ih)
    | lst h r => exact .lst (SqL.of (lst_wd w h)) (r.mapR ih)
    | non => exact .non
    | bl b => exact .bl b
    | int i => exact .int i
    | str s => exact .str s
    | tupk h r => exact .tupk (SqT.wd w h) (r.rh0 w)
    | scr h r => exact .scr (SqL.wd w h) (r.rh0 w)
    | ty _ => exact .oth rfl
    | con _ => exact .oth rfl
    | dct _ _ => exact .oth rfl
    | dctT _ _ => exact .oth rfl
theorem Rp.vw (w : Wd K S H g) {t : T} {v : V} (h : Rp K g t v) (d : dat (vw S t) = true) : Dp K H v (toD (vw S t)) := by
  unfold Ab.vw at d ⊢
  split
  · exact (h.rh0 w).dp (by assumption)
  · rename_i c
    rw [if_neg c] at d
    exact (h.rs w 4).dp d
end
def opEq (x y : T) (S : Sto) : R T := if dat (vw S x) = true ∧ dat (vw S y) = true ∧ (dep (vw S x) ≤ 60 ∨ dep (vw S y) ≤ 60) then .ok (.bl (eqT (vw S x) (vw S y))) S else .bad
def opNe (x y : T) (S : Sto) : R T := if dat (vw S x) = true ∧ dat (vw S y) = true ∧ (dep (vw S x) ≤ 60 ∨ dep (vw S y) ≤ 60) then .ok (.bl (!eqT (vw S x) (vw S y))) S else .bad
def itemsOf : T → Option (List T)
  | .tup l => some l
  | .tupk l => some l
  | .lst l => some l
  | .scr l => some l
  | _ => none
def opIn (x y : T) (S : Sto) : R T := match itemsOf (vw S y) with
  | some l => if dat (vw S x) = true ∧ dats l = true ∧ (dep (vw S x) ≤ 60 ∨ deps l ≤ 60) then .ok (.bl (l.any fun z => eqT z (vw S x))) S else .bad
  | none => .bad
def opNin (x y : T) (S : Sto) : R T := match itemsOf (vw S y) with
  | some l => if dat (vw S x) = true ∧ dats l = true ∧ (dep (vw S x) ≤ 60 ∨ deps l ≤ 60) then .ok (.bl (!l.any fun z => eqT z (vw S x))) S else .bad
  | none => .bad
def rEqM (K : PySem.W.Frag) (ng : Bool) : R2 := fun x y H Q => ∃ d e, Dp K H x d ∧ Dp K H y e ∧ d.canLay0 = true ∧ e.canLay0 = true ∧ min d.depth e.depth ≤ 60 ∧ Q (.bl (if ng then !PyData.eqv d e else PyData.eqv d e)) H
def rInM (K : PySem.W.Frag) (ng : Bool) : R2 := fun x y H Q => ∃ d ds, Dp K H x d ∧ (Dp K H y (.list ds) ∨ Dp K H y (.tuple ds)) ∧ d.canLay0 = true ∧ PyData.canLayAll0 ds = true ∧ min (PyData.depthAll ds) d.depth ≤ 60 ∧ Q (.bl (if ng then !ds.any fun z => PyData.eqv z d else ds.any fun z => PyData.eqv z d)) H
section
variable {X : Cx} {K : PySem.W.Frag}
theorem op_eqM (hu : X.A.units + 64 < cLine) (hK : X.K = K := by rfl) : OpR X (compareOp .Eq) (rEqM K false) := by
  subst hK
  intro pins s σ H x y v u Q I rx ry h
  obtain ⟨d, e, hd, he, sd, se, m, q⟩ := h
  obtain ⟨as, r1⟩ := Dp.reads I d x v hd rx
  obtain ⟨bs, r2⟩ := Dp.reads I e y u he ry
  exact SeqAt.compareEq_reads r1 r2 sd se (by omega) ⟨.bl _, H, I, rfl, q⟩
theorem op_neM (hu : X.A.units + 64 < cLine) (hK : X.K = K := by rfl) : OpR X (compareOp .NotEq) (rEqM K true) := by
  subst hK
  intro pins s σ H x y v u Q I rx ry h
  obtain ⟨d, e, hd, he, sd, se, m, q⟩ := h
  obtain ⟨as, r1⟩ := Dp.reads I d x v hd rx
  obtain ⟨bs, r2⟩ := Dp.reads I e y u he ry
  exact SeqAt.compareNe_reads r1 r2 sd se (by omega) ⟨.bl _, H, I, rfl, q⟩
theorem op_inM (hu : X.A.units + 64 < cLine) (hK : X.K = K := by rfl) : OpR X (compareOp .In) (rInM K false) := by
  subst hK
  intro pins s σ H x y v u Q I rx ry h
  obtain ⟨d, ds, hd, he, sd, se, m, q⟩ := h
  obtain ⟨as, r1⟩ := Dp.reads I d x v hd rx
  rcases he with he | he
  · obtain ⟨bs, r2⟩ := Dp.reads I (.list ds) y u he ry
    exact SeqAt.in_list_reads r2 r1 se sd (by omega) ⟨.bl _, H, I, rfl, q⟩
  · obtain ⟨bs, r2⟩ := Dp.reads I (.tuple ds) y u he ry
    exact SeqAt.in_tuple_reads r2 r1 se sd (by omega) ⟨.bl _, H, I, rfl, q⟩
theorem op_ninM (hu : X.A.units + 64 < cLine) (hK : X.K = K := by rfl) : OpR X (compareOp .NotIn) (rInM K true) := by
  subst hK
  intro pins s σ H x y v u Q I rx ry h
  obtain ⟨d, ds, hd, he, sd, se, m, q⟩ := h
  obtain ⟨as, r1⟩ := Dp.reads I d x v hd rx
  rcases he with he | he
  · obtain ⟨bs, r2⟩ := Dp.reads I (.list ds) y u he ry
    exact SeqAt.notIn_list_reads r2 r1 se sd (by omega) ⟨.bl _, H, I, rfl, q⟩
  · obtain ⟨bs, r2⟩ := Dp.reads I (.tuple ds) y u he ry
    exact SeqAt.notIn_tuple_reads r2 r1 se sd (by omega) ⟨.bl _, H, I, rfl, q⟩
theorem up_eq : Up2 K opEq (rEqM K false) := by
  intro E S H g x y v w Q W rx ry p
  unfold opEq at p
  split at p
  · rename_i c
    exact ⟨_, _, rx.vw W c.1, ry.vw W c.2.1, canLay_toD _, canLay_toD _, by rcases c.2.2 with z | z <;> (unfold dep at z; omega), p.val W (.bl _)⟩
  · exact p.elim
theorem up_ne : Up2 K opNe (rEqM K true) := by
  intro E S H g x y v w Q W rx ry p
  unfold opNe at p
  split at p
  · rename_i c
    exact ⟨_, _, rx.vw W c.1, ry.vw W c.2.1, canLay_toD _, canLay_toD _, by rcases c.2.2 with z | z <;> (unfold dep at z; omega), p.val W (.bl _)⟩
  · exact p.elim
theorem items_dp {H : Hp} {S : Sto} {g : G} (W : Wd K S H g) {y : T} {w : V} (ry : Rp K g y w) {l : List T} (e : itemsOf (vw S y) = some l) (d : dats l = true) : Dp K H w (.list (toDs l)) ∨ Dp K H w (.tuple (toDs l)) := by
  have dd : dat (vw S y) = true := by
    cases q : vw S y <;> rw [q] at e <;> simp [itemsOf] at e <;> subst e <;> simpa [dat] using d
  have k := ry.vw W dd
  cases q : vw S y <;> rw [q] at e k <;> simp [itemsOf] at e <;> subst e <;> rw [toD] at k <;> first | exact .inl k | exact .inr k
theorem any_toDs {x : T} : ∀ l : List T, ((toDs l).any fun z => PyData.eqv z (toD x)) = l.any fun z => eqT z x
  | [] => rfl
  | t :: l => by rw [toDs, List.any_cons, List.any_cons, any_toDs l]; rfl
theorem up_in : Up2 K opIn (rInM K false) := by
  intro E S H g x y v w Q W rx ry p
  unfold opIn at p
  split at p
  · rename_i l e
    split at p
    · rename_i c
      exact ⟨_, _, rx.vw W c.1, items_dp W ry e c.2.1, canLay_toD _, canLay_toDs _, by rcases c.2.2 with z | z <;> (try unfold dep at z) <;> (try unfold deps at z) <;> omega, by rw [any_toDs]; exact p.val W (.bl _)⟩
    · exact p.elim
  · exact p.elim
theorem up_nin : Up2 K opNin (rInM K true) := by
  intro E S H g x y v w Q W rx ry p
  unfold opNin at p
  split at p
  · rename_i l e
    split at p
    · rename_i c
      exact ⟨_, _, rx.vw W c.1, items_dp W ry e c.2.1, canLay_toD _, canLay_toDs _, by rcases c.2.2 with z | z <;> (try unfold dep at z) <;> (try unfold deps at z) <;> omega, by rw [any_toDs]; exact p.val W (.bl _)⟩
    · exact p.elim
  · exact p.elim
end
end Ab

namespace Ab
open PySem PySem.Spec PyProof.Rows L2 Sp
/-! ## is, isinstance, truth, tests -/
def isNon : T → Bool
  | .non => true
  | _ => false
def opIs (x y : T) (S : Sto) : R T := if isNon y = true then .ok (.bl (isNon x)) S else .bad
def opIsnt (x y : T) (S : Sto) : R T := if isNon y = true then .ok (.bl (!isNon x)) S else .bad
def opIsB : T → T → Sto → R T
  | .bl a, .bl b, S => .ok (.bl (decide (a = b))) S
  | _, _, _ => .bad
def opIsntB : T → T → Sto → R T
  | .bl a, .bl b, S => .ok (.bl (!decide (a = b))) S
  | _, _, _ => .bad
def tyOf (S : Sto) : T → Option String
  | .non => some "NoneType"
  | .bl _ => some "bool"
  | .int _ => some "int"
  | .str _ => some "str"
  | .tup _ => some "tuple"
  | .tupk _ => some "tuple"
  | .lst _ => some "list"
  | .scr _ => some "list"
  | .dct false _ => some "dict"
  | .ref n => match S[n]? with
    | some (.lst _) => some "list"
    | some (.dct _ _) => some "dict"
    | _ => none
  | _ => none
def isB (a b : String) : Bool := a == b || (a == "bool" && b == "int")
def tys : List String := ["int", "bool", "str", "tuple", "list", "dict"]
def opIsi : List T → Sto → R T
  | [x, .ty n], S => match tyOf S x with
    | some m => if n ∈ tys then .ok (.bl (isB m n)) S else .bad
    | none => .bad
  | _, _ => .bad
def opTru : T → Sto → R Bool
  | .non, S => .ok false S
  | .bl b, S => .ok b S
  | .int i, S => .ok (i != 0) S
  | .tup l, S => .ok (!l.isEmpty) S
  | .tupk l, S => .ok (!l.isEmpty) S
  | .lst l, S => .ok (!l.isEmpty) S
  | .scr l, S => .ok (!l.isEmpty) S
  | .ref n, S => match S[n]? with
    | some (.lst l) => .ok (!l.isEmpty) S
    | _ => .bad
  | _, _ => .bad
def opB : T → Sto → R Bool
  | .bl b, S => .ok b S
  | _, _ => .bad
def mB (a : AE) : AT := fun st S => (a st S).bind opB
def mTru (a : AE) : AT := fun st S => (a st S).bind opTru
def mTAnd (a b : AT) : AT := fun st S => (a st S).bind fun c S => if c = true then b st S else .ok false S
def mTOr (a b : AT) : AT := fun st S => (a st S).bind fun c S => if c = true then .ok true S else b st S
def mTNot (a : AT) : AT := fun st S => (a st S).bind fun c S => .ok (!c) S
def mAnd (a b : AE) : AE := fun st S => (a st S).bind fun x S => match x with
  | .bl true => b st S
  | .bl false => .ok (.bl false) S
  | _ => .bad
def mOr (a b : AE) : AE := fun st S => (a st S).bind fun x S => match x with
  | .bl true => .ok (.bl true) S
  | .bl false => b st S
  | _ => .bad
def mNot (a : AE) : AE := fun st S => (a st S).bind fun x S => match x with
  | .bl b => .ok (.bl (!b)) S
  | _ => .bad
def mIfE (c : AT) (a b : AE) : AE := fun st S => (c st S).bind fun k S => if k = true then a st S else b st S
/-- a op b op' c -/
def mChain (f f' : T → T → Sto → R T) (a b c : AE) : AE := fun st S => (a st S).bind fun x S => (b st S).bind fun y S => (f x y S).bind fun z S => match z with
  | .bl true => (c st S).bind fun w S => f' y w S
  | .bl false => .ok (.bl false) S
  | _ => .bad
section
variable {K : PySem.W.Frag} {X : Cx} {E : XS} {e a b c : Expr} {es : List Expr} {pos : Pos} {ea eb ec : AE} {ta tb : AT} {ra : AA} {r r' : R2}
theorem isNon_rp {g : G} {x : T} {v : V} (h : Rp K g x v) : isNon x = decide (v = .non) := by
  cases h <;> simp [isNon]
theorem up_is : Up2 K opIs rIsNA := by
  intro E S H g x y v w Q W rx ry p
  unfold opIs at p
  split at p
  · rename_i c
    rw [isNon_rp ry] at c
    rw [isNon_rp rx] at p
    exact ⟨of_decide_eq_true c, p.val W (.bl _)⟩
  · exact p.elim
theorem up_isnt : Up2 K opIsnt rNotNA := by
  intro E S H g x y v w Q W rx ry p
  unfold opIsnt at p
  split at p
  · rename_i c
    rw [isNon_rp ry] at c
    rw [isNon_rp rx] at p
    exact ⟨of_decide_eq_true c, p.val W (.bl _)⟩
  · exact p.elim
theorem up_isB : Up2 K opIsB rIsB := by
  intro E S H g x y v w Q W rx ry p
  unfold opIsB at p
  split at p
  · cases rx; cases ry; exact ⟨_, _, rfl, rfl, p.val W (.bl _)⟩
  · exact p.elim
theorem up_isntB : Up2 K opIsntB rNotB := by
  intro E S H g x y v w Q W rx ry p
  unfold opIsntB at p
  split at p
  · cases rx; cases ry; exact ⟨_, _, rfl, rfl, p.val W (.bl _)⟩
  · exact p.elim
theorem isB_ok : ∀ m ∈ ["NoneType", "bool", "int", "str", "tuple", "list", "dict"], ∀ n ∈ tys, kitB m n = some (isB m n) := by decide +kernel
theorem tyOf_ok {S : Sto} {H : Hp} {g : G} (W : Wd K S H g) {x : T} {v : V} (r : Rp K g x v) {m : String} (e : tyOf S x = some m) : TyX K H v (.type m) ∧ m ∈ ["NoneType", "bool", "int", "str", "tuple", "list", "dict"] := by
  have sqt : ∀ {a vs}, SqT K H a vs → TyX K H (.ref a) (.type "tuple") := fun h => by
    rcases h with (h | ⟨o, h⟩) | ⟨o, _, _, h, c, _⟩
    · exact .base (.tup h)
    · exact .fTuple h
    · exact .kTuple h c
  have sql : ∀ {a vs}, SqL K H a vs → TyX K H (.ref a) (.type "list") := fun h => by
    rcases h with (h | ⟨o, h⟩) | ⟨o, _, _, h, c, _⟩
    · exact .base (.lst h)
    · exact .base (.frz h)
    · exact .kList h c
  cases r with
  | non => cases e; exact ⟨.base .non, by simp⟩
  | bl b => cases e; exact ⟨.base (.bl b), by simp⟩
  | int i => cases e; exact ⟨.base (.int i), by simp⟩
  | str s => cases e; exact ⟨.base (.str _), by simp⟩
  | tup h k r => cases e; exact ⟨sqt (SqT.wd W h), by simp⟩
  | tupk h r => cases e; exact ⟨sqt (SqT.wd W h), by simp⟩
  | lst h r => cases e; exact ⟨.base (.lst (lst_wd W h)), by simp⟩
  | scr h r => cases e; exact ⟨sql (SqL.wd W h), by simp⟩
  | dct h r => cases e; exact ⟨.fDict (W.sub _ _ h), by simp⟩
  | dctT h r => cases e
  | ref h =>
    simp only [tyOf] at e
    split at e
    · rename_i l q
      cases e
      obtain ⟨vs, h1, _⟩ := W.cell _ _ _ q (fun z => nomatch z) h
      exact ⟨.base (.lst h1), by simp⟩
    · rename_i b l q
      cases e
      cases b with
      | false =>
        obtain ⟨vs, h1, _⟩ := W.cell _ _ _ q (fun z => nomatch z) h
        exact ⟨.base (.dK h1), by simp⟩
      | true =>
        obtain ⟨vs, h1, _⟩ := W.cell _ _ _ q (fun z => nomatch z) h
        exact ⟨.base (.dT h1), by simp⟩
    · cases e
  | ty _ => cases e
  | con _ => cases e
theorem up_isi : UpN K opIsi (rIsi K) := by
  intro E S H g xs vs Q W rx p
  unfold opIsi at p
  split at p
  · rename_i x n
    cases rx with
    | cons r1 rx =>
      cases rx with
      | cons r2 rx =>
        cases rx
        cases r2
        split at p
        · rename_i m e
          split at p
          · rename_i hn
            obtain ⟨t, hm⟩ := tyOf_ok W r1 e
            exact ⟨_, _, _, _, _, rfl, .ty n, t, kit_ty (isB_ok m hm n hn), p.val W (.bl _)⟩
          · exact p.elim
        · exact p.elim
  · exact p.elim
theorem tru_up {E : XK} {S : Sto} {H : Hp} {g : G} {x : T} {v : V} {Q : Bool → Hp → Prop} (W : Wd K S H g) (rx : Rp K g x v) (p : Post K E S H g bRel (opTru x S) Q) : rTru K v H Q := by
  have emp : ∀ {ts vs}, Rps K g ts vs → vs.isEmpty = ts.isEmpty := fun r => by cases r <;> rfl
  unfold opTru at p
  split at p
  · cases rx; exact ⟨_, rfl, p.val W rfl⟩
  · cases rx; exact ⟨_, rfl, p.val W rfl⟩
  · cases rx; exact ⟨_, rfl, p.val W rfl⟩
  · obtain ⟨a, vs, rfl, h, r⟩ := rx.tupH W
    exact ⟨_, .inr (.inl ⟨vs, h, rfl⟩), p.val W (by rw [emp r])⟩
  · obtain ⟨a, vs, rfl, h, r⟩ := rx.tupkH W
    exact ⟨_, .inr (.inl ⟨vs, h, rfl⟩), p.val W (by rw [emp r])⟩
  · obtain ⟨a, vs, rfl, h, r⟩ := rx.lstH W
    exact ⟨_, .inl ⟨vs, SqL.of h, rfl⟩, p.val W (by rw [emp r])⟩
  · obtain ⟨a, vs, rfl, h, r⟩ := rx.scrH W
    exact ⟨_, .inl ⟨vs, h, rfl⟩, p.val W (by rw [emp r])⟩
  · split at p
    · rename_i e
      obtain ⟨a, rfl, m, vs, h, r⟩ := rx.refH W e (fun z => nomatch z)
      exact ⟨_, .inl ⟨vs, SqL.of h, rfl⟩, p.val W (by rw [emp r])⟩
    · exact p.elim
  · exact p.elim
theorem b_up {E : XK} {S : Sto} {H : Hp} {g : G} {x : T} {v : V} {Q : Bool → Hp → Prop} (W : Wd K S H g) (rx : Rp K g x v) (p : Post K E S H g bRel (opB x S) Q) : ∃ k, v = .bl k ∧ Q k H := by
  unfold opB at p
  split at p
  · cases rx; exact ⟨_, rfl, p.val W rfl⟩
  · exact p.elim
theorem aTru (h : PE X e (LE K E ea)) (hs : ∀ whole, isTrue e X.env whole = (do let v ← whole; standAt e.pos; holding [v] (truthy v)) := by intro _; rfl) (hK : X.K = K := by rfl) : PT X e (LT K E (mTru ea)) :=
  PT.weak (pt_truthAK K h hs hK) fun σ H Q ⟨st, S, g, w, sl, p⟩ => LE.bind (f := fun x _ S => opTru x S) w sl p fun t S1 v H1 g1 w1 sl1 x1 r1 p1 => tru_up w1 r1 p1
theorem LE.tB {σ H Q} (h : LT K E (mB ea) σ H Q) : LE K E ea σ H fun x H1 => ∃ k, x = .bl k ∧ Q k H1 :=
  let ⟨st, S, g, w, sl, p⟩ := h
  LE.bind (f := fun x _ S => opB x S) w sl p fun t S1 v H1 g1 w1 sl1 x1 r1 p1 => b_up w1 r1 p1
theorem aTVal (h : PE X e (LE K E ea)) (he : ∀ whole, isTrue e X.env whole = (do let v ← whole; standAt e.pos; holding [v] (truthy v)) := by intro _; rfl) : PT X e (LT K E (mB ea)) := PT.weak (pt_val h he) fun _ _ _ h => LE.tB h
/-- f x y, where it is reckoned under a test -/
theorem LT.op2 {f : T → T → Sto → R T} (u : Up2 K f r) {σ H Q} (h : LT K E (mB (m2 f ea eb)) σ H Q) : LE K E ea σ H fun x H1 => LE K E eb σ H1 fun y H2 => r x y H2 fun z H3 => ∃ k, z = .bl k ∧ Q k H3 :=
  LE.op2 u (LE.tB h)
theorem aTCmp {op : CmpOp} {f : T → T → Sto → R T} (u : Up2 K f r) (ho : OpR X (compareOp op) r) (ha : PE X a (LE K E ea)) (hb : PE X b (LE K E eb)) (hm : behindInMarks op b = false) : PT X (.Compare a [op] [b] pos) (LT K E (mB (m2 f ea eb))) :=
  PT.weak (pt_cmpR ho ha hb hm) fun _ _ _ h => LT.op2 u h
theorem LE.chain {f f' : T → T → Sto → R T} (u : Up2 K f r) (u' : Up2 K f' r') {σ H Q} (h : LE K E (mChain f f' ea eb ec) σ H Q) : tChain r r' (LE K E ea) (LE K E eb) (LE K E ec) σ H Q := by
  obtain ⟨st, S, g, w, sl, p⟩ := h
  refine LE.bind (f := fun x st S => (eb st S).bind fun y S => (f x y S).bind fun z S => match z with
  | .bl true => (ec st S).bind fun w S => f' y w S
  | .bl false => .ok (.bl false) S
  | _ => .bad) w sl p fun x S1 v H1 g1 w1 sl1 x1 r1 p1 => ?_
  refine LE.bind (f := fun y st S => (f x y S).bind fun z S => match z with
  | .bl true => (ec st S).bind fun w S => f' y w S
  | .bl false => .ok (.bl false) S
  | _ => .bad) w1 sl1 p1 fun y S2 v2 H2 g2 w2 sl2 x2 r2 p2 => ?_
  refine u (E := E σ) w2 (r1.mono x2.le) r2 (p2.bind (rel1 := Rp K) fun z S3 v3 H3 g3 w3 x3 r3 p3 => ?_)
  split at p3
  · cases r3
    refine ⟨true, rfl, ?_⟩
    rw [if_pos rfl]
    exact LE.bind (f := fun w _ S => f' y w S) w3 (sl2.mono x3.le) p3 fun t S4 v4 H4 g4 w4 sl4 x4 r4 p4 => u' w4 ((r2.mono x3.le).mono x4.le) r4 p4
  · cases r3
    refine ⟨false, rfl, ?_⟩
    rw [if_neg Bool.false_ne_true]
    exact p3.val w3 (.bl _)
  · exact p3.elim
theorem aChain {op op' : CmpOp} {f f' : T → T → Sto → R T} (u : Up2 K f r) (u' : Up2 K f' r') (ho : OpR X (compareOp op) r) (ho' : OpR X (compareOp op') r') (ha : PE X a (LE K E ea)) (hb : PE X b (LE K E eb)) (hc : PE X c (LE K E ec)) (hm : lastMarks [op, op'] [b, c] = false := by with_unfolding_all rfl) :
    PE X (.Compare a [op, op'] [b, c] pos) (LE K E (mChain f f' ea eb ec)) := PE.weak (pe_chain ho ho' ha hb hc hm) fun _ _ _ h => LE.chain u u' h
theorem aTChain {op op' : CmpOp} {f f' : T → T → Sto → R T} (u : Up2 K f r) (u' : Up2 K f' r') (ho : OpR X (compareOp op) r) (ho' : OpR X (compareOp op') r') (ha : PE X a (LE K E ea)) (hb : PE X b (LE K E eb)) (hc : PE X c (LE K E ec)) (hm : lastMarks [op, op'] [b, c] = false := by with_unfolding_all rfl) :
    PT X (.Compare a [op, op'] [b, c] pos) (LT K E (mB (mChain f f' ea eb ec))) := PT.weak (pt_chain ho ho' ha hb hc hm) fun σ H Q h => by
  have h' : LE K E (mChain f f' ea eb ec) σ H fun x H1 => ∃ k, x = .bl k ∧ Q k H1 := LE.tB h
  exact LE.chain u u' h'
/-! and, or, not -/
variable {rest : List Expr}
theorem aTAnd1 (h : PT X a (LT K E ta)) : PW X (.BoolOp .And [a] pos) (LT K E ta) := pw_and1 h
theorem aTOr1 (h : PT X a (LT K E ta)) : PW X (.BoolOp .Or [a] pos) (LT K E ta) := pw_or1 h
theorem aTAnd (ha : PT X a (LT K E ta)) (hb : PW X (.BoolOp .And (b :: rest) pos) (LT K E tb)) : PW X (.BoolOp .And (a :: b :: rest) pos) (LT K E (mTAnd ta tb)) :=
  PW.weak (pw_and ha hb) fun σ H Q ⟨st, S, g, w, sl, p⟩ => LT.bind (f := fun c st S => if c = true then tb st S else .ok false S) w sl p fun c S1 H1 g1 w1 sl1 x1 p1 => by
    cases c with
    | true => rw [if_pos rfl]; exact ⟨st, S1, g1, w1, sl1, p1⟩
    | false => rw [if_neg Bool.false_ne_true]; exact p1.val (v := false) w1 rfl
theorem aTOr (ha : PT X a (LT K E ta)) (hb : PW X (.BoolOp .Or (b :: rest) pos) (LT K E tb)) : PW X (.BoolOp .Or (a :: b :: rest) pos) (LT K E (mTOr ta tb)) :=
  PW.weak (pw_or ha hb) fun σ H Q ⟨st, S, g, w, sl, p⟩ => LT.bind (f := fun c st S => if c = true then .ok true S else tb st S) w sl p fun c S1 H1 g1 w1 sl1 x1 p1 => by
    cases c with
    | true => rw [if_pos rfl]; exact p1.val (v := true) w1 rfl
    | false => rw [if_neg Bool.false_ne_true]; exact ⟨st, S1, g1, w1, sl1, p1⟩
theorem aTNot (ha : PT X a (LT K E ta)) : PT X (.UnaryOp .Not a pos) (LT K E (mTNot ta)) :=
  PT.weak (pt_not ha) fun σ H Q ⟨st, S, g, w, sl, p⟩ => LT.bind (f := fun c _ S => .ok (!c) S) w sl p fun c S1 H1 g1 w1 sl1 x1 p1 => p1.val (v := !c) w1 rfl
theorem aOne {op} (h : PE X a (LE K E ea)) : PE X (.BoolOp op [a] pos) (LE K E ea) := pe_one h
theorem aAnd (ha : PE X a (LE K E ea)) (hb : PE X (.BoolOp .And (b :: rest) pos) (LE K E eb)) : PE X (.BoolOp .And (a :: b :: rest) pos) (LE K E (mAnd ea eb)) :=
  PE.weak (pe_and ha hb) fun σ H Q ⟨st, S, g, w, sl, p⟩ => LE.bind (f := fun x st S => match x with
  | .bl true => eb st S
  | .bl false => .ok (.bl false) S
  | _ => .bad) w sl p fun x S1 v H1 g1 w1 sl1 x1 r1 p1 => by
    split at p1
    · cases r1; exact ⟨true, rfl, by rw [if_pos rfl]; exact ⟨st, S1, g1, w1, sl1, p1⟩⟩
    · cases r1; exact ⟨false, rfl, by rw [if_neg Bool.false_ne_true]; exact p1.val w1 (.bl _)⟩
    · exact p1.elim
theorem aOr (ha : PE X a (LE K E ea)) (hb : PE X (.BoolOp .Or (b :: rest) pos) (LE K E eb)) : PE X (.BoolOp .Or (a :: b :: rest) pos) (LE K E (mOr ea eb)) :=
  PE.weak (pe_or ha hb) fun σ H Q ⟨st, S, g, w, sl, p⟩ => LE.bind (f := fun x st S => match x with
  | .bl true => .ok (.bl true) S
  | .bl false => eb st S
  | _ => .bad) w sl p fun x S1 v H1 g1 w1 sl1 x1 r1 p1 => by
    split at p1
    · cases r1; exact ⟨true, rfl, by rw [if_pos rfl]; exact p1.val w1 (.bl _)⟩
    · cases r1; exact ⟨false, rfl, by rw [if_neg Bool.false_ne_true]; exact ⟨st, S1, g1, w1, sl1, p1⟩⟩
    · exact p1.elim
theorem aNot (ha : PE X a (LE K E ea)) : PE X (.UnaryOp .Not a pos) (LE K E (mNot ea)) :=
  PE.weak (pe_not ha) fun σ H Q ⟨st, S, g, w, sl, p⟩ => LE.bind (f := fun x _ S => match x with
  | .bl b => R.ok (T.bl (!b)) S
  | _ => .bad) w sl p fun x S1 v H1 g1 w1 sl1 x1 r1 p1 => by
    split at p1
    · cases r1; exact ⟨_, rfl, p1.val w1 (.bl _)⟩
    · exact p1.elim
theorem aIfE (hc : PT X c (LT K E ta)) (ha : PE X a (LE K E ea)) (hb : PE X b (LE K E eb)) : PE X (.IfExp c a b pos) (LE K E (mIfE ta ea eb)) :=
  PE.weak (pe_ifExp hc ha hb) fun σ H Q ⟨st, S, g, w, sl, p⟩ => LT.bind (f := fun k st S => if k = true then ea st S else eb st S) w sl p fun c S1 H1 g1 w1 sl1 x1 p1 => by
    cases c with
    | true => rw [if_pos rfl]; exact ⟨st, S1, g1, w1, sl1, p1⟩
    | false => rw [if_neg Bool.false_ne_true]; exact ⟨st, S1, g1, w1, sl1, p1⟩
end
end Ab

namespace Ab
open PySem PySem.Spec PyProof.Rows L2 Sp
/-! ## tuples, lists, built-ins -/
/-- a new list: frozen at once, or one that will change -/
def mkL (fz : Bool) (ts : List T) (S : Sto) : R T := if fz = true then .ok (.lst ts) S else .ok (.ref S.length) (S ++ [.lst ts])
theorem Post.newLst {K : PySem.W.Frag} {fz : Bool} {E : XK} {S : Sto} {H : Hp} {g : G} {ts : List T} {vs : List V} {Q : VK} (h : Post K E S H g (Rp K) (mkL fz ts S) Q) (w : Wd K S H g) (r : Rps K g ts vs) : ∀ p, H p = none → Q (.ref p) (upd H p (.lst vs)) := by
  cases fz with
  | true => exact Post.newL h w r
  | false =>
    intro p hp
    obtain ⟨w', x, m⟩ := w.alloc (o := .lst ts) (ho := .lst vs) hp (fun z => nomatch z) ⟨vs, upd_same, r.mono G.le_snoc⟩
    exact h _ _ _ w' x (.ref m)
def opTup (ts : List T) (S : Sto) : R T := if ts.length ≤ sizeLine then .ok (.tup ts) S else .bad
def opLst (fz : Bool) (ts : List T) (S : Sto) : R T := if ts.length ≤ sizeLine then mkL fz ts S else .bad
/-- the items of a list or tuple -/
def seqOf (S : Sto) : T → Option (List T)
  | .tup l => some l
  | .tupk l => some l
  | .lst l => some l
  | .scr l => some l
  | .ref n => match S[n]? with
    | some (.lst l) => some l
    | _ => none
  | _ => none
/-- the items of a list -/
def lkL (S : Sto) : T → Option (List T)
  | .lst l => some l
  | .scr l => some l
  | .ref n => match S[n]? with
    | some (.lst l) => some l
    | _ => none
  | _ => none
def lenOf (S : Sto) : T → Option Nat
  | .dct _ l => some l.length
  | .ref n => match S[n]? with
    | some (.lst l) => some l.length
    | some (.dct _ l) => some l.length
    | _ => none
  | .tup l => some l.length
  | .tupk l => some l.length
  | .lst l => some l.length
  | .scr l => some l.length
  | _ => none
def opLen : List T → Sto → R T
  | [x], S => match lenOf S x with
    | some n => .ok (.int n) S
    | none => .bad
  | _, _ => .bad
def opAbs : List T → Sto → R T
  | [.int i], S => .ok (.int (if i < 0 then -i else i)) S
  | _, _ => .bad
def opInt : List T → Sto → R T
  | [.int i], S => .ok (.int i) S
  | [.bl b], S => .ok (.int (if b then 1 else 0)) S
  | _, _ => .bad
def opMin2 : List T → Sto → R T
  | [.int i, .int j], S => .ok (.int (if j < i then j else i)) S
  | _, _ => .bad
def opMax2 : List T → Sto → R T
  | [.int i, .int j], S => .ok (.int (if j > i then j else i)) S
  | _, _ => .bad
def opList (fz : Bool) : List T → Sto → R T
  | [x], S => match seqOf S x with
    | some l => mkL fz l S
    | none => .bad
  | _, _ => .bad
def opTuple : List T → Sto → R T
  | [.tup l], S => .ok (.tup l) S
  | [x], S => match lkL S x with
    | some l => .ok (.tup l) S
    | none => .bad
  | _, _ => .bad
def intsOf : List T → Option (List Int)
  | [] => some []
  | .int i :: ts => (intsOf ts).map (i :: ·)
  | _ :: _ => none
def insI (i : Int) : List Int → List Int
  | [] => [i]
  | j :: js => if i ≤ j then i :: j :: js else j :: insI i js
def sortI : List Int → List Int
  | [] => []
  | i :: is => insI i (sortI is)
def opSortI (fz : Bool) : List T → Sto → R T
  | [x], S => match (lkL S x).bind intsOf with
    | some l => mkL fz ((sortI l).map .int) S
    | none => .bad
  | _, _ => .bad
def blsOf : List T → Option (List Bool)
  | [] => some []
  | .bl i :: ts => (blsOf ts).map (i :: ·)
  | _ :: _ => none
def opAny : List T → Sto → R T
  | [x], S => match (lkL S x).bind blsOf with
    | some l => .ok (.bl (l.any id)) S
    | none => .bad
  | _, _ => .bad
def opAll : List T → Sto → R T
  | [x], S => match (lkL S x).bind blsOf with
    | some l => .ok (.bl (l.all id)) S
    | none => .bad
  | _, _ => .bad
def opSum : List T → Sto → R T
  | [x], S => match (lkL S x).bind intsOf with
    | some l => .ok (.int l.sum) S
    | none => .bad
  | _, _ => .bad
def maxI : List Int → Int
  | [] => 0
  | [i] => i
  | i :: is => if maxI is < i then i else maxI is
def opMaxL : List T → Sto → R T
  | [x], S => match (lkL S x).bind intsOf with
    | some (i :: is) => .ok (.int (maxI (i :: is))) S
    | _ => .bad
  | _, _ => .bad
theorem insI_perm (i : Int) : ∀ l, (insI i l).Perm (i :: l)
  | [] => .refl _
  | j :: js => by
    unfold insI
    split
    · exact .refl _
    · exact ((insI_perm i js).cons j).trans (.swap i j js)
theorem sortI_perm : ∀ l, (sortI l).Perm l
  | [] => .refl _
  | i :: is => (insI_perm i (sortI is)).trans ((sortI_perm is).cons i)
theorem insI_sorted (i : Int) : ∀ l : List Int, l.Pairwise (· ≤ ·) → (insI i l).Pairwise (· ≤ ·)
  | [], _ => by simp [insI]
  | j :: js, h => by
    obtain ⟨h1, h2⟩ := List.pairwise_cons.mp h
    unfold insI
    split
    · rename_i c
      refine List.pairwise_cons.mpr ⟨fun x hx => ?_, h⟩
      rcases List.mem_cons.mp hx with rfl | hx
      · exact c
      · exact Int.le_trans c (h1 x hx)
    · rename_i c
      refine List.pairwise_cons.mpr ⟨fun x hx => ?_, insI_sorted i js h2⟩
      rcases List.mem_cons.mp ((insI_perm i js).mem_iff.mp hx) with rfl | hx
      · omega
      · exact h1 x hx
theorem sortI_sorted : ∀ l, (sortI l).Pairwise (· ≤ ·)
  | [] => .nil
  | i :: is => insI_sorted i _ (sortI_sorted is)
theorem sorted_same {l m : List Int} (p : l.Perm m) (hl : l.Pairwise (· ≤ ·)) (hm : m.Pairwise (· ≤ ·)) : l = m := p.eq_of_pairwise (le := (· ≤ ·)) (fun _ _ _ _ a b => Int.le_antisymm a b) hl hm
theorem maxI_mem : ∀ (i : Int) (is : List Int), maxI (i :: is) ∈ i :: is ∧ ∀ y ∈ i :: is, y ≤ maxI (i :: is)
  | i, [] => by simp [maxI]
  | i, j :: js => by
    obtain ⟨h1, h2⟩ := maxI_mem j js
    have e : maxI (i :: j :: js) = if maxI (j :: js) < i then i else maxI (j :: js) := rfl
    rw [e]
    split
    · rename_i c
      refine ⟨List.mem_cons_self, fun y hy => ?_⟩
      rcases List.mem_cons.mp hy with rfl | hy
      · exact Int.le_refl _
      · exact Int.le_trans (h2 y hy) (Int.le_of_lt c)
    · rename_i c
      refine ⟨List.mem_cons_of_mem _ h1, fun y hy => ?_⟩
      rcases List.mem_cons.mp hy with rfl | hy
      · omega
      · exact h2 y hy
section
variable {K : PySem.W.Frag} {X : Cx} {E : XS} {e o : Expr} {es : List Expr} {pos : Pos} {ea : AE} {ra : AA}
theorem intsOf_rp {g : G} : ∀ {ts : List T} {vs : List V} {ns : List Int}, intsOf ts = some ns → Rps K g ts vs → vs = ns.map V.int ∧ ts = ns.map T.int
  | [], _, _, e, .nil => by cases e; exact ⟨rfl, rfl⟩
  | t :: ts, _, ns, e, .cons (v := v) h r => by
    cases t with
    | int i =>
      simp only [intsOf, Option.map_eq_some_iff] at e
      obtain ⟨ms, e1, rfl⟩ := e
      obtain ⟨e2, e3⟩ := intsOf_rp e1 r
      cases h
      exact ⟨by rw [e2]; rfl, by rw [e3]; rfl⟩
    | _ => simp [intsOf] at e
theorem blsOf_rp {g : G} : ∀ {ts : List T} {vs : List V} {ns : List Bool}, blsOf ts = some ns → Rps K g ts vs → vs = ns.map V.bl
  | [], _, _, e, .nil => by cases e; rfl
  | t :: ts, _, ns, e, .cons (v := v) h r => by
    cases t with
    | bl i =>
      simp only [blsOf, Option.map_eq_some_iff] at e
      obtain ⟨ms, e1, rfl⟩ := e
      have e2 := blsOf_rp e1 r
      cases h
      rw [e2]; rfl
    | _ => simp [blsOf] at e
theorem Rps.ints {g : G} : ∀ ns : List Int, Rps K g (ns.map T.int) (ns.map V.int)
  | [] => .nil
  | i :: is => .cons (.int i) (Rps.ints is)
theorem seqOf_rp {S : Sto} {H : Hp} {g : G} (W : Wd K S H g) {x : T} {v : V} {l : List T} (e : seqOf S x = some l) (r : Rp K g x v) : ∃ a vs, v = .ref a ∧ (SqL K H a vs ∨ SqT K H a vs) ∧ Rps K g l vs := by
  cases r with
  | tup h k r => cases e; exact ⟨_, _, rfl, .inr (SqT.wd W h), r⟩
  | tupk h r => cases e; exact ⟨_, _, rfl, .inr (SqT.wd W h), r⟩
  | lst h r => cases e; exact ⟨_, _, rfl, .inl (SqL.of (lst_wd W h)), r⟩
  | scr h r => cases e; exact ⟨_, _, rfl, .inl (SqL.wd W h), r⟩
  | ref h =>
    simp only [seqOf] at e
    split at e
    · rename_i q
      cases e
      obtain ⟨vs, h1, r1⟩ := W.cell _ _ _ q (fun z => nomatch z) h
      exact ⟨_, vs, rfl, .inl (SqL.of h1), r1⟩
    · cases e
  | _ => cases e
theorem lkL_rp {S : Sto} {H : Hp} {g : G} (W : Wd K S H g) {x : T} {v : V} {l : List T} (e : lkL S x = some l) (r : Rp K g x v) : ∃ a vs, v = .ref a ∧ SqL K H a vs ∧ Rps K g l vs := by
  cases r with
  | lst h r => cases e; exact ⟨_, _, rfl, SqL.of (lst_wd W h), r⟩
  | scr h r => cases e; exact ⟨_, _, rfl, SqL.wd W h, r⟩
  | ref h =>
    simp only [lkL] at e
    split at e
    · rename_i q
      cases e
      obtain ⟨vs, h1, r1⟩ := W.cell _ _ _ q (fun z => nomatch z) h
      exact ⟨_, vs, rfl, SqL.of h1, r1⟩
    · cases e
  | _ => cases e
theorem aTup {x1} (h : PA X es (LA K E ra)) : PE X (.Tuple es x1 pos) (LE K E (mN opTup ra)) :=
  PE.weak (pe_tup h) fun σ H Q h => LA.opN (r := fun xs H Q => xs.length ≤ sizeLine ∧ ∀ p, H p = none → Q (.ref p) (upd H p (.tup xs))) (fun {E S H g xs vs Q} W rx p => by
    unfold opTup at p
    split at p
    · rename_i c
      exact ⟨by rw [← rx.length]; exact c, p.newT W rx⟩
    · exact p.elim) h
theorem aLst (fz : Bool) (h : PA X es (LA K E ra)) : PE X (.List es pos) (LE K E (mN (opLst fz) ra)) :=
  PE.weak (pe_lst h) fun σ H Q h => LA.opN (r := fun xs H Q => xs.length ≤ sizeLine ∧ ∀ p, H p = none → Q (.ref p) (upd H p (.lst xs))) (fun {E S H g xs vs Q} W rx p => by
    unfold opLst at p
    split at p
    · rename_i c
      exact ⟨by rw [← rx.length]; exact c, Post.newLst p W rx⟩
    · exact p.elim) h
theorem or_call {f : Value} {r r' : List V → Hp → VK → Prop} (h : CallR X f r) (h' : CallR X f r') : CallR X f fun xs H Q => r xs H Q ∨ r' xs H Q :=
  fun pins s σ H xs us Q I rx k => k.elim (h pins s σ H xs us Q I rx) (h' pins s σ H xs us Q I rx)
variable {x : Str} {p : Pos} {id : String} {ty : String} {f : List T → Sto → R T} {r : List V → Hp → VK → Prop}
theorem aCallB (u : UpN K f r) (hc : CallR X (.builtin id) r) (hg : Gl X x) (hm : X.mg x = none) (hv : bootBuiltins x = some (.builtin id)) (ha : PA X (e :: es) (LA K E ra)) (hn : x ≠ "__name__" := by decide) (hdb : (x == ("__debug__" : Str)) = false := by decide)
    (he : starEach (e :: es) X.env = (false, eval e X.env) :: starEach es X.env := by rfl) (hpl : (backTo pos (starEach es X.env)).any (·.1) = false := by rfl) : PE X (.Call (.Name x p) (e :: es) [] pos) (LE K E (mN f ra)) :=
  PE.weak (pe_callB hc hg hm hv ha hn hdb he hpl) fun σ H Q h => LA.opN u h
theorem aCallTy (u : UpN K f r) (hc : CallR X (.type ty) r) (hg : Gl X x) (hm : X.mg x = none) (hv : bootBuiltins x = some (.type ty)) (ha : PA X (e :: es) (LA K E ra)) (hn : x ≠ "__name__" := by decide) (hdb : (x == ("__debug__" : Str)) = false := by decide)
    (he : starEach (e :: es) X.env = (false, eval e X.env) :: starEach es X.env := by rfl) (hpl : (backTo pos (starEach es X.env)).any (·.1) = false := by rfl) : PE X (.Call (.Name x p) (e :: es) [] pos) (LE K E (mN f ra)) :=
  PE.weak (pe_callTy hc hg hm hv ha hn hdb he hpl) fun σ H Q h => LA.opN u h
theorem Rpk.length {g : G} : ∀ {ps : List (T × T)} {kvs : List (Key × V)}, Rpk K g ps kvs → ps.length = kvs.length
  | _, _, .nil => rfl
  | _, _, .cons _ _ r => congrArg (· + 1) (Rpk.length r)
theorem Rpt.length {g : G} : ∀ {ps : List (T × T)} {kvs : List (List Key × V)}, Rpt K g ps kvs → ps.length = kvs.length
  | _, _, .nil => rfl
  | _, _, .cons _ _ r => congrArg (· + 1) (Rpt.length r)
/-- len of a dict, as it stands or locked -/
def rLenR : List V → Hp → VK → Prop := fun xs H Q => ∃ d, xs = [V.ref d] ∧ ((∃ kvs, Rd H d (.dK kvs) ∧ Q (.int (kvs.length : Nat)) H) ∨ ∃ kvs, Rd H d (.dT kvs) ∧ Q (.int (kvs.length : Nat)) H)
theorem c_lenR : CallR X (.builtin "len") rLenR := by
  rintro pins s σ H xs us Q I r ⟨d, rfl, h⟩
  obtain ⟨u, rfl, rx⟩ := vals1 r
  obtain rfl : u = .ref d := rx
  rcases h with ⟨kvs, hr, q⟩ | ⟨kvs, hr, q⟩
  · exact d_len I hr fun tk s' J => ⟨.int (kvs.length : Nat), H, J, ⟨tk, rfl⟩, q⟩
  · obtain ⟨big, nsys, trip, same, dictH⟩ := dt_rd I.hok hr
    have el : kvs.length = trip.length := Paired.length same
    rw [sizeLine_eq] at big
    refine PySem.call_len_dictH nsys dictH (by omega) ?_
    rw [← el]
    exact ⟨.int (kvs.length : Nat), H, I.tok _, ⟨_, rfl⟩, q⟩
def rLenU (K : PySem.W.Frag) : List V → Hp → VK → Prop := fun xs H Q => rLenA K xs H Q ∨ rLenR xs H Q
theorem c_lenU (hK : X.K = K := by rfl) : CallR X (.builtin "len") (rLenU K) := by subst hK; exact or_call c_len c_lenR
theorem up_len : UpN K opLen (rLenU K) := by
  intro E S H g xs vs Q W rx p
  unfold opLen at p
  split at p
  · rename_i x
    cases rx with
    | cons r rx =>
      cases rx
      split at p
      · rename_i n e
        cases r with
        | tup h k r => cases e; exact .inl ⟨_, _, rfl, .inr ⟨_, SqT.wd W h, rfl⟩, by rw [← r.length]; exact p.val W (.int _)⟩
        | tupk h r => cases e; exact .inl ⟨_, _, rfl, .inr ⟨_, SqT.wd W h, rfl⟩, by rw [← r.length]; exact p.val W (.int _)⟩
        | lst h r => cases e; exact .inl ⟨_, _, rfl, .inl ⟨_, SqL.of (lst_wd W h), rfl⟩, by rw [← r.length]; exact p.val W (.int _)⟩
        | scr h r => cases e; exact .inl ⟨_, _, rfl, .inl ⟨_, SqL.wd W h, rfl⟩, by rw [← r.length]; exact p.val W (.int _)⟩
        | dct h r => cases e; exact .inr ⟨_, rfl, .inl ⟨_, .inr ⟨_, W.sub _ _ h⟩, by rw [← r.length]; exact p.val W (.int _)⟩⟩
        | dctT h r => cases e; exact .inr ⟨_, rfl, .inr ⟨_, .inr ⟨_, W.sub _ _ h⟩, by rw [← r.length]; exact p.val W (.int _)⟩⟩
        | ref h =>
          simp only [lenOf] at e
          split at e
          · rename_i q
            cases e
            obtain ⟨vs, h1, r1⟩ := W.cell _ _ _ q (fun z => nomatch z) h
            exact .inl ⟨_, _, rfl, .inl ⟨_, SqL.of h1, rfl⟩, by rw [← r1.length]; exact p.val W (.int _)⟩
          · rename_i b l q
            cases e
            cases b with
            | false =>
              obtain ⟨vs, h1, r1⟩ := W.cell _ _ _ q (fun z => nomatch z) h
              exact .inr ⟨_, rfl, .inl ⟨_, .inl h1, by rw [← r1.length]; exact p.val W (.int _)⟩⟩
            | true =>
              obtain ⟨vs, h1, r1⟩ := W.cell _ _ _ q (fun z => nomatch z) h
              exact .inr ⟨_, rfl, .inr ⟨_, .inl h1, by rw [← r1.length]; exact p.val W (.int _)⟩⟩
          · cases e
        | _ => cases e
      · exact p.elim
  · exact p.elim
theorem Rps.one {g : G} {x : T} {vs : List V} (r : Rps K g [x] vs) : ∃ v, vs = [v] ∧ Rp K g x v := by
  cases r with
  | cons h r => cases r; exact ⟨_, rfl, h⟩
theorem Rps.two {g : G} {x y : T} {vs : List V} (r : Rps K g [x, y] vs) : ∃ v w, vs = [v, w] ∧ Rp K g x v ∧ Rp K g y w := by
  cases r with
  | cons h r =>
    obtain ⟨w, e, k⟩ := Rps.one r
    subst e
    exact ⟨_, _, rfl, h, k⟩
theorem up_abs : UpN K opAbs rAbsA := by
  intro E S H g xs vs Q W rx p
  unfold opAbs at p
  split at p
  · obtain ⟨v, rfl, r⟩ := rx.one; cases r; exact ⟨_, rfl, p.val W (.int _)⟩
  · exact p.elim
theorem up_int : UpN K opInt rIntA := by
  intro E S H g xs vs Q W rx p
  unfold opInt at p
  split at p
  · obtain ⟨v, rfl, r⟩ := rx.one; cases r; exact .inl ⟨_, rfl, p.val W (.int _)⟩
  · obtain ⟨v, rfl, r⟩ := rx.one; cases r; exact .inr ⟨_, rfl, p.val W (.int _)⟩
  · exact p.elim
theorem up_min2 : UpN K opMin2 rMinA := by
  intro E S H g xs vs Q W rx p
  unfold opMin2 at p
  split at p
  · obtain ⟨v, w, rfl, r, r'⟩ := rx.two; cases r; cases r'; exact ⟨_, _, rfl, p.val W (.int _)⟩
  · exact p.elim
theorem up_max2 : UpN K opMax2 rMaxA := by
  intro E S H g xs vs Q W rx p
  unfold opMax2 at p
  split at p
  · obtain ⟨v, w, rfl, r, r'⟩ := rx.two; cases r; cases r'; exact ⟨_, _, rfl, p.val W (.int _)⟩
  · exact p.elim
theorem up_list (fz : Bool) : UpN K (opList fz) (rListA K) := by
  intro E S H g xs vs Q W rx p
  unfold opList at p
  split at p
  · obtain ⟨v, rfl, r⟩ := rx.one
    split at p
    · rename_i l e
      obtain ⟨a, ws, rfl, h, r1⟩ := seqOf_rp W e r
      exact ⟨a, ws, rfl, h, Post.newLst p W r1⟩
    · exact p.elim
  · exact p.elim
theorem up_tuple : UpN K opTuple (rTupA K) := by
  intro E S H g xs vs Q W rx p
  unfold opTuple at p
  split at p
  · obtain ⟨v, rfl, r⟩ := rx.one
    obtain ⟨a, ws, rfl, h, r1⟩ := r.tupH W
    exact ⟨a, ws, rfl, .inr ⟨h, p.val W r⟩⟩
  · rename_i x nt
    obtain ⟨v, rfl, r⟩ := rx.one
    split at p
    · rename_i l e
      cases r with
      | lst h r => cases e; exact ⟨_, _, rfl, .inl ⟨SqL.of (lst_wd W h), p.newT W r⟩⟩
      | scr h r => cases e; exact ⟨_, _, rfl, .inl ⟨SqL.wd W h, p.newT W r⟩⟩
      | ref h =>
        simp only [lkL] at e
        split at e
        · rename_i q
          cases e
          obtain ⟨vs, h1, r1⟩ := W.cell _ _ _ q (fun z => nomatch z) h
          exact ⟨_, vs, rfl, .inl ⟨SqL.of h1, p.newT W r1⟩⟩
        · cases e
      | _ => cases e
    · exact p.elim
  · exact p.elim
theorem up_sortI (fz : Bool) : UpN K (opSortI fz) (rSortedI K) := by
  intro E S H g xs vs Q W rx p
  unfold opSortI at p
  split at p
  · obtain ⟨v, rfl, r⟩ := rx.one
    split at p
    · rename_i l e
      obtain ⟨ts, e1, e2⟩ := Option.bind_eq_some_iff.mp e
      obtain ⟨a, ws, rfl, h, r1⟩ := lkL_rp W e1 r
      obtain ⟨e3, _⟩ := intsOf_rp e2 r1
      subst e3
      refine ⟨a, l, rfl, h, fun ns' q perm srt hq => ?_⟩
      have : ns' = sortI l := sorted_same (perm.trans (sortI_perm l).symm) srt (sortI_sorted l)
      subst this
      exact Post.newLst p W (Rps.ints _) q hq
    · exact p.elim
  · exact p.elim
theorem up_any : UpN K opAny (rAny K) := by
  intro E S H g xs vs Q W rx p
  unfold opAny at p
  split at p
  · obtain ⟨v, rfl, r⟩ := rx.one
    split at p
    · rename_i l e
      obtain ⟨ts, e1, e2⟩ := Option.bind_eq_some_iff.mp e
      obtain ⟨a, ws, rfl, h, r1⟩ := lkL_rp W e1 r
      have e3 := blsOf_rp e2 r1
      subst e3
      exact ⟨a, l, rfl, h, p.val W (.bl _)⟩
    · exact p.elim
  · exact p.elim
theorem up_all : UpN K opAll (rAll K) := by
  intro E S H g xs vs Q W rx p
  unfold opAll at p
  split at p
  · obtain ⟨v, rfl, r⟩ := rx.one
    split at p
    · rename_i l e
      obtain ⟨ts, e1, e2⟩ := Option.bind_eq_some_iff.mp e
      obtain ⟨a, ws, rfl, h, r1⟩ := lkL_rp W e1 r
      have e3 := blsOf_rp e2 r1
      subst e3
      exact ⟨a, l, rfl, h, p.val W (.bl _)⟩
    · exact p.elim
  · exact p.elim
theorem up_sum : UpN K opSum (rSum K) := by
  intro E S H g xs vs Q W rx p
  unfold opSum at p
  split at p
  · obtain ⟨v, rfl, r⟩ := rx.one
    split at p
    · rename_i l e
      obtain ⟨ts, e1, e2⟩ := Option.bind_eq_some_iff.mp e
      obtain ⟨a, ws, rfl, h, r1⟩ := lkL_rp W e1 r
      obtain ⟨e3, _⟩ := intsOf_rp e2 r1
      subst e3
      exact ⟨a, l, rfl, h, p.val W (.int _)⟩
    · exact p.elim
  · exact p.elim
theorem up_maxL : UpN K opMaxL (rMax K) := by
  intro E S H g xs vs Q W rx p
  unfold opMaxL at p
  split at p
  · obtain ⟨v, rfl, r⟩ := rx.one
    split at p
    · rename_i i is e
      obtain ⟨ts, e1, e2⟩ := Option.bind_eq_some_iff.mp e
      obtain ⟨a, ws, rfl, h, r1⟩ := lkL_rp W e1 r
      obtain ⟨e3, _⟩ := intsOf_rp e2 r1
      subst e3
      refine ⟨a, i :: is, rfl, h, by simp, fun m hm hy => ?_⟩
      obtain ⟨m1, m2⟩ := maxI_mem i is
      have : m = maxI (i :: is) := Int.le_antisymm (m2 m hm) (hy _ m1)
      subst this
      exact p.val W (.int _)
    · exact p.elim
  · exact p.elim
/-! ### subscripts, slices -/
end
def opIx : T → T → Sto → R T
  | x, .int i, S => match (seqOf S x).bind fun l => atI l i with
    | some t => .ok t S
    | none => .bad
  | _, _, _ => .bad
def rIxU (K : PySem.W.Frag) : R2 := fun x y H Q => rIxL K x y H Q ∨ rIxT K x y H Q
section
variable {K : PySem.W.Frag} {X : Cx} {E : XS} {e o a b : Expr} {es : List Expr} {pos : Pos} {ea eb : AE} {ra : AA}
theorem atI_rp {g : G} {ts : List T} {vs : List V} (r : Rps K g ts vs) {i : Int} {t : T} (e : atI ts i = some t) : ∃ v, atI vs i = some v ∧ Rp K g t v := by
  unfold atI at e ⊢
  obtain ⟨j, e1, e2⟩ := Option.bind_eq_some_iff.mp e
  obtain ⟨v, e3, h⟩ := r.get e2
  exact ⟨v, by rw [← r.length, e1]; exact e3, h⟩
theorem up_ix : Up2 K opIx (rIxU K) := by
  intro E S H g x y v w Q W rx ry p
  unfold opIx at p
  split at p
  · cases ry
    split at p
    · rename_i t e
      obtain ⟨l, e1, e2⟩ := Option.bind_eq_some_iff.mp e
      obtain ⟨a, ws, rfl, h, r1⟩ := seqOf_rp W e1 rx
      obtain ⟨v, e3, r2⟩ := atI_rp r1 e2
      rcases h with h | h
      · exact .inl ⟨a, ws, _, v, rfl, rfl, h, e3, p.val W r2⟩
      · exact .inr ⟨a, ws, _, v, rfl, rfl, h, e3, p.val W r2⟩
    · exact p.elim
  · exact p.elim
theorem ix_u (hK : X.K = K := by rfl) : IxR X (rIxU K) := by subst hK; exact ix_list.or ix_tup
theorem aIx (ha : PE X a (LE K E ea)) (hb : PE X b (LE K E eb)) (hs : PlainIx b := by exact fun _ _ => rfl) (hK : X.K = K := by rfl) : PE X (.Subscript a b pos) (LE K E (m2 opIx ea eb)) :=
  PE.weak (pe_ix (ix_u hK) ha hb hs) fun _ _ _ h => LE.op2 up_ix h
/-! slices -/
abbrev AO := Slots → Sto → R (Option Int)
def mNoP : AO := fun _ S => .ok none S
def mPart (a : AE) : AO := fun st S => (a st S).bind fun x S => match x with
  | .int i => .ok (some i) S
  | _ => .bad
def cutT (l : List T) (lo hi : Option Int) : List T := (l.drop (HT.sIx l.length 0 lo)).take (HT.sIx l.length l.length hi - HT.sIx l.length 0 lo)
def opSl (fz : Bool) : T → Option Int → Option Int → Sto → R T
  | .tup l, lo, hi, S => .ok (.tup (cutT l lo hi)) S
  | .tupk l, lo, hi, S => if (cutT l lo hi).length < l.length then .ok (.tup (cutT l lo hi)) S else .bad
  | x, lo, hi, S => match lkL S x with
    | some l => mkL fz (cutT l lo hi) S
    | none => .bad
def mSl (fz : Bool) (a : AE) (lo hi : AO) : AE := fun st S => (a st S).bind fun x S => (lo st S).bind fun l S => (hi st S).bind fun h S => opSl fz x l h S
abbrev oRel : G → Option Int → Option Int → Prop := fun _ a b => a = b
def LO (K : PySem.W.Frag) (E : XS) (a : AO) : TO := fun σ H Q => ∃ st S g, Wd K S H g ∧ Sl K g st σ ∧ Post K (E σ) S H g oRel (a st S) Q
theorem PO.weak {o : Option Expr} {t t' : TO} (h : PO X o t) (k : ∀ σ H Q, t' σ H Q → t σ H Q) : PO X o t' := ⟨fun pins s σ H Q I q => h.run pins s σ H Q I (k σ H Q q)⟩
theorem LO.bind {α β : Type} {rel : G → α → β → Prop} {Q : β → Hp → Prop} {Q1 : Option Int → Hp → Prop} {ea : AO} {f : Option Int → Slots → Sto → R α} {σ : TSt} {H : Hp} {st : Slots} {S : Sto} {g : G} (w : Wd K S H g) (sl : Sl K g st σ) (h : Post K (E σ) S H g rel ((ea st S).bind fun t S => f t st S) Q)
    (k : ∀ t S1 H1 g1, Wd K S1 H1 g1 → Sl K g1 st σ → Ext S H g S1 H1 g1 → Post K (E σ) S1 H1 g1 rel (f t st S1) Q → Q1 t H1) : LO K E ea σ H Q1 :=
  ⟨st, S, g, w, sl, h.bind (rel1 := oRel) fun t S1 v H1 g1 w1 x r p => by cases (show t = v from r); exact k t S1 H1 g1 w1 (sl.mono x.le) x p⟩
theorem aNoP : PO X none (LO K E mNoP) := PO.weak po_none fun σ H Q ⟨st, S, g, w, sl, p⟩ => p.val w rfl
theorem aPart (h : PE X e (LE K E ea)) : PO X (some e) (LO K E (mPart ea)) := PO.weak (po_some h) fun σ H Q ⟨st, S, g, w, sl, p⟩ =>
  LE.bind (f := fun x _ S => match x with
  | .int i => R.ok (some i) S
  | _ => .bad) w sl p fun t S1 v H1 g1 w1 sl1 x1 r1 p1 => by
    split at p1
    · cases r1; exact ⟨_, rfl, p1.val w1 rfl⟩
    · exact p1.elim
def rSlU (K : PySem.W.Frag) : V → Option Int → Option Int → Hp → VK → Prop := fun x lo hi H Q => rSlL K x lo hi H Q ∨ rSlA K x lo hi H Q
theorem sl_u (hK : X.K = K := by rfl) : SlR X (rSlU K) := by subst hK; exact sl_list.or sl_tupA
theorem cut_rp {g : G} {ts : List T} {vs : List V} (r : Rps K g ts vs) (lo hi : Option Int) : Rps K g (cutT ts lo hi) (cutV vs lo hi) := by
  unfold cutT cutV
  rw [r.length]
  exact (r.drop _).take _
theorem aSl (fz : Bool) {lo hi : Option Expr} {p2 : Pos} {el eh : AO} (ha : PE X a (LE K E ea)) (hl : PO X lo (LO K E el)) (hh : PO X hi (LO K E eh)) (hK : X.K = K := by rfl) : PE X (.Subscript a (.Slice lo hi none p2) pos) (LE K E (mSl fz ea el eh)) :=
  PE.weak (pe_slice (sl_u hK) ha hl hh) fun σ H Q ⟨st, S, g, w, sl, p⟩ =>
    LE.bind (f := fun x st S => (el st S).bind fun l S => (eh st S).bind fun h S => opSl fz x l h S) w sl p fun x S1 v H1 g1 w1 sl1 x1 r1 p1 =>
    LO.bind (f := fun l st S => (eh st S).bind fun h S => opSl fz x l h S) w1 sl1 p1 fun l S2 H2 g2 w2 sl2 x2 p2 =>
    LO.bind (f := fun h _ S => opSl fz x l h S) w2 sl2 p2 fun h S3 H3 g3 w3 sl3 x3 p3 => by
      have r3 := (r1.mono x2.le).mono x3.le
      unfold opSl at p3
      split at p3
      · have r4 := r3
        obtain ⟨b, vs, rfl, h1, rs⟩ := r3.tupH w3
        refine .inr ⟨b, vs, rfl, h1, fun c => ?_, fun _ => p3.newT w3 (cut_rp rs _ _)⟩
        rename_i l0
        rw [show cutT l0 l h = l0 from by
          unfold cutT
          rw [rs.length, c.1, c.2, List.drop_zero, Nat.sub_zero, ← rs.length, List.take_length]] at p3
        exact p3.val w3 r4
      · split at p3
        · rename_i l0 hlt
          cases r3 with
          | tupk h1 rs =>
            refine .inr ⟨_, _, rfl, SqT.sub h1 w3.sub, fun c => ?_, fun _ => p3.newT w3 (cut_rp rs _ _)⟩
            rw [show cutT l0 l h = l0 from by
              unfold cutT
              rw [rs.length, c.1, c.2, List.drop_zero, Nat.sub_zero, ← rs.length, List.take_length]] at hlt
            exact absurd hlt (Nat.lt_irrefl _)
        · exact p3.elim
      · split at p3
        · rename_i l0 e
          obtain ⟨b, vs, rfl, h1, rs⟩ := lkL_rp w3 e r3
          exact .inl ⟨b, vs, rfl, h1, Post.newLst p3 w3 (cut_rp rs _ _)⟩
        · exact p3.elim
end
end Ab

namespace Ab
open PySem PySem.Spec PyProof.Rows L2 Sp
/-! ## fields, calls, methods -/
def wx (E : XS) : WX := fun c d σ H => E σ c d H
abbrev AF := List T → Sto → R T
def spA (K : PySem.W.Frag) (n : Nat) (f : AF) : Sp := fun vs H Q E => vs.length = n ∧ ∃ ts S g, Wd K S H g ∧ Rps K g ts vs ∧ Post K E S H g (Rp K) (f ts S) Q
def mCall (f : AF) (a : AA) : AE := fun st S => (a st S).bind f
/-- of an instance of the class c: its attributes -/
def objOf (c : String) (S : Sto) : T → Option (List (String × T))
  | .ref n => match S[n]? with
    | some (.obj d fs) => if d = c then some fs else none
    | _ => none
  | _ => none
def mFld (c f : String) (a : AE) : AE := fun st S => (a st S).bind fun x S => match (objOf c S x).bind fun fs => fs.lookup f with
  | some t => .ok t S
  | none => .bad
def mMeth (c m : String) (f : AF) (o : AE) (a : AA) : AE := fun st S => (o st S).bind fun x S => match (objOf c S x).map fun fs => fs.lookup m with
  | some none => (a st S).bind fun xs S => f (x :: xs) S
  | _ => .bad
def mMake (c : String) (f : AF) (a : AA) : AE := fun st S => (a st S).bind fun xs S => (f (.ref S.length :: xs) (S ++ [.obj c []])).bind fun t S2 => if isNon t = true then .ok (.ref S.length) S2 else .bad
def putT (f : String) (t : T) : List (String × T) → List (String × T)
  | [] => [(f, t)]
  | (h, x) :: r => if h = f then (h, t) :: r else (h, x) :: putT f t r
section
variable {K : PySem.W.Frag} {X : Cx} {E : XS} {e o a b value : Expr} {es : List Expr} {pos p apos pos' : Pos} {ea eb : AE} {ra : AA} {k : Nat} {ps : List Str} {x : Str}
theorem passW (tk : Takes X (wx E)) (σ : TSt) : PassesAt (L2.CX X.prog X.w) X σ (E σ) := passAt tk σ
theorem run_makeS {pins : List (Addr × Obj)} {σ : TSt} {H : Hp} {s : Shared} {Q : VK} {us : List Value} {vs : List V} {C f : Addr} {fd : FuncData} {sp : Sp} {E : XK} (M : Mk X.K C f) (F : FnOk X.prog X.w X.K X.mg X.base (L2.CX X.prog X.w) k f fd ps sp) (hr : Room (k + 1) X.A) (hb : Binds X.K fd ps [])
    (hx : PassesAt (L2.CX X.prog X.w) X σ E) (I : L2.Inv X pins σ H s) (r : Vals vs us)
    (h : ∀ y dx, H y = none → H dx = none → dx ≠ y → sp (.ref y :: vs) (upd (upd H dx (.own y)) y (.ins C dx [])) (fun v H2 => v = .non ∧ Q (.ref y) H2) E) :
    wpAny (model X.prog X.w) X.A (call (.ref C) us) (EP X pins σ Q) X.xe s := by
  have n0 := I.hok.fresh (Nat.le_refl _)
  have n1 := I.hok.fresh (Nat.le_succ _)
  have want := h _ _ n1 n0 (Nat.ne_of_lt (Nat.lt_succ_self _))
  have J := Inv.made (C := C) I
  have rr : Vals (V.ref (s.heap.objs.size + 1) :: vs) (Value.ref (s.heap.objs.size + 1) :: us) := .cons rfl r
  have many : (Value.ref (s.heap.objs.size + 1) :: us ++ []).length = ps.length := by
    rw [List.append_nil, ← rr.length]
    exact F.len _ _ _ _ want
  have bt := hb _ (Value.ref (s.heap.objs.size + 1) :: us) J.kIn many
  rw [List.append_nil] at bt
  have body := F.run _ X.stack _ _ ⟨Value.ref (s.heap.objs.size + 1) :: us, []⟩ _ _ _ E (hr.make C us []) (J.env0.make C us []) bt rr want
  refine wpAny_call (make_map (f := f) I.kIn M.makes M.init (beq_iff_eq.mp M.fn) (codeAny_mono body fun out s' got => ?_))
  cases out with
  | error z => exact hx pins _ _ z s' J got
  | ok fl =>
    cases fl with
    | ret u =>
      obtain ⟨v, H', J3, rv, ev, q3⟩ := J.after got
      subst ev
      exact ⟨rv, V.ref (s.heap.objs.size + 1), H', J3, rfl, q3⟩
    | next => exact got.elim
    | brk => exact got.elim
    | cont => exact got.elim
def tMakeS (C : Addr) (sp : Sp) (E : XS) (t : TA) : TE := fun σ H Q => t σ H fun vs H1 => ∀ y dx, H1 y = none → H1 dx = none → dx ≠ y → sp (.ref y :: vs) (upd (upd H1 dx (.own y)) y (.ins C dx [])) (fun v H2 => v = .non ∧ Q (.ref y) H2) (E σ)
theorem pe_makeOS {C : Str} {sp : Sp} {t : TA} (M : Mk X.K (He.ga X.K C) (He.ma X.K (He.ga X.K C) "__init__")) (O : Okd X.prog X.w X.K X.mg X.base (C, some "__init__") k ps sp) (hr : Room (k + 1) X.A) (hg : Gl X C) (hm : X.mg C = some (.ref (He.ga X.K C))) (hx : ∀ σ, PassesAt (L2.CX X.prog X.w) X σ (E σ))
    (ha : PA X (e :: es) t) (hdb : (C == ("__debug__" : Str)) = false := by decide) (he : starEach (e :: es) X.env = (false, eval e X.env) :: starEach es X.env := by rfl) (hpl : (backTo pos (starEach es X.env)).any (·.1) = false := by rfl) :
    PE X (.Call (.Name C p) (e :: es) [] pos) (tMakeS (He.ga X.K C) sp E t) := by
  obtain ⟨_, hb, _, F⟩ := O
  refine ⟨fun pins s σ H Q I h => wpAny_Call_Name_kw (ld_glob I hg hm ?_ hdb)⟩
  refine PySem.W.callWith_K (h₀ := X.base) I.ok.mod.kin M.kp (thn (ha.run pos pins s σ H _ I h) fun us s1 ⟨vs, H1, I1, r, q⟩ => ⟨I1.kIn, ?_⟩) he hpl
  exact run_makeS M F hr hb (hx σ) I1 r q
theorem pe_makeOS0 {C : Str} {sp : Sp} (M : Mk X.K (He.ga X.K C) (He.ma X.K (He.ga X.K C) "__init__")) (O : Okd X.prog X.w X.K X.mg X.base (C, some "__init__") k ps sp) (hr : Room (k + 1) X.A) (hg : Gl X C) (hm : X.mg C = some (.ref (He.ga X.K C))) (hx : ∀ σ, PassesAt (L2.CX X.prog X.w) X σ (E σ))
    (hdb : (C == ("__debug__" : Str)) = false := by decide) : PE X (.Call (.Name C p) [] [] pos) (tMakeS (He.ga X.K C) sp E tNil) := by
  obtain ⟨_, hb, _, F⟩ := O
  refine ⟨fun pins s σ H Q I h => wpAny_Call_Name_kw (ld_glob I hg hm ?_ hdb)⟩
  exact PySem.W.callWith_K0 I.kIn M.kp (run_makeS (us := []) M F hr hb (hx σ) I .nil h)
theorem pe_callOS0 {sp : Sp} (O : Okd X.prog X.w X.K X.mg X.base (x, none) k ps sp) (hr : Room k X.A) (hg : Gl X x) (hm : X.mg x = some (.ref (He.ga X.K x))) (hx : ∀ σ, PassesAt (L2.CX X.prog X.w) X σ (E σ)) (hdb : (x == ("__debug__" : Str)) = false := by decide) :
    PE X (.Call (.Name x p) [] [] pos) (tCallS sp E tNil) := by
  obtain ⟨_, hb, hk, F⟩ := O
  refine ⟨fun pins s σ H Q I h => wpAny_Call_Name_kw (ld_glob I hg hm ?_ hdb)⟩
  exact PySem.W.callWith_K0 I.kIn hk (run_fnS (us := []) F hr hb (hx σ) I .nil h)
variable {n : Nat} {f : AF}
/-- an argument list of n -/
def Len (ra : AA) (n : Nat) : Prop := ∀ st S S' ys, ra st S = .ok ys S' → ys.length = n
theorem len_nil : Len mNil 0 := fun _ _ _ _ e => by cases e; rfl
theorem len_cons (h : Len ra n) : Len (mCons ea ra) (n + 1) := fun st S S' ys e => by
  unfold mCons at e
  cases q : ea st S with
  | ok t S1 =>
    rw [q] at e
    cases q2 : ra st S1 with
    | ok ts S2 =>
      simp only [R.bind, q2] at e
      cases e
      exact congrArg (· + 1) (h _ _ _ _ q2)
    | exc c S2 => simp only [R.bind, q2] at e; cases e
    | bad => simp only [R.bind, q2] at e; cases e
  | exc c S1 => rw [q] at e; cases e
  | bad => rw [q] at e; cases e
theorem LA.call {σ : TSt} {H : Hp} {Q : VK} (hn : Len ra n) (h : LE K E (mCall f ra) σ H Q) : tCallS (spA K n f) E (LA K E ra) σ H Q := by
  obtain ⟨st, S, g, w, sl, p⟩ := h
  refine ⟨st, S, g, w, sl, ?_⟩
  show Post K (E σ) S H g (Rps K) (ra st S) _
  have q : Post K (E σ) S H g (Rp K) ((ra st S).bind f) Q := p
  cases e : ra st S with
  | ok ys S1 =>
    rw [e] at q
    intro v H' g' w' x r
    exact ⟨by rw [← r.length]; exact hn st S S1 ys e, ys, S1, g', w', r, Post.trans (r := f ys S1) q x⟩
  | exc c S1 => rw [e] at q; exact q
  | bad => rw [e] at q; exact q
theorem aCall (O : Okd X.prog X.w K X.mg X.base (x, none) k ps (spA K n f)) (tk : Takes X (wx E)) (hr : Room k X.A) (hm : X.mg x = some (.ref (He.ga K x))) (ha : PA X (e :: es) (LA K E ra)) (ln : Len ra n) (hg : Gl X x := by rfl) (hK : X.K = K := by rfl) (hdb : (x == ("__debug__" : Str)) = false := by decide)
    (he : starEach (e :: es) X.env = (false, eval e X.env) :: starEach es X.env := by rfl) (hpl : (backTo pos (starEach es X.env)).any (·.1) = false := by rfl) : PE X (.Call (.Name x p) (e :: es) [] pos) (LE K E (mCall f ra)) := by
  subst hK
  exact PE.weak (pe_callOS O hr hg hm (passW tk) ha hdb he hpl) fun σ H Q h => LA.call ln h
theorem aCall0 (O : Okd X.prog X.w K X.mg X.base (x, none) k ps (spA K 0 f)) (tk : Takes X (wx E)) (hr : Room k X.A) (hm : X.mg x = some (.ref (He.ga K x))) (hg : Gl X x := by rfl) (hK : X.K = K := by rfl) (hdb : (x == ("__debug__" : Str)) = false := by decide) : PE X (.Call (.Name x p) [] [] pos) (LE K E (mCall f mNil)) := by
  subst hK
  exact PE.weak (pe_callOS0 O hr hg hm (passW tk) hdb) fun σ H Q ⟨st, S, g, w, sl, q⟩ => (show spA X.K 0 f [] H Q (E σ) from ⟨rfl, [], S, g, w, .nil, q⟩)
/-! fields -/
theorem Rpf.look {g : G} {f : String} : ∀ {fs : List (String × T)} {vs : List (Str × V)}, Rpf K g fs vs → (∀ t, fs.lookup f = some t → ∃ v, vs.lookup (.ofString f) = some v ∧ Rp K g t v) ∧ (fs.lookup f = none → vs.lookup (.ofString f) = none)
  | _, _, .nil => ⟨fun _ e => (by cases e), fun _ => rfl⟩
  | _, _, .cons (f := h) (t := t') (v := v') (fs := fs) (vs := vs) r rr => by
    obtain ⟨i1, i2⟩ := Rpf.look (f := f) rr
    by_cases q : f = h
    · subst q
      refine ⟨fun t e => ?_, fun e => ?_⟩
      · simp at e; subst e; exact ⟨v', by simp, r⟩
      · simp at e
    · have q1 : (f == h) = false := by simpa using q
      have q2 : (Str.ofString f == Str.ofString h) = false := by simpa using fun z => q (ofString_inj z)
      refine ⟨fun t e => ?_, fun e => ?_⟩
      · rw [List.lookup_cons, q1] at e
        rw [List.lookup_cons, q2]
        exact i1 t e
      · rw [List.lookup_cons, q1] at e
        rw [List.lookup_cons, q2]
        exact i2 e
theorem Rpf.put {g : G} {f : String} {t : T} {v : V} (r : Rp K g t v) : ∀ {fs : List (String × T)} {vs : List (Str × V)}, Rpf K g fs vs → Rpf K g (putT f t fs) (putF (.ofString f) v vs)
  | _, _, .nil => .cons r .nil
  | _, _, .cons (f := h) (t := t') (v := v') (fs := fs) (vs := vs) q rr => by
    unfold putT putF
    by_cases z : h = f
    · subst z
      rw [if_pos rfl, if_pos rfl]
      exact .cons r rr
    · rw [if_neg z, if_neg (fun y => z (ofString_inj y))]
      exact .cons q (Rpf.put r rr)
theorem Rpf.length {g : G} : ∀ {fs : List (String × T)} {vs : List (Str × V)}, Rpf K g fs vs → fs.length = vs.length
  | _, _, .nil => rfl
  | _, _, .cons _ r => congrArg (· + 1) (Rpf.length r)
theorem objOf_rp {S : Sto} {H : Hp} {g : G} (W : Wd K S H g) {c : String} {x : T} {v : V} {fs : List (String × T)} (e : objOf c S x = some fs) (r : Rp K g x v) : ∃ m a dx vs, x = .ref m ∧ S[m]? = some (.obj c fs) ∧ g.mu[m]? = some a ∧ v = .ref a ∧ H a = some (.ins (He.ga K (.ofString c)) dx vs) ∧ Rpf K g fs vs := by
  cases r with
  | ref h =>
    simp only [objOf] at e
    split at e
    · rename_i d fs' q
      split at e
      · rename_i ec
        subst ec
        cases e
        obtain ⟨dx, vs, h1, r1⟩ := W.cell _ _ _ q (fun z => nomatch z) h
        exact ⟨_, _, dx, vs, rfl, q, h, rfl, h1, r1⟩
      · cases e
    · cases e
  | _ => cases e
theorem aFld {c f : String} {fS : Str} (hf : fS = Str.ofString f) (hc : Cls K (He.ga K (.ofString c))) (hn : NoAttr K (He.ga K (.ofString c)) (.ofString f)) (ha : PE X o (LE K E ea)) (hb : attributeBase o fS X.env (eval o X.env) = eval o X.env := by rfl) (hK : X.K = K := by rfl) :
    PE X (.Attribute o fS pos) (LE K E (mFld c f ea)) := by
  subst hf
  refine PE.weak (pe_fldK K ha hb hK) fun σ H Q ⟨st, S, g, w, sl, p⟩ => LE.bind (f := fun x _ S => match (objOf c S x).bind fun fs => fs.lookup f with
  | some t => .ok t S
  | none => .bad) w sl p fun x S1 v H1 g1 w1 sl1 x1 r1 p1 => ?_
  split at p1
  · rename_i t e
    obtain ⟨fs, e1, e2⟩ := Option.bind_eq_some_iff.mp e
    obtain ⟨m, a, dx, vs, _, _, _, rfl, h1, rf⟩ := objOf_rp w1 e1 r1
    obtain ⟨v, e3, r3⟩ := rf.look.1 t e2
    exact ⟨a, _, dx, vs, v, rfl, h1, hc, hn, e3, p1.val w1 r3⟩
  · exact p1.elim
theorem aMeth {c m : String} {mS : Str} {pl : Sem Bool} (hf : mS = Str.ofString m) (hc : Cls K (He.ga K (.ofString c))) (hm : Meth K (He.ga K (.ofString c)) mS (He.ma K (He.ga K (.ofString c)) mS)) (O : Okd X.prog X.w K X.mg X.base (.ofString c, some mS) k ps (spA K (n + 1) f)) (tk : Takes X (wx E)) (hr : Room k X.A) (ho : PE X o (LE K E ea)) (ha : PA X (e :: es) (LA K E ra)) (ln : Len ra n)
    (hK : X.K = K := by rfl) (hst : starEach (e :: es) X.env = (false, eval e X.env) :: starEach es X.env := by rfl) (hpl : (backTo pos (starEach es X.env)).any (·.1) = false := by rfl)
    (ht : eval (.Call (.Attribute o mS apos) (e :: es) [] pos) X.env = (do
      let ov ← eval o X.env
      standAt apos.atName
      let (f, first) ← holding [ov] (getMethod ov mS pl)
      callWith pos f first (backTo pos (starEach (e :: es) X.env)) (backToKw pos (keywordEach [] X.env))) := by rfl) : PE X (.Call (.Attribute o mS apos) (e :: es) [] pos) (LE K E (mMeth c m f ea ra)) := by
  subst hf
  refine PE.weak (pe_methOS K (pl := pl) ho hc hm O hr (passW tk) ha hst hpl ht hK) fun σ H Q ⟨st, S, g, w, sl, p⟩ => LE.bind (f := fun x st S => match (objOf c S x).map fun fs => fs.lookup m with
  | some none => (ra st S).bind fun xs S => f (x :: xs) S
  | _ => .bad) w sl p fun x S1 v H1 g1 w1 sl1 x1 r1 p1 => ?_
  split at p1
  · rename_i e
    obtain ⟨fs, e1, e2⟩ := Option.map_eq_some_iff.mp e
    obtain ⟨j, a, dx, vs, _, _, _, rfl, h1, rf⟩ := objOf_rp w1 e1 r1
    refine ⟨a, dx, vs, rfl, h1, rf.look.2 e2, st, S1, g1, w1, sl1, ?_⟩
    cases q : ra st S1 with
    | ok ys S2 =>
      rw [q] at p1
      intro vs H' g' w' x' r'
      exact ⟨by rw [List.length_cons, ← r'.length, ln _ _ _ _ q], x :: ys, S2, g', w', .cons (r1.mono x'.le) r', Post.trans (r := f (x :: ys) S2) p1 x'⟩
    | exc c S2 => rw [q] at p1; exact p1
    | bad => rw [q] at p1; exact p1
  · exact p1.elim
theorem aMeth0 {c m : String} {mS : Str} {pl : Sem Bool} (hf : mS = Str.ofString m) (hc : Cls K (He.ga K (.ofString c))) (hm : Meth K (He.ga K (.ofString c)) mS (He.ma K (He.ga K (.ofString c)) mS)) (O : Okd X.prog X.w K X.mg X.base (.ofString c, some mS) k ps (spA K 1 f)) (tk : Takes X (wx E)) (hr : Room k X.A) (ho : PE X o (LE K E ea))
    (hK : X.K = K := by rfl)
    (ht : eval (.Call (.Attribute o mS apos) [] [] pos) X.env = (do
      let ov ← eval o X.env
      standAt apos.atName
      let (f, first) ← holding [ov] (getMethod ov mS pl)
      callWith pos f first (backTo pos (starEach [] X.env)) (backToKw pos (keywordEach [] X.env))) := by rfl) : PE X (.Call (.Attribute o mS apos) [] [] pos) (LE K E (mMeth c m f ea mNil)) := by
  subst hf
  refine PE.weak (pe_methOS0 K (pl := pl) ho hc hm O hr (passW tk) ht hK) fun σ H Q ⟨st, S, g, w, sl, p⟩ => LE.bind (f := fun x st S => match (objOf c S x).map fun fs => fs.lookup m with
  | some none => (mNil st S).bind fun xs S => f (x :: xs) S
  | _ => .bad) w sl p fun x S1 v H1 g1 w1 sl1 x1 r1 p1 => ?_
  split at p1
  · rename_i e
    obtain ⟨fs, e1, e2⟩ := Option.map_eq_some_iff.mp e
    obtain ⟨j, a, dx, vs, _, _, _, rfl, h1, rf⟩ := objOf_rp w1 e1 r1
    exact ⟨a, dx, vs, rfl, h1, rf.look.2 e2, rfl, [x], S1, g1, w1, .cons r1 .nil, p1⟩
  · exact p1.elim
/-! instances are made -/
theorem Wd.made {S : Sto} {H : Hp} {g : G} (W : Wd K S H g) {c : String} {y dx : Addr} (hy : H y = none) (hd : H dx = none) (ne : dx ≠ y) :
    Wd K (S ++ [.obj c []]) (upd (upd H dx (.own y)) y (.ins (He.ga K (.ofString c)) dx [])) (g.snoc y) ∧ Ext S H g (S ++ [.obj c []]) (upd (upd H dx (.own y)) y (.ins (He.ga K (.ofString c)) dx [])) (g.snoc y) ∧ (g.snoc y).mu[S.length]? = some y := by
  have keep : ∀ b u, H b = some u → upd H dx (.own y) b = some u := fun b u e => by rw [upd_ne (ne_of_none e hd)]; exact e
  have W1 : Wd K S (upd H dx (.own y)) g := ⟨W.len, fun b u e => keep b u (W.sub b u e), fun m u b e d mm => (W.cell m u b e d mm).mono (.refl g) (by
    obtain ⟨z, e⟩ := (W.cell m u b e d mm).there d
    rw [keep b z e, e]), W.off, W.inj⟩
  obtain ⟨w2, x2, m2⟩ := W1.alloc (p := y) (ho := .ins (He.ga K (.ofString c)) dx []) (o := .obj c []) (by rw [upd_ne (Ne.symm ne)]; exact hy) (fun z => nomatch z) ⟨dx, [], upd_same, .nil⟩
  refine ⟨w2, ⟨x2.le, fun b u e => ?_, fun b u e f l => ?_⟩, m2⟩
  · rw [x2.fz b u e, keep b u (W.sub b u e), W.sub b u e]
  · exact x2.fr b u (keep b u e) f l
theorem mk_post {S : Sto} {H : Hp} {g : G} {EE : XK} {c : String} {xs : List T} {vs : List V} {Q : VK} (W : Wd K S H g) (r : Rps K g xs vs) (hl : xs.length = n)
    (p : Post K EE S H g (Rp K) ((f (.ref S.length :: xs) (S ++ [.obj c []])).bind fun t S2 => if isNon t = true then .ok (.ref S.length) S2 else .bad) Q) :
    ∀ y dx, H y = none → H dx = none → dx ≠ y → spA K (n + 1) f (.ref y :: vs) (upd (upd H dx (.own y)) y (.ins (He.ga K (.ofString c)) dx [])) (fun v H2 => v = .non ∧ Q (.ref y) H2) EE := by
  intro y dx hy hd ne
  obtain ⟨w2, x2, m2⟩ := W.made (c := c) hy hd ne
  refine ⟨by rw [List.length_cons, ← r.length, hl], _, _, _, w2, .cons (.ref m2) (r.mono x2.le), ?_⟩
  refine Post.bind (p.trans x2) fun t S3 v H3 g3 w3 x3 r3 p3 => ?_
  split at p3
  · rename_i c0
    refine ⟨?_, p3.val w3 (.ref (x3.le.mu _ _ m2))⟩
    rw [isNon_rp r3] at c0
    exact of_decide_eq_true c0
  · exact p3.elim
theorem aMake {c : String} {cS : Str} (hf : cS = Str.ofString c) (M : Mk K (He.ga K cS) (He.ma K (He.ga K cS) "__init__")) (O : Okd X.prog X.w K X.mg X.base (cS, some "__init__") k ps (spA K (n + 1) f)) (tk : Takes X (wx E)) (hr : Room (k + 1) X.A) (hm : X.mg cS = some (.ref (He.ga K cS))) (ha : PA X (e :: es) (LA K E ra)) (ln : Len ra n)
    (hg : Gl X cS := by rfl) (hK : X.K = K := by rfl) (hdb : (cS == ("__debug__" : Str)) = false := by decide) (he : starEach (e :: es) X.env = (false, eval e X.env) :: starEach es X.env := by rfl) (hpl : (backTo pos (starEach es X.env)).any (·.1) = false := by rfl) :
    PE X (.Call (.Name cS p) (e :: es) [] pos) (LE K E (mMake c f ra)) := by
  subst hK hf
  refine PE.weak (pe_makeOS M O hr hg hm (passW tk) ha hdb he hpl) fun σ H Q ⟨st, S, g, w, sl, q⟩ => ?_
  refine ⟨st, S, g, w, sl, ?_⟩
  have q' : Post X.K (E σ) S H g (Rp X.K) ((ra st S).bind fun xs S => (f (.ref S.length :: xs) (S ++ [.obj c []])).bind fun t S2 => if isNon t = true then .ok (.ref S.length) S2 else .bad) Q := q
  cases z : ra st S with
  | ok ys S2 =>
    rw [z] at q'
    intro vs H' g' w' x' r'
    exact mk_post w' r' (ln _ _ _ _ z) (Post.trans q' x')
  | exc c S2 => rw [z] at q'; exact q'
  | bad => rw [z] at q'; exact q'
theorem aMake0 {c : String} {cS : Str} (hf : cS = Str.ofString c) (M : Mk K (He.ga K cS) (He.ma K (He.ga K cS) "__init__")) (O : Okd X.prog X.w K X.mg X.base (cS, some "__init__") k ps (spA K 1 f)) (tk : Takes X (wx E)) (hr : Room (k + 1) X.A) (hm : X.mg cS = some (.ref (He.ga K cS)))
    (hg : Gl X cS := by rfl) (hK : X.K = K := by rfl) (hdb : (cS == ("__debug__" : Str)) = false := by decide) : PE X (.Call (.Name cS p) [] [] pos) (LE K E (mMake c f mNil)) := by
  subst hK hf
  exact PE.weak (pe_makeOS0 M O hr hg hm (passW tk) hdb) fun σ H Q ⟨st, S, g, w, sl, q⟩ => mk_post (n := 0) w .nil rfl q
end
end Ab

namespace Ab
open PySem PySem.Spec PyProof.Rows L2 Sp
/-! ## statements -/
inductive RS where
  | nx (st : Slots) (S : Sto) | rt (t : T) (S : Sto) | br (st : Slots) (S : Sto) | ct (st : Slots) (S : Sto) | exc (c : String) (st : Slots) (S : Sto) | bad
abbrev AS := Slots → Sto → RS
abbrev MG := T → Slots → Sto → RS
abbrev MGs := List T → Slots → Sto → RS
def R.stm {α : Type} (r : R α) (st : Slots) (f : α → Sto → RS) : RS := match r with
  | .ok a S => f a S
  | .exc c S => .exc c st S
  | .bad => .bad
def RS.seq (r : RS) (f : AS) : RS := match r with
  | .nx st S => f st S
  | r => r
/-- a target's store goes on or raises: nothing else -/
def RS.only : RS → RS
  | .nx st S => .nx st S
  | .exc c st S => .exc c st S
  | _ => .bad
def mPass : AS := fun st S => .nx st S
def mSeq (a b : AS) : AS := fun st S => (a st S).seq b
def mBrk : AS := fun st S => .br st S
def mCnt : AS := fun st S => .ct st S
def mExp (e : AE) : AS := fun st S => (e st S).stm st fun _ S => .nx st S
def mRet (e : AE) : AS := fun st S => (e st S).stm st fun t S => .rt t S
def mRetN : AS := fun _ S => .rt .non S
def mIf (c : AT) (a b : AS) : AS := fun st S => (c st S).stm st fun k S => if k = true then a st S else b st S
def mSet (i : Nat) (e : AE) : AS := fun st S => (e st S).stm st fun t S => .nx (st.set i (some t)) S
def mAsg (e : AE) (g : MG) : AS := fun st S => (e st S).stm st fun t S => (g t st S).only
def mRaise (c : String) : AS := fun st S => .exc c st S
def gN (i : Nat) : MG := fun t st S => .nx (st.set i (some t)) S
def gsN : MGs := fun ts st S => match ts with
  | [] => .nx st S
  | _ :: _ => .bad
def gsC (g : MG) (gs : MGs) : MGs := fun ts st S => match ts with
  | t :: ts => (g t st S).seq fun st S => gs ts st S
  | [] => .bad
def gT (n : Nat) (gs : MGs) : MG := fun t st S => match t with
  | .tup ts => if ts.length = n then gs ts st S else .bad
  | .tupk ts => if ts.length = n then gs ts st S else .bad
  | _ => .bad
def mPar (i j : Nat) (a : AA) : AS := fun st S => (a st S).stm st fun ts S => match ts with
  | [t, u] => .nx ((st.set i (some t)).set j (some u)) S
  | _ => .bad
def mAug (i : Nat) (f : T → T → Sto → R T) (e : AE) : AS := fun st S => match st[i]? with
  | some (some x) => (e st S).stm st fun y S => (f x y S).stm st fun z S => .nx (st.set i (some z)) S
  | _ => .bad
def PostS (K : PySem.W.Frag) (E : XS) (S : Sto) (H : Hp) (g : G) (r : RS) (D : Ends) : Prop := match r with
  | .nx st' S' => ∀ σ' H' g', Wd K S' H' g' → Ext S H g S' H' g' → Sl K g' st' σ' → D.nx σ' H'
  | .br st' S' => ∀ σ' H' g', Wd K S' H' g' → Ext S H g S' H' g' → Sl K g' st' σ' → D.bk σ' H'
  | .ct st' S' => ∀ σ' H' g', Wd K S' H' g' → Ext S H g S' H' g' → Sl K g' st' σ' → D.ct σ' H'
  | .rt t S' => ∀ v H' g', Wd K S' H' g' → Ext S H g S' H' g' → Rp K g' t v → D.rt v H'
  | .exc c st' S' => ∀ σ' H' g', Wd K S' H' g' → Ext S H g S' H' g' → Sl K g' st' σ' → E σ' (cR K c) none H'
  | .bad => False
def LS (K : PySem.W.Frag) (E : XS) (a : AS) : TS := fun D σ H => ∃ st S g, Wd K S H g ∧ Sl K g st σ ∧ PostS K E S H g (a st S) D
def LG (K : PySem.W.Frag) (E : XS) (a : MG) : TG := fun v σ H Q => ∃ t st S g, Wd K S H g ∧ Sl K g st σ ∧ Rp K g t v ∧ PostS K E S H g (a t st S) ⟨Q, fun _ _ => False, fun _ _ => False, fun _ _ => False⟩
def LGs (K : PySem.W.Frag) (E : XS) (a : MGs) : TGs := fun vs σ H Q => ∃ ts st S g, Wd K S H g ∧ Sl K g st σ ∧ Rps K g ts vs ∧ PostS K E S H g (a ts st S) ⟨Q, fun _ _ => False, fun _ _ => False, fun _ _ => False⟩
section
variable {K : PySem.W.Frag} {E : XS} {S S1 : Sto} {H H1 : Hp} {g g1 : G} {D D' : Ends}
theorem PostS.trans {r : RS} (h : PostS K E S H g r D) (x : Ext S H g S1 H1 g1) : PostS K E S1 H1 g1 r D := by
  cases r with
  | bad => exact h
  | _ => exact fun a b c w y z => h a b c w (x.trans y) z
theorem PostS.imp {r : RS} (h : PostS K E S H g r D) (h1 : ∀ σ H, D.nx σ H → D'.nx σ H) (h2 : ∀ v H, D.rt v H → D'.rt v H) (h3 : ∀ σ H, D.bk σ H → D'.bk σ H) (h4 : ∀ σ H, D.ct σ H → D'.ct σ H) : PostS K E S H g r D' := by
  cases r with
  | nx st S' => exact fun a b c w y z => h1 _ _ (h a b c w y z)
  | br st S' => exact fun a b c w y z => h3 _ _ (h a b c w y z)
  | ct st S' => exact fun a b c w y z => h4 _ _ (h a b c w y z)
  | rt t S' => exact fun a b c w y z => h2 _ _ (h a b c w y z)
  | exc c st S' => exact h
  | bad => exact h
/-- an expression within a statement -/
theorem PostS.run {α β : Type} {rel : G → α → β → Prop} {σ : TSt} {st : Slots} {r : R α} {f : α → Sto → RS} (sl : Sl K g st σ) (h : PostS K E S H g (r.stm st f) D) {Q : β → Hp → Prop}
    (k : ∀ t S1 v H1 g1, Wd K S1 H1 g1 → Sl K g1 st σ → Ext S H g S1 H1 g1 → rel g1 t v → PostS K E S1 H1 g1 (f t S1) D → Q v H1) : Post K (E σ) S H g rel r Q := by
  cases r with
  | ok t S' =>
    intro v H' g' w x r
    exact k t S' v H' g' w (sl.mono x.le) x r (PostS.trans (r := f t S') h x)
  | exc c S' => exact fun H' g' w x => h σ H' g' w x (sl.mono x.le)
  | bad => exact h
theorem PostS.seq {r : RS} {f : AS} (h : PostS K E S H g (r.seq f) D) : PostS K E S H g r { D with nx := LS K E f D } := by
  cases r with
  | nx st S' => exact fun σ' H' g' w x sl => ⟨st, S', g', w, sl, PostS.trans (r := f st S') h x⟩
  | br st S' => exact h
  | ct st S' => exact h
  | rt t S' => exact h
  | exc c st S' => exact h
  | bad => exact h
end
section
variable {X : Cx} {K : PySem.W.Frag} {E : XS} {e a b c tg : Expr} {es : List Expr} {s : Stmt} {ss tt : List Stmt} {pos : Pos} {ea eb : AE} {et : AT} {ra : AA} {as bs : AS} {gg : MG} {gs : MGs} {x : Str}
theorem PS.weak {t t' : TS} (h : PS X s t) (k : ∀ D σ H, t' D σ H → t D σ H) : PS X s t' := ⟨fun pins s σ H D I q => h.run pins s σ H D I (k D σ H q)⟩
theorem PSs.weak {t t' : TS} (h : PSs X ss t) (k : ∀ D σ H, t' D σ H → t D σ H) : PSs X ss t' := ⟨fun pins s σ H D I q => h.run pins s σ H D I (k D σ H q)⟩
theorem PG.weak {t t' : TG} (h : PG X e t) (k : ∀ v σ H Q, t' v σ H Q → t v σ H Q) : PG X e t' := ⟨fun pins s σ H v u Q I r q => h.run pins s σ H v u Q I r (k v σ H Q q)⟩
theorem PGs.weak {t t' : TGs} (h : PGs X es t) (k : ∀ v σ H Q, t' v σ H Q → t v σ H Q) : PGs X es t' := ⟨fun pins s σ H v u Q I r q => h.run pins s σ H v u Q I r (k v σ H Q q)⟩
theorem LE.run {σ : TSt} {st : Slots} {S : Sto} {H : Hp} {g : G} {f : T → Sto → RS} {D : Ends} {Q : VK} (w : Wd K S H g) (sl : Sl K g st σ) (h : PostS K E S H g ((ea st S).stm st f) D)
    (k : ∀ t S1 v H1 g1, Wd K S1 H1 g1 → Sl K g1 st σ → Ext S H g S1 H1 g1 → Rp K g1 t v → PostS K E S1 H1 g1 (f t S1) D → Q v H1) : LE K E ea σ H Q := ⟨st, S, g, w, sl, h.run sl k⟩
theorem LA.run {σ : TSt} {st : Slots} {S : Sto} {H : Hp} {g : G} {f : List T → Sto → RS} {D : Ends} {Q : List V → Hp → Prop} (w : Wd K S H g) (sl : Sl K g st σ) (h : PostS K E S H g ((ra st S).stm st f) D)
    (k : ∀ t S1 v H1 g1, Wd K S1 H1 g1 → Sl K g1 st σ → Ext S H g S1 H1 g1 → Rps K g1 t v → PostS K E S1 H1 g1 (f t S1) D → Q v H1) : LA K E ra σ H Q := ⟨st, S, g, w, sl, h.run sl k⟩
theorem LT.run {σ : TSt} {st : Slots} {S : Sto} {H : Hp} {g : G} {f : Bool → Sto → RS} {D : Ends} {Q : Bool → Hp → Prop} (w : Wd K S H g) (sl : Sl K g st σ) (h : PostS K E S H g ((et st S).stm st f) D)
    (k : ∀ t S1 H1 g1, Wd K S1 H1 g1 → Sl K g1 st σ → Ext S H g S1 H1 g1 → PostS K E S1 H1 g1 (f t S1) D → Q t H1) : LT K E et σ H Q := ⟨st, S, g, w, sl, h.run (rel := bRel) sl fun t S1 v H1 g1 w1 sl1 x1 r p => by cases (show t = v from r); exact k t S1 H1 g1 w1 sl1 x1 p⟩
theorem aSNil : PSs X [] (LS K E mPass) := PSs.weak pss_nil fun D σ H ⟨st, S, g, w, sl, p⟩ => p σ H g w (.refl S H g) sl
theorem aSOne (h : PS X s (LS K E as)) : PSs X [s] (LS K E as) := pss_one h
theorem aSCons (h : PS X s (LS K E as)) (k : PSs X ss (LS K E bs)) : PSs X (s :: ss) (LS K E (mSeq as bs)) := PSs.weak (pss_cons h k) fun D σ H ⟨st, S, g, w, sl, p⟩ => ⟨st, S, g, w, sl, PostS.seq p⟩
theorem aPass : PS X (.Pass pos) (LS K E mPass) := PS.weak ps_pass fun D σ H ⟨st, S, g, w, sl, p⟩ => p σ H g w (.refl S H g) sl
theorem aBrk : PS X (.Break pos) (LS K E mBrk) := PS.weak ps_break fun D σ H ⟨st, S, g, w, sl, p⟩ => p σ H g w (.refl S H g) sl
theorem aCnt : PS X (.Continue pos) (LS K E mCnt) := PS.weak ps_continue fun D σ H ⟨st, S, g, w, sl, p⟩ => p σ H g w (.refl S H g) sl
theorem aExp (h : PE X e (LE K E ea)) (hs : swapsWith e none pos.line X.env = pure false := by rfl) : PS X (.Expr e pos) (LS K E (mExp ea)) :=
  PS.weak (ps_expr h hs) fun D σ H ⟨st, S, g, w, sl, p⟩ => LE.run (f := fun _ S => .nx st S) w sl p fun t S1 v H1 g1 w1 sl1 x1 r1 p1 => p1 σ H1 g1 w1 (.refl _ _ _) sl1
theorem aDoc {x j pos'} : PS X (.Expr (.Constant (.str x) j pos) pos') (LS K E mPass) := PS.weak ps_doc fun D σ H ⟨st, S, g, w, sl, p⟩ => p σ H g w (.refl S H g) sl
theorem aRet (h : PE X e (LE K E ea)) : PS X (.Return (some e) pos) (LS K E (mRet ea)) :=
  PS.weak (ps_ret h) fun D σ H ⟨st, S, g, w, sl, p⟩ => LE.run (f := fun t S => .rt t S) w sl p fun t S1 v H1 g1 w1 sl1 x1 r1 p1 => p1 v H1 g1 w1 (.refl _ _ _) r1
theorem aRetN : PS X (.Return none pos) (LS K E mRetN) := PS.weak ps_retN fun D σ H ⟨st, S, g, w, sl, p⟩ => p .non H g w (.refl S H g) .non
theorem aIf (hc : PT X c (LT K E et)) (ha : PSs X ss (LS K E as)) (hb : PSs X tt (LS K E bs)) : PS X (.If c ss tt pos) (LS K E (mIf et as bs)) :=
  PS.weak (ps_if hc ha hb) fun D σ H ⟨st, S, g, w, sl, p⟩ => LT.run (f := fun k S => if k = true then as st S else bs st S) w sl p fun t S1 H1 g1 w1 sl1 x1 p1 => by
    cases t with
    | true => rw [if_pos rfl]; exact ⟨st, S1, g1, w1, sl1, p1⟩
    | false => rw [if_neg Bool.false_ne_true]; exact ⟨st, S1, g1, w1, sl1, p1⟩
theorem aGN {i : Nat} (hN : X.N.Nodup) (hi : X.N[i]? = some x := by rfl) (hx : Loc X.env.scope x := by first | exact .inl rfl | exact .inr rfl) (hf : X.fn x = true ∨ X.env.scope.names.lookup x = some .local := by first | exact .inl rfl | exact .inr rfl | assumption) : PG X (.Name x pos) (LG K E (gN i)) :=
  PG.weak (pg_name hN hi hx hf) fun v σ H Q ⟨t, st, S, g, w, sl, r, p⟩ => p _ H g w (.refl S H g) (sl.set i r)
theorem aGsN : PGs X [] (LGs K E gsN) := PGs.weak pgs_nil fun v σ H Q ⟨ts, st, S, g, w, sl, r, p⟩ => by
  cases r with
  | nil => exact ⟨rfl, p σ H g w (.refl S H g) sl⟩
  | cons => exact p.elim
theorem aGsC (h : PG X e (LG K E gg)) (k : PGs X es (LGs K E gs)) (hs : (assignEach (e :: es) X.env).map (·.2) = assign e X.env :: (assignEach es X.env).map (·.2) := by rfl) : PGs X (e :: es) (LGs K E (gsC gg gs)) := PGs.weak (pgs_cons h k hs) fun vs σ H Q ⟨ts, st, S, g, w, sl, r, p⟩ => by
  cases r with
  | nil => exact p.elim
  | @cons t ts v vs h1 h2 =>
    refine ⟨_, _, rfl, _, st, S, g, w, sl, h1, ?_⟩
    have q : PostS K E S H g ((gg t st S).seq fun st S => gs ts st S) ⟨Q, fun _ _ => False, fun _ _ => False, fun _ _ => False⟩ := p
    cases z : gg t st S with
    | nx st' S' => rw [z] at q; exact fun σ' H' g' w' x' sl' => ⟨ts, st', S', g', w', sl', h2.mono x'.le, PostS.trans (r := gs ts st' S') q x'⟩
    | br st' S' => rw [z] at q; exact q
    | ct st' S' => rw [z] at q; exact q
    | rt t S' => rw [z] at q; exact q
    | exc c st' S' => rw [z] at q; exact q
    | bad => rw [z] at q; exact q
theorem aGT {j : Nat} {n : Nat} (hc : X.calm = true) (h : PGs X es (LGs K E gs)) (hn : (assignEach es X.env).length = n := by rfl) (hst : (assignEach es X.env).findIdx? (·.1) = none := by rfl) (hK : X.K = K := by rfl) : PG X (.Tuple es j pos) (LG K E (gT n gs)) := by
  subst hK
  refine PG.weak (pg_tup hc h hn hst) fun v σ H Q ⟨t, st, S, g, w, sl, r, p⟩ => ?_
  unfold gT at p
  split at p
  · split at p
    · rename_i c
      obtain ⟨a, vs, rfl, h1, r1⟩ := r.tupH w
      exact ⟨a, vs, rfl, h1, by rw [← r1.length]; exact c, _, st, S, g, w, sl, r1, p⟩
    · exact p.elim
  · split at p
    · rename_i c
      obtain ⟨a, vs, rfl, h1, r1⟩ := r.tupkH w
      exact ⟨a, vs, rfl, h1, by rw [← r1.length]; exact c, _, st, S, g, w, sl, r1, p⟩
    · exact p.elim
  · exact p.elim
theorem aSet {i : Nat} {pos' : Pos} (hN : X.N.Nodup) (h : PE X e (LE K E ea)) (hi : X.N[i]? = some x := by rfl) (hx : Loc X.env.scope x := by first | exact .inl rfl | exact .inr rfl) (hs : swapsWith e (some (.Name x pos')) pos.line X.env = pure false := by rfl)
    (hf : X.fn x = true ∨ X.env.scope.names.lookup x = some .local := by first | exact .inl rfl | exact .inr rfl | assumption) : PS X (.Assign [.Name x pos'] e pos) (LS K E (mSet i ea)) :=
  PS.weak (ps_set hN hi hx h hs hf) fun D σ H ⟨st, S, g, w, sl, p⟩ => LE.run (f := fun t S => .nx (st.set i (some t)) S) w sl p fun t S1 v H1 g1 w1 sl1 x1 r1 p1 => p1 _ H1 g1 w1 (.refl _ _ _) (sl1.set i r1)
theorem aAsg (h : PE X e (LE K E ea)) (hg : PG X tg (LG K E gg)) (hs : swapsWithSole [tg] e pos.line X.env = pure false := by rfl) (hw : swappedStores [tg] e X.env = pure none := by rfl)
    (h1 : (assignEach [tg] X.env).map (·.2) = [assign tg X.env] := by rfl) : PS X (.Assign [tg] e pos) (LS K E (mAsg ea gg)) :=
  PS.weak (ps_asg h hg hs hw h1) fun D σ H ⟨st, S, g, w, sl, p⟩ => LE.run (f := fun t S => (gg t st S).only) w sl p fun t S1 v H1 g1 w1 sl1 x1 r1 p1 => ⟨t, st, S1, g1, w1, sl1, r1, by
    cases y : gg t st S1 with
    | nx st' S' => rw [y] at p1; exact p1
    | exc c st' S' => rw [y] at p1; exact p1
    | bad => rw [y] at p1; exact p1
    | rt a b => rw [y] at p1; exact p1.elim
    | br a b => rw [y] at p1; exact p1.elim
    | ct a b => rw [y] at p1; exact p1.elim⟩
/-! ### defs -/
end
def mDef (n N : Nat) (b : AS) : AF := fun ts S => if ts.length = n then (match b (ts.map some ++ List.replicate (N - n) none) S with
  | .rt t S => .ok t S
  | .nx _ S => .ok .non S
  | .exc c _ S => .exc c S
  | _ => .bad) else .bad
section
variable {X : Cx} {K : PySem.W.Frag}
theorem sl_start {g : G} {m : Nat} : ∀ {ts : List T} {vs : List V}, Rps K g ts vs → Sl K g (ts.map some ++ List.replicate m none) (vs.map some ++ List.replicate m none)
  | _, _, .nil => by
    refine ⟨by simp, fun i t e => ?_⟩
    simp only [List.map_nil, List.nil_append, List.getElem?_replicate] at e
    split at e <;> simp at e
  | _, _, .cons h r => by
    obtain ⟨l, k⟩ := sl_start (m := m) r
    refine ⟨by simpa using l, fun i t e => ?_⟩
    cases i with
    | zero =>
      simp at e
      subst e
      exact ⟨_, by simp, h⟩
    | succ i =>
      obtain ⟨v, e1, r1⟩ := k i t (by simpa using e)
      exact ⟨v, by simpa using e1, r1⟩
theorem aDef {N : List Str} {n : Nat} {b : AS} {ss : List Stmt} {vs : List V} {H : Hp} {Q : VK} {E : XK} (hK : X.K = K) (h : PSs X ss (LS K (fun _ => E) b)) (k : spA K n (mDef n N.length b) vs H Q E) :
    ∃ t, PSs X ss t ∧ t { nx := fun _ H' => Q .non H', rt := Q } (start N vs) H := by
  refine ⟨_, h, ?_⟩
  obtain ⟨hl, ts, S, g, w, r, p⟩ := k
  unfold mDef at p
  rw [if_pos (r.length.trans hl)] at p
  refine ⟨ts.map some ++ List.replicate (N.length - n) none, S, g, w, ?_, ?_⟩
  · unfold L2.start
    rw [hl]
    exact sl_start r
  · cases z : b (ts.map some ++ List.replicate (N.length - n) none) S with
    | nx st S' => rw [z] at p; exact fun σ' H' g' w' x' sl' => p _ H' g' w' x' .non
    | rt t S' => rw [z] at p; exact fun v H' g' w' x' r' => p v H' g' w' x' r'
    | exc c st S' => rw [z] at p; exact fun σ' H' g' w' x' sl' => p H' g' w' x'
    | br st S' => rw [z] at p; exact p.elim
    | ct st S' => rw [z] at p; exact p.elim
    | bad => rw [z] at p; exact p.elim
end
/-! ### loops -/
def mWh : Nat → AT → AS → AS
  | 0, _, _ => fun _ _ => .bad
  | n + 1, c, b => fun st S => (c st S).stm st fun k S => if k = true then (match b st S with
    | .nx st S => mWh n c b st S
    | .ct st S => mWh n c b st S
    | .br st S => .nx st S
    | r => r) else .nx st S
/-- what a loop walks: the items, and the list that must stay as it is -/
structure Itm where
  l : List T
  ck : Option (Nat × List T)
def okC (ck : Option (Nat × List T)) (S : Sto) : Prop := match ck with
  | none => True
  | some (n, l) => S[n]? = some (.lst l)
open Classical in
noncomputable def forL (ck : Option (Nat × List T)) (g : MG) (b : AS) : List T → AS
  | [], st, S => if okC ck S then .nx st S else .bad
  | t :: ts, st, S => if okC ck S then (match (g t st S).only with
    | .nx st S => (match b st S with
      | .nx st S => forL ck g b ts st S
      | .ct st S => forL ck g b ts st S
      | .br st S => .nx st S
      | r => r)
    | r => r) else .bad
abbrev AI := Slots → Sto → R Itm
noncomputable def mFor (it : AI) (g : MG) (b : AS) : AS := fun st S => (it st S).stm st fun x S => forL x.ck g b x.l st S
structure Wlk (K : PySem.W.Frag) (J : It) (g0 : G) (x : Itm) : Prop where
  go : ∀ (i : Nat) (S : Sto) (H : Hp) (g : G) (t : T), Wd K S H g → GLe g0 g → okC x.ck S → x.l[i]? = some t → J.go i H ∧ ∀ v H', J.yld i H v H' → ∃ g', Wd K S H' g' ∧ Ext S H g S H' g' ∧ Rp K g' t v
  stop : ∀ (i : Nat) (S : Sto) (H : Hp) (g : G), Wd K S H g → GLe g0 g → okC x.ck S → x.l.length ≤ i → J.stop i H
def LI (K : PySem.W.Frag) (E : XS) (it : AI) : TI := fun σ H R => ∃ st S g, Wd K S H g ∧ Sl K g st σ ∧ (match it st S with
  | .ok x S' => ∀ H' g' J, Wd K S' H' g' → Ext S H g S' H' g' → Wlk K J g' x → R J H'
  | .exc c S' => ∀ H' g', Wd K S' H' g' → Ext S H g S' H' g' → E σ (cR K c) none H'
  | .bad => False)
section
variable {X : Cx} {K : PySem.W.Frag} {E : XS} {c tg iter : Expr} {ss : List Stmt} {pos : Pos} {et : AT} {b : AS} {gg : MG} {it : AI}
theorem aWhile (m : Nat) (hp : PassesOwn (model X.prog X.w) X.A X.env X.xe) (hc : PT X c (LT K E et)) (hb : PSs X ss (LS K E b)) : PS X (.While c ss [] pos) (LS K E (mWh m et b)) := by
  refine PS.weak (ps_while hp hc hb) fun D σ H ⟨st, S, g, w, sl, p⟩ => ⟨fun m σ H => ∃ st S g, Wd K S H g ∧ Sl K g st σ ∧ PostS K E S H g (mWh m et b st S) D, ⟨m, st, S, g, w, sl, p⟩, ?_⟩
  rintro n σ H ⟨st, S, g, w, sl, p⟩
  cases n with
  | zero => exact p.elim
  | succ n =>
    refine LT.run (f := fun k S => if k = true then (match b st S with
      | .nx st S => mWh n et b st S
      | .ct st S => mWh n et b st S
      | .br st S => .nx st S
      | r => r) else .nx st S) w sl p fun k S1 H1 g1 w1 sl1 x1 p1 => ?_
    cases k with
    | false =>
      rw [if_neg Bool.false_ne_true] at p1 ⊢
      exact p1 σ H1 g1 w1 (.refl _ _ _) sl1
    | true =>
      rw [if_pos rfl] at p1 ⊢
      refine ⟨fun σ H => ∃ st S g, Wd K S H g ∧ Sl K g st σ ∧ PostS K E S H g (mWh n et b st S) D, fun σ' H' h => ⟨n, Nat.lt_succ_self n, h⟩, st, S1, g1, w1, sl1, ?_⟩
      cases z : b st S1 with
      | nx st' S' => rw [z] at p1; exact fun σ' H' g' w' x' sl' => ⟨st', S', g', w', sl', PostS.trans (r := mWh n et b st' S') p1 x'⟩
      | ct st' S' => rw [z] at p1; exact fun σ' H' g' w' x' sl' => ⟨st', S', g', w', sl', PostS.trans (r := mWh n et b st' S') p1 x'⟩
      | br st' S' => rw [z] at p1; exact p1
      | rt t S' => rw [z] at p1; exact p1
      | exc c st' S' => rw [z] at p1; exact p1
      | bad => rw [z] at p1; exact p1
theorem aFor (hp : PassesOwn (model X.prog X.w) X.A X.env X.xe) (hc : X.calm = true) (hi : PI X tg iter (LI K E it)) (hg : PG X tg (LG K E gg)) (hb : PSs X ss (LS K E b)) (hs : ∀ x, foldedSetIterable iter X.env x = pure x := by intro _; rfl) : PS X (.For tg iter ss [] pos) (LS K E (mFor it gg b)) := by
  refine PS.weak (ps_for hp hc hi hg hb hs) fun D σ H ⟨st, S, g, w, sl, p⟩ => ⟨st, S, g, w, sl, ?_⟩
  have p0 : PostS K E S H g ((it st S).stm st fun x S => forL x.ck gg b x.l st S) D := p
  cases z : it st S with
  | bad => rw [z] at p0; exact p0
  | exc c S' => rw [z] at p0; exact fun H' g' w' x' => p0 σ H' g' w' x' (sl.mono x'.le)
  | ok x S' =>
    rw [z] at p0
    intro H1 g1 J w1 x1 wk
    refine ⟨fun i m σ H => ∃ st S g, Wd K S H g ∧ Sl K g st σ ∧ GLe g1 g ∧ i ≤ x.l.length ∧ m = x.l.length - i ∧ PostS K E S H g (forL x.ck gg b (x.l.drop i) st S) D, ⟨_, st, S', g1, w1, sl.mono x1.le, .refl _, Nat.zero_le _, rfl, PostS.trans (r := forL x.ck gg b x.l st S') p0 x1⟩, ?_⟩
    rintro i m σ2 H2 ⟨st2, S2, g2, w2, sl2, l2, hi2, rfl, p2⟩
    by_cases hlt : i < x.l.length
    · obtain ⟨t, ht⟩ : ∃ t, x.l[i]? = some t := ⟨_, List.getElem?_eq_getElem hlt⟩
      have hd : x.l.drop i = t :: x.l.drop (i + 1) := by
        rw [List.drop_eq_getElem_cons hlt]
        congr
        have := List.getElem?_eq_getElem hlt
        rw [ht] at this
        exact (Option.some.inj this).symm
      rw [hd] at p2
      unfold forL at p2
      by_cases hck : okC x.ck S2
      · rw [if_pos hck] at p2
        obtain ⟨k1, k2⟩ := wk.go i S2 H2 g2 t w2 l2 hck ht
        refine .inr ⟨k1, fun σ H => ∃ st S g, Wd K S H g ∧ Sl K g st σ ∧ GLe g1 g ∧ PostS K E S H g (forL x.ck gg b (x.l.drop (i + 1)) st S) D, fun σ' H' ⟨st', S', g', w', sl', l', p'⟩ => ⟨_, by omega, st', S', g', w', sl', l', hlt, rfl, p'⟩, fun v H3 y => ?_⟩
        obtain ⟨g3, w3, x3, r3⟩ := k2 v H3 y
        refine ⟨t, st2, S2, g3, w3, sl2.mono x3.le, r3, ?_⟩
        have p3 := PostS.trans p2 x3
        cases z2 : gg t st2 S2 with
        | nx st4 S4 =>
          rw [z2] at p3
          intro σ4 H4 g4 w4 x4 sl4
          refine ⟨st4, S4, g4, w4, sl4, ?_⟩
          have p4 := PostS.trans p3 x4
          simp only [RS.only] at p4
          have l4 := (l2.trans x3.le).trans x4.le
          cases z5 : b st4 S4 with
          | nx st5 S5 => rw [z5] at p4; exact fun σ' H' g' w' x' sl' => ⟨st5, S5, g', w', sl', l4.trans x'.le, PostS.trans (r := forL x.ck gg b (x.l.drop (i + 1)) st5 S5) p4 x'⟩
          | ct st5 S5 => rw [z5] at p4; exact fun σ' H' g' w' x' sl' => ⟨st5, S5, g', w', sl', l4.trans x'.le, PostS.trans (r := forL x.ck gg b (x.l.drop (i + 1)) st5 S5) p4 x'⟩
          | br st' S' => rw [z5] at p4; exact p4
          | rt t S' => rw [z5] at p4; exact p4
          | exc c st' S' => rw [z5] at p4; exact p4
          | bad => rw [z5] at p4; exact p4
        | exc c st4 S4 => rw [z2] at p3; exact p3
        | bad => rw [z2] at p3; exact p3
        | rt a b => rw [z2] at p3; exact p3.elim
        | br a b => rw [z2] at p3; exact p3.elim
        | ct a b => rw [z2] at p3; exact p3.elim
      · rw [if_neg hck] at p2; exact p2.elim
    · have e : i = x.l.length := by omega
      rw [List.drop_eq_nil_of_le (by omega)] at p2
      unfold forL at p2
      by_cases hck : okC x.ck S2
      · rw [if_pos hck] at p2
        exact .inl ⟨wk.stop i S2 H2 g2 w2 l2 hck (by omega), p2 σ2 H2 g2 w2 (.refl _ _ _) sl2⟩
      · rw [if_neg hck] at p2; exact p2.elim
/-! what is walked -/
def itL (a : AE) : AI := fun st S => (a st S).bind fun x S => match x with
  | .lst l => .ok ⟨l, none⟩ S
  | .scr l => .ok ⟨l, none⟩ S
  | .ref n => match S[n]? with
    | some (.lst l) => .ok ⟨l, some (n, l)⟩ S
    | _ => .bad
  | _ => .bad
def itT (a : AE) : AI := fun st S => (a st S).bind fun x S => match x with
  | .tup l => .ok ⟨l, none⟩ S
  | .tupk l => .ok ⟨l, none⟩ S
  | _ => .bad
def rngT (i j : Int) : List T := (List.range (j - i).toNat).map fun (k : Nat) => T.int (i + k)
def itR1 (a : AA) : AI := fun st S => (a st S).bind fun x S => match x with
  | [.int j] => if -(2 ^ 62) ≤ j ∧ j < 2 ^ 62 then .ok ⟨rngT 0 j, none⟩ S else .bad
  | _ => .bad
def itR2 (a : AA) : AI := fun st S => (a st S).bind fun x S => match x with
  | [.int i, .int j] => if -(2 ^ 62) ≤ i ∧ i < 2 ^ 62 ∧ -(2 ^ 62) ≤ j ∧ j < 2 ^ 62 then .ok ⟨rngT i j, none⟩ S else .bad
  | _ => .bad
theorem wlk_rng {i j : Int} {g0 : G} : Wlk K (Itr i (j - i).toNat) g0 ⟨rngT i j, none⟩ := by
  refine ⟨fun k S H g t w l _ e => ?_, fun k S H g w l _ h => ?_⟩
  · obtain ⟨h1, h2⟩ : k < (j - i).toNat ∧ t = T.int (i + k) := by
      unfold rngT at e
      rw [List.getElem?_map] at e
      obtain ⟨m, e1, e2⟩ := Option.map_eq_some_iff.mp e
      obtain ⟨h, e3⟩ := List.getElem?_eq_some_iff.mp e1
      rw [List.getElem_range] at e3
      subst e3
      exact ⟨by simpa using h, e2.symm⟩
    subst h2
    refine ⟨h1, fun v H' y => ?_⟩
    obtain ⟨rfl, rfl⟩ := y
    exact ⟨g, w, .refl _ _ _, .int _⟩
  · show (j - i).toNat ≤ k
    simpa [rngT] using h
theorem wlk_list {a : Addr} {vs : List V} {l : List T} {g0 : G} (h : g0.F a = some (.lst vs)) (r : Rps K g0 l vs) : Wlk K (Itl K a) g0 ⟨l, none⟩ := by
  have here : ∀ {S H g}, Wd K S H g → GLe g0 g → SqL K H a vs := fun w le => SqL.of (lst_wd w (le.F _ _ h))
  refine ⟨fun k S H g t w le _ e => ?_, fun k S H g w le _ hk => ?_⟩
  · obtain ⟨v, e1, r1⟩ := r.get e
    refine ⟨⟨vs, v, here w le, e1⟩, fun u H' y => ?_⟩
    obtain ⟨rfl, y⟩ := y
    have e2 := y vs (here w le)
    rw [e1] at e2
    cases e2
    exact ⟨g, w, .refl _ _ _, r1.mono le⟩
  · exact ⟨vs, here w le, by rw [← r.length]; exact hk⟩
theorem wlk_scr {a : Addr} {vs : List V} {l : List T} {g0 : G} (h : SqL K g0.F a vs) (r : Rps K g0 l vs) : Wlk K (Itl K a) g0 ⟨l, none⟩ := by
  have here : ∀ {S H g}, Wd K S H g → GLe g0 g → SqL K H a vs := fun w le => SqL.wd w (SqL.sub h le.F)
  refine ⟨fun k S H g t w le _ e => ?_, fun k S H g w le _ hk => ?_⟩
  · obtain ⟨v, e1, r1⟩ := r.get e
    refine ⟨⟨vs, v, here w le, e1⟩, fun u H' y => ?_⟩
    obtain ⟨rfl, y⟩ := y
    have e2 := y vs (here w le)
    rw [e1] at e2
    cases e2
    exact ⟨g, w, .refl _ _ _, r1.mono le⟩
  · exact ⟨vs, here w le, by rw [← r.length]; exact hk⟩
theorem wlk_tup {a : Addr} {vs : List V} {l : List T} {g0 : G} (h : SqT K g0.F a vs) (r : Rps K g0 l vs) : Wlk K (Itt K a) g0 ⟨l, none⟩ := by
  have here : ∀ {S H g}, Wd K S H g → GLe g0 g → SqT K H a vs := fun w le => SqT.wd w (SqT.sub h le.F)
  refine ⟨fun k S H g t w le _ e => ?_, fun k S H g w le _ hk => ?_⟩
  · obtain ⟨v, e1, r1⟩ := r.get e
    refine ⟨⟨vs, v, here w le, e1⟩, fun u H' y => ?_⟩
    obtain ⟨rfl, y⟩ := y
    have e2 := y vs (here w le)
    rw [e1] at e2
    cases e2
    exact ⟨g, w, .refl _ _ _, r1.mono le⟩
  · exact ⟨vs, here w le, by rw [← r.length]; exact hk⟩
theorem wlk_ref {n : Nat} {a : Addr} {l : List T} {g0 : G} (h : g0.mu[n]? = some a) : Wlk K (Itl K a) g0 ⟨l, some (n, l)⟩ := by
  have here : ∀ {S H g}, Wd K S H g → GLe g0 g → okC (some (n, l)) S → ∃ vs, H a = some (.lst vs) ∧ Rps K g l vs := fun w le c => w.cell n _ a c (fun z => nomatch z) (le.mu _ _ h)
  refine ⟨fun k S H g t w le c e => ?_, fun k S H g w le c hk => ?_⟩
  · obtain ⟨vs, h1, r⟩ := here w le c
    obtain ⟨v, e1, r1⟩ := r.get e
    refine ⟨⟨vs, v, SqL.of h1, e1⟩, fun u H' y => ?_⟩
    obtain ⟨rfl, y⟩ := y
    have e2 := y vs (SqL.of h1)
    rw [e1] at e2
    cases e2
    exact ⟨g, w, .refl _ _ _, r1⟩
  · obtain ⟨vs, h1, r⟩ := here w le c
    exact ⟨vs, SqL.of h1, by rw [← r.length]; exact hk⟩
theorem PI.weak {t t' : TI} (h : PI X tg iter t) (k : ∀ σ H R, t' σ H R → t σ H R) : PI X tg iter t' := ⟨fun pins s σ H R I q => h.run pins s σ H R I (k σ H R q)⟩
theorem LI.run {ea : AE} {f : T → Sto → R Itm} {σ : TSt} {H : Hp} {st : Slots} {S : Sto} {g : G} {RJ : It → Hp → Prop} {Q : VK} (w : Wd K S H g) (sl : Sl K g st σ) (p : (match (ea st S).bind f with
  | .ok x S' => ∀ H' g' J, Wd K S' H' g' → Ext S H g S' H' g' → Wlk K J g' x → RJ J H'
  | .exc c S' => ∀ H' g', Wd K S' H' g' → Ext S H g S' H' g' → E σ (cR K c) none H'
  | .bad => False)) (k : ∀ t S1 v H1 g1, Wd K S1 H1 g1 → Sl K g1 st σ → Ext S H g S1 H1 g1 → Rp K g1 t v → (match f t S1 with
  | .ok x S' => ∀ H' g' J, Wd K S' H' g' → Ext S1 H1 g1 S' H' g' → Wlk K J g' x → RJ J H'
  | .exc c S' => ∀ H' g', Wd K S' H' g' → Ext S1 H1 g1 S' H' g' → E σ (cR K c) none H'
  | .bad => False) → Q v H1) : LE K E ea σ H Q := by
  refine ⟨st, S, g, w, sl, ?_⟩
  cases z : ea st S with
  | ok t S' =>
    rw [z] at p
    intro v H' g' w' x' r'
    refine k t S' v H' g' w' (sl.mono x'.le) x' r' ?_
    simp only [R.bind] at p
    cases y : f t S' with
    | ok x S2 => rw [y] at p; exact fun H2 g2 J w2 x2 wk => p H2 g2 J w2 (x'.trans x2) wk
    | exc c S2 => rw [y] at p; exact fun H2 g2 w2 x2 => p H2 g2 w2 (x'.trans x2)
    | bad => rw [y] at p; exact p
  | exc c S' => rw [z] at p; exact p
  | bad => rw [z] at p; exact p
theorem aItL {ea : AE} (h : PE X iter (LE K E ea)) (hK : X.K = K := by rfl) : PI X tg iter (LI K E (itL ea)) := by
  subst hK
  refine PI.weak (pi_list h) fun σ H R ⟨st, S, g, w, sl, p⟩ => LI.run (f := fun x S => match x with
  | .lst l => .ok ⟨l, none⟩ S
  | .scr l => .ok ⟨l, none⟩ S
  | .ref n => match S[n]? with
    | some (.lst l) => .ok ⟨l, some (n, l)⟩ S
    | _ => .bad
  | _ => .bad) w sl p fun t S1 v H1 g1 w1 sl1 x1 r1 p1 => ?_
  cases r1 with
  | lst h1 r2 => exact ⟨_, rfl, ⟨_, SqL.of (lst_wd w1 h1)⟩, p1 H1 g1 _ w1 (.refl _ _ _) (wlk_list h1 r2)⟩
  | scr h1 r2 => exact ⟨_, rfl, ⟨_, SqL.wd w1 h1⟩, p1 H1 g1 _ w1 (.refl _ _ _) (wlk_scr h1 r2)⟩
  | ref h1 =>
    rename_i n a
    simp only at p1
    cases z : S1[n]? with
    | none => rw [z] at p1; exact p1.elim
    | some o =>
      rw [z] at p1
      cases o with
      | lst l =>
        obtain ⟨vs, h2, _⟩ := w1.cell n _ a z (fun z => nomatch z) h1
        exact ⟨_, rfl, ⟨_, SqL.of h2⟩, p1 H1 g1 _ w1 (.refl _ _ _) (wlk_ref h1)⟩
      | _ => exact p1.elim
  | _ => exact p1.elim
theorem aItT {ea : AE} (h : PE X iter (LE K E ea)) (hK : X.K = K := by rfl) : PI X tg iter (LI K E (itT ea)) := by
  subst hK
  refine PI.weak (pi_tup h) fun σ H R ⟨st, S, g, w, sl, p⟩ => LI.run (f := fun x S => match x with
  | .tup l => .ok ⟨l, none⟩ S
  | .tupk l => .ok ⟨l, none⟩ S
  | _ => .bad) w sl p fun t S1 v H1 g1 w1 sl1 x1 r1 p1 => ?_
  cases r1 with
  | tup h1 k r2 => exact ⟨_, rfl, ⟨_, SqT.wd w1 h1⟩, p1 H1 g1 _ w1 (.refl _ _ _) (wlk_tup h1 r2)⟩
  | tupk h1 r2 => exact ⟨_, rfl, ⟨_, SqT.wd w1 h1⟩, p1 H1 g1 _ w1 (.refl _ _ _) (wlk_tup h1 r2)⟩
  | _ => exact p1.elim
theorem LI.runA {ra : AA} {f : List T → Sto → R Itm} {σ : TSt} {H : Hp} {st : Slots} {S : Sto} {g : G} {RJ : It → Hp → Prop} {Q : List V → Hp → Prop} (w : Wd K S H g) (sl : Sl K g st σ) (p : (match (ra st S).bind f with
  | .ok x S' => ∀ H' g' J, Wd K S' H' g' → Ext S H g S' H' g' → Wlk K J g' x → RJ J H'
  | .exc c S' => ∀ H' g', Wd K S' H' g' → Ext S H g S' H' g' → E σ (cR K c) none H'
  | .bad => False)) (k : ∀ t S1 v H1 g1, Wd K S1 H1 g1 → Sl K g1 st σ → Ext S H g S1 H1 g1 → Rps K g1 t v → (match f t S1 with
  | .ok x S' => ∀ H' g' J, Wd K S' H' g' → Ext S1 H1 g1 S' H' g' → Wlk K J g' x → RJ J H'
  | .exc c S' => ∀ H' g', Wd K S' H' g' → Ext S1 H1 g1 S' H' g' → E σ (cR K c) none H'
  | .bad => False) → Q v H1) : LA K E ra σ H Q := by
  refine ⟨st, S, g, w, sl, ?_⟩
  cases z : ra st S with
  | ok t S' =>
    rw [z] at p
    intro v H' g' w' x' r'
    refine k t S' v H' g' w' (sl.mono x'.le) x' r' ?_
    simp only [R.bind] at p
    cases y : f t S' with
    | ok x S2 => rw [y] at p; exact fun H2 g2 J w2 x2 wk => p H2 g2 J w2 (x'.trans x2) wk
    | exc c S2 => rw [y] at p; exact fun H2 g2 w2 x2 => p H2 g2 w2 (x'.trans x2)
    | bad => rw [y] at p; exact p
  | exc c S' => rw [z] at p; exact p
  | bad => rw [z] at p; exact p
variable {a a2 : Expr} {ra : AA} {p : Pos}
theorem aItR1 (hm : X.mg "range" = none) (h : PA X [a] (LA K E ra)) (hg : Gl X "range" := by rfl) (hs : starEach [a] X.env = [(false, eval a X.env)] := by rfl) : PI X tg (.Call (.Name "range" p) [a] [] pos) (LI K E (itR1 ra)) := by
  refine PI.weak (pi_range1 hg hm h hs) fun σ H R ⟨st, S, g, w, sl, p⟩ => LI.runA (f := fun x S => match x with
  | [.int j] => if -(2 ^ 62) ≤ j ∧ j < 2 ^ 62 then .ok ⟨rngT 0 j, none⟩ S else .bad
  | _ => .bad) w sl p fun t S1 v H1 g1 w1 sl1 x1 r1 p1 => ?_
  split at p1
  · rename_i x S' e
    split at e
    · split at e
      · rename_i c
        cases e
        obtain ⟨v, rfl, r2⟩ := r1.one
        cases r2
        refine ⟨_, rfl, c.1, c.2, p1 H1 g1 _ w1 (.refl _ _ _) ?_⟩
        have h0 := fun j => wlk_rng (K := K) (i := 0) (j := j) (g0 := g1)
        simp only [Int.sub_zero] at h0
        exact h0 _
      · cases e
    · cases e
  · rename_i e
    split at e
    · split at e <;> cases e
    · cases e
  · exact p1.elim
theorem aItR2 (hm : X.mg "range" = none) (h : PA X [a, a2] (LA K E ra)) (hg : Gl X "range" := by rfl) (hs : starEach [a, a2] X.env = [(false, eval a X.env), (false, eval a2 X.env)] := by rfl) (hs2 : starEach [a2] X.env = [(false, eval a2 X.env)] := by rfl) : PI X tg (.Call (.Name "range" p) [a, a2] [] pos) (LI K E (itR2 ra)) := by
  refine PI.weak (pi_range2 hg hm h hs hs2) fun σ H R ⟨st, S, g, w, sl, p⟩ => LI.runA (f := fun x S => match x with
  | [.int i, .int j] => if -(2 ^ 62) ≤ i ∧ i < 2 ^ 62 ∧ -(2 ^ 62) ≤ j ∧ j < 2 ^ 62 then .ok ⟨rngT i j, none⟩ S else .bad
  | _ => .bad) w sl p fun t S1 v H1 g1 w1 sl1 x1 r1 p1 => ?_
  split at p1
  · rename_i x S' e
    split at e
    · split at e
      · rename_i c
        cases e
        obtain ⟨v, v2, rfl, r2, r3⟩ := r1.two
        cases r2
        cases r3
        exact ⟨_, _, rfl, c, p1 H1 g1 _ w1 (.refl _ _ _) wlk_rng⟩
      · cases e
    · cases e
  · rename_i e
    split at e
    · split at e <;> cases e
    · cases e
  · exact p1.elim
end
end Ab

namespace Ab
open PySem PySem.Spec PyProof.Rows L2 Sp
/-! ## lists that change, fields stored -/
def opSetL (x y v : T) (S : Sto) : Option Sto := match x, y with
  | .ref n, .int i => match S[n]? with
    | some (.lst l) => (ixN l.length i).map fun j => S.set n (.lst (l.set j v))
    | _ => none
  | _, _ => none
def gIx (o i : AE) : MG := fun v st S => (o st S).stm st fun x S => (i st S).stm st fun y S => match opSetL x y v S with
  | some S' => .nx st S'
  | none => .bad
def opAddI : T → T → Sto → R T
  | .int i, .int j, S => .ok (.int (i + j)) S
  | _, _, _ => .bad
def opIxL : T → T → Sto → R T
  | x, .int i, S => match (lkL S x).bind fun l => atI l i with
    | some t => .ok t S
    | none => .bad
  | _, _, _ => .bad
/-- o[i] op= e -/
def mAugIx (f : T → T → Sto → R T) (o i e : AE) : AS := fun st S => (o st S).stm st fun x S => (i st S).stm st fun y S => (opIxL x y S).stm st fun u S => (e st S).stm st fun v S => (f u v S).stm st fun z S => match opSetL x y z S with
  | some S' => .nx st S'
  | none => .bad
def opSetF (c f : String) (x v : T) (S : Sto) : Option Sto := match x with
  | .ref n => match S[n]? with
    | some (.obj d fs) => if d = c ∧ fs.length < 1000 then some (S.set n (.obj d (putT f v fs))) else none
    | _ => none
  | _ => none
def mSetF (c f : String) (o e : AE) : AS := fun st S => (e st S).stm st fun v S => (o st S).stm st fun x S => match opSetF c f x v S with
  | some S' => .nx st S'
  | none => .bad
/-- o.f op= e -/
def mAugF (c f : String) (h : T → T → Sto → R T) (o e : AE) : AS := fun st S => (o st S).stm st fun x S => match (objOf c S x).bind fun fs => fs.lookup f with
  | some u => (e st S).stm st fun v S => (h u v S).stm st fun z S => match opSetF c f x z S with
    | some S' => .nx st S'
    | none => .bad
  | none => .bad
def isL (S : Sto) : T → Bool
  | .ref n => match S[n]? with
    | some (.lst _) => true
    | _ => false
  | _ => false
def mML (f : T → List T → Sto → R T) (o : AE) (a : AA) : AE := fun st S => (o st S).bind fun x S => if isL S x = true then (a st S).bind fun xs S => f x xs S else .bad
def opApp : T → List T → Sto → R T
  | .ref n, [v], S => match S[n]? with
    | some (.lst l) => if l.length < sizeLine then .ok .non (S.set n (.lst (l ++ [v]))) else .bad
    | _ => .bad
  | _, _, _ => .bad
def opExt : T → List T → Sto → R T
  | .ref n, [.lst b], S => match S[n]? with
    | some (.lst l) => if l.length + b.length ≤ sizeLine then .ok .non (S.set n (.lst (l ++ b))) else .bad
    | _ => .bad
  | _, _, _ => .bad
def opPopAt : T → List T → Sto → R T
  | .ref n, [.int i], S => match S[n]? with
    | some (.lst l) => if -(2 ^ 63) ≤ i ∧ i < 2 ^ 63 then (match seqIndex? i l.length with
      | some k => (match l[k]? with
        | some t => .ok t (S.set n (.lst (l.eraseIdx k)))
        | none => .bad)
      | none => .bad) else .bad
    | _ => .bad
  | _, _, _ => .bad
section
variable {X : Cx} {K : PySem.W.Frag} {E : XS} {e o i value : Expr} {es : List Expr} {pos pos' tpos apos cpos : Pos} {ea eo ei : AE} {ra : AA}
theorem setL_rp {S S' : Sto} {H : Hp} {g : G} {x y t : T} {xv yv v : V} (W : Wd K S H g) (e : opSetL x y t S = some S') (rx : Rp K g x xv) (ry : Rp K g y yv) (r : Rp K g t v) :
    ∃ p xs k j, xv = .ref p ∧ yv = .int k ∧ H p = some (.lst xs) ∧ ixN xs.length k = some j ∧ Wd K S' (upd H p (.lst (xs.set j v))) g ∧ Ext S H g S' (upd H p (.lst (xs.set j v))) g := by
  unfold opSetL at e
  split at e
  · split at e
    · rename_i q
      obtain ⟨a, rfl, m, vs, h1, r1⟩ := rx.refH W q (fun z => nomatch z)
      cases ry
      obtain ⟨j, e1, rfl⟩ := Option.map_eq_some_iff.mp e
      obtain ⟨w', x'⟩ := W.write (ho := .lst (vs.set j v)) (o' := .lst (List.set _ j t)) q (fun z => nomatch z) m (fun z => nomatch z) ⟨_, upd_same, r1.set j r⟩
      exact ⟨a, vs, _, j, rfl, rfl, h1, by rw [← r1.length]; exact e1, w', x'⟩
    · cases e
  · cases e
theorem setF_rp {S S' : Sto} {H : Hp} {g : G} {c f : String} {x t : T} {xv v : V} (W : Wd K S H g) (e : opSetF c f x t S = some S') (rx : Rp K g x xv) (r : Rp K g t v) :
    ∃ a dx fs, xv = .ref a ∧ H a = some (.ins (He.ga K (.ofString c)) dx fs) ∧ fs.length < 1000 ∧ Wd K S' (upd H a (.ins (He.ga K (.ofString c)) dx (putF (.ofString f) v fs))) g ∧ Ext S H g S' (upd H a (.ins (He.ga K (.ofString c)) dx (putF (.ofString f) v fs))) g := by
  unfold opSetF at e
  split at e
  · split at e
    · rename_i q
      split at e
      · rename_i c0
        obtain ⟨rfl, c1⟩ := c0
        cases e
        obtain ⟨a, rfl, m, dx, vs, h1, r1⟩ := rx.refH W q (fun z => nomatch z)
        obtain ⟨w', x'⟩ := W.write (ho := .ins (He.ga K (.ofString _)) dx (putF (.ofString f) v vs)) (o' := .obj _ (putT f t _)) q (fun z => nomatch z) m (fun z => nomatch z) ⟨_, _, upd_same, r1.put r⟩
        exact ⟨a, dx, vs, rfl, h1, by rw [← r1.length]; exact c1, w', x'⟩
      · cases e
    · cases e
  · cases e
theorem aGIx (ho : PE X o (LE K E eo)) (hi : PE X i (LE K E ei))
    (ha : ∀ v, assign (.Subscript o i pos) X.env v = (do
      let ov ← holding [v] (eval o X.env)
      let iv ← holding [v, ov] (eval i X.env)
      standAt pos
      holding [v, ov, iv] (setItem ov iv v)
      release [v, ov, iv] []) := by intro _; rfl) : PG X (.Subscript o i pos) (LG K E (gIx eo ei)) :=
  PG.weak (pg_sub ho hi set_list ha) fun v σ H Q ⟨t, st, S, g, w, sl, r, p⟩ => LE.run (f := fun x S => (ei st S).stm st fun y S => match opSetL x y t S with
  | some S' => .nx st S'
  | none => .bad) w sl p fun x S1 v1 H1 g1 w1 sl1 x1 r1 p1 => LE.run (f := fun y S => match opSetL x y t S with
  | some S' => .nx st S'
  | none => .bad) w1 sl1 p1 fun y S2 v2 H2 g2 w2 sl2 x2 r2 p2 => by
    split at p2
    · rename_i S3 e
      obtain ⟨a, xs, k, j, rfl, rfl, h1, h2, w', x'⟩ := setL_rp w2 e (r1.mono x2.le) r2 ((r.mono x1.le).mono x2.le)
      exact ⟨a, xs, k, j, rfl, rfl, h1, h2, p2 σ _ _ w' x' (sl2.mono x'.le)⟩
    · exact p2.elim
theorem up_addI : Up2 K opAddI rIpAdd := by
  intro E S H g x y v w Q W rx ry p
  unfold opAddI at p
  split at p
  · cases rx; cases ry; exact ⟨_, _, rfl, rfl, p.val W (.int _)⟩
  · exact p.elim
theorem up_subI : Up2 K opSub rIpSub := by
  intro E S H g x y v w Q W rx ry p
  unfold opSub at p
  split at p
  · cases rx; cases ry; exact ⟨_, _, rfl, rfl, p.val W (.int _)⟩
  · exact p.elim
theorem PostS.op2 {f : T → T → Sto → R T} {r : V → V → Hp → VK → Prop} (u : Up2 K f r) {S : Sto} {H : Hp} {g : G} {x y : T} {v w : V} {st : Slots} {σ : TSt} {k : T → Sto → RS} {D : Ends} {Q : VK} (W : Wd K S H g) (sl : Sl K g st σ) (rx : Rp K g x v) (ry : Rp K g y w)
    (h : PostS K E S H g ((f x y S).stm st k) D) (hq : ∀ t S1 v H1 g1, Wd K S1 H1 g1 → Sl K g1 st σ → Ext S H g S1 H1 g1 → Rp K g1 t v → PostS K E S1 H1 g1 (k t S1) D → Q v H1) : r v w H Q := u (E := E σ) W rx ry (h.run sl hq)
theorem aAug {j : Nat} {x : Str} {op : Operator} {f : T → T → Sto → R T} {r : TIp} (u : Up2 K f r) (hN : X.N.Nodup) (ho : PIp X op r) (he : PE X e (LE K E ea)) (hi : X.N[j]? = some x := by rfl) (hx : Loc X.env.scope x := by first | exact .inl rfl | exact .inr rfl) (hf : X.fn x = true ∨ X.env.scope.names.lookup x = some .local := by first | exact .inl rfl | exact .inr rfl | assumption) :
    PS X (.AugAssign (.Name x pos') op e pos) (LS K E (mAug j f ea)) := by
  refine PS.weak (ps_aug hN hi hx he ho hf) fun D σ H ⟨st, S, g, w, sl, p⟩ => ?_
  unfold mAug at p
  split at p
  · rename_i t q
    obtain ⟨v, e1, r1⟩ := sl.2 j t q
    exact ⟨v, e1, LE.run (f := fun y S => (f t y S).stm st fun z S => .nx (st.set j (some z)) S) w sl p fun y S1 v1 H1 g1 w1 sl1 x1 r2 p1 =>
      PostS.op2 u (k := fun z S => .nx (st.set j (some z)) S) w1 sl1 (r1.mono x1.le) r2 p1 fun z S2 v2 H2 g2 w2 sl2 x2 r3 p2 => p2 _ _ _ w2 (.refl _ _ _) (sl2.set j r3)⟩
  · exact p.elim
theorem aAugIx {op : Operator} {f : T → T → Sto → R T} {r : TIp} (u : Up2 K f r) (hp : PIp X op r) (ho : PE X o (LE K E eo)) (hi : PE X i (LE K E ei)) (he : PE X e (LE K E ea)) (ha : ∀ ov iv new, augStore i ov iv new = (do holding [new, ov, iv] (setItem ov iv new); release [new, ov, iv] []; pure .next) := by intros; rfl) (hK : X.K = K := by rfl) :
    PS X (.AugAssign (.Subscript o i tpos) op e pos) (LS K E (mAugIx f eo ei ea)) := by
  subst hK
  refine PS.weak (ps_augS ho hi get_list he hp set_list ha) fun D σ H ⟨st, S, g, w, sl, p⟩ => LE.run (f := fun x S => (ei st S).stm st fun y S => (opIxL x y S).stm st fun u S => (ea st S).stm st fun v S => (f u v S).stm st fun z S => match opSetL x y z S with
  | some S' => .nx st S'
  | none => .bad) w sl p fun x S1 v1 H1 g1 w1 sl1 x1 r1 p1 => LE.run (f := fun y S => (opIxL x y S).stm st fun u S => (ea st S).stm st fun v S => (f u v S).stm st fun z S => match opSetL x y z S with
  | some S' => .nx st S'
  | none => .bad) w1 sl1 p1 fun y S2 v2 H2 g2 w2 sl2 x2 r2 p2 => ?_
  unfold opIxL at p2
  split at p2
  · cases r2
    rename_i k
    split at p2
    · rename_i t e0
      obtain ⟨l, e1, e2⟩ := Option.bind_eq_some_iff.mp e0
      obtain ⟨a, vs, rfl, h1, rr⟩ := lkL_rp w2 e1 (r1.mono x2.le)
      obtain ⟨v3, e3, r3⟩ := atI_rp rr e2
      refine ⟨a, vs, k, v3, rfl, rfl, h1, e3, LE.run (f := fun v S => (f t v S).stm st fun z S => match opSetL x (.int k) z S with
        | some S' => .nx st S'
        | none => .bad) w2 sl2 p2 fun y3 S3 v4 H3 g3 w3 sl3 x3 r4 p3 => PostS.op2 u (k := fun z S => match opSetL x (.int k) z S with
        | some S' => .nx st S'
        | none => .bad) w3 sl3 (r3.mono x3.le) r4 p3 fun z S4 v5 H4 g4 w4 sl4 x4 r5 p4 => ?_⟩
      split at p4
      · rename_i S5 e5
        obtain ⟨b, xs, k', j, eb, ek, h6, h7, w', x'⟩ := setL_rp w4 e5 (((r1.mono x2.le).mono x3.le).mono x4.le) (.int k) r5
        exact ⟨b, xs, k', j, eb, ek, h6, h7, p4 σ _ _ w' x' (sl4.mono x'.le)⟩
      · exact p4.elim
    · exact p2.elim
  · exact p2.elim
theorem aSetF {c f : String} {fS : Str} (hf : fS = Str.ofString f) (hc : Cls K (He.ga K (.ofString c))) (hn : NoAttr K (He.ga K (.ofString c)) (.ofString f)) (ho : PE X o (LE K E eo)) (he : PE X value (LE K E ea)) (hs : swapsWith value (some (.Attribute o fS pos')) pos.line X.env = pure false := by rfl) (hK : X.K = K := by rfl) :
    PS X (.Assign [.Attribute o fS pos'] value pos) (LS K E (mSetF c f eo ea)) := by
  subst hf hK
  refine PS.weak (ps_fld ho he hs) fun D σ H ⟨st, S, g, w, sl, p⟩ => LE.run (f := fun v S => (eo st S).stm st fun x S => match opSetF c f x v S with
  | some S' => .nx st S'
  | none => .bad) w sl p fun t S1 v H1 g1 w1 sl1 x1 r1 p1 => LE.run (f := fun x S => match opSetF c f x t S with
  | some S' => .nx st S'
  | none => .bad) w1 sl1 p1 fun x S2 u H2 g2 w2 sl2 x2 r2 p2 => ?_
  split at p2
  · rename_i S3 e
    obtain ⟨a, dx, fs, rfl, h1, h2, w', x'⟩ := setF_rp w2 e r2 (r1.mono x2.le)
    exact ⟨a, _, dx, fs, rfl, h1, hc, hn, h2, p2 σ _ _ w' x' (sl2.mono x'.le)⟩
  · exact p2.elim
theorem aAugF {c f : String} {fS : Str} {op : Operator} {h : T → T → Sto → R T} {r : V → V → Hp → VK → Prop} (u : Up2 K h r) (hop : InOp X op r) (hf : fS = Str.ofString f) (hc : Cls K (He.ga K (.ofString c))) (hn : NoAttr K (He.ga K (.ofString c)) (.ofString f)) (ho : PE X o (LE K E eo)) (he : PE X value (LE K E ea)) (hK : X.K = K := by rfl) :
    PS X (.AugAssign (.Attribute o fS tpos) op value pos) (LS K E (mAugF c f h eo ea)) := by
  subst hf hK
  refine PS.weak (ps_fldaug ho he hop) fun D σ H ⟨st, S, g, w, sl, p⟩ => LE.run (f := fun x S => match (objOf c S x).bind fun fs => fs.lookup f with
  | some u => (ea st S).stm st fun v S => (h u v S).stm st fun z S => match opSetF c f x z S with
    | some S' => .nx st S'
    | none => .bad
  | none => .bad) w sl p fun x S1 v H1 g1 w1 sl1 x1 r1 p1 => ?_
  split at p1
  · rename_i t e
    obtain ⟨fs, e1, e2⟩ := Option.bind_eq_some_iff.mp e
    obtain ⟨m, a, dx, vs, _, _, _, rfl, h1, rf⟩ := objOf_rp w1 e1 r1
    obtain ⟨v, e3, r3⟩ := rf.look.1 t e2
    refine ⟨a, _, dx, vs, v, rfl, h1, hc, hn, e3, LE.run (f := fun v S => (h t v S).stm st fun z S => match opSetF c f x z S with
      | some S' => .nx st S'
      | none => .bad) w1 sl1 p1 fun y S2 v2 H2 g2 w2 sl2 x2 r2 p2 => PostS.op2 u (k := fun z S => match opSetF c f x z S with
      | some S' => .nx st S'
      | none => .bad) w2 sl2 (r3.mono x2.le) r2 p2 fun z S3 v3 H3 g3 w3 sl3 x3 r4 p3 => ?_⟩
    split at p3
    · rename_i S4 e4
      obtain ⟨b, dx', fs', eb, h5, h6, w', x'⟩ := setF_rp w3 e4 ((r1.mono x2.le).mono x3.le) r4
      cases eb
      exact ⟨dx', fs', h5, h6, p3 σ _ _ w' x' (sl3.mono x'.le)⟩
    · exact p3.elim
  · exact p1.elim
/-! methods of lists -/
def UpM (K : PySem.W.Frag) (f : T → List T → Sto → R T) (r : V → List V → Hp → VK → Prop) : Prop := ∀ {E S H g x xs v vs Q}, Wd K S H g → Rp K g x v → Rps K g xs vs → Post K E S H g (Rp K) (f x xs S) Q → r v vs H Q
theorem isL_ty {S : Sto} {H : Hp} {g : G} {x : T} {v : V} (W : Wd K S H g) (r : Rp K g x v) (h : isL S x = true) : tyV K "list" v H := by
  unfold isL at h
  split at h
  · split at h
    · rename_i q
      obtain ⟨a, rfl, m, vs, h1, _⟩ := r.refH W q (fun z => nomatch z)
      exact .inl ⟨rfl, vs, SqL.of h1⟩
    · cases h
  · cases h
variable {name : Str} {id : String} {f : T → List T → Sto → R T} {r : V → List V → Hp → VK → Prop}
theorem aML (u : UpM K f r) (slot : Slot "list" name id) (hty : typeOf (.builtin id) = pure (.type "method_descriptor")) (hm : MtR X id r) (ho : PE X o (LE K E eo)) (ha : PA X (e :: es) (LA K E ra)) (hK : X.K = K := by rfl)
    (hbase : attributeBase o name X.env (eval o X.env) = eval o X.env := by rfl)
    (hfew : ((backTo cpos (starEach (e :: es) X.env)).all (fun x => !x.1) && (backToKw cpos (keywordEach [] X.env)).all (fun x => x.1.isSome)
      && decide ((e :: es).length + ([] : List Keyword).length + (if ([] : List Keyword).isEmpty then 0 else 1) < 30)) = true := by rfl)
    (hline : (apos.endLine == cpos.line) = true := by rfl) (hs : starEach (e :: es) X.env = (false, eval e X.env) :: starEach es X.env := by rfl) (hplain : (backTo cpos (starEach es X.env)).any (·.1) = false := by rfl) :
    PE X (.Call (.Attribute o name apos) (e :: es) [] cpos) (LE K E (mML f eo ra)) := by
  subst hK
  refine PE.weak (pe_bm PySem.F.plainAttrs_list slot hty hm ho ha hbase hfew hline hs hplain) fun σ H Q ⟨st, S, g, w, sl, p⟩ => LE.bind (f := fun x st S => if isL S x = true then (ra st S).bind fun xs S => f x xs S else .bad) w sl p fun x S1 v H1 g1 w1 sl1 x1 r1 p1 => ?_
  split at p1
  · rename_i c
    exact ⟨isL_ty w1 r1 c, LA.bind (f := fun xs _ S => f x xs S) w1 sl1 p1 fun xs S2 vs H2 g2 w2 sl2 x2 r2 p2 => u w2 (r1.mono x2.le) r2 p2⟩
  · exact p1.elim
theorem up_app : UpM K opApp rAppend := by
  intro E S H g x xs v vs Q W rx rs p
  unfold opApp at p
  split at p
  · split at p
    · rename_i q
      split at p
      · rename_i c
        obtain ⟨a, rfl, m, ws, h1, r1⟩ := rx.refH W q (fun z => nomatch z)
        obtain ⟨y, rfl, ry⟩ := rs.one
        obtain ⟨w', x'⟩ := W.write (ho := .lst (ws ++ [y])) (o' := .lst (_ ++ [_])) q (fun z => nomatch z) m (fun z => nomatch z) ⟨_, upd_same, r1.append (.cons ry .nil)⟩
        exact ⟨a, ws, y, rfl, rfl, h1, by rw [← r1.length]; exact c, p _ _ _ w' x' .non⟩
      · exact p.elim
    · exact p.elim
  · exact p.elim
theorem up_popAt : UpM K opPopAt rPopAt := by
  intro E S H g x xs v vs Q W rx rs p
  unfold opPopAt at p
  split at p
  · split at p
    · rename_i q
      split at p
      · rename_i c
        split at p
        · rename_i k ek
          split at p
          · rename_i t et
            obtain ⟨a, rfl, m, ws, h1, r1⟩ := rx.refH W q (fun z => nomatch z)
            obtain ⟨y, rfl, ry⟩ := rs.one
            cases ry
            obtain ⟨v, e1, r2⟩ := r1.get et
            obtain ⟨w', x'⟩ := W.write (ho := .lst (ws.eraseIdx k)) (o' := .lst (List.eraseIdx _ k)) q (fun z => nomatch z) m (fun z => nomatch z) ⟨_, upd_same, r1.erase k⟩
            exact ⟨a, ws, _, k, v, rfl, rfl, h1, c.1, c.2, by rw [← r1.length]; exact ek, e1, p _ _ _ w' x' (r2.mono x'.le)⟩
          · exact p.elim
        · exact p.elim
      · exact p.elim
    · exact p.elim
  · exact p.elim
theorem up_ext : UpM K opExt rExtend := by
  intro E S H g x xs v vs Q W rx rs p
  unfold opExt at p
  split at p
  · split at p
    · rename_i q
      split at p
      · rename_i c
        obtain ⟨a, rfl, m, ws, h1, r1⟩ := rx.refH W q (fun z => nomatch z)
        obtain ⟨y, rfl, ry⟩ := rs.one
        obtain ⟨b, us, rfl, h2, r2⟩ := ry.lstH W
        obtain ⟨w', x'⟩ := W.write (ho := .lst (ws ++ us)) (o' := .lst (_ ++ _)) q (fun z => nomatch z) m (fun z => nomatch z) ⟨_, upd_same, r1.append r2⟩
        exact ⟨a, b, ws, us, rfl, rfl, h1, h2, by rw [← r1.length, ← r2.length]; exact c, p _ _ _ w' x' .non⟩
      · exact p.elim
    · exact p.elim
  · exact p.elim
end
end Ab

namespace Ab
open PySem PySem.Spec PyProof.Rows L2 Sp
/-! ## dicts -/
def kE1 : T → T → Bool
  | .int i, .int j => decide (i = j)
  | .str a, .str b => decide (a = b)
  | _, _ => false
def kEs : List T → List T → Bool
  | [], [] => true
  | x :: xs, y :: ys => kE1 x y && kEs xs ys
  | _, _ => false
def kEq : T → T → Bool
  | .int i, .int j => decide (i = j)
  | .str a, .str b => decide (a = b)
  | .tup a, .tup b => kEs a b
  | _, _ => false
def getT (k : T) : List (T × T) → Option T
  | [] => none
  | (a, v) :: r => if kEq a k = true then some v else getT k r
/-- the value at a key is changed, in its place -/
def repD (k v : T) : List (T × T) → List (T × T)
  | [] => []
  | (a, x) :: r => (if kEq a k = true then (a, v) else (a, x)) :: repD k v r
def putD (k v : T) (ps : List (T × T)) : List (T × T) := if (getT k ps).isSome = true then repD k v ps else ps ++ [(k, v)]
def dropD (k : T) (ps : List (T × T)) : List (T × T) := ps.filter fun p => !kEq p.1 k
def keyOk (b : Bool) (k : T) : Bool := match b with
  | false => isKey k
  | true => (match k with
    | .tup ts => keyb ts
    | _ => false)
/-- a dict's kind and pairs, read -/
def dOf (S : Sto) : T → Option (Bool × List (T × T))
  | .dct b l => some (b, l)
  | .ref n => match S[n]? with
    | some (.dct b l) => some (b, l)
    | some (.lck b l) => some (b, l)
    | _ => none
  | _ => none
def mkD (fz : Bool) (b : Bool) (ps : List (T × T)) (S : Sto) : R T := if fz = true then .ok (.dct b ps) S else .ok (.ref S.length) (S ++ [.dct b ps])
def opDGet (x k : T) (S : Sto) : R T := match dOf S x with
  | some (b, ps) => if keyOk b k = true then (match getT k ps with
    | some t => .ok t S
    | none => .bad) else .bad
  | none => .bad
def opDIn (k x : T) (S : Sto) : R T := match dOf S x with
  | some (b, ps) => if keyOk b k = true then .ok (.bl (getT k ps).isSome) S else .bad
  | none => .bad
def opDNin (k x : T) (S : Sto) : R T := match dOf S x with
  | some (b, ps) => if keyOk b k = true then .ok (.bl (!(getT k ps).isSome)) S else .bad
  | none => .bad
def mGet1 (d k : AE) : AE := fun st S => (d st S).bind fun x S => if (dOf S x).isSome = true then (k st S).bind fun y S => (match dOf S x with
  | some (b, ps) => if keyOk b y = true then .ok ((getT y ps).getD .non) S else .bad
  | none => .bad) else .bad
def mGet2 (d k z : AE) : AE := fun st S => (d st S).bind fun x S => if (dOf S x).isSome = true then (k st S).bind fun y S => (z st S).bind fun u S => (match dOf S x with
  | some (b, ps) => if keyOk b y = true then .ok ((getT y ps).getD u) S else .bad
  | none => .bad) else .bad
def opDPut (x k v : T) (S : Sto) : Option Sto := match x with
  | .ref n => match S[n]? with
    | some (.dct b ps) => if keyOk b k = true ∧ ps.length < sizeLine then some (S.set n (.dct b (putD k v ps))) else none
    | _ => none
  | _ => none
def mDPut (d k e : AE) : AS := fun st S => (e st S).stm st fun v S => (d st S).stm st fun x S => (k st S).stm st fun y S => match opDPut x y v S with
  | some S' => .nx st S'
  | none => .bad
/-- d[k] op= e -/
def mDAug (f : T → T → Sto → R T) (d k e : AE) : AS := fun st S => (d st S).stm st fun x S => (k st S).stm st fun y S => (opDGet x y S).stm st fun u S => (e st S).stm st fun v S => (f u v S).stm st fun z S => match opDPut x y z S with
  | some S' => .nx st S'
  | none => .bad
def mPop1 (d k : AE) : AE := fun st S => (d st S).bind fun x S => if (dOf S x).isSome = true then (k st S).bind fun y S => (match x with
  | .ref n => match S[n]? with
    | some (.dct false ps) => if isKey y = true then (match getT y ps with
      | some t => .ok t (S.set n (.dct false (dropD y ps)))
      | none => .bad) else .bad
    | _ => .bad
  | _ => .bad) else .bad
def mPop2 (d k z : AE) : AE := fun st S => (d st S).bind fun x S => if (dOf S x).isSome = true then (k st S).bind fun y S => (z st S).bind fun u S => (match x with
  | .ref n => match S[n]? with
    | some (.dct false ps) => if isKey y = true then (match getT y ps with
      | some t => .ok t (S.set n (.dct false (dropD y ps)))
      | none => .ok u S) else .bad
    | _ => .bad
  | _ => .bad) else .bad
def mSetd (d k z : AE) : AE := fun st S => (d st S).bind fun x S => if (dOf S x).isSome = true then (k st S).bind fun y S => (z st S).bind fun u S => (match x with
  | .ref n => match S[n]? with
    | some (.dct false ps) => if isKey y = true ∧ ps.length < sizeLine then (match getT y ps with
      | some t => .ok t S
      | none => .ok u (S.set n (.dct false (putD y u ps)))) else .bad
    | _ => .bad
  | _ => .bad) else .bad
def mNewD (fz b : Bool) : AE := fun _ S => mkD fz b [] S
def opDict (fz : Bool) : List T → Sto → R T
  | [x], S => match dOf S x with
    | some (false, ps) => mkD fz false ps S
    | _ => .bad
  | _, _ => .bad
/-- a handle becomes a value -/
def opFrz (x : T) (S : Sto) : R T := match x with
  | .ref n => match S[n]? with
    | some (.lst l) => .ok (.lst l) (S.set n .dead)
    | some (.dct b l) => .ok (.dct b l) (S.set n .dead)
    | _ => .ok x S
  | _ => .ok x S
def mFrz (a : AE) : AE := m1 opFrz a
/-- list(d), keys ints and texts -/
def opKeysL (fz : Bool) : List T → Sto → R T
  | [x], S => match dOf S x with
    | some (false, ps) => mkL fz (ps.map (·.1)) S
    | _ => .bad
  | _, _ => .bad
section
variable {K : PySem.W.Frag}
theorem KR.eq {a b : T} {k l : Key} (h : KR a k) (h' : KR b l) : kEq a b = decide (k = l) := by
  cases a <;> try exact h.elim
  · cases b <;> try exact h'.elim
    · cases h; cases h'; simp [kEq]
    · cases h; cases h'; simp [kEq]
  · cases b <;> try exact h'.elim
    · cases h; cases h'; simp [kEq]
    · cases h; cases h'; simp [kEq, ofString_iff]
theorem KR.e1 {a b : T} {k l : Key} (h : KR a k) (h' : KR b l) : kE1 a b = decide (k = l) := by
  have := KR.eq h h'
  cases a <;> try exact h.elim
  all_goals (cases b <;> try exact h'.elim)
  all_goals exact this
theorem KRs.eq : ∀ {a b : List T} {k l : List Key}, KRs a k → KRs b l → kEs a b = decide (k = l)
  | _, _, _, _, .nil, .nil => by simp [kEs]
  | _, _, _, _, .nil, .cons _ _ => by simp [kEs]
  | _, _, _, _, .cons _ _, .nil => by simp [kEs]
  | _, _, _, _, .cons h r, .cons h' r' => by
    rw [kEs, KR.e1 h h', KRs.eq r r']
    rw [← Bool.decide_and]
    exact decide_eq_decide.mpr (by simp)
theorem KR.rp {t : T} {k : Key} {g : G} (h : KR t k) : Rp K g t (kV k) := by
  cases t <;> try exact h.elim
  · cases h; exact .int _
  · cases h; exact .str _
theorem isKey_kr {t : T} {v : V} {g : G} (h : isKey t = true) (r : Rp K g t v) : ∃ k, KR t k ∧ v = kV k := by
  cases r <;> simp [isKey] at h
  · exact ⟨_, rfl, rfl⟩
  · exact ⟨_, rfl, rfl⟩
theorem keys_kr {g : G} : ∀ {ts : List T} {vs : List V}, ts.all isKey = true → Rps K g ts vs → ∃ ks, KRs ts ks ∧ vs = ks.map kV
  | _, _, _, .nil => ⟨[], .nil, rfl⟩
  | _, _, h, .cons r rr => by
    rw [List.all_cons, Bool.and_eq_true] at h
    obtain ⟨k, h1, rfl⟩ := isKey_kr h.1 r
    obtain ⟨ks, h2, rfl⟩ := keys_kr h.2 rr
    exact ⟨k :: ks, .cons h1 h2, rfl⟩
section
variable {g : G}
theorem Rpk.get {k : T} {kk : Key} (hk : KR k kk) : ∀ {ps : List (T × T)} {kvs : List (Key × V)}, Rpk K g ps kvs → (∀ t, getT k ps = some t → ∃ v, valV kvs kk = some v ∧ Rp K g t v) ∧ (getT k ps = none → valV kvs kk = none)
  | _, _, .nil => ⟨(fun _ e => nomatch e), fun _ => rfl⟩
  | _, _, .cons (k := a) (x := x) (kk := ka) (v := v) (ps := ps) (kvs := kvs) h r rr => by
    obtain ⟨i1, i2⟩ := Rpk.get hk rr
    have e0 := KR.eq h hk
    unfold getT
    by_cases c : ka = kk
    · rw [e0, decide_eq_true c, if_pos rfl, valV_pos c]
      exact ⟨fun t e => by cases e; exact ⟨v, rfl, r⟩, fun e => nomatch e⟩
    · rw [e0, decide_eq_false c, if_neg Bool.false_ne_true, valV_neg c]
      exact ⟨i1, i2⟩
theorem Rpt.get {k : List T} {kk : List Key} (hk : KRs k kk) : ∀ {ps : List (T × T)} {kvs : List (List Key × V)}, Rpt K g ps kvs → (∀ t, getT (.tup k) ps = some t → ∃ v, valV kvs kk = some v ∧ Rp K g t v) ∧ (getT (.tup k) ps = none → valV kvs kk = none)
  | _, _, .nil => ⟨(fun _ e => nomatch e), fun _ => rfl⟩
  | _, _, .cons (ks := a) (x := x) (kk := ka) (v := v) (ps := ps) (kvs := kvs) h r rr => by
    obtain ⟨i1, i2⟩ := Rpt.get hk rr
    have e0 : kEq (.tup a) (.tup k) = decide (ka = kk) := KRs.eq h hk
    unfold getT
    by_cases c : ka = kk
    · rw [e0, decide_eq_true c, if_pos rfl, valV_pos c]
      exact ⟨fun t e => by cases e; exact ⟨v, rfl, r⟩, fun e => nomatch e⟩
    · rw [e0, decide_eq_false c, if_neg Bool.false_ne_true, valV_neg c]
      exact ⟨i1, i2⟩
theorem Rpk.rep {k t : T} {kk : Key} {v : V} (hk : KR k kk) (hr : Rp K g t v) : ∀ {ps : List (T × T)} {kvs : List (Key × V)}, Rpk K g ps kvs → Rpk K g (repD k t ps) (kvs.map fun kv => if kv.1 = kk then (kv.1, v) else kv)
  | _, _, .nil => .nil
  | _, _, .cons (k := a) (x := x) (kk := ka) (v := v') h r rr => by
    have e0 := KR.eq h hk
    unfold repD
    rw [List.map_cons]
    by_cases c : ka = kk
    · rw [e0, decide_eq_true c, if_pos rfl, if_pos c]
      exact .cons h hr (Rpk.rep hk hr rr)
    · rw [e0, decide_eq_false c, if_neg Bool.false_ne_true, if_neg c]
      exact .cons h r (Rpk.rep hk hr rr)
theorem Rpt.rep {k : List T} {t : T} {kk : List Key} {v : V} (hk : KRs k kk) (hr : Rp K g t v) : ∀ {ps : List (T × T)} {kvs : List (List Key × V)}, Rpt K g ps kvs → Rpt K g (repD (.tup k) t ps) (kvs.map fun kv => if kv.1 = kk then (kv.1, v) else kv)
  | _, _, .nil => .nil
  | _, _, .cons (ks := a) (x := x) (kk := ka) (v := v') h r rr => by
    have e0 : kEq (.tup a) (.tup k) = decide (ka = kk) := KRs.eq h hk
    unfold repD
    rw [List.map_cons]
    by_cases c : ka = kk
    · rw [e0, decide_eq_true c, if_pos rfl, if_pos c]
      exact .cons h hr (Rpt.rep hk hr rr)
    · rw [e0, decide_eq_false c, if_neg Bool.false_ne_true, if_neg c]
      exact .cons h r (Rpt.rep hk hr rr)
theorem Rpk.snoc {k t : T} {kk : Key} {v : V} (hk : KR k kk) (hr : Rp K g t v) : ∀ {ps : List (T × T)} {kvs : List (Key × V)}, Rpk K g ps kvs → Rpk K g (ps ++ [(k, t)]) (kvs ++ [(kk, v)])
  | _, _, .nil => .cons hk hr .nil
  | _, _, .cons h r rr => .cons h r (Rpk.snoc hk hr rr)
theorem Rpt.snoc {k : List T} {t : T} {kk : List Key} {v : V} (hk : KRs k kk) (hr : Rp K g t v) : ∀ {ps : List (T × T)} {kvs : List (List Key × V)}, Rpt K g ps kvs → Rpt K g (ps ++ [(.tup k, t)]) (kvs ++ [(kk, v)])
  | _, _, .nil => .cons hk hr .nil
  | _, _, .cons h r rr => .cons h r (Rpt.snoc hk hr rr)
theorem Rpk.put {k t : T} {kk : Key} {v : V} (hk : KR k kk) (hr : Rp K g t v) {ps : List (T × T)} {kvs : List (Key × V)} (r : Rpk K g ps kvs) : Rpk K g (putD k t ps) (putK kvs kk v) := by
  have i := Rpk.get hk r
  unfold putD putK
  rw [valV_any]
  cases e : getT k ps with
  | none => rw [i.2 e, if_neg (by simp), if_neg (by simp)]; exact r.snoc hk hr
  | some x =>
    obtain ⟨u, e1, _⟩ := i.1 x e
    rw [e1, if_pos (by rfl), if_pos (by rfl)]; exact r.rep hk hr
theorem Rpt.put {k : List T} {t : T} {kk : List Key} {v : V} (hk : KRs k kk) (hr : Rp K g t v) {ps : List (T × T)} {kvs : List (List Key × V)} (r : Rpt K g ps kvs) : Rpt K g (putD (.tup k) t ps) (putK kvs kk v) := by
  have i := Rpt.get hk r
  unfold putD putK
  rw [valV_any]
  cases e : getT (.tup k) ps with
  | none => rw [i.2 e, if_neg (by simp), if_neg (by simp)]; exact r.snoc hk hr
  | some x =>
    obtain ⟨u, e1, _⟩ := i.1 x e
    rw [e1, if_pos (by rfl), if_pos (by rfl)]; exact r.rep hk hr
theorem Rpk.drop {k : T} {kk : Key} (hk : KR k kk) : ∀ {ps : List (T × T)} {kvs : List (Key × V)}, Rpk K g ps kvs → Rpk K g (dropD k ps) (dropK kvs kk)
  | _, _, .nil => .nil
  | _, _, .cons (k := a) (x := x) (kk := ka) (v := v) (ps := ps) (kvs := kvs) h r rr => by
    have e0 := KR.eq h hk
    have ih := Rpk.drop hk rr
    unfold dropD dropK at ih ⊢
    rw [List.filter_cons, List.filter_cons]
    by_cases c : ka = kk
    · rw [e0, decide_eq_true c, if_neg (by simp), if_neg (by simp [c])]; exact ih
    · rw [e0, decide_eq_false c, if_pos (by rfl), if_pos (by simp [c])]; exact .cons h r ih
/-- a dict's content, by its kind -/
def DR (K : PySem.W.Frag) (g : G) (b : Bool) (ps : List (T × T)) (u : HO) : Prop := match b with
  | false => ∃ kvs, u = .dK kvs ∧ Rpk K g ps kvs
  | true => ∃ kvs, u = .dT kvs ∧ Rpt K g ps kvs
theorem dOf_rp {S : Sto} {H : Hp} (W : Wd K S H g) {x : T} {v : V} {b : Bool} {ps : List (T × T)} (e : dOf S x = some (b, ps)) (r : Rp K g x v) : ∃ a u, v = .ref a ∧ Rd H a u ∧ DR K g b ps u := by
  cases r with
  | dct h r => cases e; exact ⟨_, _, rfl, .inr ⟨_, W.sub _ _ h⟩, _, rfl, r⟩
  | dctT h r => cases e; exact ⟨_, _, rfl, .inr ⟨_, W.sub _ _ h⟩, _, rfl, r⟩
  | ref h =>
    simp only [dOf] at e
    split at e
    · rename_i b' l q
      cases e
      cases b with
      | false =>
        obtain ⟨vs, h1, r1⟩ := W.cell _ _ _ q (fun z => nomatch z) h
        exact ⟨_, _, rfl, .inl h1, _, rfl, r1⟩
      | true =>
        obtain ⟨vs, h1, r1⟩ := W.cell _ _ _ q (fun z => nomatch z) h
        exact ⟨_, _, rfl, .inl h1, _, rfl, r1⟩
    · rename_i b' l q
      cases e
      cases b with
      | false =>
        obtain ⟨od, vs, h1, r1⟩ := W.cell _ _ _ q (fun z => nomatch z) h
        exact ⟨_, _, rfl, .inr ⟨_, h1⟩, _, rfl, r1⟩
      | true =>
        obtain ⟨od, vs, h1, r1⟩ := W.cell _ _ _ q (fun z => nomatch z) h
        exact ⟨_, _, rfl, .inr ⟨_, h1⟩, _, rfl, r1⟩
    · cases e
  | _ => cases e
theorem isD_rp {S : Sto} {H : Hp} (W : Wd K S H g) {x : T} {v : V} (e : (dOf S x).isSome = true) (r : Rp K g x v) : ∃ a, v = .ref a ∧ IsD H a := by
  obtain ⟨⟨b, ps⟩, e1⟩ := Option.isSome_iff_exists.mp e
  obtain ⟨a, u, rfl, h, d⟩ := dOf_rp W e1 r
  cases b with
  | false => obtain ⟨kvs, rfl, _⟩ := d; exact ⟨a, rfl, .inl ⟨kvs, h⟩⟩
  | true => obtain ⟨kvs, rfl, _⟩ := d; exact ⟨a, rfl, .inr ⟨kvs, h⟩⟩
/-- what the dict holds at the key -/
theorem dget_rp {S : Sto} {H : Hp} (W : Wd K S H g) {x k : T} {v w : V} {b : Bool} {ps : List (T × T)} (e : dOf S x = some (b, ps)) (r : Rp K g x v) (hk : keyOk b k = true) (rk : Rp K g k w) :
    ∃ a, v = .ref a ∧ (∀ t, getT k ps = some t → ∃ y, DGet H a w (some y) ∧ Rp K g t y) ∧ (getT k ps = none → DGet H a w none) := by
  obtain ⟨a, u, rfl, h, d⟩ := dOf_rp W e r
  cases b with
  | false =>
    obtain ⟨kvs, rfl, rr⟩ := d
    obtain ⟨kk, h1, rfl⟩ := isKey_kr hk rk
    obtain ⟨i1, i2⟩ := rr.get h1
    refine ⟨a, rfl, fun t e => ?_, fun e => ?_⟩
    · obtain ⟨y, e1, r1⟩ := i1 t e
      exact ⟨y, .inl ⟨kvs, kk, h, rfl, e1.symm⟩, r1⟩
    · exact .inl ⟨kvs, kk, h, rfl, (i2 e).symm⟩
  | true =>
    obtain ⟨kvs, rfl, rr⟩ := d
    cases rk with
    | tup h0 h1 h2 =>
      have hk' : keyb _ = true := hk
      have f := h1 hk'
      obtain ⟨kk, k1, rfl⟩ := keys_kr (by unfold keyb at hk'; exact (Bool.and_eq_true_iff.mp hk').2) h2
      obtain ⟨i1, i2⟩ := rr.get k1
      refine ⟨a, rfl, fun t e => ?_, fun e => ?_⟩
      · obtain ⟨y, e1, r1⟩ := i1 t e
        exact ⟨y, .inr ⟨kvs, kk, _, h, rfl, tup_wd W f, e1.symm⟩, r1⟩
      · exact .inr ⟨kvs, kk, _, h, rfl, tup_wd W f, (i2 e).symm⟩
    | _ => cases hk
theorem dgetD_rp {S : Sto} {H : Hp} (W : Wd K S H g) {x k z : T} {v w y : V} {b : Bool} {ps : List (T × T)} (e : dOf S x = some (b, ps)) (r : Rp K g x v) (hk : keyOk b k = true) (rk : Rp K g k w) (rz : Rp K g z y) :
    ∃ a o, v = .ref a ∧ DGet H a w o ∧ Rp K g ((getT k ps).getD z) (o.getD y) := by
  obtain ⟨a, rfl, i1, i2⟩ := dget_rp W e r hk rk
  cases q : getT k ps with
  | none => exact ⟨a, none, rfl, i2 q, rz⟩
  | some t =>
    obtain ⟨u, h1, h2⟩ := i1 t q
    exact ⟨a, some u, rfl, h1, h2⟩
theorem dput_rp {S S' : Sto} {H : Hp} (W : Wd K S H g) {x k t : T} {v w y : V} (e : opDPut x k t S = some S') (r : Rp K g x v) (rk : Rp K g k w) (rt : Rp K g t y) : ∃ a H', v = .ref a ∧ DPut H a w y H' ∧ Wd K S' H' g ∧ Ext S H g S' H' g := by
  unfold opDPut at e
  split at e
  · split at e
    · rename_i b ps q
      split at e
      · rename_i c
        cases e
        cases b with
        | false =>
          obtain ⟨a, rfl, m, kvs, h1, r1⟩ := r.refH W q (fun z => nomatch z)
          obtain ⟨kk, h2, rfl⟩ := isKey_kr c.1 rk
          obtain ⟨w', x'⟩ := W.write (ho := .dK (putK kvs kk y)) (o' := .dct false (putD k t ps)) q (fun z => nomatch z) m (fun z => nomatch z) ⟨_, upd_same, r1.put h2 rt⟩
          exact ⟨a, _, rfl, .inl ⟨kvs, kk, h1, rfl, by rw [← r1.length]; exact c.2, rfl⟩, w', x'⟩
        | true =>
          obtain ⟨a, rfl, m, kvs, h1, r1⟩ := r.refH W q (fun z => nomatch z)
          cases rk with
          | tup h0 hf h2 =>
            have hk' : keyb _ = true := c.1
            obtain ⟨kk, k1, rfl⟩ := keys_kr (by unfold keyb at hk'; exact (Bool.and_eq_true_iff.mp hk').2) h2
            obtain ⟨w', x'⟩ := W.write (ho := .dT (putK kvs kk y)) (o' := .dct true (putD (.tup _) t ps)) q (fun z => nomatch z) m (fun z => nomatch z) ⟨_, upd_same, r1.put k1 rt⟩
            exact ⟨a, _, rfl, .inr ⟨kvs, kk, _, h1, rfl, tup_wd W (hf hk'), by rw [← r1.length]; exact c.2, rfl⟩, w', x'⟩
          | _ => cases c.1
      · cases e
    · cases e
  · cases e
end
/-! freezing -/
def tFz (t : TE) : TE := fun σ H Q => t σ H fun v H' => Q v H' ∨ ∃ d u, v = .ref d ∧ H' d = some u ∧ Mut (some u) ∧ ∀ od, Q v (upd H' d (.frz od u))
variable {X : Cx} {E : XS} {e o i value f : Expr} {es : List Expr} {pos pos' tpos apos cpos : Pos} {ea eo ei ef : AE} {ra : AA}
theorem pe_fz {t : TE} (h : PE X e t) : PE X e (tFz t) := ⟨fun pins s σ H Q I q => thn (h.run pins s σ H _ I q) fun w s1 ⟨v, H1, J, r, k⟩ => by
  rcases k with k | ⟨d, u, rfl, h1, m, k⟩
  · exact ⟨v, H1, J, r, k⟩
  · obtain ⟨od, J1⟩ := J.lock h1 m
    exact ⟨_, _, J1, r, k od⟩⟩
theorem upd2 {H : Hp} {d : Addr} {o u : HO} : upd (upd H d o) d u = upd H d u := upd_upd
/-- a new dict, frozen or not -/
theorem Post.newD {fz : Bool} {E : XK} {S : Sto} {H : Hp} {g : G} {b : Bool} {ps : List (T × T)} {u : HO} {Q : VK} (h : Post K E S H g (Rp K) (mkD fz b ps S) Q) (w : Wd K S H g) (r : DR K g b ps u) : ∀ p, H p = none → Q (.ref p) (upd H p u) ∨ ∃ d u', V.ref p = .ref d ∧ upd H p u d = some u' ∧ Mut (some u') ∧ ∀ od, Q (.ref p) (upd (upd H p u) d (.frz od u')) := by
  intro p hp
  cases fz with
  | true =>
    refine .inr ⟨p, u, rfl, upd_same, ?_, fun od => ?_⟩
    · cases b with
      | false => obtain ⟨_, rfl, _⟩ := r; exact True.intro
      | true => obtain ⟨_, rfl, _⟩ := r; exact True.intro
    · rw [upd2]
      obtain ⟨w', x⟩ := w.frozen (ho := .frz od u) hp
      have e : (g.put p (.frz od u)).F p = some (.frz od u) := upd_same
      refine h _ _ _ w' x ?_
      cases b with
      | false => obtain ⟨kvs, rfl, r⟩ := r; exact .dct e (r.mono x.le)
      | true => obtain ⟨kvs, rfl, r⟩ := r; exact .dctT e (r.mono x.le)
  | false =>
    refine .inl ?_
    cases b with
    | false =>
      obtain ⟨kvs, rfl, r⟩ := r
      obtain ⟨w', x, m⟩ := w.alloc (o := .dct false ps) (ho := .dK kvs) hp (fun z => nomatch z) ⟨kvs, upd_same, r.mono G.le_snoc⟩
      exact h _ _ _ w' x (.ref m)
    | true =>
      obtain ⟨kvs, rfl, r⟩ := r
      obtain ⟨w', x, m⟩ := w.alloc (o := .dct true ps) (ho := .dT kvs) hp (fun z => nomatch z) ⟨kvs, upd_same, r.mono G.le_snoc⟩
      exact h _ _ _ w' x (.ref m)
theorem aNewK (fz : Bool) : PE X (.Dict [] [] pos) (LE K E (mNewD fz false)) := PE.weak (pe_fz pe_dnewK) fun σ H Q ⟨st, S, g, w, sl, p⟩ => Post.newD p w ⟨[], rfl, .nil⟩
theorem aNewT (fz : Bool) : PE X (.Dict [] [] pos) (LE K E (mNewD fz true)) := PE.weak (pe_fz pe_dnewT) fun σ H Q ⟨st, S, g, w, sl, p⟩ => Post.newD p w ⟨[], rfl, .nil⟩
theorem aFrz (h : PE X e (LE K E ea)) : PE X e (LE K E (mFrz ea)) := PE.weak (pe_fz h) fun σ H Q ⟨st, S, g, w, sl, p⟩ =>
  LE.bind (f := fun x _ S => opFrz x S) w sl p fun x S1 v H1 g1 w1 sl1 x1 r1 p1 => by
    unfold opFrz at p1
    split at p1
    · split at p1
      · rename_i n l q
        obtain ⟨a, rfl, m, vs, h1, r2⟩ := r1.refH w1 q (fun z => nomatch z)
        obtain ⟨w2, x2⟩ := w1.freeze (ho := .lst vs) q (fun z => nomatch z) m
        have e : upd H1 a (.lst vs) = H1 := by
          funext b
          unfold upd
          split
          · rename_i c; rw [c, h1]
          · rfl
        rw [e] at w2 x2
        exact .inl (p1 _ _ _ w2 x2 (.lst (show upd _ _ _ _ = _ from upd_same) (r2.mono x2.le)))
      · rename_i n b l q
        cases b with
        | false =>
          obtain ⟨a, rfl, m, vs, h1, r2⟩ := r1.refH w1 q (fun z => nomatch z)
          refine .inr ⟨a, _, rfl, h1, True.intro, fun od => ?_⟩
          obtain ⟨w2, x2⟩ := w1.freeze (ho := .frz od (.dK vs)) q (fun z => nomatch z) m
          exact p1 _ _ _ w2 x2 (.dct (od := od) (show upd _ _ _ _ = _ from upd_same) (r2.mono x2.le))
        | true =>
          obtain ⟨a, rfl, m, vs, h1, r2⟩ := r1.refH w1 q (fun z => nomatch z)
          refine .inr ⟨a, _, rfl, h1, True.intro, fun od => ?_⟩
          obtain ⟨w2, x2⟩ := w1.freeze (ho := .frz od (.dT vs)) q (fun z => nomatch z) m
          exact p1 _ _ _ w2 x2 (.dctT (od := od) (show upd _ _ _ _ = _ from upd_same) (r2.mono x2.le))
      · exact .inl (p1.val w1 r1)
    · exact .inl (p1.val w1 r1)
/-! the forms -/
theorem aDGet (hu : X.A.units + 1 < cLine) (ho : PE X o (LE K E eo)) (hi : PE X i (LE K E ei)) (hs : NoSl i := by exact fun _ _ => rfl) : PE X (.Subscript o i pos) (LE K E (m2 opDGet eo ei)) :=
  PE.weak (pe_dget hu ho hi hs) fun σ H Q h => LE.op2 (r := fun x y H Q => ∃ a v, x = .ref a ∧ DGet H a y (some v) ∧ Q v H) (fun {E S H g x y v w Q} W rx ry p => by
    unfold opDGet at p
    split at p
    · rename_i b ps e
      split at p
      · rename_i hk
        obtain ⟨a, rfl, i1, _⟩ := dget_rp W e rx hk ry
        split at p
        · rename_i t q
          obtain ⟨y', h1, h2⟩ := i1 t q
          exact ⟨a, y', rfl, h1, p.val W h2⟩
        · exact p.elim
      · exact p.elim
    · exact p.elim) h
theorem din_up {E : XK} {S : Sto} {H : Hp} {g : G} {k x : T} {y d : V} {Q : VK} (W : Wd K S H g) (rk : Rp K g k y) (rx : Rp K g x d) (p : Post K E S H g (Rp K) (opDIn k x S) Q) : ∃ a o, d = .ref a ∧ DGet H a y o ∧ Q (.bl o.isSome) H := by
  unfold opDIn at p
  split at p
  · rename_i b ps e
    split at p
    · rename_i hk
      obtain ⟨a, rfl, i1, i2⟩ := dget_rp W e rx hk rk
      cases q : getT k ps with
      | none => rw [q] at p; exact ⟨a, none, rfl, i2 q, p.val W (.bl _)⟩
      | some t =>
        rw [q] at p
        obtain ⟨u, h1, _⟩ := i1 t q
        exact ⟨a, some u, rfl, h1, p.val W (.bl _)⟩
    · exact p.elim
  · exact p.elim
theorem dnin_up {E : XK} {S : Sto} {H : Hp} {g : G} {k x : T} {y d : V} {Q : VK} (W : Wd K S H g) (rk : Rp K g k y) (rx : Rp K g x d) (p : Post K E S H g (Rp K) (opDNin k x S) Q) : ∃ a o, d = .ref a ∧ DGet H a y o ∧ Q (.bl (!o.isSome)) H := by
  unfold opDNin at p
  split at p
  · rename_i b ps e
    split at p
    · rename_i hk
      obtain ⟨a, rfl, i1, i2⟩ := dget_rp W e rx hk rk
      cases q : getT k ps with
      | none => rw [q] at p; exact ⟨a, none, rfl, i2 q, p.val W (.bl _)⟩
      | some t =>
        rw [q] at p
        obtain ⟨u, h1, _⟩ := i1 t q
        exact ⟨a, some u, rfl, h1, p.val W (.bl _)⟩
    · exact p.elim
  · exact p.elim
theorem PC.weak {op : CmpOp} {a b : Expr} {t t' : TE} (h : PC X op a b t) (k : ∀ σ H Q, t' σ H Q → t σ H Q) : PC X op a b t' := ⟨fun pins s σ H Q I q => h.run pins s σ H Q I (k σ H Q q)⟩
theorem pcDIn (hu : X.A.units + 1 < cLine) (hi : PE X i (LE K E ei)) (ho : PE X o (LE K E eo)) : PC X .In i o (LE K E (m2 opDIn ei eo)) :=
  PC.weak (pc_din hu hi ho) fun σ H Q h => LE.op2 (r := fun y x H Q => ∃ a o, x = .ref a ∧ DGet H a y o ∧ Q (.bl o.isSome) H) (fun W rx ry p => din_up W rx ry p) h
theorem pcDNin (hu : X.A.units + 1 < cLine) (hi : PE X i (LE K E ei)) (ho : PE X o (LE K E eo)) : PC X .NotIn i o (LE K E (m2 opDNin ei eo)) :=
  PC.weak (pc_dnotin hu hi ho) fun σ H Q h => LE.op2 (r := fun y x H Q => ∃ a o, x = .ref a ∧ DGet H a y o ∧ Q (.bl (!o.isSome)) H) (fun W rx ry p => dnin_up W rx ry p) h
theorem aDIn (hu : X.A.units + 1 < cLine) (hi : PE X i (LE K E ei)) (ho : PE X o (LE K E eo)) (h1 : behindInMarks .In o = false := by with_unfolding_all rfl) : PE X (.Compare i [.In] [o] pos) (LE K E (m2 opDIn ei eo)) := pe_cmp (pcDIn hu hi ho) h1
theorem aDNin (hu : X.A.units + 1 < cLine) (hi : PE X i (LE K E ei)) (ho : PE X o (LE K E eo)) (h1 : behindInMarks .NotIn o = false := by with_unfolding_all rfl) : PE X (.Compare i [.NotIn] [o] pos) (LE K E (m2 opDNin ei eo)) := pe_cmp (pcDNin hu hi ho) h1
theorem aTDIn (hu : X.A.units + 1 < cLine) (hi : PE X i (LE K E ei)) (ho : PE X o (LE K E eo)) (h1 : behindInMarks .In o = false := by with_unfolding_all rfl) : PT X (.Compare i [.In] [o] pos) (LT K E (mB (m2 opDIn ei eo))) :=
  PT.weak (pt_cmp (pcDIn hu hi ho) h1) fun _ _ _ h => LE.tB h
theorem aTDNin (hu : X.A.units + 1 < cLine) (hi : PE X i (LE K E ei)) (ho : PE X o (LE K E eo)) (h1 : behindInMarks .NotIn o = false := by with_unfolding_all rfl) : PT X (.Compare i [.NotIn] [o] pos) (LT K E (mB (m2 opDNin ei eo))) :=
  PT.weak (pt_cmp (pcDNin hu hi ho) h1) fun _ _ _ h => LE.tB h
theorem aGet1 (hu : X.A.units + 1 < cLine) (ho : PE X o (LE K E eo)) (hi : PE X i (LE K E ei)) (m : M1 X o "get" apos i cpos := by exact ⟨rfl, rfl, rfl, rfl⟩) : PE X (.Call (.Attribute o "get" apos) [i] [] cpos) (LE K E (mGet1 eo ei)) :=
  PE.weak (pe_dget1 hu ho hi m) fun σ H Q ⟨st, S, g, w, sl, p⟩ => LE.bind (f := fun x st S => if (dOf S x).isSome = true then (ei st S).bind fun y S => (match dOf S x with
  | some (b, ps) => if keyOk b y = true then .ok ((getT y ps).getD .non) S else .bad
  | none => .bad) else .bad) w sl p fun x S1 v H1 g1 w1 sl1 x1 r1 p1 => by
    split at p1
    · rename_i c
      obtain ⟨a, rfl, hD⟩ := isD_rp w1 c r1
      refine ⟨a, rfl, hD, LE.bind (f := fun y _ S => (match dOf S x with
        | some (b, ps) => if keyOk b y = true then .ok ((getT y ps).getD .non) S else .bad
        | none => .bad)) w1 sl1 p1 fun y S2 v2 H2 g2 w2 sl2 x2 r2 p2 => ?_⟩
      split at p2
      · rename_i b ps e
        split at p2
        · rename_i hk
          obtain ⟨a', o, ea, h1, h2⟩ := dgetD_rp w2 e (r1.mono x2.le) hk r2 (.non : Rp K g2 .non .non)
          cases ea
          exact ⟨o, h1, p2.val w2 h2⟩
        · exact p2.elim
      · exact p2.elim
    · exact p1.elim
theorem aGet2 (hu : X.A.units + 1 < cLine) (ho : PE X o (LE K E eo)) (hi : PE X i (LE K E ei)) (hf : PE X f (LE K E ef)) (m : M2 X o "get" apos i f cpos := by exact ⟨rfl, rfl, rfl, rfl⟩) : PE X (.Call (.Attribute o "get" apos) [i, f] [] cpos) (LE K E (mGet2 eo ei ef)) :=
  PE.weak (pe_dget2 hu ho hi hf m) fun σ H Q ⟨st, S, g, w, sl, p⟩ => LE.bind (f := fun x st S => if (dOf S x).isSome = true then (ei st S).bind fun y S => (ef st S).bind fun u S => (match dOf S x with
  | some (b, ps) => if keyOk b y = true then .ok ((getT y ps).getD u) S else .bad
  | none => .bad) else .bad) w sl p fun x S1 v H1 g1 w1 sl1 x1 r1 p1 => by
    split at p1
    · rename_i c
      obtain ⟨a, rfl, hD⟩ := isD_rp w1 c r1
      refine ⟨a, rfl, hD, LE.bind (f := fun y st S => (ef st S).bind fun u S => (match dOf S x with
        | some (b, ps) => if keyOk b y = true then .ok ((getT y ps).getD u) S else .bad
        | none => .bad)) w1 sl1 p1 fun y S2 v2 H2 g2 w2 sl2 x2 r2 p2 => LE.bind (f := fun u _ S => (match dOf S x with
        | some (b, ps) => if keyOk b y = true then .ok ((getT y ps).getD u) S else .bad
        | none => .bad)) w2 sl2 p2 fun u S3 v3 H3 g3 w3 sl3 x3 r3 p3 => ?_⟩
      split at p3
      · rename_i b ps e
        split at p3
        · rename_i hk
          obtain ⟨a', o, ea, h1, h2⟩ := dgetD_rp w3 e ((r1.mono x2.le).mono x3.le) hk (r2.mono x3.le) r3
          cases ea
          exact ⟨o, h1, p3.val w3 h2⟩
        · exact p3.elim
      · exact p3.elim
    · exact p1.elim
theorem aDPut (hu : X.A.units + 1 < cLine) (ho : PE X o (LE K E eo)) (hi : PE X i (LE K E ei)) (hv : PE X value (LE K E ea)) (hs : swapsWith value (some (.Subscript o i pos')) pos.line X.env = pure false := by rfl) : PS X (.Assign [.Subscript o i pos'] value pos) (LS K E (mDPut eo ei ea)) :=
  PS.weak (ps_dput hu ho hi hv hs) fun D σ H ⟨st, S, g, w, sl, p⟩ => LE.run (f := fun v S => (eo st S).stm st fun x S => (ei st S).stm st fun y S => match opDPut x y v S with
  | some S' => .nx st S'
  | none => .bad) w sl p fun t S1 v H1 g1 w1 sl1 x1 r1 p1 => LE.run (f := fun x S => (ei st S).stm st fun y S => match opDPut x y t S with
  | some S' => .nx st S'
  | none => .bad) w1 sl1 p1 fun x S2 v2 H2 g2 w2 sl2 x2 r2 p2 => LE.run (f := fun y S => match opDPut x y t S with
  | some S' => .nx st S'
  | none => .bad) w2 sl2 p2 fun y S3 v3 H3 g3 w3 sl3 x3 r3 p3 => by
    split at p3
    · rename_i S4 e
      obtain ⟨a, H4, rfl, h1, w', x'⟩ := dput_rp w3 e (r2.mono x3.le) r3 ((r1.mono x2.le).mono x3.le)
      exact ⟨a, H4, rfl, h1, p3 σ _ _ w' x' (sl3.mono x'.le)⟩
    · exact p3.elim
theorem up_dict (fz : Bool) : ∀ {E : XK} {S : Sto} {H : Hp} {g : G} {xs : List T} {vs : List V} {Q : VK}, Wd K S H g → Rps K g xs vs → Post K E S H g (Rp K) (opDict fz xs S) Q → rDCopy vs H fun v H' => Q v H' ∨ ∃ d u, v = .ref d ∧ H' d = some u ∧ Mut (some u) ∧ ∀ od, Q v (upd H' d (.frz od u)) := by
  intro E S H g xs vs Q W rx p
  unfold opDict at p
  split at p
  · obtain ⟨v, rfl, r⟩ := rx.one
    split at p
    · rename_i ps e
      obtain ⟨a, u, rfl, h, kvs, rfl, rr⟩ := dOf_rp W e r
      exact ⟨a, kvs, rfl, h, Post.newD p W ⟨kvs, rfl, rr⟩⟩
    · exact p.elim
  · exact p.elim
theorem aDict (fz : Bool) {x : Str} {p : Pos} (hm : X.mg "dict" = none) (ha : PA X (e :: es) (LA K E ra)) (hg : Gl X "dict" := by rfl) (he : starEach (e :: es) X.env = (false, eval e X.env) :: starEach es X.env := by rfl) (hpl : (backTo pos (starEach es X.env)).any (·.1) = false := by rfl) :
    PE X (.Call (.Name "dict" p) (e :: es) [] pos) (LE K E (mN (opDict fz) ra)) :=
  PE.weak (pe_fz (pe_callTy c_dict hg hm (by decide +kernel) ha (by decide) (by decide) he hpl)) fun σ H Q ⟨st, S, g, w, sl, p⟩ => LA.bind (f := fun x _ S => opDict fz x S) w sl p fun t S1 v H1 g1 w1 sl1 x1 r1 p1 => up_dict fz w1 r1 p1
end
end Ab

namespace Ab
open PySem PySem.Spec PyProof.Rows L2 Sp
/-! ## list comprehensions, raise, try -/
def XS0 : XS := fun _ _ _ _ => False
def R.nox {α : Type} (r : R α) : R α := match r with
  | .ok a S => .ok a S
  | _ => .bad
open Classical in
noncomputable def lcL (ck : Option (Nat × List T)) (i : Nat) (c : AT) (e : AE) (st : Slots) : List T → List T → Sto → R (List T)
  | [], acc, S => if okC ck S then .ok acc S else .bad
  | t :: ts, acc, S => if okC ck S then ((c (st.set i (some t)) S).nox.bind fun b S => if b = true then ((e (st.set i (some t)) S).nox.bind fun y S => if acc.length < sizeLine then lcL ck i c e st ts (acc ++ [y]) S else .bad) else lcL ck i c e st ts acc S) else .bad
noncomputable def mLc (fz : Bool) (it : AI) (i : Nat) (c : AT) (e : AE) : AE := fun st S => (it st S).bind fun x S => (lcL x.ck i c e st x.l [] S).bind fun l S => mkL fz l S
def mYes : AT := fun _ S => .ok true S
section
variable {K : PySem.W.Frag} {S : Sto} {H : Hp} {g : G} {p : Addr} {ho : HO} {o : O}
/-- what stands free is taken as frozen, as a handle's -/
theorem Wd.adopt (W : Wd K S H g) (hp : H p = some ho) (hF : g.F p = none) (hl : ¬ lv g S p) : Wd K S H (g.put p ho) := by
  have le := G.le_put (ho := ho) hF
  refine ⟨W.len, fun b u e => ?_, fun n o b e d m => (W.cell n o b e d m).mono le rfl, fun b h => ?_, W.inj⟩
  · have e' : upd g.F p ho b = some u := e
    by_cases hb : b = p
    · subst hb; rw [upd_same] at e'; cases e'; exact hp
    · rw [upd_ne hb] at e'; exact W.sub b u e'
  · show upd _ _ _ _ = _
    rw [upd_ne (fun q => hl (by subst q; exact h))]
    exact W.off b h
theorem Wd.adoptH (W : Wd K S H g) (hF : g.F p = none) (hl : ¬ lv g S p) (hd : o ≠ .dead) (ok : OR K (g.snoc p) H p o) : Wd K (S ++ [o]) H (g.snoc p) ∧ (g.snoc p).mu[S.length]? = some p ∧ ∀ b, lv (g.snoc p) (S ++ [o]) b → b = p ∨ lv g S b := by
  have le := G.le_snoc (g := g) (p := p)
  have lt : ∀ {n : Nat} {b : Addr}, g.mu[n]? = some b → n < S.length := fun {n b} h => by rw [← W.len]; exact (List.getElem?_eq_some_iff.mp h).1
  have ltS : ∀ {n : Nat} {u : O}, S[n]? = some u → n < S.length := fun h => (List.getElem?_eq_some_iff.mp h).1
  have case : ∀ {n : Nat} {u : O} {b : Addr}, (S ++ [o])[n]? = some u → (g.snoc p).mu[n]? = some b → (S[n]? = some u ∧ g.mu[n]? = some b) ∨ (n = S.length ∧ u = o ∧ b = p) := fun {n u b} h k => by
    rcases get_snoc h with h | ⟨h1, h2⟩
    · rcases get_snoc k with k | ⟨k1, _⟩
      · exact .inl ⟨h, k⟩
      · have := ltS h
        rw [← W.len] at this
        exact absurd this (by omega)
    · rcases get_snoc k with k | ⟨_, k2⟩
      · exact absurd (lt k) (by omega)
      · exact .inr ⟨h1, h2, k2⟩
  have at_ : (g.snoc p).mu[S.length]? = some p := by
    show (g.mu ++ [p])[S.length]? = some p
    rw [← W.len]; simp
  refine ⟨⟨by show (g.mu ++ [p]).length = _; simp [W.len], W.sub, fun n u b e d m => ?_, fun b ⟨n, u, e, d, m⟩ => ?_, fun i j u u' b e1 d1 e2 d2 m1 m2 => ?_⟩, at_, fun b ⟨n, u, e, d, m⟩ => ?_⟩
  · rcases case e m with ⟨e, m⟩ | ⟨_, h2, h3⟩
    · exact (W.cell n u b e d m).mono le rfl
    · subst h2 h3; exact ok
  · rcases case e m with ⟨e, m⟩ | ⟨_, _, h3⟩
    · exact W.off b ⟨n, u, e, d, m⟩
    · subst h3; exact hF
  · rcases case e1 m1 with ⟨f1, n1⟩ | ⟨q1, _, r1⟩ <;> rcases case e2 m2 with ⟨f2, n2⟩ | ⟨q2, _, r2⟩
    · exact W.inj i j u u' b f1 d1 f2 d2 n1 n2
    · rw [r2] at n1; exact (hl ⟨i, u, f1, d1, n1⟩).elim
    · rw [r1] at n2; exact (hl ⟨j, u', f2, d2, n2⟩).elim
    · rw [q1, q2]
  · rcases case e m with ⟨e, m⟩ | ⟨_, _, h3⟩
    · exact .inr ⟨n, u, e, d, m⟩
    · exact .inl h3
/-- the new list stands free while the comprehension runs; the base is the state ahead of it -/
structure Free (S1 : Sto) (H1 : Hp) (g1 : G) (D : Addr) (S : Sto) (H : Hp) (g : G) (vs : List V) : Prop where
  ext : Ext S1 H1 g1 S H g
  new : H1 D = none
  at_ : H D = some (.lst vs)
  F : g.F D = none
  l : ¬ lv g S D
theorem Free.step {S1 S' : Sto} {H1 H' : Hp} {g1 g' : G} {D : Addr} {vs : List V} (f : Free S1 H1 g1 D S H g vs) (x : Ext S H g S' H' g') : Free S1 H1 g1 D S' H' g' vs :=
  let ⟨a, b, c⟩ := x.fr D _ f.at_ f.F f.l
  ⟨f.ext.trans x, f.new, a, b, c⟩
theorem Free.put {S1 : Sto} {H1 : Hp} {g1 : G} {D : Addr} {vs ws : List V} (f : Free S1 H1 g1 D S H g vs) (w : Wd K S H g) (w1 : Wd K S1 H1 g1) : Free S1 H1 g1 D S (upd H D (.lst ws)) g ws ∧ Wd K S (upd H D (.lst ws)) g := by
  have neD : ∀ {b u}, H1 b = some u → b ≠ D := fun e => ne_of_none e f.new
  have neF : ∀ {b u}, g.F b = some u → b ≠ D := fun {b u} e z => by rw [z, f.F] at e; cases e
  refine ⟨⟨⟨f.ext.le, fun b u e => ?_, fun b u e h l => ?_⟩, f.new, upd_same, f.F, f.l⟩, w.len, fun b u e => ?_, fun n u b e d m => (w.cell n u b e d m).mono (.refl g) ?_, w.off, w.inj⟩
  · obtain ⟨_, z⟩ := w1.FH e
    rw [upd_ne (neD z)]; exact f.ext.fz b u e
  · rw [upd_ne (neD e)]; exact f.ext.fr b u e h l
  · rw [upd_ne (neF e)]; exact w.sub b u e
  · rw [upd_ne]
    rintro rfl
    exact f.l ⟨n, u, e, d, m⟩
/-- the new list is handed out -/
theorem Free.done {S1 : Sto} {H1 : Hp} {g1 : G} {D : Addr} {ts : List T} {vs : List V} {fz : Bool} {E : XK} {Q : VK} (f : Free S1 H1 g1 D S H g vs) (w : Wd K S H g) (w1 : Wd K S1 H1 g1) (r : Rps K g ts vs) (p : Post K E S1 H1 g1 (Rp K) (mkL fz ts S) Q) : Q (.ref D) H := by
  have neD : ∀ {b u}, H1 b = some u → b ≠ D := fun e => ne_of_none e f.new
  cases fz with
  | true =>
    have le := G.le_put (ho := .lst vs) f.F
    refine p _ H _ (w.adopt f.at_ f.F f.l) ⟨f.ext.le.trans le, f.ext.fz, fun b u e h l => ?_⟩ (.lst (show upd _ _ _ _ = _ from upd_same) (r.mono le))
    obtain ⟨a, b', c⟩ := f.ext.fr b u e h l
    exact ⟨a, by show upd _ _ _ _ = _; rw [upd_ne (neD e)]; exact b', c⟩
  | false =>
    obtain ⟨w2, m, lv2⟩ := w.adoptH (o := .lst ts) f.F f.l (fun z => nomatch z) ⟨vs, f.at_, r.mono G.le_snoc⟩
    refine p _ H _ w2 ⟨f.ext.le.trans G.le_snoc, f.ext.fz, fun b u e h l => ?_⟩ (.ref m)
    obtain ⟨a, b', c⟩ := f.ext.fr b u e h l
    exact ⟨a, b', fun z => (lv2 b z).elim (neD e) c⟩
end
section
variable {X : Cx} {K : PySem.W.Frag} {E : XS} {elt tg iter e : Expr} {ifs : List Expr} {scope : Scope} {pos spos : Pos} {it : AI} {et : AT} {ea : AE} {i : Nat} {x : Str}
structure PTsA (X : Cx) (K : PySem.W.Frag) (E : XS) (ifs : List Expr) (t : AT) : Prop where
  h : PTs X ifs (LT K E t)
theorem aIfN : PTs X [] (LT K E mYes) := ⟨fun pins s σ H Q I ⟨st, S, g, w, sl, p⟩ => pts_nil.run pins s σ H Q I (p.val (v := true) w rfl)⟩
theorem aIf1 {c : Expr} (h : PT X c (LT K E et)) : PTs X [c] (LT K E et) := pts_one h
theorem Post.nox {α β : Type} {EE : XK} {S : Sto} {H : Hp} {g : G} {rel : G → α → β → Prop} {r : R α} {Q : β → Hp → Prop} (k : ∀ t S', r = .ok t S' → ∀ v H' g', Wd K S' H' g' → Ext S H g S' H' g' → rel g' t v → Q v H') (n : r.nox ≠ .bad) : Post K EE S H g rel r Q := by
  cases r with
  | ok t S' => exact k t S' rfl
  | exc c S' => exact (n rfl).elim
  | bad => exact (n rfl).elim
theorem lc_post (nd : 0 = 0) {fz : Bool} {σ : TSt} {H : Hp} {Q : VK} (h : LE K E (mLc fz it i et ea) σ H Q) : tLc (LI K E it) (gName i) (LT K XS0 et) (LE K XS0 ea) [i] σ H Q := by
  obtain ⟨st, S, g, w, sl, p⟩ := h
  refine ⟨st, S, g, w, sl, ?_⟩
  have p0 : Post K (E σ) S H g (Rp K) ((it st S).bind fun x S => (lcL x.ck i et ea st x.l [] S).bind fun l S => mkL fz l S) Q := p
  cases z : it st S with
  | bad => rw [z] at p0; exact p0
  | exc c S' => rw [z] at p0; exact p0
  | ok x S1 =>
    rw [z] at p0
    intro H1 g1 J w1 x1 wk D hD
    have sl1 := sl.mono x1.le
    have pB : Post K (E σ) S1 H1 g1 (Rp K) ((lcL x.ck i et ea st x.l [] S1).bind fun l S => mkL fz l S) Q := Post.trans p0 x1
    have f0 : Free S1 H1 g1 D S1 (upd H1 D (.lst [])) g1 [] ∧ Wd K S1 (upd H1 D (.lst [])) g1 := by
      have neD : ∀ {b u}, H1 b = some u → b ≠ D := fun e => ne_of_none e hD
      refine ⟨⟨⟨.refl g1, fun b u e => ?_, fun b u e h l => ⟨by rw [upd_ne (neD e)]; exact e, h, l⟩⟩, hD, upd_same, ?_, fun l => ?_⟩, w1.len, fun b u e => ?_, fun n u b e d m => (w1.cell n u b e d m).mono (.refl g1) ?_, w1.off, w1.inj⟩
      · obtain ⟨_, z⟩ := w1.FH e
        rw [upd_ne (neD z)]
      · cases q : g1.F D with
        | none => rfl
        | some u => obtain ⟨_, e⟩ := w1.FH q; rw [hD] at e; cases e
      · obtain ⟨_, e⟩ := w1.lvH l
        rw [hD] at e; cases e
      · rw [upd_ne (neD (w1.sub b u e))]; exact w1.sub b u e
      · obtain ⟨_, e⟩ := (w1.cell n u b e d m).there d
        rw [upd_ne (neD e)]
    refine ⟨fun k m H => ∃ S g acc vs, Wd K S H g ∧ Free S1 H1 g1 D S H g vs ∧ Rps K g acc vs ∧ k ≤ x.l.length ∧ m = x.l.length - k ∧ Post K (E σ) S1 H1 g1 (Rp K) ((lcL x.ck i et ea st (x.l.drop k) acc S).bind fun l S => mkL fz l S) Q,
      ⟨_, S1, g1, [], [], f0.2, f0.1, .nil, Nat.zero_le _, rfl, pB⟩, ?_⟩
    rintro k m H2 ⟨S2, g2, acc, vs, w2, f2, r2, hk, rfl, p2⟩
    by_cases hlt : k < x.l.length
    · obtain ⟨t, ht⟩ : ∃ t, x.l[k]? = some t := ⟨_, List.getElem?_eq_getElem hlt⟩
      have hd : x.l.drop k = t :: x.l.drop (k + 1) := by
        rw [List.drop_eq_getElem_cons hlt]
        congr
        have := List.getElem?_eq_getElem hlt
        rw [ht] at this
        exact (Option.some.inj this).symm
      rw [hd] at p2
      unfold lcL at p2
      by_cases hck : okC x.ck S2
      · rw [if_pos hck] at p2
        obtain ⟨k1, k2⟩ := wk.go k S2 H2 g2 t w2 f2.ext.le hck ht
        refine .inr ⟨k1, fun H => ∃ S g acc vs, Wd K S H g ∧ Free S1 H1 g1 D S H g vs ∧ Rps K g acc vs ∧ Post K (E σ) S1 H1 g1 (Rp K) ((lcL x.ck i et ea st (x.l.drop (k + 1)) acc S).bind fun l S => mkL fz l S) Q,
          fun H' ⟨S', g', acc', vs', a1, a2, a3, a4⟩ => ⟨_, by omega, S', g', acc', vs', a1, a2, a3, hlt, rfl, a4⟩, fun v H3 y => ?_⟩
        obtain ⟨g3, w3, x3, rt⟩ := k2 v H3 y
        have f3 := f2.step x3
        have r3 := r2.mono x3.le
        have sl3 : Sl K g3 (st.set i (some t)) ((wipe σ [i]).set i (some v)) := by
          have := ((sl1.mono f3.ext.le).unset i none).set i rt
          rw [List.set_set] at this
          exact this
        show wipe ((wipe σ [i]).set i (some v)) [i] = wipe σ [i] ∧ _
        refine ⟨by show ((σ.set i none).set i (some v)).set i none = σ.set i none; rw [List.set_set, List.set_set], st.set i (some t), S2, g3, w3, sl3, ?_⟩
        cases zc : et (st.set i (some t)) S2 with
        | bad => rw [zc] at p2; exact p2
        | exc c S' => rw [zc] at p2; exact p2.elim
        | ok b S4 =>
          rw [zc] at p2
          intro b' H4 g4 w4 x4 eb
          cases (show b = b' from eb)
          have f4 := f3.step x4
          simp only [R.nox, R.bind] at p2
          cases b with
          | false =>
            rw [if_neg Bool.false_ne_true] at p2 ⊢
            exact ⟨S4, g4, acc, vs, w4, f4, r3.mono x4.le, p2⟩
          | true =>
            rw [if_pos rfl] at p2 ⊢
            refine ⟨st.set i (some t), S4, g4, w4, sl3.mono x4.le, ?_⟩
            cases ze : ea (st.set i (some t)) S4 with
            | bad => rw [ze] at p2; exact p2
            | exc c S' => rw [ze] at p2; exact p2.elim
            | ok y S5 =>
              rw [ze] at p2
              intro yv H5 g5 w5 x5 ry
              have f5 := f4.step x5
              have r5 := (r3.mono x4.le).mono x5.le
              simp only [R.nox, R.bind] at p2
              by_cases hs : acc.length < sizeLine
              · rw [if_pos hs] at p2
                obtain ⟨f6, w6⟩ := f5.put (ws := vs ++ [yv]) w5 w1
                exact ⟨vs, f5.at_, by rw [← r5.length]; exact hs, S5, g5, acc ++ [y], vs ++ [yv], w6, f6, r5.append (.cons ry .nil), p2⟩
              · rw [if_neg hs] at p2; exact p2.elim
      · rw [if_neg hck] at p2; exact p2.elim
    · have e : k = x.l.length := by omega
      rw [List.drop_eq_nil_of_le (by omega)] at p2
      unfold lcL at p2
      by_cases hck : okC x.ck S2
      · rw [if_pos hck] at p2
        exact .inl ⟨wk.stop k S2 H2 g2 w2 f2.ext.le hck (by omega), f2.done w2 w1 r2 p2⟩
      · rw [if_neg hck] at p2; exact p2.elim
theorem aLc (fz : Bool) (hc : X.calm = true) (hN : X.N.Nodup) (hi : PI X tg iter (LI K E it)) (ok : BlkOk X.N X.env.scope scope [(x, i)])
    (hg : ∀ (s : Shared) (H : Hp) (C : Addr) (cl : List (Str × Addr)) (fp : List Addr), PG (X.blk s H scope (compEnvC scope cl C X.env) fp) tg (gName i)) (ht : ∀ (s : Shared) (H : Hp) (C : Addr) (cl : List (Str × Addr)) (fp : List Addr), PTs (X.blk s H scope (compEnvC scope cl C X.env) fp) ifs (LT K XS0 et))
    (he : ∀ (s : Shared) (H : Hp) (C : Addr) (cl : List (Str × Addr)) (fp : List Addr), PE (X.blk s H scope (compEnvC scope cl C X.env) fp) elt (LE K XS0 ea)) (hs : ∀ x, foldedSetIterable iter X.env x = pure x := by intro _; rfl) : PE X (.ListComp elt [⟨tg, iter, ifs, 0⟩] scope pos) (LE K E (mLc fz it i et ea)) :=
  PE.weak (pe_lc hc hN hi ok hg ht he hs) fun σ H Q h => lc_post rfl h
theorem aSetLc (fz : Bool) {j : Nat} {y : Str} {py : Pos} (hc : X.calm = true) (hN : X.N.Nodup) (hi : PI X tg iter (LI K E it)) (ok : BlkOk X.N X.env.scope scope [(x, i)])
    (hg : ∀ (s : Shared) (H : Hp) (C : Addr) (cl : List (Str × Addr)) (fp : List Addr), PG (X.blk s H scope (compEnvC scope cl C X.env) fp) tg (gName i)) (ht : ∀ (s : Shared) (H : Hp) (C : Addr) (cl : List (Str × Addr)) (fp : List Addr), PTs (X.blk s H scope (compEnvC scope cl C X.env) fp) ifs (LT K XS0 et))
    (he : ∀ (s : Shared) (H : Hp) (C : Addr) (cl : List (Str × Addr)) (fp : List Addr), PE (X.blk s H scope (compEnvC scope cl C X.env) fp) elt (LE K XS0 ea)) (hsw : swapsWith (.ListComp elt [⟨tg, iter, ifs, 0⟩] scope pos) (some (.Name y py)) spos.line X.env = pure true) (hy : X.N[j]? = some y := by rfl) (hyl : X.env.scope.names.lookup y = some .local := by rfl) (hs : ∀ x, foldedSetIterable iter X.env x = pure x := by intro _; rfl) :
    PS X (.Assign [.Name y py] (.ListComp elt [⟨tg, iter, ifs, 0⟩] scope pos) spos) (LS K E (mSet j (mLc fz it i et ea))) :=
  PS.weak (ps_setLc hc hN hy hyl hsw hi ok hg ht he hs) fun D σ H ⟨st, S, g, w, sl, p⟩ => lc_post rfl (LE.run (f := fun t S => .nx (st.set j (some t)) S) w sl p fun t S1 v H1 g1 w1 sl1 x1 r1 p1 => p1 _ H1 g1 w1 (.refl _ _ _) (sl1.set j r1))
/-! raise, try -/
theorem aRaise {c : String} {cS : Str} {p : Pos} (hf : cS = Str.ofString c) (hc : X.calm = true) (tk : Takes X (wx E))
    (q : PySem.W.excIn X.K (He.ga X.K cS) He.veBase "ValueError.__new__" = true ∧ PySem.W.keepIn X.K (.ref (He.ga X.K cS)) = true ∧ PySem.W.subIn X.K (.ref (He.ga X.K cS)) (.type "BaseException") = some true ∧ PySem.W.typeIn X.K (.ref (He.ga X.K cS)) = some (.type "type")) (gC : X.mg cS = some (.ref (He.ga X.K cS))) (hg : Gl X cS := by rfl) (hdb : (cS == ("__debug__" : Str)) = false := by decide) (hK : X.K = K := by rfl) :
    PS X (.Raise (some (.Call (.Name cS p) [] [] pos)) none spos) (LS K E (mRaise c)) := by
  subst hf hK
  exact PS.weak (ps_raise hc tk (pmk_own0 PySem.F.excBase_ValueError q gC hg hdb)) fun D σ H ⟨st, S, g, w, sl, p⟩ => p σ H g w (.refl S H g) sl
end
def RS.nox : RS → RS
  | .exc _ _ _ => .bad
  | r => r
/-- try: b except c: s; tb tells of the classes whether c catches them -/
def mTry (tb : List (String × Bool)) (b s : AS) : AS := fun st S => match b st S with
  | .exc x st S => (match tb.lookup x with
    | some true => (s st S).nox
    | some false => .exc x st S
    | none => .bad)
  | r => r
section
variable {X : Cx} {K : PySem.W.Frag} {E : XS} {body suite : List Stmt} {b₀ : Stmt} {np pos pos' : Pos} {b s : AS}
theorem aTry {c : String} {cS : Str} {tb : List (String × Bool)} (hf : cS = Str.ofString c) (hs : X.stack = X.env :: X.outer) (hfr : X.env.frame = some X.env.locals) (hm : X.mg cS = some (.ref (He.ga K cS))) (tk : Takes X (wx E)) (ht : ∀ x k, tb.lookup x = some k → PySem.W.exmOne K (cR K x) (.ref (He.ga K cS)) = some k)
    (hb : ∀ (W : WX) (pn : List (Addr × Obj)) (xe : Value → Shared → Prop), Takes (X.tr pn xe) W → PassesOwn (model X.prog X.w) X.A X.env xe → PSs (X.tr pn xe) body (LS K (fun σ c d H => W c d σ H) b))
    (hsu : ∀ (a : Addr) (oe : Obj) (cls : Value) (d : Option Addr) (pn : List (Addr × Obj)), Zc cls d oe → (∃ vs, oe.data = .fields vs) → PSs (X.suite a ((a, oe) :: pn)) (b₀ :: suite) (LS K XS0 s))
    (hg : Gl X cS := by rfl) (hdb : (cS == ("__debug__" : Str)) = false := by decide) (hK : X.K = K := by rfl) :
    PS X (.Try body [.ExceptHandler (some (.Name cS np)) none (b₀ :: suite) pos'] [] [] pos) (LS K E (mTry tb b s)) := by
  subst hf hK
  refine PS.weak (ps_try_only (c := .ref (He.ga X.K (.ofString c))) (tb := fun W => LS X.K (fun σ c d H => W c d σ H) b) (ts := fun _ _ _ => LS X.K XS0 s) (Wout := wx E) hs hfr ⟨hg, hdb, .inl hm⟩ tk hb hsu) fun D σ H ⟨st, S, g, w, sl, p⟩ => ⟨st, S, g, w, sl, ?_⟩
  unfold mTry at p
  cases z : b st S with
  | exc x st' S' =>
    rw [z] at p
    intro σ' H' g' w' x' sl'
    cases q : tb.lookup x with
    | none => simp only [q] at p; exact p.elim
    | some k =>
      refine ⟨k, ht x k q, fun e a _ => ?_, fun e => ?_⟩
      · subst e
        simp only [q] at p
        refine ⟨st', S', g', w', sl', ?_⟩
        have p' := PostS.trans p x'
        cases y : s st' S' with
        | exc _ _ _ => rw [y] at p'; exact p'.elim
        | nx a b => rw [y] at p'; exact p'
        | br a b => rw [y] at p'; exact p'
        | ct a b => rw [y] at p'; exact p'
        | rt a b => rw [y] at p'; exact p'
        | bad => rw [y] at p'; exact p'
      · subst e
        simp only [q] at p
        exact p σ' H' g' w' x' sl'
  | nx a b => rw [z] at p; exact p
  | br a b => rw [z] at p; exact p
  | ct a b => rw [z] at p; exact p
  | rt a b => rw [z] at p; exact p
  | bad => rw [z] at p; exact p
end
end Ab

namespace Ab
open PySem PySem.Spec PyProof.Rows L2 Sp
theorem _root_.L2.Room.un1 {A : Around} {k : Nat} (hr : Room k A) : A.units + 1 < cLine := hu_of hr
section
variable {X : Cx}
theorem cr_anyK (K : PySem.W.Frag) (hc : X.calm = true) (h : X.K = K := by rfl) : CallR X (.builtin "any") (rAny K) := by subst h; exact cr_any hc
theorem cr_allK (K : PySem.W.Frag) (hc : X.calm = true) (h : X.K = K := by rfl) : CallR X (.builtin "all") (rAll K) := by subst h; exact cr_all hc
theorem cr_sumK (K : PySem.W.Frag) (hc : X.calm = true) (h : X.K = K := by rfl) : CallR X (.builtin "sum") (rSum K) := by subst h; exact cr_sum hc
theorem cr_maxK (K : PySem.W.Frag) (hc : X.calm = true) (h : X.K = K := by rfl) : CallR X (.builtin "max") (rMax K) := by subst h; exact cr_max hc
theorem cr_sortedIK (K : PySem.W.Frag) (h : X.K = K := by rfl) : CallR X (.builtin "sorted") (rSortedI K) := by subst h; exact cr_sortedI
end
/-! the law is called with the script -/
def sp_law (K : PySem.W.Frag) : L2.Sp := fun vs H Q _ => ∃ (a : Addr) (ns : List Int), vs = [.ref a] ∧ SqL K H a (ns.map V.int) ∧ ns.length ≤ 63 ∧ ∀ H', Q (.bl true) H'
theorem law_in {K : PySem.W.Frag} {f : AF} (ht : ∀ ns : List Int, ns.length ≤ 63 → ∃ S, f [.scr (ns.map .int)] [] = .ok (.bl true) S) {vs : List V} {H : Hp} {Q : VK} {E : XK} (h : sp_law K vs H Q E) : spA K 1 f vs H Q E := by
  obtain ⟨a, ns, rfl, hs, hl, hq⟩ := h
  obtain ⟨S, e⟩ := ht ns hl
  refine ⟨rfl, [.scr (ns.map .int)], [], ⟨[], H⟩, ⟨rfl, fun _ _ e => e, fun n o a e => by simp at e, fun b l => ?_, fun i j o o' a e => by simp at e⟩, .cons (.scr hs (Rps.ints ns)) .nil, ?_⟩
  · obtain ⟨n, o, e, _⟩ := l
    simp at e
  · rw [e]
    intro v H' g' _ _ r
    cases r
    exact hq H'
/-! list * int -/
def lkP (S : Sto) : T → Option (List T)
  | .lst l => some l
  | .ref n => match S[n]? with
    | some (.lst l) => some l
    | _ => none
  | _ => none
theorem lkP_rp {K : PySem.W.Frag} {S : Sto} {H : Hp} {g : G} (W : Wd K S H g) {x : T} {v : V} {l : List T} (e : lkP S x = some l) (r : Rp K g x v) : ∃ a vs, v = .ref a ∧ H a = some (.lst vs) ∧ Rps K g l vs := by
  cases r with
  | lst h r => cases e; exact ⟨_, _, rfl, lst_wd W h, r⟩
  | ref h =>
    simp only [lkP] at e
    split at e
    · rename_i q
      cases e
      obtain ⟨vs, h1, r1⟩ := W.cell _ _ _ q (fun z => nomatch z) h
      exact ⟨_, vs, rfl, h1, r1⟩
    · cases e
  | _ => cases e
def opRep (fz : Bool) : T → T → Sto → R T
  | x, .int k, S => match lkP S x with
    | some a => if -(2 ^ 63) ≤ k ∧ k < 2 ^ 63 ∧ a.length * k.toNat ≤ sizeLine then mkL fz (List.replicate k.toNat a).flatten S else .bad
    | none => .bad
  | _, _, _ => .bad
theorem up_rep {K : PySem.W.Frag} (fz : Bool) : Up2 K (opRep fz) rRep := by
  intro E S H g x y v w Q W rx ry p
  unfold opRep at p
  split at p
  · split at p
    · rename_i e
      split at p
      · rename_i c
        obtain ⟨a, vs, rfl, h1, r1⟩ := lkP_rp W e rx
        cases ry
        exact ⟨a, _, vs, rfl, rfl, h1, c.1, c.2.1, by rw [← r1.length]; exact c.2.2, Post.newLst p W (r1.repl _)⟩
      · exact p.elim
    · exact p.elim
  · exact p.elim
theorem aRep {X : Cx} {K : PySem.W.Frag} {E : XS} {a b : Expr} {ea eb : AE} {pos : Pos} (fz : Bool) (ha : PE X a (LE K E ea)) (hb : PE X b (LE K E eb)) : PE X (.BinOp a .Mult b pos) (LE K E (m2 (opRep fz) ea eb)) := aOp (up_rep fz) op_rep ha hb
end Ab
namespace Ab
open PySem PySem.Spec PyProof.Rows L2 Sp
/-! list(d); a dict against an empty one -/
def rKeysR : List V → Hp → VK → Prop := fun xs H Q => ∃ d kvs, xs = [V.ref d] ∧ Rd H d (.dK kvs) ∧ ∀ q, H q = none → Q (.ref q) (upd H q (.lst (kvs.map fun kv => kV kv.1)))
theorem c_keysL {X : Cx} (hc : X.calm = true) : CallR X (.type "list") rKeysR := by
  rintro pins s σ H xs us Q I r ⟨d, kvs, rfl, hk, q⟩
  obtain ⟨u, rfl, rx⟩ := vals1 r
  obtain rfl : u = Value.ref d := rx
  obtain ⟨big, nsys, vs, rk, dict⟩ := dk_rd I.hok hk
  obtain ⟨ep, hat⟩ := dict.dictAt
  have el := Paired.length rk
  refine PySem.W.kdl_call (PySem.W.kdl_dict (knd := mixKind X.prog X.w) (kvs := vs) (ep := ep) nsys) (I.ok.hd hc) hat (by rw [← el]; exact big) fun hp tk arr cap keep seq at_ => ?_
  have rel : Vals (kvs.map fun kv => kV kv.1) arr.toList := by
    have ea : arr.toList.length = arr.size := by simp
    refine vals_of_at (by rw [List.length_map, ea, at_.1, el]) fun j x w e1 e2 => ?_
    obtain ⟨k, y, k1, k2⟩ := at_.2 j w (by rw [← Array.getElem?_toList]; exact e2)
    have ks : (kvs.map (·.1))[j]? = some k := by
      rw [KV.keys rk, List.getElem?_map, k1]
      rfl
    rw [List.getElem?_map] at e1 ks
    obtain ⟨p, p1, p2⟩ := Option.map_eq_some_iff.mp e1
    rw [p1] at ks
    have z : p.1 = k := Option.some.inj ks
    rw [← p2, z]
    exact keyIs_rel k2
  refine ⟨.ref s.heap.objs.size, _, I.laid keep (Nat.le_refl _) (show ObjOk X.prog X.w _ _ _ (.lst (kvs.map fun kv => kV kv.1)) from ⟨by rw [List.length_map]; exact big, arr.toList, cap, rel, ?_⟩), rfl, q _ (I.hok.fresh (Nat.le_refl _))⟩
  rw [Array.toArray_toList]
  exact seq
theorem Rpk.keys {K : PySem.W.Frag} {g : G} : ∀ {ps : List (T × T)} {kvs : List (Key × V)}, Rpk K g ps kvs → Rps K g (ps.map (·.1)) (kvs.map fun kv => kV kv.1)
  | _, _, .nil => .nil
  | _, _, .cons h _ r => .cons h.rp (Rpk.keys r)
theorem up_keysL {K : PySem.W.Frag} (fz : Bool) : UpN K (opKeysL fz) rKeysR := by
  intro E S H g xs vs Q W rx p
  unfold opKeysL at p
  split at p
  · obtain ⟨v, rfl, r⟩ := rx.one
    split at p
    · rename_i ps e
      obtain ⟨a, u, rfl, h, kvs, rfl, rr⟩ := dOf_rp W e r
      exact ⟨a, kvs, rfl, h, Post.newLst p W rr.keys⟩
    · exact p.elim
  · exact p.elim
def opNeDct (x y : T) (S : Sto) : R T := match dOf S x, dOf S y with
  | some (false, ps), some (false, []) => .ok (.bl (!ps.isEmpty)) S
  | _, _ => .bad
def opEqDct0 (x y : T) (S : Sto) : R T := match dOf S x, dOf S y with
  | some (false, ps), some (false, []) => .ok (.bl ps.isEmpty) S
  | _, _ => .bad
def rNeE0 : R2 := fun x y H Q => ∃ a b ks, x = .ref a ∧ y = .ref b ∧ Rd H a (.dK ks) ∧ Rd H b (.dK []) ∧ Q (.bl (!ks.isEmpty)) H
theorem op_neDct {X : Cx} (hu : X.A.units + 64 < cLine) : OpR X (compareOp .NotEq) rNeE0 := by
  rintro pins s σ H x y v u Q I rx ry ⟨a, b, ks, rfl, rfl, ha, hb, q⟩
  obtain rfl : v = .ref a := rx
  obtain rfl : u = .ref b := ry
  obtain ⟨_, na, va, ra, da⟩ := dk_rd I.hok ha
  obtain ⟨_, nb, vb, rb, db⟩ := dk_rd I.hok hb
  have la := ra.length
  have lb : 0 = vb.length := rb.length
  refine PySem.W.keq_ne (knd := mixKind X.prog X.w) (r := true) na nb da db (by omega) (fun hl => ?_) ⟨.bl (!ks.isEmpty), H, I, ?_, q⟩
  · have z : va = [] := List.eq_nil_of_length_eq_zero (by omega)
    subst z
    exact .nil
  · show Value.bool _ = Value.bool _
    congr 1
    rw [← la, ← lb]
    cases ks <;> simp
theorem up_neDct {K : PySem.W.Frag} : Up2 K opNeDct rNeE0 := by
  intro E S H g x y v w Q W rx ry p
  unfold opNeDct at p
  split at p
  · rename_i ps e1 e2
    obtain ⟨a, u, rfl, h1, kvs, rfl, r1⟩ := dOf_rp W e1 rx
    obtain ⟨b, u, rfl, h2, kvs2, rfl, r2⟩ := dOf_rp W e2 ry
    cases r2
    refine ⟨a, b, kvs, rfl, rfl, h1, h2, ?_⟩
    have z : kvs.isEmpty = ps.isEmpty := by cases r1 <;> rfl
    rw [z]
    exact p.val W (.bl _)
  · exact p.elim
section
variable {K : PySem.W.Frag} {g : G}
theorem dpop_rp {S : Sto} {H : Hp} (W : Wd K S H g) {n : Nat} {ps : List (T × T)} {y t : T} {v w : V} (q : S[n]? = some (.dct false ps)) (r : Rp K g (.ref n) v) (hk : isKey y = true) (rk : Rp K g y w) (e : getT y ps = some t) :
    ∃ a kvs kk vv, v = .ref a ∧ H a = some (.dK kvs) ∧ w = kV kk ∧ valV kvs kk = some vv ∧ Rp K g t vv ∧ Wd K (S.set n (.dct false (dropD y ps))) (upd H a (.dK (dropK kvs kk))) g ∧ Ext S H g (S.set n (.dct false (dropD y ps))) (upd H a (.dK (dropK kvs kk))) g := by
  obtain ⟨a, rfl, m, kvs, h1, r1⟩ := r.refH W q (fun z => nomatch z)
  obtain ⟨kk, h2, rfl⟩ := isKey_kr hk rk
  obtain ⟨vv, e1, e2⟩ := (r1.get h2).1 t e
  obtain ⟨w', x'⟩ := W.write (ho := .dK (dropK kvs kk)) (o' := .dct false (dropD y ps)) q (fun z => nomatch z) m (fun z => nomatch z) ⟨_, upd_same, r1.drop h2⟩
  exact ⟨a, kvs, kk, vv, rfl, h1, rfl, e1, e2, w', x'⟩
theorem dnopop_rp {S : Sto} {H : Hp} (W : Wd K S H g) {n : Nat} {ps : List (T × T)} {y : T} {v w : V} (q : S[n]? = some (.dct false ps)) (r : Rp K g (.ref n) v) (hk : isKey y = true) (rk : Rp K g y w) (e : getT y ps = none) :
    ∃ a kvs kk, v = .ref a ∧ H a = some (.dK kvs) ∧ w = kV kk ∧ valV kvs kk = none := by
  obtain ⟨a, rfl, m, kvs, h1, r1⟩ := r.refH W q (fun z => nomatch z)
  obtain ⟨kk, h2, rfl⟩ := isKey_kr hk rk
  exact ⟨a, kvs, kk, rfl, h1, rfl, (r1.get h2).2 e⟩
def pop1F (x y : T) (S : Sto) : R T := match x with
  | .ref n => match S[n]? with
    | some (.dct false ps) => if isKey y = true then (match getT y ps with
      | some t => .ok t (S.set n (.dct false (dropD y ps)))
      | none => .bad) else .bad
    | _ => .bad
  | _ => .bad
def pop2F (x y u : T) (S : Sto) : R T := match x with
  | .ref n => match S[n]? with
    | some (.dct false ps) => if isKey y = true then (match getT y ps with
      | some t => .ok t (S.set n (.dct false (dropD y ps)))
      | none => .ok u S) else .bad
    | _ => .bad
  | _ => .bad
end
section
variable {X : Cx} {K : PySem.W.Frag} {E : XS} {o i f : Expr} {apos cpos : Pos} {eo ei ef : AE}
theorem aPop1 (ho : PE X o (LE K E eo)) (hi : PE X i (LE K E ei)) (m : M1 X o "pop" apos i cpos := by exact ⟨rfl, rfl, rfl, rfl⟩) : PE X (.Call (.Attribute o "pop" apos) [i] [] cpos) (LE K E (mPop1 eo ei)) :=
  PE.weak (pe_dpop1 ho hi m) fun σ H Q ⟨st, S, g, w, sl, p⟩ => LE.bind (f := fun x st S => if (dOf S x).isSome = true then (ei st S).bind fun y S => pop1F x y S else .bad) w sl p fun x S1 v H1 g1 w1 sl1 x1 r1 p1 => by
    split at p1
    · rename_i c
      obtain ⟨a, rfl, hD⟩ := isD_rp w1 c r1
      refine ⟨a, rfl, hD, LE.bind (f := fun y _ S => pop1F x y S) w1 sl1 p1 fun y S2 v2 H2 g2 w2 sl2 x2 r2 p2 => ?_⟩
      unfold pop1F at p2
      split at p2
      · split at p2
        · split at p2
          · rename_i hk
            split at p2
            · rename_i q _ _ e
              obtain ⟨a', kvs, kk, vv, ea, h1, h2, h3, h4, w', x'⟩ := dpop_rp w2 q (r1.mono x2.le) hk r2 e
              cases ea
              exact ⟨kvs, kk, vv, h1, h2, h3, p2 _ _ _ w' x' (h4.mono x'.le)⟩
            · exact p2.elim
          · exact p2.elim
        · exact p2.elim
      · exact p2.elim
    · exact p1.elim
theorem aPop2 (ho : PE X o (LE K E eo)) (hi : PE X i (LE K E ei)) (hf : PE X f (LE K E ef)) (m : M2 X o "pop" apos i f cpos := by exact ⟨rfl, rfl, rfl, rfl⟩) : PE X (.Call (.Attribute o "pop" apos) [i, f] [] cpos) (LE K E (mPop2 eo ei ef)) :=
  PE.weak (pe_dpop2 ho hi hf m) fun σ H Q ⟨st, S, g, w, sl, p⟩ => LE.bind (f := fun x st S => if (dOf S x).isSome = true then (ei st S).bind fun y S => (ef st S).bind fun u S => pop2F x y u S else .bad) w sl p fun x S1 v H1 g1 w1 sl1 x1 r1 p1 => by
    split at p1
    · rename_i c
      obtain ⟨a, rfl, hD⟩ := isD_rp w1 c r1
      refine ⟨a, rfl, hD, LE.bind (f := fun y st S => (ef st S).bind fun u S => pop2F x y u S) w1 sl1 p1 fun y S2 v2 H2 g2 w2 sl2 x2 r2 p2 => LE.bind (f := fun u _ S => pop2F x y u S) w2 sl2 p2 fun u S3 v3 H3 g3 w3 sl3 x3 r3 p3 => ?_⟩
      unfold pop2F at p3
      split at p3
      · split at p3
        · split at p3
          · rename_i hk
            split at p3
            · rename_i q _ _ e
              obtain ⟨a', kvs, kk, vv, ea, h1, h2, h3, h4, w', x'⟩ := dpop_rp w3 q ((r1.mono x2.le).mono x3.le) hk (r2.mono x3.le) e
              cases ea
              refine ⟨kvs, kk, h1, h2, fun v' hv => ?_, fun hn => ?_⟩
              · rw [h3] at hv; cases hv
                exact p3 _ _ _ w' x' (h4.mono x'.le)
              · rw [h3] at hn; cases hn
            · rename_i q _ e
              obtain ⟨a', kvs, kk, ea, h1, h2, h3⟩ := dnopop_rp w3 q ((r1.mono x2.le).mono x3.le) hk (r2.mono x3.le) e
              cases ea
              refine ⟨kvs, kk, h1, h2, fun v' hv => ?_, fun hn => ?_⟩
              · rw [h3] at hv; cases hv
              · exact p3.val w3 r3
          · exact p3.elim
        · exact p3.elim
      · exact p3.elim
    · exact p1.elim
end
section
variable {K : PySem.W.Frag}
/-- pairs of ints -/
def prT (p : Int × Int) : T := .tup [.int p.1, .int p.2]
def prsOf : List T → Option (List (Int × Int))
  | [] => some []
  | .tup [.int i, .int j] :: ts => (prsOf ts).map ((i, j) :: ·)
  | _ => none
def leP (a b : Int × Int) : Prop := a.1 < b.1 ∨ (a.1 = b.1 ∧ a.2 ≤ b.2)
instance : DecidableRel leP := fun _ _ => inferInstanceAs (Decidable (_ ∨ _))
def insP (i : Int × Int) : List (Int × Int) → List (Int × Int)
  | [] => [i]
  | j :: js => if leP i j then i :: j :: js else j :: insP i js
def sortP : List (Int × Int) → List (Int × Int)
  | [] => []
  | i :: is => insP i (sortP is)
theorem insP_perm (i : Int × Int) : ∀ l, (insP i l).Perm (i :: l)
  | [] => .refl _
  | j :: js => by
    unfold insP
    split
    · exact .refl _
    · exact ((insP_perm i js).cons j).trans (.swap i j js)
theorem sortP_perm : ∀ l, (sortP l).Perm l
  | [] => .refl _
  | i :: is => (insP_perm i (sortP is)).trans ((sortP_perm is).cons i)
theorem leP_tot {a b : Int × Int} (h : ¬leP a b) : leP b a := by unfold leP at *; omega
theorem leP_trans {a b c : Int × Int} (h : leP a b) (k : leP b c) : leP a c := by unfold leP at *; omega
theorem leP_anti {a b : Int × Int} (h : leP a b) (k : leP b a) : a = b := by
  unfold leP at *
  exact Prod.ext (by omega) (by omega)
theorem insP_sorted (i : Int × Int) : ∀ l : List (Int × Int), l.Pairwise leP → (insP i l).Pairwise leP
  | [], _ => by simp [insP]
  | j :: js, h => by
    unfold insP
    obtain ⟨h1, h2⟩ := List.pairwise_cons.mp h
    split
    · rename_i c
      refine List.pairwise_cons.mpr ⟨fun x hx => ?_, h⟩
      rcases List.mem_cons.mp hx with rfl | hx
      · exact c
      · exact leP_trans c (h1 x hx)
    · rename_i c
      refine List.pairwise_cons.mpr ⟨fun x hx => ?_, insP_sorted i js h2⟩
      rcases List.mem_cons.mp ((insP_perm i js).mem_iff.mp hx) with rfl | hx
      · exact leP_tot c
      · exact h1 x hx
theorem sortP_sorted : ∀ l, (sortP l).Pairwise leP
  | [] => .nil
  | i :: is => insP_sorted i _ (sortP_sorted is)
theorem sortP_same : ∀ {l m : List (Int × Int)}, l.Perm m → l.Pairwise leP → m.Pairwise leP → l = m
  | [], m, p, _, _ => (List.nil_perm.mp p).symm
  | a :: l, [], p, _, _ => (List.cons_ne_nil _ _ (List.perm_nil.mp p)).elim
  | a :: l, b :: m, p, h1, h2 => by
    obtain ⟨q1, q2⟩ := List.pairwise_cons.mp h1
    obtain ⟨q3, q4⟩ := List.pairwise_cons.mp h2
    have e : a = b := by
      rcases List.mem_cons.mp (p.mem_iff.mp List.mem_cons_self) with e | e
      · exact e
      · rcases List.mem_cons.mp (p.mem_iff.mpr (List.mem_cons_self (a := b) (l := m))) with e' | e'
        · exact e'.symm
        · exact leP_anti (q1 b e') (q3 a e)
    subst e
    rw [sortP_same ((List.perm_cons a).mp p) q2 q4]
def opSortP (fz : Bool) : List T → Sto → R T
  | [x], S => match (lkL S x).bind prsOf with
    | some l => mkL fz ((sortP l).map prT) S
    | none => .bad
  | _, _ => .bad
/-- the pair at v -/
def prAt (H : Hp) (v : V) : Int × Int := match v with
  | .ref t => (match H t with
    | some (.tup [.int i, .int j]) => (i, j)
    | _ => (0, 0))
  | _ => (0, 0)
def IsPr (K : PySem.W.Frag) (g : G) (H : Hp) (x : V) : Prop := ∃ t i j, x = .ref t ∧ H t = some (.tup [.int i, .int j]) ∧ Rp K g (prT (i, j)) x
theorem IsPr.at {g : G} {H : Hp} {x : V} (h : IsPr K g H x) : ∃ t, x = V.ref t ∧ H t = some (.tup [.int (prAt H x).1, .int (prAt H x).2]) ∧ Rp K g (prT (prAt H x)) x := by
  obtain ⟨t, i, j, rfl, e, r⟩ := h
  have : prAt H (.ref t) = (i, j) := by unfold prAt; simp only [e]
  rw [this]
  exact ⟨t, rfl, e, r⟩
theorem prs_rp {S : Sto} {H : Hp} {g : G} (W : Wd K S H g) : ∀ {ts : List T} {vs : List V} {l : List (Int × Int)}, prsOf ts = some l → Rps K g ts vs → (∀ x ∈ vs, IsPr K g H x) ∧ vs.map (prAt H) = l ∧ ts = l.map prT
  | [], _, l, e, .nil => by cases e; exact ⟨fun _ h => (nomatch h), rfl, rfl⟩
  | t :: ts, v :: vs, l, e, .cons r rs => by
    unfold prsOf at e
    split at e
    · rename_i heq; cases heq
    · rename_i i j ts' heq
      cases heq
      obtain ⟨l', e1, rfl⟩ := Option.map_eq_some_iff.mp e
      obtain ⟨h1, h2, h3⟩ := prs_rp W e1 rs
      have hx : IsPr K g H v := by
        cases r with
        | tup a b c =>
          have k : keyb [.int i, .int j] = true := rfl
          have e0 := tup_wd W (b k)
          cases c with
          | cons c1 c2 =>
            cases c2 with
            | cons c2 c3 =>
              cases c3
              cases c1
              cases c2
              exact ⟨_, i, j, rfl, e0, .tup a b (.cons (.int i) (.cons (.int j) .nil))⟩
      refine ⟨fun x hx' => ?_, ?_, by rw [h3]; rfl⟩
      · rcases List.mem_cons.mp hx' with rfl | hx'
        · exact hx
        · exact h1 x hx'
      · rw [List.map_cons, h2]
        obtain ⟨t, i', j', rfl, e0, r0⟩ := hx
        have e2 : prAt H (.ref t) = (i', j') := by unfold prAt; simp only [e0]
        rw [e2]
        cases r with
        | tup a b c =>
          have k : keyb [.int i, .int j] = true := rfl
          have e3 := tup_wd W (b k)
          rw [e3] at e0
          cases e0
          cases c with
          | cons c1 c2 =>
            cases c2 with
            | cons c2 c3 => cases c1; cases c2; rfl
    · cases e
theorem Rps.prs {g : G} {H : Hp} : ∀ {ys : List V}, (∀ x ∈ ys, IsPr K g H x) → Rps K g ((ys.map (prAt H)).map prT) ys
  | [], _ => .nil
  | y :: ys, h => by
    obtain ⟨_, _, _, r⟩ := (h y List.mem_cons_self).at
    exact .cons r (Rps.prs fun x hx => h x (List.mem_cons_of_mem _ hx))
theorem srtd_pw {H : Hp} : ∀ {ys : List V}, SrtO.Srtd (ltP (prAt H)) ys → (ys.map (prAt H)).Pairwise leP := by
  intro ys h
  refine List.pairwise_map.mpr (h.imp fun {x y} a => ?_)
  have a := SrtO.lexB_no.mp a
  unfold leP
  omega
theorem cr_sortedPK {X : Cx} (K : PySem.W.Frag) (h : X.K = K := by rfl) : CallR X (.builtin "sorted") (rSortedPO K) := by subst h; exact cr_sortedPO
theorem up_sortP (fz : Bool) : UpN K (opSortP fz) (rSortedPO K) := by
  intro E S H g xs vs Q W rx p
  unfold opSortP at p
  split at p
  · obtain ⟨v, rfl, r⟩ := rx.one
    split at p
    · rename_i l e
      obtain ⟨ts, e1, e2⟩ := Option.bind_eq_some_iff.mp e
      obtain ⟨a, ws, rfl, h, r1⟩ := lkL_rp W e1 r
      obtain ⟨h1, h2, h3⟩ := prs_rp W e2 r1
      refine ⟨a, ws, prAt H, rfl, h, fun x hx => ?_, fun ys q srt stb hq => ?_⟩
      · obtain ⟨t, a, b, _⟩ := (h1 x hx).at
        exact ⟨t, a, b⟩
      · have hy : ∀ x ∈ ys, IsPr K g H x := fun x hx => h1 x (stb.perm.mem_iff.mp hx)
        have e3 : ys.map (prAt H) = sortP l := sortP_same (by rw [← h2]; exact (stb.perm.map _).trans (sortP_perm _).symm) (srtd_pw srt) (sortP_sorted l)
        exact Post.newLst p W (by rw [← e3]; exact Rps.prs hy) q hq
    · exact p.elim
  · exact p.elim
end
end Ab

namespace Ab
open PySem PySem.Spec PyProof.Rows L2 Sp
/-! ## mirrors, evaluated -/
theorem ite_iff {α : Sort _} {c d : Prop} {a b : α} (d1 : Decidable c) (d2 : Decidable d) (h : c ↔ d) : @ite α c d1 a b = @ite α d d2 a b := by
  by_cases k : c
  · rw [if_pos k, if_pos (h.mp k)]
  · rw [if_neg k, if_neg (fun z => k (h.mpr z))]
theorem ite_same {α : Sort _} {c : Prop} {a b : α} (d1 d2 : Decidable c) : @ite α c d1 a b = @ite α c d2 a b := by rw [Subsingleton.elim d1 d2]
section
variable {α β : Type} {a : α} {S : Sto} {st : Slots} {c : String} {f : α → Sto → R β} {k : α → Sto → RS} {h : AS} {t u : T}
theorem e_bok : (R.ok a S).bind f = f a S := rfl
theorem e_bexc : (R.exc c S : R α).bind f = .exc c S := rfl
theorem e_bbad : (R.bad : R α).bind f = .bad := rfl
theorem e_sok : (R.ok a S).stm st k = k a S := rfl
theorem e_sexc : (R.exc c S : R α).stm st k = .exc c st S := rfl
theorem e_sbad : (R.bad : R α).stm st k = .bad := rfl
theorem e_qnx : (RS.nx st S).seq h = h st S := rfl
theorem e_qrt : (RS.rt t S).seq h = .rt t S := rfl
theorem e_qbr : (RS.br st S).seq h = .br st S := rfl
theorem e_qct : (RS.ct st S).seq h = .ct st S := rfl
theorem e_qexc : (RS.exc c st S).seq h = .exc c st S := rfl
theorem e_qbad : RS.bad.seq h = .bad := rfl
theorem e_onx : (RS.nx st S).only = .nx st S := rfl
theorem e_oexc : (RS.exc c st S).only = .exc c st S := rfl
theorem e_nok : (R.ok a S).nox = .ok a S := rfl

variable {a b d z o i e : AE} {ta tb : AT} {ra : AA} {x y b1 b2 : AS} {g : MG} {gs : MGs} {f1 : T → Sto → R T} {f2 f3 : T → T → Sto → R T} {fN : List T → Sto → R T} {fM : T → List T → Sto → R T} {F : AF} {it : AI} {j l n m : Nat} {cn fl mn : String} {fz bb : Bool} {ts : List T} {lo hi : AO}
theorem e_seq : mSeq x y st S = (x st S).seq y := rfl
theorem e_pass : mPass st S = .nx st S := rfl
theorem e_brk : mBrk st S = .br st S := rfl
theorem e_cnt : mCnt st S = .ct st S := rfl
def expK (st : Slots) (_ : T) (S : Sto) : RS := .nx st S
theorem e_exp : mExp a st S = (a st S).stm st (expK st) := rfl
theorem e_expK : expK st t S = .nx st S := rfl
def retK (t : T) (S : Sto) : RS := .rt t S
theorem e_ret : mRet a st S = (a st S).stm st retK := rfl
theorem e_retK : retK t S = .rt t S := rfl
theorem e_retN : mRetN st S = .rt .non S := rfl
def ifK (x y : AS) (st : Slots) (k : Bool) (S : Sto) : RS := if k = true then x st S else y st S
theorem e_if : mIf ta x y st S = (ta st S).stm st (ifK x y st) := rfl
theorem e_ifK {k : Bool} : ifK x y st k S = if k = true then x st S else y st S := rfl
def setK (j : Nat) (st : Slots) (t : T) (S : Sto) : RS := .nx (st.set j (some t)) S
theorem e_set : mSet j a st S = (a st S).stm st (setK j st) := rfl
theorem e_setK : setK j st t S = .nx (st.set j (some t)) S := rfl
def asgK (g : MG) (st : Slots) (t : T) (S : Sto) : RS := (g t st S).only
theorem e_asg : mAsg a g st S = (a st S).stm st (asgK g st) := rfl
theorem e_asgK : asgK g st t S = (g t st S).only := rfl
theorem e_raise : mRaise c st S = .exc c st S := rfl
theorem e_gN : gN j t st S = .nx (st.set j (some t)) S := rfl
theorem e_gsN : gsN [] st S = .nx st S := rfl
theorem e_gsC : gsC g gs (t :: ts) st S = (g t st S).seq (gs ts) := rfl
theorem e_gT : gT n gs (.tup ts) st S = if ts.length = n then gs ts st S else .bad := rfl
theorem e_gTk : gT n gs (.tupk ts) st S = if ts.length = n then gs ts st S else .bad := rfl
theorem e_m1 : m1 f1 a st S = (a st S).bind f1 := rfl
def m2K (f2 : T → T → Sto → R T) (b : AE) (st : Slots) (x : T) (S : Sto) : R T := (b st S).bind (f2 x)
theorem e_m2 : m2 f2 a b st S = (a st S).bind (m2K f2 b st) := rfl
theorem e_m2K : m2K f2 b st t S = (b st S).bind (f2 t) := rfl
theorem e_mN : mN fN ra st S = (ra st S).bind fN := rfl
theorem e_nil : mNil st S = .ok [] S := rfl
def consL (x : T) (xs : List T) (S : Sto) : R (List T) := .ok (x :: xs) S
def consK (ra : AA) (st : Slots) (x : T) (S : Sto) : R (List T) := (ra st S).bind (consL x)
theorem e_cons : mCons a ra st S = (a st S).bind (consK ra st) := rfl
theorem e_consK : consK ra st t S = (ra st S).bind (consL t) := rfl
theorem e_consL : consL t ts S = .ok (t :: ts) S := rfl
theorem e_C : mC t st S = .ok t S := rfl
def vget (o : Option (Option T)) (S : Sto) : R T := match o with
  | some (some t) => .ok t S
  | _ => .bad
theorem e_V : mV j st S = vget st[j]? S := rfl
theorem e_vget : vget (some (some t)) S = .ok t S := rfl
theorem e_B : mB a st S = (a st S).bind opB := rfl
theorem e_opB {b : Bool} : opB (.bl b) S = .ok b S := rfl
theorem e_Tru : mTru a st S = (a st S).bind opTru := rfl
def taK (tb : AT) (st : Slots) (c : Bool) (S : Sto) : R Bool := if c = true then tb st S else .ok false S
theorem e_TAnd : mTAnd ta tb st S = (ta st S).bind (taK tb st) := rfl
theorem e_taK {k : Bool} : taK tb st k S = if k = true then tb st S else .ok false S := rfl
def toK (tb : AT) (st : Slots) (c : Bool) (S : Sto) : R Bool := if c = true then .ok true S else tb st S
theorem e_TOr : mTOr ta tb st S = (ta st S).bind (toK tb st) := rfl
theorem e_toK {k : Bool} : toK tb st k S = if k = true then .ok true S else tb st S := rfl
def tnK (c : Bool) (S : Sto) : R Bool := .ok (!c) S
theorem e_TNot : mTNot ta st S = (ta st S).bind tnK := rfl
theorem e_tnK {k : Bool} : tnK k S = .ok (!k) S := rfl
def andK (r : AE) (st : Slots) (x : T) (S : Sto) : R T := match x with
  | .bl true => r st S
  | .bl false => .ok (.bl false) S
  | _ => .bad
def orK (r : AE) (st : Slots) (x : T) (S : Sto) : R T := match x with
  | .bl true => .ok (.bl true) S
  | .bl false => r st S
  | _ => .bad
def notK (x : T) (S : Sto) : R T := match x with
  | .bl b => .ok (.bl (!b)) S
  | _ => .bad
theorem e_And : mAnd a b st S = (a st S).bind (andK b st) := by unfold mAnd; cases a st S <;> first | rfl | (rename_i t S; cases t <;> first | rfl | (rename_i b; cases b <;> rfl))
theorem e_Or : mOr a b st S = (a st S).bind (orK b st) := by unfold mOr; cases a st S <;> first | rfl | (rename_i t S; cases t <;> first | rfl | (rename_i b; cases b <;> rfl))
theorem e_Not : mNot a st S = (a st S).bind notK := by unfold mNot; cases a st S <;> first | rfl | (rename_i t S; cases t <;> rfl)
theorem e_andK {k : Bool} : andK a st (.bl k) S = if k = true then a st S else .ok (.bl false) S := by cases k <;> rfl
theorem e_orK {k : Bool} : orK a st (.bl k) S = if k = true then .ok (.bl true) S else a st S := by cases k <;> rfl
theorem e_notK {k : Bool} : notK (.bl k) S = .ok (.bl (!k)) S := rfl
def ifeK (a b : AE) (st : Slots) (k : Bool) (S : Sto) : R T := if k = true then a st S else b st S
theorem e_IfE : mIfE ta a b st S = (ta st S).bind (ifeK a b st) := rfl
theorem e_ifeK {k : Bool} : ifeK a b st k S = if k = true then a st S else b st S := rfl
def ch3 (f3 : T → T → Sto → R T) (c : AE) (st : Slots) (y z : T) (S : Sto) : R T := match z with
  | .bl true => (c st S).bind (f3 y)
  | .bl false => .ok (.bl false) S
  | _ => .bad
def ch2 (f2 f3 : T → T → Sto → R T) (c : AE) (st : Slots) (x y : T) (S : Sto) : R T := (f2 x y S).bind (ch3 f3 c st y)
def ch1 (f2 f3 : T → T → Sto → R T) (b c : AE) (st : Slots) (x : T) (S : Sto) : R T := (b st S).bind (ch2 f2 f3 c st x)
theorem e_Chain : mChain f2 f3 a b d st S = (a st S).bind (ch1 f2 f3 b d st) := by first | rfl | (unfold mChain; congr 1; funext x S; unfold ch1; congr 1; funext y S; unfold ch2; congr 1; funext z S; unfold ch3; cases z with | bl b => cases b <;> rfl | _ => rfl)
theorem e_ch1 : ch1 f2 f3 b d st t S = (b st S).bind (ch2 f2 f3 d st t) := rfl
theorem e_ch2 : ch2 f2 f3 d st t u S = (f2 t u S).bind (ch3 f3 d st u) := rfl
theorem e_ch3 {k : Bool} : ch3 f3 d st t (.bl k) S = if k = true then (d st S).bind (f3 t) else .ok (.bl false) S := by cases k <;> rfl
theorem e_Call : mCall F ra st S = (ra st S).bind F := rfl
def oget {α : Type} (o : Option α) (S : Sto) : R α := match o with
  | some t => .ok t S
  | none => .bad
theorem e_oget : oget (some a) S = .ok a S := rfl
def fldK (c f : String) (x : T) (S : Sto) : R T := oget ((objOf c S x).bind (List.lookup f)) S
theorem e_Fld : mFld cn fl a st S = (a st S).bind (fldK cn fl) := by first | rfl | (unfold mFld; congr 1; funext x S; unfold fldK oget; cases (objOf cn S x).bind fun fs => fs.lookup fl <;> rfl)
theorem e_fldK : fldK cn fl t S = oget ((objOf cn S t).bind (List.lookup fl)) S := rfl
def ometh {β : Type} (o : Option (Option T)) (r : R β) : R β := match o with
  | some none => r
  | _ => .bad
def mtL (F : AF) (x : T) (xs : List T) (S : Sto) : R T := F (x :: xs) S
def mtK (c m : String) (F : AF) (ra : AA) (st : Slots) (x : T) (S : Sto) : R T := ometh ((objOf c S x).map (List.lookup m)) ((ra st S).bind (mtL F x))
theorem e_Meth : mMeth cn mn F o ra st S = (o st S).bind (mtK cn mn F ra st) := by first | rfl | (unfold mMeth; congr 1; funext x S; unfold mtK ometh; split <;> rfl)
theorem e_mtK : mtK cn mn F ra st t S = ometh ((objOf cn S t).map (List.lookup mn)) ((ra st S).bind (mtL F t)) := rfl
theorem e_mtL : mtL F t ts S = F (t :: ts) S := rfl
theorem e_ometh {r : R β} : ometh (some none) r = r := rfl
def mkN (n : Nat) (t : T) (S : Sto) : R T := if isNon t = true then .ok (.ref n) S else .bad
def mkK (c : String) (F : AF) (xs : List T) (S : Sto) : R T := (F (.ref S.length :: xs) (S ++ [.obj c []])).bind (mkN S.length)
theorem e_Make : mMake cn F ra st S = (ra st S).bind (mkK cn F) := rfl
theorem e_mkK : mkK cn F ts S = (F (.ref S.length :: ts) (S ++ [.obj cn []])).bind (mkN S.length) := rfl
theorem e_mkN : mkN n .non S = .ok (.ref n) S := rfl
theorem e_isNon : isNon .non = true := rfl
def sget (o : Option Sto) (st : Slots) : RS := match o with
  | some S => .nx st S
  | none => .bad
theorem e_sget : sget (some S) st = .nx st S := rfl
def gi2 (t : T) (st : Slots) (x y : T) (S : Sto) : RS := sget (opSetL x y t S) st
def gi1 (i : AE) (t : T) (st : Slots) (x : T) (S : Sto) : RS := (i st S).stm st (gi2 t st x)
theorem e_gIx : gIx o i t st S = (o st S).stm st (gi1 i t st) := by first | rfl | (unfold gIx; congr 1; funext x S; unfold gi1; congr 1; funext y S; unfold gi2; cases opSetL x y t S <;> rfl)
theorem e_gi1 : gi1 i t st u S = (i st S).stm st (gi2 t st u) := rfl
theorem e_gi2 {v : T} : gi2 t st u v S = sget (opSetL u v t S) st := rfl
def sf2 (c f : String) (st : Slots) (v x : T) (S : Sto) : RS := sget (opSetF c f x v S) st
def sf1 (c f : String) (o : AE) (st : Slots) (v : T) (S : Sto) : RS := (o st S).stm st (sf2 c f st v)
theorem e_SetF : mSetF cn fl o e st S = (e st S).stm st (sf1 cn fl o st) := by first | rfl | (unfold mSetF; congr 1; funext x S; unfold sf1; congr 1; funext y S; unfold sf2; cases opSetF cn fl y x S <;> rfl)
theorem e_sf1 : sf1 cn fl o st t S = (o st S).stm st (sf2 cn fl st t) := rfl
theorem e_sf2 : sf2 cn fl st t u S = sget (opSetF cn fl u t S) st := rfl
def dp3 (st : Slots) (v x y : T) (S : Sto) : RS := sget (opDPut x y v S) st
def dp2 (i : AE) (st : Slots) (v x : T) (S : Sto) : RS := (i st S).stm st (dp3 st v x)
def dp1 (d i : AE) (st : Slots) (v : T) (S : Sto) : RS := (d st S).stm st (dp2 i st v)
theorem e_DPut : mDPut d i e st S = (e st S).stm st (dp1 d i st) := by first | rfl | (unfold mDPut; congr 1; funext x S; unfold dp1; congr 1; funext y S; unfold dp2; congr 1; funext z S; unfold dp3; cases opDPut y z x S <;> rfl)
theorem e_dp1 : dp1 d i st t S = (d st S).stm st (dp2 i st t) := rfl
theorem e_dp2 : dp2 i st t u S = (i st S).stm st (dp3 st t u) := rfl
theorem e_dp3 {v : T} : dp3 st t u v S = sget (opDPut u v t S) st := rfl
def pget {α β : Type} (o : Option α) (r : α → R β) : R β := match o with
  | some t => r t
  | none => .bad
def pgetS {α : Type} (o : Option α) (r : α → RS) : RS := match o with
  | some t => r t
  | none => .bad
theorem e_pget {v : α} {r : α → R β} : pget (some v) r = r v := rfl
theorem e_pgetS {v : α} {r : α → RS} : pgetS (some v) r = r v := rfl
def af3 (c f : String) (st : Slots) (x z : T) (S : Sto) : RS := sget (opSetF c f x z S) st
def af2 (c f : String) (f2 : T → T → Sto → R T) (st : Slots) (x u v : T) (S : Sto) : RS := (f2 u v S).stm st (af3 c f st x)
def afP (c f : String) (f2 : T → T → Sto → R T) (e : AE) (st : Slots) (x : T) (S : Sto) (u : T) : RS := (e st S).stm st (af2 c f f2 st x u)
def af1 (c f : String) (f2 : T → T → Sto → R T) (e : AE) (st : Slots) (x : T) (S : Sto) : RS := pgetS ((objOf c S x).bind (List.lookup f)) (afP c f f2 e st x S)
theorem e_AugF : mAugF cn fl f2 o e st S = (o st S).stm st (af1 cn fl f2 e st) := by first | rfl | (unfold mAugF; congr 1; funext x S; unfold af1 pgetS afP; cases (objOf cn S x).bind (List.lookup fl) <;> first | rfl | (show R.stm _ _ _ = R.stm _ _ _; congr 1; funext v S; unfold af2; congr 1; funext z S; unfold af3; cases opSetF cn fl x z S <;> rfl))
theorem e_af1 : af1 cn fl f2 e st t S = pgetS ((objOf cn S t).bind (List.lookup fl)) (afP cn fl f2 e st t S) := rfl
theorem e_afP : afP cn fl f2 e st t S u = (e st S).stm st (af2 cn fl f2 st t u) := rfl
theorem e_af2 {v : T} : af2 cn fl f2 st t u v S = (f2 u v S).stm st (af3 cn fl st t) := rfl
theorem e_af3 : af3 cn fl st t u S = sget (opSetF cn fl t u S) st := rfl
def ai5 (st : Slots) (x y z : T) (S : Sto) : RS := sget (opSetL x y z S) st
def ai4 (f2 : T → T → Sto → R T) (st : Slots) (x y u v : T) (S : Sto) : RS := (f2 u v S).stm st (ai5 st x y)
def ai3 (f2 : T → T → Sto → R T) (e : AE) (st : Slots) (x y u : T) (S : Sto) : RS := (e st S).stm st (ai4 f2 st x y u)
def ai2 (f2 : T → T → Sto → R T) (e : AE) (st : Slots) (x y : T) (S : Sto) : RS := (opIxL x y S).stm st (ai3 f2 e st x y)
def ai1 (f2 : T → T → Sto → R T) (i e : AE) (st : Slots) (x : T) (S : Sto) : RS := (i st S).stm st (ai2 f2 e st x)
theorem e_AugIx : mAugIx f2 o i e st S = (o st S).stm st (ai1 f2 i e st) := by first | rfl | (unfold mAugIx; congr 1; funext x S; unfold ai1; congr 1; funext y S; unfold ai2; congr 1; funext u S; unfold ai3; congr 1; funext v S; unfold ai4; congr 1; funext z S; unfold ai5; cases opSetL x y z S <;> rfl)
theorem e_ai1 : ai1 f2 i e st t S = (i st S).stm st (ai2 f2 e st t) := rfl
theorem e_ai2 : ai2 f2 e st t u S = (opIxL t u S).stm st (ai3 f2 e st t u) := rfl
theorem e_ai3 {v : T} : ai3 f2 e st t u v S = (e st S).stm st (ai4 f2 st t u v) := rfl
theorem e_ai4 {v v2 : T} : ai4 f2 st t u v v2 S = (f2 v v2 S).stm st (ai5 st t u) := rfl
theorem e_ai5 {v : T} : ai5 st t u v S = sget (opSetL t u v S) st := rfl
def au2 (j : Nat) (st : Slots) (z : T) (S : Sto) : RS := .nx (st.set j (some z)) S
def au1 (f2 : T → T → Sto → R T) (j : Nat) (st : Slots) (x y : T) (S : Sto) : RS := (f2 x y S).stm st (au2 j st)
def augK (f2 : T → T → Sto → R T) (j : Nat) (e : AE) (st : Slots) (S : Sto) (o : Option (Option T)) : RS := match o with
  | some (some x) => (e st S).stm st (au1 f2 j st x)
  | _ => .bad
theorem e_Aug : mAug j f2 e st S = augK f2 j e st S st[j]? := rfl
theorem e_augK : augK f2 j e st S (some (some t)) = (e st S).stm st (au1 f2 j st t) := rfl
theorem e_au1 : au1 f2 j st t u S = (f2 t u S).stm st (au2 j st) := rfl
theorem e_au2 : au2 j st t S = .nx (st.set j (some t)) S := rfl
def mlK (fM : T → List T → Sto → R T) (ra : AA) (st : Slots) (x : T) (S : Sto) : R T := if isL S x = true then (ra st S).bind (fM x) else .bad
theorem e_ML : mML fM o ra st S = (o st S).bind (mlK fM ra st) := rfl
theorem e_mlK : mlK fM ra st t S = if isL S t = true then (ra st S).bind (fM t) else .bad := rfl
def ggD (y u : T) (S : Sto) (p : Bool × List (T × T)) : R T := if keyOk p.1 y = true then .ok ((getT y p.2).getD u) S else .bad
def gg2 (x : T) (y : T) (S : Sto) : R T := pget (dOf S x) (ggD y .non S)
def gg1 (a : AE) (st : Slots) (x : T) (S : Sto) : R T := if (dOf S x).isSome = true then (a st S).bind (gg2 x) else .bad
theorem e_Get1 : mGet1 d a st S = (d st S).bind (gg1 a st) := by first | rfl | (unfold mGet1; congr 1; funext x S; unfold gg1; split <;> first | rfl | (congr 1; funext y S; unfold gg2 pget ggD; cases dOf S x <;> rfl))
theorem e_gg1 : gg1 a st t S = if (dOf S t).isSome = true then (a st S).bind (gg2 t) else .bad := rfl
theorem e_gg2 : gg2 t u S = pget (dOf S t) (ggD u .non S) := rfl
theorem e_ggD {p : Bool × List (T × T)} : ggD t u S p = if keyOk p.1 t = true then .ok ((getT t p.2).getD u) S else .bad := rfl
def gh3 (x y u : T) (S : Sto) : R T := pget (dOf S x) (ggD y u S)
def gh2 (b : AE) (st : Slots) (x : T) (y : T) (S : Sto) : R T := (b st S).bind (gh3 x y)
def gh1 (a b : AE) (st : Slots) (x : T) (S : Sto) : R T := if (dOf S x).isSome = true then (a st S).bind (gh2 b st x) else .bad
theorem e_Get2 : mGet2 d a b st S = (d st S).bind (gh1 a b st) := by first | rfl | (unfold mGet2; congr 1; funext x S; unfold gh1; split <;> first | rfl | (congr 1; funext y S; unfold gh2; congr 1; funext u S; unfold gh3 pget ggD; cases dOf S x <;> rfl))
theorem e_gh1 : gh1 a b st t S = if (dOf S t).isSome = true then (a st S).bind (gh2 b st t) else .bad := rfl
theorem e_gh2 : gh2 b st t u S = (b st S).bind (gh3 t u) := rfl
theorem e_gh3 {v : T} : gh3 t u v S = pget (dOf S t) (ggD u v S) := rfl
theorem e_NewD : mNewD fz bb st S = mkD fz bb [] S := rfl
theorem e_mkDt {ps : List (T × T)} : mkD true bb ps S = .ok (.dct bb ps) S := rfl
theorem e_mkDf {ps : List (T × T)} : mkD false bb ps S = .ok (.ref S.length) (S ++ [.dct bb ps]) := rfl
theorem e_mkLt : mkL true ts S = .ok (.lst ts) S := rfl
theorem e_mkLf : mkL false ts S = .ok (.ref S.length) (S ++ [.lst ts]) := rfl
theorem e_Frz : mFrz a st S = (a st S).bind opFrz := rfl
theorem e_NoP : mNoP st S = .ok none S := rfl
def partK (x : T) (S : Sto) : R (Option Int) := match x with
  | .int i => .ok (some i) S
  | _ => .bad
theorem e_Part : mPart a st S = (a st S).bind partK := rfl
theorem e_partK {i : Int} : partK (.int i) S = .ok (some i) S := rfl
def sl2 (fz : Bool) (hi : AO) (st : Slots) (x : T) (l : Option Int) (S : Sto) : R T := (hi st S).bind (opSl fz x l)
def sl1 (fz : Bool) (lo hi : AO) (st : Slots) (x : T) (S : Sto) : R T := (lo st S).bind (sl2 fz hi st x)
theorem e_Sl : mSl fz a lo hi st S = (a st S).bind (sl1 fz lo hi st) := rfl
theorem e_sl1 : sl1 fz lo hi st t S = (lo st S).bind (sl2 fz hi st t) := rfl
theorem e_sl2 {p : Option Int} : sl2 fz hi st t p S = (hi st S).bind (opSl fz t p) := rfl
theorem e_opSlT {l h : Option Int} : opSl fz (.tup ts) l h S = .ok (.tup (cutT ts l h)) S := rfl
theorem e_opSlL {l h : Option Int} : opSl fz (.lst ts) l h S = mkL fz (cutT ts l h) S := rfl
noncomputable def forK (g : MG) (x : AS) (st : Slots) (z : Itm) (S : Sto) : RS := forL z.ck g x z.l st S
noncomputable def lcK (fz : Bool) (j : Nat) (c : AT) (e : AE) (st : Slots) (z : Itm) (S : Sto) : R T := (lcL z.ck j c e st z.l [] S).bind (mkL fz)
theorem e_For : mFor it g x st S = (it st S).stm st (forK g x st) := rfl
theorem e_forK {l : List T} {ck : Option (Nat × List T)} : forK g x st ⟨l, ck⟩ S = forL ck g x l st S := rfl
theorem e_Lc : mLc fz it j ta a st S = (it st S).bind (lcK fz j ta a st) := rfl
theorem e_lcK {l : List T} {ck : Option (Nat × List T)} : lcK fz j ta a st ⟨l, ck⟩ S = (lcL ck j ta a st l [] S).bind (mkL fz) := rfl
theorem e_Yes : mYes st S = .ok true S := rfl
def itTK (x : T) (S : Sto) : R Itm := match x with
  | .tup l => .ok ⟨l, none⟩ S
  | .tupk l => .ok ⟨l, none⟩ S
  | _ => .bad
def itLK (x : T) (S : Sto) : R Itm := match x with
  | .lst l => .ok ⟨l, none⟩ S
  | .scr l => .ok ⟨l, none⟩ S
  | .ref n => (match S[n]? with
    | some (.lst l) => .ok ⟨l, some (n, l)⟩ S
    | _ => .bad)
  | _ => .bad
def itR1K (x : List T) (S : Sto) : R Itm := match x with
  | [.int j] => if -(2 ^ 62) ≤ j ∧ j < 2 ^ 62 then .ok ⟨rngT 0 j, none⟩ S else .bad
  | _ => .bad
def itR2K (x : List T) (S : Sto) : R Itm := match x with
  | [.int i, .int j] => if -(2 ^ 62) ≤ i ∧ i < 2 ^ 62 ∧ -(2 ^ 62) ≤ j ∧ j < 2 ^ 62 then .ok ⟨rngT i j, none⟩ S else .bad
  | _ => .bad
theorem e_itT : itT a st S = (a st S).bind itTK := rfl
theorem e_itL : itL a st S = (a st S).bind itLK := by first | rfl | (unfold itL; congr 1; funext x S; unfold itLK; cases x <;> rfl)
theorem e_itR1 : itR1 ra st S = (ra st S).bind itR1K := rfl
theorem e_itR2 : itR2 ra st S = (ra st S).bind itR2K := rfl
theorem e_itTKt : itTK (.tup ts) S = .ok ⟨ts, none⟩ S := rfl
theorem e_itTKk : itTK (.tupk ts) S = .ok ⟨ts, none⟩ S := rfl
theorem e_itLKl : itLK (.lst ts) S = .ok ⟨ts, none⟩ S := rfl
theorem e_itLKs : itLK (.scr ts) S = .ok ⟨ts, none⟩ S := rfl
theorem e_itLKr (h : S[n]? = some (.lst ts)) : itLK (.ref n) S = .ok ⟨ts, some (n, ts)⟩ S := by simp only [itLK, h]
theorem it62a : (-4611686018427387904 : Int) = -(2 ^ 62) := by decide
theorem it62b : (4611686018427387904 : Int) = 2 ^ 62 := by decide
theorem e_itR1K {i : Int} : itR1K [.int i] S = if -4611686018427387904 ≤ i ∧ i < 4611686018427387904 then .ok ⟨rngT 0 i, none⟩ S else .bad := by rw [it62a, it62b]; rfl
theorem e_itR2K {i k : Int} : itR2K [.int i, .int k] S = if -4611686018427387904 ≤ i ∧ i < 4611686018427387904 ∧ -4611686018427387904 ≤ k ∧ k < 4611686018427387904 then .ok ⟨rngT i k, none⟩ S else .bad := by rw [it62a, it62b]; rfl
theorem e_add {i k : Int} : opAdd (.int i) (.int k) S = .ok (.int (i + k)) S := rfl
theorem e_addT {p q : List T} : opAdd (.tup p) (.tup q) S = if p.length + q.length ≤ sizeLine then .ok (.tup (p ++ q)) S else .bad := rfl
theorem e_addL {p q : List T} : opAdd (.lst p) (.lst q) S = if p.length + q.length ≤ sizeLine then .ok (.lst (p ++ q)) S else .bad := rfl
theorem e_addI {i k : Int} : opAddI (.int i) (.int k) S = .ok (.int (i + k)) S := rfl
theorem e_sub {i k : Int} : opSub (.int i) (.int k) S = .ok (.int (i - k)) S := rfl
theorem e_mod {i k : Int} : opMod (.int i) (.int k) S = if 0 < k then .ok (.int (i % k)) S else .bad := rfl
def repK (fz : Bool) (k : Int) (S : Sto) (a : List T) : R T := if -(2 ^ 63) ≤ k ∧ k < 2 ^ 63 ∧ a.length * k.toNat ≤ sizeLine then mkL fz (List.replicate k.toNat a).flatten S else .bad
theorem e_div {i k : Int} : opDiv (.int i) (.int k) S = if 0 < k ∧ k < 1073741824 then .ok (.int (i / k)) S else .bad := by simp only [opDiv]; exact ite_same (c := CDiv i k) _ _
theorem e_mul {i k : Int} : opMul (.int i) (.int k) S = if (-18446744073709551616 < i ∧ i < 18446744073709551616) ∨ (-18446744073709551616 < k ∧ k < 18446744073709551616) then .ok (.int (i * k)) S else .bad := by simp only [opMul]; exact ite_same (c := CMul i k) _ _
theorem e_pow {i k : Int} : opPow (.int i) (.int k) S = if 0 ≤ k ∧ k ≤ 1000000 ∧ -18446744073709551616 < i ∧ i < 18446744073709551616 then .ok (.int (i ^ k.toNat)) S else .bad := by simp only [opPow]; exact ite_iff _ _ (by unfold CPow; omega)
theorem e_mulL {k : Int} : opMul (.lst ts) (.int k) S = if -(2 ^ 63) ≤ k ∧ k < 2 ^ 63 ∧ ts.length * k.toNat ≤ sizeLine then .ok (.lst (List.replicate k.toNat ts).flatten) S else .bad := by simp only [opMul]
theorem e_rep {k : Int} : opRep fz t (.int k) S = pget (lkP S t) (repK fz k S) := by simp only [opRep]; cases lkP S t <;> rfl
theorem e_repK {k : Int} : repK fz k S ts = if -(2 ^ 63) ≤ k ∧ k < 2 ^ 63 ∧ ts.length * k.toNat ≤ sizeLine then mkL fz (List.replicate k.toNat ts).flatten S else .bad := rfl
theorem e_neg {i k : Int} : opNeg (.int i) S = .ok (.int (-i)) S := rfl
theorem e_lt {i k : Int} : opLt (.int i) (.int k) S = .ok (.bl (decide (i < k))) S := rfl
theorem e_le {i k : Int} : opLe (.int i) (.int k) S = .ok (.bl (decide (i ≤ k))) S := rfl
theorem e_gt {i k : Int} : opGt (.int i) (.int k) S = .ok (.bl (decide (k < i))) S := rfl
theorem e_ge {i k : Int} : opGe (.int i) (.int k) S = .ok (.bl (decide (k ≤ i))) S := rfl
theorem e_abs {i k : Int} : opAbs [.int i] S = .ok (.int (if i < 0 then -i else i)) S := rfl
theorem e_int {i k : Int} : opInt [.int i] S = .ok (.int i) S := rfl
theorem e_intB {b : Bool} : opInt [.bl b] S = .ok (.int (if b then 1 else 0)) S := rfl
theorem e_min2 {i k : Int} : opMin2 [.int i, .int k] S = .ok (.int (if k < i then k else i)) S := rfl
theorem e_max2 {i k : Int} : opMax2 [.int i, .int k] S = .ok (.int (if k > i then k else i)) S := rfl
theorem e_tup : opTup ts S = if ts.length ≤ sizeLine then .ok (.tup ts) S else .bad := rfl
theorem e_lst : opLst fz ts S = if ts.length ≤ sizeLine then mkL fz ts S else .bad := rfl
def lenK (S : Sto) (n : Nat) : R T := .ok (.int n) S
theorem e_lenK0 : lenK S n = .ok (.int n) S := rfl
theorem e_len : opLen [t] S = pget (lenOf S t) (lenK S) := by simp only [opLen]; cases lenOf S t <;> rfl
theorem e_lenT : lenOf S (.tup ts) = some ts.length := rfl
theorem e_lenL : lenOf S (.lst ts) = some ts.length := rfl
theorem e_lenS : lenOf S (.scr ts) = some ts.length := rfl
theorem e_lenK : lenOf S (.tupk ts) = some ts.length := rfl
theorem e_lenD {ps : List (T × T)} : lenOf S (.dct bb ps) = some ps.length := rfl
def mkLK (fz : Bool) (S : Sto) (l : List T) : R T := mkL fz l S
theorem e_mkLK : mkLK fz S ts = mkL fz ts S := rfl
theorem e_list : opList fz [t] S = pget (seqOf S t) (mkLK fz S) := by simp only [opList]; cases seqOf S t <;> rfl
theorem e_seqT : seqOf S (.tup ts) = some ts := rfl
theorem e_seqL : seqOf S (.lst ts) = some ts := rfl
theorem e_seqS : seqOf S (.scr ts) = some ts := rfl
theorem e_seqK : seqOf S (.tupk ts) = some ts := rfl
theorem e_lkL : lkL S (.lst ts) = some ts := rfl
theorem e_lkS : lkL S (.scr ts) = some ts := rfl
theorem e_lkP : lkP S (.lst ts) = some ts := rfl
theorem e_tupleT : opTuple [.tup ts] S = .ok (.tup ts) S := rfl
theorem e_tupleL : opTuple [.lst ts] S = .ok (.tup ts) S := rfl
def srtK (fz : Bool) (S : Sto) (l : List Int) : R T := mkL fz ((sortI l).map .int) S
theorem e_srtK {l : List Int} : srtK fz S l = mkL fz ((sortI l).map .int) S := rfl
theorem e_sortI : opSortI fz [t] S = pget ((lkL S t).bind intsOf) (srtK fz S) := by simp only [opSortI]; cases (lkL S t).bind intsOf <;> rfl
def anyK (S : Sto) (l : List Bool) : R T := .ok (.bl (l.any id)) S
theorem e_anyK {l : List Bool} : anyK S l = .ok (.bl (l.any id)) S := rfl
def allK (S : Sto) (l : List Bool) : R T := .ok (.bl (l.all id)) S
theorem e_allK {l : List Bool} : allK S l = .ok (.bl (l.all id)) S := rfl
def sumK (S : Sto) (l : List Int) : R T := .ok (.int l.sum) S
theorem e_sumK {l : List Int} : sumK S l = .ok (.int l.sum) S := rfl
theorem e_any : opAny [t] S = pget ((lkL S t).bind blsOf) (anyK S) := by simp only [opAny]; cases (lkL S t).bind blsOf <;> rfl
theorem e_all : opAll [t] S = pget ((lkL S t).bind blsOf) (allK S) := by simp only [opAll]; cases (lkL S t).bind blsOf <;> rfl
theorem e_sum : opSum [t] S = pget ((lkL S t).bind intsOf) (sumK S) := by simp only [opSum]; cases (lkL S t).bind intsOf <;> rfl
def atK (k : Int) (l : List T) : Option T := atI l k
theorem e_atK {k : Int} : atK k ts = atI ts k := rfl
def okK (S : Sto) (t : T) : R T := .ok t S
theorem e_okK : okK S t = .ok t S := rfl
theorem e_ix {k : Int} : opIx t (.int k) S = pget ((seqOf S t).bind (atK k)) (okK S) := by simp only [opIx]; show (match (seqOf S t).bind (atK k) with | some t => R.ok t S | none => R.bad) = _; cases (seqOf S t).bind (atK k) <;> rfl
theorem e_ixL {k : Int} : opIxL t (.int k) S = pget ((lkL S t).bind (atK k)) (okK S) := by simp only [opIxL]; show (match (lkL S t).bind (atK k) with | some t => R.ok t S | none => R.bad) = _; cases (lkL S t).bind (atK k) <;> rfl
theorem e_is : opIs t .non S = .ok (.bl (isNon t)) S := rfl
theorem e_isnt : opIsnt t .non S = .ok (.bl (!isNon t)) S := rfl
theorem e_isB {b1 b2 : Bool} : opIsB (.bl b1) (.bl b2) S = .ok (.bl (decide (b1 = b2))) S := rfl
theorem e_isntB {b1 b2 : Bool} : opIsntB (.bl b1) (.bl b2) S = .ok (.bl (!decide (b1 = b2))) S := rfl
theorem e_non_int {i : Int} : isNon (.int i) = false := rfl
theorem e_non_str {s : String} : isNon (.str s) = false := rfl
theorem e_non_bl {b : Bool} : isNon (.bl b) = false := rfl
theorem e_non_tup : isNon (.tup ts) = false := rfl
theorem e_non_tupk : isNon (.tupk ts) = false := rfl
theorem e_non_lst : isNon (.lst ts) = false := rfl
theorem e_non_dct {ps : List (T × T)} : isNon (.dct bb ps) = false := rfl
theorem e_non_ref : isNon (.ref n) = false := rfl
def isiK (m : String) (S : Sto) (k : String) : R T := if m ∈ tys then .ok (.bl (isB k m)) S else .bad
theorem e_isiK {k : String} : isiK mn S k = if mn ∈ tys then .ok (.bl (isB k mn)) S else .bad := rfl
theorem e_isi : opIsi [t, .ty mn] S = pget (tyOf S t) (isiK mn S) := by simp only [opIsi]; cases tyOf S t <;> rfl
theorem e_ty_non : tyOf S (.non) = some "NoneType" := rfl
theorem e_ty_int {i : Int} : tyOf S (.int i) = some "int" := rfl
theorem e_ty_str {s : String} : tyOf S (.str s) = some "str" := rfl
theorem e_ty_bl {b : Bool} : tyOf S (.bl b) = some "bool" := rfl
theorem e_ty_tup : tyOf S (.tup ts) = some "tuple" := rfl
theorem e_ty_tupk : tyOf S (.tupk ts) = some "tuple" := rfl
theorem e_ty_lst : tyOf S (.lst ts) = some "list" := rfl
theorem e_ty_scr : tyOf S (.scr ts) = some "list" := rfl
theorem e_ty_dct {ps : List (T × T)} : tyOf S (.dct false ps) = some "dict" := rfl
theorem e_tru_non : opTru (.non) S = .ok false S := rfl
theorem e_tru_bl {b : Bool} : opTru (.bl b) S = .ok b S := rfl
theorem e_tru_int {i : Int} : opTru (.int i) S = .ok (i != 0) S := rfl
theorem e_tru_tup : opTru (.tup ts) S = .ok (!ts.isEmpty) S := rfl
theorem e_tru_lst : opTru (.lst ts) S = .ok (!ts.isEmpty) S := rfl
def dgK (u : T) (S : Sto) (p : Bool × List (T × T)) : R T := if keyOk p.1 u = true then pget (getT u p.2) (okK S) else .bad
theorem e_dgK {p : Bool × List (T × T)} : dgK u S p = if keyOk p.1 u = true then pget (getT u p.2) (okK S) else .bad := rfl
theorem e_dget : opDGet t u S = pget (dOf S t) (dgK u S) := by unfold opDGet; cases dOf S t with | none => rfl | some p => show (if _ then _ else _) = dgK u S p; unfold dgK; (by_cases hk : keyOk p.1 u = true); (rw [if_pos hk, if_pos hk]; cases getT u p.2 <;> rfl); (rw [if_neg hk, if_neg hk])
def diK (u : T) (S : Sto) (p : Bool × List (T × T)) : R T := if keyOk p.1 u = true then .ok (.bl (getT u p.2).isSome) S else .bad
theorem e_diK {p : Bool × List (T × T)} : diK u S p = if keyOk p.1 u = true then .ok (.bl (getT u p.2).isSome) S else .bad := rfl
def dnK (u : T) (S : Sto) (p : Bool × List (T × T)) : R T := if keyOk p.1 u = true then .ok (.bl (!(getT u p.2).isSome)) S else .bad
theorem e_dnK {p : Bool × List (T × T)} : dnK u S p = if keyOk p.1 u = true then .ok (.bl (!(getT u p.2).isSome)) S else .bad := rfl
theorem e_din : opDIn u t S = pget (dOf S t) (diK u S) := by unfold opDIn; cases dOf S t <;> rfl
theorem e_dnin : opDNin u t S = pget (dOf S t) (dnK u S) := by unfold opDNin; cases dOf S t <;> rfl
theorem e_dOf {ps : List (T × T)} : dOf S (.dct bb ps) = some (bb, ps) := rfl
theorem e_keyI {i : Int} : keyOk false (.int i) = true := rfl
theorem e_keyS {s : String} : keyOk false (.str s) = true := rfl
theorem e_keyT : keyOk true (.tup ts) = keyb ts := rfl
def lstO : Option O → Option (List T)
  | some (.lst l) => some l
  | _ => none
def isLO : Option O → Bool
  | some (.lst _) => true
  | _ => false
def dctO : Option O → Option (Bool × List (T × T))
  | some (.dct b l) => some (b, l)
  | some (.lck b l) => some (b, l)
  | _ => none
def lenO : Option O → Option Nat
  | some (.lst l) => some l.length
  | some (.dct _ l) => some l.length
  | _ => none
def tyO : Option O → Option String
  | some (.lst _) => some "list"
  | some (.dct _ _) => some "dict"
  | _ => none
def truO (S : Sto) : Option O → R Bool
  | some (.lst l) => .ok (!l.isEmpty) S
  | _ => .bad
def objO (c : String) : Option O → Option (List (String × T))
  | some (.obj d fs) => if d = c then some fs else none
  | _ => none
def setLO (S : Sto) (n : Nat) (i : Int) (v : T) : Option O → Option Sto
  | some (.lst l) => (ixN l.length i).map fun j => S.set n (.lst (l.set j v))
  | _ => none
def setFO (S : Sto) (n : Nat) (c f : String) (v : T) : Option O → Option Sto
  | some (.obj d fs) => if d = c ∧ fs.length < 1000 then some (S.set n (.obj d (putT f v fs))) else none
  | _ => none
def putO (S : Sto) (n : Nat) (k v : T) : Option O → Option Sto
  | some (.dct b ps) => if keyOk b k = true ∧ ps.length < sizeLine then some (S.set n (.dct b (putD k v ps))) else none
  | _ => none
def appO (S : Sto) (n : Nat) (v : T) : Option O → R T
  | some (.lst l) => if l.length < sizeLine then .ok .non (S.set n (.lst (l ++ [v]))) else .bad
  | _ => .bad
def extO (S : Sto) (n : Nat) (b : List T) : Option O → R T
  | some (.lst l) => if l.length + b.length ≤ sizeLine then .ok .non (S.set n (.lst (l ++ b))) else .bad
  | _ => .bad
def setL2 (S : Sto) (n : Nat) (l : List T) (v : T) (j : Nat) : Sto := S.set n (.lst (l.set j v))
def popAO (S : Sto) (n : Nat) (i : Int) : Option O → R T
  | some (.lst l) => if -(2 ^ 63) ≤ i ∧ i < 2 ^ 63 then (match seqIndex? i l.length with
      | some k => (match l[k]? with
        | some t => .ok t (S.set n (.lst (l.eraseIdx k)))
        | none => .bad)
      | none => .bad) else .bad
  | _ => .bad
def frzO (S : Sto) (n : Nat) : Option O → R T
  | some (.lst l) => .ok (.lst l) (S.set n .dead)
  | some (.dct b l) => .ok (.dct b l) (S.set n .dead)
  | _ => .ok (.ref n) S
def itO (S : Sto) (n : Nat) : Option O → R Itm
  | some (.lst l) => .ok ⟨l, some (n, l)⟩ S
  | _ => .bad
theorem e_seqR : seqOf S (.ref n) = lstO S[n]? := by simp only [seqOf]; unfold lstO; rfl
theorem e_lkR : lkL S (.ref n) = lstO S[n]? := by simp only [lkL]; unfold lstO; rfl
theorem e_lkPR : lkP S (.ref n) = lstO S[n]? := by simp only [lkP]; unfold lstO; rfl
theorem e_lstO : lstO (some (.lst ts)) = some ts := rfl
theorem e_isLR : isL S (.ref n) = isLO S[n]? := by simp only [isL]; unfold isLO; rfl
theorem e_isLO : isLO (some (.lst ts)) = true := rfl
theorem e_dOfR : dOf S (.ref n) = dctO S[n]? := by simp only [dOf]; unfold dctO; rfl
theorem e_dctO {ps : List (T × T)} : dctO (some (.dct bb ps)) = some (bb, ps) := rfl
theorem e_lckO {ps : List (T × T)} : dctO (some (.lck bb ps)) = some (bb, ps) := rfl
theorem e_lenR : lenOf S (.ref n) = lenO S[n]? := by simp only [lenOf]; unfold lenO; rfl
theorem e_lenOl : lenO (some (.lst ts)) = some ts.length := rfl
theorem e_lenOd {ps : List (T × T)} : lenO (some (.dct bb ps)) = some ps.length := rfl
theorem e_tyR : tyOf S (.ref n) = tyO S[n]? := by simp only [tyOf]; unfold tyO; rfl
theorem e_tyOl : tyO (some (.lst ts)) = some "list" := rfl
theorem e_tyOd {ps : List (T × T)} : tyO (some (.dct bb ps)) = some "dict" := rfl
theorem e_truR : opTru (.ref n) S = truO S S[n]? := by simp only [opTru]; unfold truO; rfl
theorem e_truO : truO S (some (.lst ts)) = .ok (!ts.isEmpty) S := rfl
theorem e_objR : objOf cn S (.ref n) = objO cn S[n]? := by simp only [objOf]; unfold objO; rfl
theorem e_objO {d : String} {fs : List (String × T)} : objO cn (some (.obj d fs)) = if d = cn then some fs else none := rfl
theorem e_setLR {i : Int} : opSetL (.ref n) (.int i) t S = setLO S n i t S[n]? := by simp only [opSetL]; unfold setLO; rfl
theorem e_setLO {i : Int} : setLO S n i t (some (.lst ts)) = (ixN ts.length i).map (setL2 S n ts t) := rfl
theorem e_setL2 : setL2 S n ts t j = S.set n (.lst (ts.set j t)) := rfl
theorem e_setFR : opSetF cn fl (.ref n) t S = setFO S n cn fl t S[n]? := by simp only [opSetF]; unfold setFO; rfl
theorem e_setFO {d : String} {fs : List (String × T)} : setFO S n cn fl t (some (.obj d fs)) = if d = cn ∧ fs.length < 1000 then some (S.set n (.obj d (putT fl t fs))) else none := rfl
theorem e_putR : opDPut (.ref n) u t S = putO S n u t S[n]? := by simp only [opDPut]; unfold putO; rfl
theorem e_putO {ps : List (T × T)} : putO S n u t (some (.dct bb ps)) = if keyOk bb u = true ∧ ps.length < sizeLine then some (S.set n (.dct bb (putD u t ps))) else none := rfl
theorem e_appR : opApp (.ref n) [t] S = appO S n t S[n]? := by simp only [opApp]; unfold appO; rfl
theorem e_appO : appO S n t (some (.lst ts)) = if ts.length < sizeLine then .ok .non (S.set n (.lst (ts ++ [t]))) else .bad := rfl
theorem e_extR : opExt (.ref n) [.lst ts] S = extO S n ts S[n]? := by simp only [opExt]; unfold extO; rfl
theorem e_extO {us : List T} : extO S n us (some (.lst ts)) = if ts.length + us.length ≤ sizeLine then .ok .non (S.set n (.lst (ts ++ us))) else .bad := rfl
theorem e_popR {i : Int} : opPopAt (.ref n) [.int i] S = popAO S n i S[n]? := by simp only [opPopAt]; unfold popAO; rfl
theorem e_frzR : opFrz (.ref n) S = frzO S n S[n]? := by simp only [opFrz]; unfold frzO; rfl
theorem e_frzOl : frzO S n (some (.lst ts)) = .ok (.lst ts) (S.set n .dead) := rfl
theorem e_frzOd {ps : List (T × T)} : frzO S n (some (.dct bb ps)) = .ok (.dct bb ps) (S.set n .dead) := rfl
theorem e_itR : itLK (.ref n) S = itO S n S[n]? := by simp only [itLK]; unfold itO; rfl
theorem e_itO : itO S n (some (.lst ts)) = .ok ⟨ts, some (n, ts)⟩ S := rfl
def defK (r : RS) : R T := match r with
  | .rt t S => .ok t S
  | .nx _ S => .ok .non S
  | .exc c _ S => .exc c S
  | _ => .bad
theorem e_def : mDef n m x ts S = if ts.length = n then defK (x (ts.map some ++ List.replicate (m - n) none) S) else .bad := by unfold mDef defK; split <;> rfl
theorem e_dfr : defK (.rt t S) = .ok t S := rfl
theorem e_dfn : defK (.nx st S) = .ok .non S := rfl
theorem e_dfe : defK (.exc c st S) = .exc c S := rfl
noncomputable def forN (ck : Option (Nat × List T)) (g : MG) (b : AS) (ts : List T) (r : RS) : RS := match r with
  | .nx st S => forL ck g b ts st S
  | .ct st S => forL ck g b ts st S
  | .br st S => .nx st S
  | r => r
noncomputable def forB (ck : Option (Nat × List T)) (g : MG) (b : AS) (ts : List T) (r : RS) : RS := match r with
  | .nx st S => forN ck g b ts (b st S)
  | r => r
def fsB (b : AS) (r : RS) : RS := match r with
  | .nx st S => b st S
  | r => r
/-- one turn -/
def fstep (g : MG) (b : AS) (t : T) (st : Slots) (S : Sto) : RS := fsB b (g t st S).only
theorem forL_cons (ck : Option (Nat × List T)) (g : MG) (b : AS) (t : T) (ts : List T) (st : Slots) (S : Sto) (h : okC ck S) : forL ck g b (t :: ts) st S = forB ck g b ts (g t st S).only := by
  unfold forL
  rw [if_pos h]
  unfold forB forN
  cases (g t st S).only with
  | nx st S => simp only <;> (cases b st S <;> rfl)
  | _ => rfl
theorem forL_nil (ck : Option (Nat × List T)) (g : MG) (b : AS) (st : Slots) (S : Sto) (h : okC ck S) : forL ck g b [] st S = .nx st S := by
  unfold forL
  rw [if_pos h]
theorem forL_step (ck : Option (Nat × List T)) (g : MG) (b : AS) (t : T) (ts : List T) (st : Slots) (S : Sto) (h : okC ck S) {st' : Slots} {S' : Sto} (e : fstep g b t st S = .nx st' S' ∨ fstep g b t st S = .ct st' S') : forL ck g b (t :: ts) st S = forL ck g b ts st' S' := by
  rw [forL_cons _ _ _ _ _ _ _ h]
  unfold fstep at e
  cases q : g t st S with
  | nx st S =>
    rw [q] at e
    have e' : b st S = .nx st' S' ∨ b st S = .ct st' S' := e
    show forN ck g b ts (b st S) = _
    unfold forN
    rcases e' with e' | e' <;> rw [e']
  | exc c st S => rw [q] at e; rcases e with e | e <;> exact nomatch (show RS.exc c st S = _ from e)
  | _ => rw [q] at e; rcases e with e | e <;> exact nomatch (show RS.bad = _ from e)
theorem e_forLc : forL none g x (t :: ts) st S = forB none g x ts (g t st S).only := forL_cons _ _ _ _ _ _ _ trivial
theorem e_forL0 : forL none g x [] st S = .nx st S := forL_nil _ _ _ _ _ trivial
theorem e_forB {ck : Option (Nat × List T)} : forB ck g x ts (.nx st S) = forN ck g x ts (x st S) := rfl
theorem e_forNn {ck : Option (Nat × List T)} : forN ck g x ts (.nx st S) = forL ck g x ts st S := rfl
theorem e_forNc {ck : Option (Nat × List T)} : forN ck g x ts (.ct st S) = forL ck g x ts st S := rfl
theorem e_forNb {ck : Option (Nat × List T)} : forN ck g x ts (.br st S) = .nx st S := rfl
theorem e_forNr {ck : Option (Nat × List T)} : forN ck g x ts (.rt t S) = .rt t S := rfl
theorem e_forNe {ck : Option (Nat × List T)} : forN ck g x ts (.exc c st S) = .exc c st S := rfl
theorem e_fstep : fstep g x t st S = fsB x (g t st S).only := rfl
theorem e_fsB : fsB x (.nx st S) = x st S := rfl
noncomputable def lc2 (ck : Option (Nat × List T)) (i : Nat) (c : AT) (e : AE) (st : Slots) (ts acc : List T) (y : T) (S : Sto) : R (List T) := if acc.length < sizeLine then lcL ck i c e st ts (acc ++ [y]) S else .bad
noncomputable def lc1 (ck : Option (Nat × List T)) (i : Nat) (c : AT) (e : AE) (st : Slots) (t : T) (ts acc : List T) (b : Bool) (S : Sto) : R (List T) := if b = true then ((e (st.set i (some t)) S).nox.bind (lc2 ck i c e st ts acc)) else lcL ck i c e st ts acc S
theorem lcL_cons (ck : Option (Nat × List T)) (i : Nat) (c : AT) (e : AE) (st : Slots) (t : T) (ts acc : List T) (S : Sto) (h : okC ck S) : lcL ck i c e st (t :: ts) acc S = (c (st.set i (some t)) S).nox.bind (lc1 ck i c e st t ts acc) := by
  rw [lcL, if_pos h]
  rfl
theorem lcL_nil (ck : Option (Nat × List T)) (i : Nat) (c : AT) (e : AE) (st : Slots) (acc : List T) (S : Sto) (h : okC ck S) : lcL ck i c e st [] acc S = .ok acc S := by rw [lcL, if_pos h]
theorem e_lc0 {acc : List T} : lcL none j ta a st [] acc S = .ok acc S := lcL_nil _ _ _ _ _ _ _ trivial
theorem e_lcc {acc : List T} : lcL none j ta a st (t :: ts) acc S = (ta (st.set j (some t)) S).nox.bind (lc1 none j ta a st t ts acc) := lcL_cons _ _ _ _ _ _ _ _ _ trivial
theorem e_lc1 {ck : Option (Nat × List T)} {acc : List T} {k : Bool} : lc1 ck j ta a st t ts acc k S = if k = true then ((a (st.set j (some t)) S).nox.bind (lc2 ck j ta a st ts acc)) else lcL ck j ta a st ts acc S := rfl
theorem e_lc2 {ck : Option (Nat × List T)} {acc : List T} : lc2 ck j ta a st ts acc t S = if acc.length < sizeLine then lcL ck j ta a st ts (acc ++ [t]) S else .bad := rfl
def pp1 (b : AE) (st : Slots) (x : T) (S : Sto) : R T := if (dOf S x).isSome = true then (b st S).bind (pop1F x) else .bad
theorem e_Pop1 : mPop1 a b st S = (a st S).bind (pp1 b st) := by first | rfl | (first | rfl | (unfold mPop1; congr 1; funext x S; unfold pp1; split <;> first | rfl | (congr 1; funext y S; rfl)))
theorem e_pp1 : pp1 b st t S = if (dOf S t).isSome = true then (b st S).bind (pop1F t) else .bad := rfl
def pq2 (x y u : T) (S : Sto) : R T := pop2F x y u S
def pq1 (z : AE) (st : Slots) (x y : T) (S : Sto) : R T := (z st S).bind (pq2 x y)
def pq0 (b z : AE) (st : Slots) (x : T) (S : Sto) : R T := if (dOf S x).isSome = true then (b st S).bind (pq1 z st x) else .bad
theorem e_Pop2 : mPop2 a b z st S = (a st S).bind (pq0 b z st) := by first | rfl | (first | rfl | (unfold mPop2; congr 1; funext x S; unfold pq0; split <;> first | rfl | (congr 1; funext y S; unfold pq1; congr 1; funext u S; rfl)))
theorem e_pq0 : pq0 b z st t S = if (dOf S t).isSome = true then (b st S).bind (pq1 z st t) else .bad := rfl
theorem e_pq1 : pq1 z st t u S = (z st S).bind (pq2 t u) := rfl
theorem e_pq2 {v : T} : pq2 t u v S = pop2F t u v S := rfl
def popG (S : Sto) (n : Nat) (y : T) (ps : List (T × T)) (d : R T) : Option T → R T
  | some t => .ok t (S.set n (.dct false (dropD y ps)))
  | none => d
def popDO (S : Sto) (n : Nat) (y : T) (d : R T) : Option O → R T
  | some (.dct false ps) => if keyOk false y = true then popG S n y ps d (getT y ps) else .bad
  | _ => .bad
theorem e_pop1R : pop1F (.ref n) u S = popDO S n u .bad S[n]? := by unfold pop1F popDO popG; rfl
theorem e_pop2R {v : T} : pop2F (.ref n) u v S = popDO S n u (.ok v S) S[n]? := by unfold pop2F popDO popG; rfl
theorem e_popDO {ps : List (T × T)} {d : R T} : popDO S n u d (some (.dct false ps)) = if keyOk false u = true then popG S n u ps d (getT u ps) else .bad := rfl
theorem e_popGs {ps : List (T × T)} {d : R T} : popG S n u ps d (some t) = .ok t (S.set n (.dct false (dropD u ps))) := rfl
theorem e_popGn {ps : List (T × T)} {d : R T} : popG S n u ps d none = d := rfl
def srtPK (fz : Bool) (S : Sto) (l : List (Int × Int)) : R T := mkL fz ((sortP l).map prT) S
theorem e_srtPK {l : List (Int × Int)} : srtPK fz S l = mkL fz ((sortP l).map prT) S := rfl
theorem e_sortP : opSortP fz [t] S = pget ((lkL S t).bind prsOf) (srtPK fz S) := by simp only [opSortP]; cases (lkL S t).bind prsOf <;> rfl
end
theorem opEq_dat {x y : T} {S : Sto} (hx : dat x = true) (hy : dat y = true) (hd : dep x ≤ 60 ∨ dep y ≤ 60) : opEq x y S = .ok (.bl (eqT x y)) S := by
  have vx : vw S x = x := if_pos hx
  have vy : vw S y = y := if_pos hy
  unfold opEq
  rw [vx, vy, if_pos ⟨hx, hy, hd⟩]
theorem opNe_dat {x y : T} {S : Sto} (hx : dat x = true) (hy : dat y = true) (hd : dep x ≤ 60 ∨ dep y ≤ 60) : opNe x y S = .ok (.bl (!eqT x y)) S := by
  have vx : vw S x = x := if_pos hx
  have vy : vw S y = y := if_pos hy
  unfold opNe
  rw [vx, vy, if_pos ⟨hx, hy, hd⟩]
theorem opIn_dat {x y : T} {l : List T} {S : Sto} (hy : itemsOf y = some l) (hx : dat x = true) (hl : dats l = true) (hd : dep x ≤ 60 ∨ deps l ≤ 60) : opIn x y S = .ok (.bl (l.any fun z => eqT z x)) S := by
  have vx : vw S x = x := if_pos hx
  have dy : dat y = true := by cases y <;> simp [itemsOf] at hy <;> subst hy <;> simpa [dat] using hl
  have vy : vw S y = y := if_pos dy
  unfold opIn
  rw [vx, vy, hy]
  simp only
  rw [if_pos ⟨hx, hl, hd⟩]
theorem opNin_dat {x y : T} {l : List T} {S : Sto} (hy : itemsOf y = some l) (hx : dat x = true) (hl : dats l = true) (hd : dep x ≤ 60 ∨ deps l ≤ 60) : opNin x y S = .ok (.bl (!l.any fun z => eqT z x)) S := by
  have vx : vw S x = x := if_pos hx
  have dy : dat y = true := by cases y <;> simp [itemsOf] at hy <;> subst hy <;> simpa [dat] using hl
  have vy : vw S y = y := if_pos dy
  unfold opNin
  rw [vx, vy, hy]
  simp only
  rw [if_pos ⟨hx, hl, hd⟩]
def eqTs : List T → List T → Bool
  | [], [] => true
  | x :: xs, y :: ys => eqT x y && eqTs xs ys
  | _, _ => false
theorem eqAll_eq : ∀ xs ys : List T, PyData.eqvAll (toDs xs) (toDs ys) = eqTs xs ys
  | [], [] => by simp [toDs, PyData.eqvAll, eqTs]
  | [], _ :: _ => by simp [toDs, PyData.eqvAll, eqTs]
  | _ :: _, [] => by simp [toDs, PyData.eqvAll, eqTs]
  | x :: xs, y :: ys => by simp [toDs, PyData.eqvAll, eqTs, eqAll_eq xs ys, eqT]
theorem str_beq {a b : String} : (Str.ofString a == Str.ofString b) = decide (a = b) := by
  rw [Bool.eq_iff_iff]; simp [ofString_iff]

theorem q_non_non : eqT (.non) (.non) = true := by simp [eqT, toD, PyData.eqv, eqAll_eq, str_beq]
theorem q_non_bl {r : Bool} : eqT (.non) (.bl r) = false := by simp [eqT, toD, PyData.eqv, eqAll_eq, str_beq]
theorem q_non_int {r : Int} : eqT (.non) (.int r) = false := by simp [eqT, toD, PyData.eqv, eqAll_eq, str_beq]
theorem q_non_str {r : String} : eqT (.non) (.str r) = false := by simp [eqT, toD, PyData.eqv, eqAll_eq, str_beq]
theorem q_non_tup {r : List T} : eqT (.non) (.tup r) = false := by simp [eqT, toD, PyData.eqv, eqAll_eq, str_beq]
theorem q_non_tupk {r : List T} : eqT (.non) (.tupk r) = false := by simp [eqT, toD, PyData.eqv, eqAll_eq, str_beq]
theorem q_non_lst {r : List T} : eqT (.non) (.lst r) = false := by simp [eqT, toD, PyData.eqv, eqAll_eq, str_beq]
theorem q_non_scr {r : List T} : eqT (.non) (.scr r) = false := by simp [eqT, toD, PyData.eqv, eqAll_eq, str_beq]
theorem q_bl_non {p : Bool}  : eqT (.bl p) (.non) = false := by simp [eqT, toD, PyData.eqv, eqAll_eq, str_beq]
theorem q_bl_bl {p : Bool} {r : Bool} : eqT (.bl p) (.bl r) = decide (p = r) := by cases p <;> cases r <;> simp [eqT, toD, PyData.eqv]
theorem q_bl_int {p : Bool} {r : Int} : eqT (.bl p) (.int r) = decide ((if p = true then (1 : Int) else 0) = r) := by simp [eqT, toD, PyData.eqv]; rw [Bool.eq_iff_iff]; simp
theorem q_bl_str {p : Bool} {r : String} : eqT (.bl p) (.str r) = false := by simp [eqT, toD, PyData.eqv, eqAll_eq, str_beq]
theorem q_bl_tup {p : Bool} {r : List T} : eqT (.bl p) (.tup r) = false := by simp [eqT, toD, PyData.eqv, eqAll_eq, str_beq]
theorem q_bl_tupk {p : Bool} {r : List T} : eqT (.bl p) (.tupk r) = false := by simp [eqT, toD, PyData.eqv, eqAll_eq, str_beq]
theorem q_bl_lst {p : Bool} {r : List T} : eqT (.bl p) (.lst r) = false := by simp [eqT, toD, PyData.eqv, eqAll_eq, str_beq]
theorem q_bl_scr {p : Bool} {r : List T} : eqT (.bl p) (.scr r) = false := by simp [eqT, toD, PyData.eqv, eqAll_eq, str_beq]
theorem q_int_non {p : Int}  : eqT (.int p) (.non) = false := by simp [eqT, toD, PyData.eqv, eqAll_eq, str_beq]
theorem q_int_bl {p : Int} {r : Bool} : eqT (.int p) (.bl r) = decide (p = (if r = true then (1 : Int) else 0)) := by simp [eqT, toD, PyData.eqv]; rw [Bool.eq_iff_iff]; simp
theorem q_int_int {p : Int} {r : Int} : eqT (.int p) (.int r) = decide (p = r) := by simp [eqT, toD, PyData.eqv]; rw [Bool.eq_iff_iff]; simp
theorem q_int_str {p : Int} {r : String} : eqT (.int p) (.str r) = false := by simp [eqT, toD, PyData.eqv, eqAll_eq, str_beq]
theorem q_int_tup {p : Int} {r : List T} : eqT (.int p) (.tup r) = false := by simp [eqT, toD, PyData.eqv, eqAll_eq, str_beq]
theorem q_int_tupk {p : Int} {r : List T} : eqT (.int p) (.tupk r) = false := by simp [eqT, toD, PyData.eqv, eqAll_eq, str_beq]
theorem q_int_lst {p : Int} {r : List T} : eqT (.int p) (.lst r) = false := by simp [eqT, toD, PyData.eqv, eqAll_eq, str_beq]
theorem q_int_scr {p : Int} {r : List T} : eqT (.int p) (.scr r) = false := by simp [eqT, toD, PyData.eqv, eqAll_eq, str_beq]
theorem q_str_non {p : String}  : eqT (.str p) (.non) = false := by simp [eqT, toD, PyData.eqv, eqAll_eq, str_beq]
theorem q_str_bl {p : String} {r : Bool} : eqT (.str p) (.bl r) = false := by simp [eqT, toD, PyData.eqv, eqAll_eq, str_beq]
theorem q_str_int {p : String} {r : Int} : eqT (.str p) (.int r) = false := by simp [eqT, toD, PyData.eqv, eqAll_eq, str_beq]
theorem q_str_str {p : String} {r : String} : eqT (.str p) (.str r) = decide (p = r) := by simp [eqT, toD, PyData.eqv, eqAll_eq, str_beq]
theorem q_str_tup {p : String} {r : List T} : eqT (.str p) (.tup r) = false := by simp [eqT, toD, PyData.eqv, eqAll_eq, str_beq]
theorem q_str_tupk {p : String} {r : List T} : eqT (.str p) (.tupk r) = false := by simp [eqT, toD, PyData.eqv, eqAll_eq, str_beq]
theorem q_str_lst {p : String} {r : List T} : eqT (.str p) (.lst r) = false := by simp [eqT, toD, PyData.eqv, eqAll_eq, str_beq]
theorem q_str_scr {p : String} {r : List T} : eqT (.str p) (.scr r) = false := by simp [eqT, toD, PyData.eqv, eqAll_eq, str_beq]
theorem q_tup_non {p : List T}  : eqT (.tup p) (.non) = false := by simp [eqT, toD, PyData.eqv, eqAll_eq, str_beq]
theorem q_tup_bl {p : List T} {r : Bool} : eqT (.tup p) (.bl r) = false := by simp [eqT, toD, PyData.eqv, eqAll_eq, str_beq]
theorem q_tup_int {p : List T} {r : Int} : eqT (.tup p) (.int r) = false := by simp [eqT, toD, PyData.eqv, eqAll_eq, str_beq]
theorem q_tup_str {p : List T} {r : String} : eqT (.tup p) (.str r) = false := by simp [eqT, toD, PyData.eqv, eqAll_eq, str_beq]
theorem q_tup_tup {p : List T} {r : List T} : eqT (.tup p) (.tup r) = eqTs p r := by simp [eqT, toD, PyData.eqv, eqAll_eq, str_beq]
theorem q_tup_tupk {p : List T} {r : List T} : eqT (.tup p) (.tupk r) = eqTs p r := by simp [eqT, toD, PyData.eqv, eqAll_eq, str_beq]
theorem q_tup_lst {p : List T} {r : List T} : eqT (.tup p) (.lst r) = false := by simp [eqT, toD, PyData.eqv, eqAll_eq, str_beq]
theorem q_tup_scr {p : List T} {r : List T} : eqT (.tup p) (.scr r) = false := by simp [eqT, toD, PyData.eqv, eqAll_eq, str_beq]
theorem q_tupk_non {p : List T}  : eqT (.tupk p) (.non) = false := by simp [eqT, toD, PyData.eqv, eqAll_eq, str_beq]
theorem q_tupk_bl {p : List T} {r : Bool} : eqT (.tupk p) (.bl r) = false := by simp [eqT, toD, PyData.eqv, eqAll_eq, str_beq]
theorem q_tupk_int {p : List T} {r : Int} : eqT (.tupk p) (.int r) = false := by simp [eqT, toD, PyData.eqv, eqAll_eq, str_beq]
theorem q_tupk_str {p : List T} {r : String} : eqT (.tupk p) (.str r) = false := by simp [eqT, toD, PyData.eqv, eqAll_eq, str_beq]
theorem q_tupk_tup {p : List T} {r : List T} : eqT (.tupk p) (.tup r) = eqTs p r := by simp [eqT, toD, PyData.eqv, eqAll_eq, str_beq]
theorem q_tupk_tupk {p : List T} {r : List T} : eqT (.tupk p) (.tupk r) = eqTs p r := by simp [eqT, toD, PyData.eqv, eqAll_eq, str_beq]
theorem q_tupk_lst {p : List T} {r : List T} : eqT (.tupk p) (.lst r) = false := by simp [eqT, toD, PyData.eqv, eqAll_eq, str_beq]
theorem q_tupk_scr {p : List T} {r : List T} : eqT (.tupk p) (.scr r) = false := by simp [eqT, toD, PyData.eqv, eqAll_eq, str_beq]
theorem q_lst_non {p : List T}  : eqT (.lst p) (.non) = false := by simp [eqT, toD, PyData.eqv, eqAll_eq, str_beq]
theorem q_lst_bl {p : List T} {r : Bool} : eqT (.lst p) (.bl r) = false := by simp [eqT, toD, PyData.eqv, eqAll_eq, str_beq]
theorem q_lst_int {p : List T} {r : Int} : eqT (.lst p) (.int r) = false := by simp [eqT, toD, PyData.eqv, eqAll_eq, str_beq]
theorem q_lst_str {p : List T} {r : String} : eqT (.lst p) (.str r) = false := by simp [eqT, toD, PyData.eqv, eqAll_eq, str_beq]
theorem q_lst_tup {p : List T} {r : List T} : eqT (.lst p) (.tup r) = false := by simp [eqT, toD, PyData.eqv, eqAll_eq, str_beq]
theorem q_lst_tupk {p : List T} {r : List T} : eqT (.lst p) (.tupk r) = false := by simp [eqT, toD, PyData.eqv, eqAll_eq, str_beq]
theorem q_lst_lst {p : List T} {r : List T} : eqT (.lst p) (.lst r) = eqTs p r := by simp [eqT, toD, PyData.eqv, eqAll_eq, str_beq]
theorem q_lst_scr {p : List T} {r : List T} : eqT (.lst p) (.scr r) = eqTs p r := by simp [eqT, toD, PyData.eqv, eqAll_eq, str_beq]
theorem q_scr_non {p : List T}  : eqT (.scr p) (.non) = false := by simp [eqT, toD, PyData.eqv, eqAll_eq, str_beq]
theorem q_scr_bl {p : List T} {r : Bool} : eqT (.scr p) (.bl r) = false := by simp [eqT, toD, PyData.eqv, eqAll_eq, str_beq]
theorem q_scr_int {p : List T} {r : Int} : eqT (.scr p) (.int r) = false := by simp [eqT, toD, PyData.eqv, eqAll_eq, str_beq]
theorem q_scr_str {p : List T} {r : String} : eqT (.scr p) (.str r) = false := by simp [eqT, toD, PyData.eqv, eqAll_eq, str_beq]
theorem q_scr_tup {p : List T} {r : List T} : eqT (.scr p) (.tup r) = false := by simp [eqT, toD, PyData.eqv, eqAll_eq, str_beq]
theorem q_scr_tupk {p : List T} {r : List T} : eqT (.scr p) (.tupk r) = false := by simp [eqT, toD, PyData.eqv, eqAll_eq, str_beq]
theorem q_scr_lst {p : List T} {r : List T} : eqT (.scr p) (.lst r) = eqTs p r := by simp [eqT, toD, PyData.eqv, eqAll_eq, str_beq]
theorem q_scr_scr {p : List T} {r : List T} : eqT (.scr p) (.scr r) = eqTs p r := by simp [eqT, toD, PyData.eqv, eqAll_eq, str_beq]
theorem q_nil : eqTs [] [] = true := rfl
theorem q_cons {x y : T} {xs ys : List T} : eqTs (x :: xs) (y :: ys) = (eqT x y && eqTs xs ys) := rfl
theorem q_nilc {y : T} {ys : List T} : eqTs [] (y :: ys) = false := rfl
theorem q_consn {x : T} {xs : List T} : eqTs (x :: xs) [] = false := rfl
theorem opEq_non_non {S : Sto} : opEq (.non) (.non) S = .ok (.bl (eqT (.non) (.non))) S := opEq_dat rfl rfl (.inl (show (0 : Nat) ≤ 60 by omega))
theorem opNe_non_non {S : Sto} : opNe (.non) (.non) S = .ok (.bl (!eqT (.non) (.non))) S := opNe_dat rfl rfl (.inl (show (0 : Nat) ≤ 60 by omega))
theorem opEq_non_bl {r : Bool} {S : Sto} : opEq (.non) (.bl r) S = .ok (.bl (eqT (.non) (.bl r))) S := opEq_dat rfl rfl (.inl (show (0 : Nat) ≤ 60 by omega))
theorem opNe_non_bl {r : Bool} {S : Sto} : opNe (.non) (.bl r) S = .ok (.bl (!eqT (.non) (.bl r))) S := opNe_dat rfl rfl (.inl (show (0 : Nat) ≤ 60 by omega))
theorem opEq_non_int {r : Int} {S : Sto} : opEq (.non) (.int r) S = .ok (.bl (eqT (.non) (.int r))) S := opEq_dat rfl rfl (.inl (show (0 : Nat) ≤ 60 by omega))
theorem opNe_non_int {r : Int} {S : Sto} : opNe (.non) (.int r) S = .ok (.bl (!eqT (.non) (.int r))) S := opNe_dat rfl rfl (.inl (show (0 : Nat) ≤ 60 by omega))
theorem opEq_non_str {r : String} {S : Sto} : opEq (.non) (.str r) S = .ok (.bl (eqT (.non) (.str r))) S := opEq_dat rfl rfl (.inl (show (0 : Nat) ≤ 60 by omega))
theorem opNe_non_str {r : String} {S : Sto} : opNe (.non) (.str r) S = .ok (.bl (!eqT (.non) (.str r))) S := opNe_dat rfl rfl (.inl (show (0 : Nat) ≤ 60 by omega))
theorem opEq_bl_non {p : Bool} {S : Sto} : opEq (.bl p) (.non) S = .ok (.bl (eqT (.bl p) (.non))) S := opEq_dat rfl rfl (.inl (show (0 : Nat) ≤ 60 by omega))
theorem opNe_bl_non {p : Bool} {S : Sto} : opNe (.bl p) (.non) S = .ok (.bl (!eqT (.bl p) (.non))) S := opNe_dat rfl rfl (.inl (show (0 : Nat) ≤ 60 by omega))
theorem opEq_bl_bl {p : Bool} {r : Bool} {S : Sto} : opEq (.bl p) (.bl r) S = .ok (.bl (eqT (.bl p) (.bl r))) S := opEq_dat rfl rfl (.inl (show (0 : Nat) ≤ 60 by omega))
theorem opNe_bl_bl {p : Bool} {r : Bool} {S : Sto} : opNe (.bl p) (.bl r) S = .ok (.bl (!eqT (.bl p) (.bl r))) S := opNe_dat rfl rfl (.inl (show (0 : Nat) ≤ 60 by omega))
theorem opEq_bl_int {p : Bool} {r : Int} {S : Sto} : opEq (.bl p) (.int r) S = .ok (.bl (eqT (.bl p) (.int r))) S := opEq_dat rfl rfl (.inl (show (0 : Nat) ≤ 60 by omega))
theorem opNe_bl_int {p : Bool} {r : Int} {S : Sto} : opNe (.bl p) (.int r) S = .ok (.bl (!eqT (.bl p) (.int r))) S := opNe_dat rfl rfl (.inl (show (0 : Nat) ≤ 60 by omega))
theorem opEq_bl_str {p : Bool} {r : String} {S : Sto} : opEq (.bl p) (.str r) S = .ok (.bl (eqT (.bl p) (.str r))) S := opEq_dat rfl rfl (.inl (show (0 : Nat) ≤ 60 by omega))
theorem opNe_bl_str {p : Bool} {r : String} {S : Sto} : opNe (.bl p) (.str r) S = .ok (.bl (!eqT (.bl p) (.str r))) S := opNe_dat rfl rfl (.inl (show (0 : Nat) ≤ 60 by omega))
theorem opEq_int_non {p : Int} {S : Sto} : opEq (.int p) (.non) S = .ok (.bl (eqT (.int p) (.non))) S := opEq_dat rfl rfl (.inl (show (0 : Nat) ≤ 60 by omega))
theorem opNe_int_non {p : Int} {S : Sto} : opNe (.int p) (.non) S = .ok (.bl (!eqT (.int p) (.non))) S := opNe_dat rfl rfl (.inl (show (0 : Nat) ≤ 60 by omega))
theorem opEq_int_bl {p : Int} {r : Bool} {S : Sto} : opEq (.int p) (.bl r) S = .ok (.bl (eqT (.int p) (.bl r))) S := opEq_dat rfl rfl (.inl (show (0 : Nat) ≤ 60 by omega))
theorem opNe_int_bl {p : Int} {r : Bool} {S : Sto} : opNe (.int p) (.bl r) S = .ok (.bl (!eqT (.int p) (.bl r))) S := opNe_dat rfl rfl (.inl (show (0 : Nat) ≤ 60 by omega))
theorem opEq_int_int {p : Int} {r : Int} {S : Sto} : opEq (.int p) (.int r) S = .ok (.bl (eqT (.int p) (.int r))) S := opEq_dat rfl rfl (.inl (show (0 : Nat) ≤ 60 by omega))
theorem opNe_int_int {p : Int} {r : Int} {S : Sto} : opNe (.int p) (.int r) S = .ok (.bl (!eqT (.int p) (.int r))) S := opNe_dat rfl rfl (.inl (show (0 : Nat) ≤ 60 by omega))
theorem opEq_int_str {p : Int} {r : String} {S : Sto} : opEq (.int p) (.str r) S = .ok (.bl (eqT (.int p) (.str r))) S := opEq_dat rfl rfl (.inl (show (0 : Nat) ≤ 60 by omega))
theorem opNe_int_str {p : Int} {r : String} {S : Sto} : opNe (.int p) (.str r) S = .ok (.bl (!eqT (.int p) (.str r))) S := opNe_dat rfl rfl (.inl (show (0 : Nat) ≤ 60 by omega))
theorem opEq_str_non {p : String} {S : Sto} : opEq (.str p) (.non) S = .ok (.bl (eqT (.str p) (.non))) S := opEq_dat rfl rfl (.inl (show (0 : Nat) ≤ 60 by omega))
theorem opNe_str_non {p : String} {S : Sto} : opNe (.str p) (.non) S = .ok (.bl (!eqT (.str p) (.non))) S := opNe_dat rfl rfl (.inl (show (0 : Nat) ≤ 60 by omega))
theorem opEq_str_bl {p : String} {r : Bool} {S : Sto} : opEq (.str p) (.bl r) S = .ok (.bl (eqT (.str p) (.bl r))) S := opEq_dat rfl rfl (.inl (show (0 : Nat) ≤ 60 by omega))
theorem opNe_str_bl {p : String} {r : Bool} {S : Sto} : opNe (.str p) (.bl r) S = .ok (.bl (!eqT (.str p) (.bl r))) S := opNe_dat rfl rfl (.inl (show (0 : Nat) ≤ 60 by omega))
theorem opEq_str_int {p : String} {r : Int} {S : Sto} : opEq (.str p) (.int r) S = .ok (.bl (eqT (.str p) (.int r))) S := opEq_dat rfl rfl (.inl (show (0 : Nat) ≤ 60 by omega))
theorem opNe_str_int {p : String} {r : Int} {S : Sto} : opNe (.str p) (.int r) S = .ok (.bl (!eqT (.str p) (.int r))) S := opNe_dat rfl rfl (.inl (show (0 : Nat) ≤ 60 by omega))
theorem opEq_str_str {p : String} {r : String} {S : Sto} : opEq (.str p) (.str r) S = .ok (.bl (eqT (.str p) (.str r))) S := opEq_dat rfl rfl (.inl (show (0 : Nat) ≤ 60 by omega))
theorem opNe_str_str {p : String} {r : String} {S : Sto} : opNe (.str p) (.str r) S = .ok (.bl (!eqT (.str p) (.str r))) S := opNe_dat rfl rfl (.inl (show (0 : Nat) ≤ 60 by omega))
theorem opEq_non_tup {ts : List T} {S : Sto} (h : dats ts = true) : opEq (.non) (.tup ts) S = .ok (.bl false) S := by rw [opEq_dat (by rfl) (by simpa [dat] using h) (.inl (by show (0 : Nat) ≤ 60; omega))]; simp [q_non_tup]
theorem opEq_tup_non {ts : List T} {S : Sto} (h : dats ts = true) : opEq (.tup ts) (.non) S = .ok (.bl false) S := by rw [opEq_dat (by simpa [dat] using h) (by rfl) (.inr (by show (0 : Nat) ≤ 60; omega))]; simp [q_tup_non]
theorem opNe_non_tup {ts : List T} {S : Sto} (h : dats ts = true) : opNe (.non) (.tup ts) S = .ok (.bl true) S := by rw [opNe_dat (by rfl) (by simpa [dat] using h) (.inl (by show (0 : Nat) ≤ 60; omega))]; simp [q_non_tup]
theorem opNe_tup_non {ts : List T} {S : Sto} (h : dats ts = true) : opNe (.tup ts) (.non) S = .ok (.bl true) S := by rw [opNe_dat (by simpa [dat] using h) (by rfl) (.inr (by show (0 : Nat) ≤ 60; omega))]; simp [q_tup_non]
theorem opEq_non_tupk {ts : List T} {S : Sto} (h : dats ts = true) : opEq (.non) (.tupk ts) S = .ok (.bl false) S := by rw [opEq_dat (by rfl) (by simpa [dat] using h) (.inl (by show (0 : Nat) ≤ 60; omega))]; simp [q_non_tupk]
theorem opEq_tupk_non {ts : List T} {S : Sto} (h : dats ts = true) : opEq (.tupk ts) (.non) S = .ok (.bl false) S := by rw [opEq_dat (by simpa [dat] using h) (by rfl) (.inr (by show (0 : Nat) ≤ 60; omega))]; simp [q_tupk_non]
theorem opNe_non_tupk {ts : List T} {S : Sto} (h : dats ts = true) : opNe (.non) (.tupk ts) S = .ok (.bl true) S := by rw [opNe_dat (by rfl) (by simpa [dat] using h) (.inl (by show (0 : Nat) ≤ 60; omega))]; simp [q_non_tupk]
theorem opNe_tupk_non {ts : List T} {S : Sto} (h : dats ts = true) : opNe (.tupk ts) (.non) S = .ok (.bl true) S := by rw [opNe_dat (by simpa [dat] using h) (by rfl) (.inr (by show (0 : Nat) ≤ 60; omega))]; simp [q_tupk_non]
theorem opEq_non_lst {ts : List T} {S : Sto} (h : dats ts = true) : opEq (.non) (.lst ts) S = .ok (.bl false) S := by rw [opEq_dat (by rfl) (by simpa [dat] using h) (.inl (by show (0 : Nat) ≤ 60; omega))]; simp [q_non_lst]
theorem opEq_lst_non {ts : List T} {S : Sto} (h : dats ts = true) : opEq (.lst ts) (.non) S = .ok (.bl false) S := by rw [opEq_dat (by simpa [dat] using h) (by rfl) (.inr (by show (0 : Nat) ≤ 60; omega))]; simp [q_lst_non]
theorem opNe_non_lst {ts : List T} {S : Sto} (h : dats ts = true) : opNe (.non) (.lst ts) S = .ok (.bl true) S := by rw [opNe_dat (by rfl) (by simpa [dat] using h) (.inl (by show (0 : Nat) ≤ 60; omega))]; simp [q_non_lst]
theorem opNe_lst_non {ts : List T} {S : Sto} (h : dats ts = true) : opNe (.lst ts) (.non) S = .ok (.bl true) S := by rw [opNe_dat (by simpa [dat] using h) (by rfl) (.inr (by show (0 : Nat) ≤ 60; omega))]; simp [q_lst_non]
theorem opEq_bl_tup {p : Bool} {ts : List T} {S : Sto} (h : dats ts = true) : opEq (.bl p) (.tup ts) S = .ok (.bl false) S := by rw [opEq_dat (by rfl) (by simpa [dat] using h) (.inl (by show (0 : Nat) ≤ 60; omega))]; simp [q_bl_tup]
theorem opEq_tup_bl {p : Bool} {ts : List T} {S : Sto} (h : dats ts = true) : opEq (.tup ts) (.bl p) S = .ok (.bl false) S := by rw [opEq_dat (by simpa [dat] using h) (by rfl) (.inr (by show (0 : Nat) ≤ 60; omega))]; simp [q_tup_bl]
theorem opNe_bl_tup {p : Bool} {ts : List T} {S : Sto} (h : dats ts = true) : opNe (.bl p) (.tup ts) S = .ok (.bl true) S := by rw [opNe_dat (by rfl) (by simpa [dat] using h) (.inl (by show (0 : Nat) ≤ 60; omega))]; simp [q_bl_tup]
theorem opNe_tup_bl {p : Bool} {ts : List T} {S : Sto} (h : dats ts = true) : opNe (.tup ts) (.bl p) S = .ok (.bl true) S := by rw [opNe_dat (by simpa [dat] using h) (by rfl) (.inr (by show (0 : Nat) ≤ 60; omega))]; simp [q_tup_bl]
theorem opEq_bl_tupk {p : Bool} {ts : List T} {S : Sto} (h : dats ts = true) : opEq (.bl p) (.tupk ts) S = .ok (.bl false) S := by rw [opEq_dat (by rfl) (by simpa [dat] using h) (.inl (by show (0 : Nat) ≤ 60; omega))]; simp [q_bl_tupk]
theorem opEq_tupk_bl {p : Bool} {ts : List T} {S : Sto} (h : dats ts = true) : opEq (.tupk ts) (.bl p) S = .ok (.bl false) S := by rw [opEq_dat (by simpa [dat] using h) (by rfl) (.inr (by show (0 : Nat) ≤ 60; omega))]; simp [q_tupk_bl]
theorem opNe_bl_tupk {p : Bool} {ts : List T} {S : Sto} (h : dats ts = true) : opNe (.bl p) (.tupk ts) S = .ok (.bl true) S := by rw [opNe_dat (by rfl) (by simpa [dat] using h) (.inl (by show (0 : Nat) ≤ 60; omega))]; simp [q_bl_tupk]
theorem opNe_tupk_bl {p : Bool} {ts : List T} {S : Sto} (h : dats ts = true) : opNe (.tupk ts) (.bl p) S = .ok (.bl true) S := by rw [opNe_dat (by simpa [dat] using h) (by rfl) (.inr (by show (0 : Nat) ≤ 60; omega))]; simp [q_tupk_bl]
theorem opEq_bl_lst {p : Bool} {ts : List T} {S : Sto} (h : dats ts = true) : opEq (.bl p) (.lst ts) S = .ok (.bl false) S := by rw [opEq_dat (by rfl) (by simpa [dat] using h) (.inl (by show (0 : Nat) ≤ 60; omega))]; simp [q_bl_lst]
theorem opEq_lst_bl {p : Bool} {ts : List T} {S : Sto} (h : dats ts = true) : opEq (.lst ts) (.bl p) S = .ok (.bl false) S := by rw [opEq_dat (by simpa [dat] using h) (by rfl) (.inr (by show (0 : Nat) ≤ 60; omega))]; simp [q_lst_bl]
theorem opNe_bl_lst {p : Bool} {ts : List T} {S : Sto} (h : dats ts = true) : opNe (.bl p) (.lst ts) S = .ok (.bl true) S := by rw [opNe_dat (by rfl) (by simpa [dat] using h) (.inl (by show (0 : Nat) ≤ 60; omega))]; simp [q_bl_lst]
theorem opNe_lst_bl {p : Bool} {ts : List T} {S : Sto} (h : dats ts = true) : opNe (.lst ts) (.bl p) S = .ok (.bl true) S := by rw [opNe_dat (by simpa [dat] using h) (by rfl) (.inr (by show (0 : Nat) ≤ 60; omega))]; simp [q_lst_bl]
theorem opEq_int_tup {p : Int} {ts : List T} {S : Sto} (h : dats ts = true) : opEq (.int p) (.tup ts) S = .ok (.bl false) S := by rw [opEq_dat (by rfl) (by simpa [dat] using h) (.inl (by show (0 : Nat) ≤ 60; omega))]; simp [q_int_tup]
theorem opEq_tup_int {p : Int} {ts : List T} {S : Sto} (h : dats ts = true) : opEq (.tup ts) (.int p) S = .ok (.bl false) S := by rw [opEq_dat (by simpa [dat] using h) (by rfl) (.inr (by show (0 : Nat) ≤ 60; omega))]; simp [q_tup_int]
theorem opNe_int_tup {p : Int} {ts : List T} {S : Sto} (h : dats ts = true) : opNe (.int p) (.tup ts) S = .ok (.bl true) S := by rw [opNe_dat (by rfl) (by simpa [dat] using h) (.inl (by show (0 : Nat) ≤ 60; omega))]; simp [q_int_tup]
theorem opNe_tup_int {p : Int} {ts : List T} {S : Sto} (h : dats ts = true) : opNe (.tup ts) (.int p) S = .ok (.bl true) S := by rw [opNe_dat (by simpa [dat] using h) (by rfl) (.inr (by show (0 : Nat) ≤ 60; omega))]; simp [q_tup_int]
theorem opEq_int_tupk {p : Int} {ts : List T} {S : Sto} (h : dats ts = true) : opEq (.int p) (.tupk ts) S = .ok (.bl false) S := by rw [opEq_dat (by rfl) (by simpa [dat] using h) (.inl (by show (0 : Nat) ≤ 60; omega))]; simp [q_int_tupk]
theorem opEq_tupk_int {p : Int} {ts : List T} {S : Sto} (h : dats ts = true) : opEq (.tupk ts) (.int p) S = .ok (.bl false) S := by rw [opEq_dat (by simpa [dat] using h) (by rfl) (.inr (by show (0 : Nat) ≤ 60; omega))]; simp [q_tupk_int]
theorem opNe_int_tupk {p : Int} {ts : List T} {S : Sto} (h : dats ts = true) : opNe (.int p) (.tupk ts) S = .ok (.bl true) S := by rw [opNe_dat (by rfl) (by simpa [dat] using h) (.inl (by show (0 : Nat) ≤ 60; omega))]; simp [q_int_tupk]
theorem opNe_tupk_int {p : Int} {ts : List T} {S : Sto} (h : dats ts = true) : opNe (.tupk ts) (.int p) S = .ok (.bl true) S := by rw [opNe_dat (by simpa [dat] using h) (by rfl) (.inr (by show (0 : Nat) ≤ 60; omega))]; simp [q_tupk_int]
theorem opEq_int_lst {p : Int} {ts : List T} {S : Sto} (h : dats ts = true) : opEq (.int p) (.lst ts) S = .ok (.bl false) S := by rw [opEq_dat (by rfl) (by simpa [dat] using h) (.inl (by show (0 : Nat) ≤ 60; omega))]; simp [q_int_lst]
theorem opEq_lst_int {p : Int} {ts : List T} {S : Sto} (h : dats ts = true) : opEq (.lst ts) (.int p) S = .ok (.bl false) S := by rw [opEq_dat (by simpa [dat] using h) (by rfl) (.inr (by show (0 : Nat) ≤ 60; omega))]; simp [q_lst_int]
theorem opNe_int_lst {p : Int} {ts : List T} {S : Sto} (h : dats ts = true) : opNe (.int p) (.lst ts) S = .ok (.bl true) S := by rw [opNe_dat (by rfl) (by simpa [dat] using h) (.inl (by show (0 : Nat) ≤ 60; omega))]; simp [q_int_lst]
theorem opNe_lst_int {p : Int} {ts : List T} {S : Sto} (h : dats ts = true) : opNe (.lst ts) (.int p) S = .ok (.bl true) S := by rw [opNe_dat (by simpa [dat] using h) (by rfl) (.inr (by show (0 : Nat) ≤ 60; omega))]; simp [q_lst_int]
theorem opEq_str_tup {p : String} {ts : List T} {S : Sto} (h : dats ts = true) : opEq (.str p) (.tup ts) S = .ok (.bl false) S := by rw [opEq_dat (by rfl) (by simpa [dat] using h) (.inl (by show (0 : Nat) ≤ 60; omega))]; simp [q_str_tup]
theorem opEq_tup_str {p : String} {ts : List T} {S : Sto} (h : dats ts = true) : opEq (.tup ts) (.str p) S = .ok (.bl false) S := by rw [opEq_dat (by simpa [dat] using h) (by rfl) (.inr (by show (0 : Nat) ≤ 60; omega))]; simp [q_tup_str]
theorem opNe_str_tup {p : String} {ts : List T} {S : Sto} (h : dats ts = true) : opNe (.str p) (.tup ts) S = .ok (.bl true) S := by rw [opNe_dat (by rfl) (by simpa [dat] using h) (.inl (by show (0 : Nat) ≤ 60; omega))]; simp [q_str_tup]
theorem opNe_tup_str {p : String} {ts : List T} {S : Sto} (h : dats ts = true) : opNe (.tup ts) (.str p) S = .ok (.bl true) S := by rw [opNe_dat (by simpa [dat] using h) (by rfl) (.inr (by show (0 : Nat) ≤ 60; omega))]; simp [q_tup_str]
theorem opEq_str_tupk {p : String} {ts : List T} {S : Sto} (h : dats ts = true) : opEq (.str p) (.tupk ts) S = .ok (.bl false) S := by rw [opEq_dat (by rfl) (by simpa [dat] using h) (.inl (by show (0 : Nat) ≤ 60; omega))]; simp [q_str_tupk]
theorem opEq_tupk_str {p : String} {ts : List T} {S : Sto} (h : dats ts = true) : opEq (.tupk ts) (.str p) S = .ok (.bl false) S := by rw [opEq_dat (by simpa [dat] using h) (by rfl) (.inr (by show (0 : Nat) ≤ 60; omega))]; simp [q_tupk_str]
theorem opNe_str_tupk {p : String} {ts : List T} {S : Sto} (h : dats ts = true) : opNe (.str p) (.tupk ts) S = .ok (.bl true) S := by rw [opNe_dat (by rfl) (by simpa [dat] using h) (.inl (by show (0 : Nat) ≤ 60; omega))]; simp [q_str_tupk]
theorem opNe_tupk_str {p : String} {ts : List T} {S : Sto} (h : dats ts = true) : opNe (.tupk ts) (.str p) S = .ok (.bl true) S := by rw [opNe_dat (by simpa [dat] using h) (by rfl) (.inr (by show (0 : Nat) ≤ 60; omega))]; simp [q_tupk_str]
theorem opEq_str_lst {p : String} {ts : List T} {S : Sto} (h : dats ts = true) : opEq (.str p) (.lst ts) S = .ok (.bl false) S := by rw [opEq_dat (by rfl) (by simpa [dat] using h) (.inl (by show (0 : Nat) ≤ 60; omega))]; simp [q_str_lst]
theorem opEq_lst_str {p : String} {ts : List T} {S : Sto} (h : dats ts = true) : opEq (.lst ts) (.str p) S = .ok (.bl false) S := by rw [opEq_dat (by simpa [dat] using h) (by rfl) (.inr (by show (0 : Nat) ≤ 60; omega))]; simp [q_lst_str]
theorem opNe_str_lst {p : String} {ts : List T} {S : Sto} (h : dats ts = true) : opNe (.str p) (.lst ts) S = .ok (.bl true) S := by rw [opNe_dat (by rfl) (by simpa [dat] using h) (.inl (by show (0 : Nat) ≤ 60; omega))]; simp [q_str_lst]
theorem opNe_lst_str {p : String} {ts : List T} {S : Sto} (h : dats ts = true) : opNe (.lst ts) (.str p) S = .ok (.bl true) S := by rw [opNe_dat (by simpa [dat] using h) (by rfl) (.inr (by show (0 : Nat) ≤ 60; omega))]; simp [q_lst_str]
theorem sizeLine_lit : sizeLine = 16777216 := rfl
theorem line_small {n : Nat} (h : n ≤ 100000) : (n ≤ sizeLine) = True := eq_true (Nat.le_trans h (by decide))
theorem atI_nat {α : Type} (l : List α) (k : Nat) : atI l (k : Int) = l[k]? := by
  unfold atI ixN
  rw [if_pos (Int.natCast_nonneg k)]
  by_cases h : k < l.length
  · rw [if_pos (by omega)]; rfl
  · rw [if_neg (by omega), List.getElem?_eq_none (by omega)]; rfl
theorem ixN_nat (n k : Nat) : ixN n (k : Int) = if k < n then some k else none := by
  unfold ixN
  rw [if_pos (Int.natCast_nonneg k)]
  by_cases h : k < n
  · rw [if_pos h, if_pos (by omega)]; rfl
  · rw [if_neg h, if_neg (by omega)]
theorem ixN_lit (n k : Nat) : ixN n (no_index (OfNat.ofNat k) : Int) = if k < n then some k else none := ixN_nat n k
theorem atI_lit {α : Type} (l : List α) (k : Nat) : atI l (no_index (OfNat.ofNat k) : Int) = l[k]? := atI_nat l k
theorem atI_m1 {α : Type} (l : List α) : atI l (-1) = l[l.length - 1]? := by
  unfold atI ixN
  rw [if_neg (by decide)]
  cases l with
  | nil => rfl
  | cons x xs =>
    rw [if_pos (by simp; omega)]
    show (x :: xs)[(-1 + ((x :: xs).length : Int)).toNat]? = _
    congr 1
    simp; omega
theorem dep_zero {t : T} (h : dep t = 0) : dep t ≤ 60 := by omega
theorem lcL_pure {ck : Option (Nat × List T)} {i : Nat} {c : AT} {e : AE} {st : Slots} {S : Sto} {p : T → Bool} {f : T → T} (hk : okC ck S) : ∀ {l acc : List T}, (∀ t ∈ l, c (st.set i (some t)) S = .ok (p t) S) → (∀ t ∈ l, p t = true → e (st.set i (some t)) S = .ok (f t) S) → acc.length + l.length ≤ sizeLine → lcL ck i c e st l acc S = .ok (acc ++ (l.filter p).map f) S
  | [], acc, _, _, _ => by rw [lcL_nil _ _ _ _ _ _ _ hk]; simp
  | t :: l, acc, hc, he, hl => by
    have hl' : acc.length + (l.length + 1) ≤ sizeLine := hl
    rw [lcL_cons _ _ _ _ _ _ _ _ _ hk, hc t List.mem_cons_self]
    show lc1 ck i c e st t l acc (p t) S = _
    unfold lc1
    cases q : p t with
    | false =>
      rw [if_neg Bool.false_ne_true, lcL_pure hk (fun u hu => hc u (List.mem_cons_of_mem _ hu)) (fun u hu => he u (List.mem_cons_of_mem _ hu)) (by omega), List.filter_cons_of_neg (by simp [q])]
    | true =>
      rw [if_pos rfl, he t List.mem_cons_self q]
      show lc2 ck i c e st l acc (f t) S = _
      unfold lc2
      rw [if_pos (by omega), lcL_pure hk (fun u hu => hc u (List.mem_cons_of_mem _ hu)) (fun u hu => he u (List.mem_cons_of_mem _ hu)) (by rw [List.length_append]; show acc.length + 1 + l.length ≤ _; omega), List.filter_cons_of_pos q, List.map_cons, List.append_assoc]
      rfl
theorem lcL_map {ck : Option (Nat × List T)} {i : Nat} {e : AE} {st : Slots} {S : Sto} {f : T → T} {l acc : List T} (hk : okC ck S) (he : ∀ t ∈ l, e (st.set i (some t)) S = .ok (f t) S) (hl : acc.length + l.length ≤ sizeLine) : lcL ck i mYes e st l acc S = .ok (acc ++ l.map f) S := by
  rw [lcL_pure (p := fun _ => true) hk (fun _ _ => rfl) (fun t ht _ => he t ht) hl, List.filter_eq_self.mpr (fun _ _ => rfl)]
def isPl : T → Bool
  | .non => true
  | .bl _ => true
  | .int _ => true
  | .str _ => true
  | _ => false
def Goes (Q : Slots → Sto → Prop) : RS → Prop
  | .nx st S => Q st S
  | .ct st S => Q st S
  | _ => False
theorem Goes.out {Q : Slots → Sto → Prop} : ∀ {r : RS}, Goes Q r → ∃ st' S', (r = .nx st' S' ∨ r = .ct st' S') ∧ Q st' S'
  | .nx st S, h => ⟨st, S, .inl rfl, h⟩
  | .ct st S, h => ⟨st, S, .inr rfl, h⟩
theorem forL_inv {ck : Option (Nat × List T)} {g : MG} {b : AS} {l : List T} {st : Slots} {S : Sto} (P : List T → Slots → Sto → Prop) (h0 : P [] st S) (hck : ∀ pre st S, P pre st S → okC ck S)
    (h : ∀ pre t suf st S, l = pre ++ t :: suf → P pre st S → Goes (P (pre ++ [t])) (fstep g b t st S)) : ∃ st' S', forL ck g b l st S = .nx st' S' ∧ P l st' S' := by
  have go : ∀ (suf pre : List T) (st : Slots) (S : Sto), l = pre ++ suf → P pre st S → ∃ st' S', forL ck g b suf st S = .nx st' S' ∧ P l st' S' := by
    intro suf
    induction suf with
    | nil => intro pre st S e p; rw [List.append_nil] at e; subst e; exact ⟨st, S, forL_nil _ _ _ _ _ (hck _ _ _ p), p⟩
    | cons t suf ih =>
      intro pre st S e p
      obtain ⟨st1, S1, e1, p1⟩ := (h pre t suf st S e p).out
      rw [forL_step _ _ _ _ _ _ _ (hck _ _ _ p) e1]
      exact ih (pre ++ [t]) st1 S1 (by rw [e]; simp) p1
  exact go l [] st S rfl h0
theorem rngT_len (i j : Int) : (rngT i j).length = (j - i).toNat := by simp [rngT]
theorem forL_rng {g : MG} {b : AS} {i j : Int} {st : Slots} {S : Sto} (P : Nat → Slots → Sto → Prop) (h0 : P 0 st S)
    (h : ∀ (k : Nat) st S, k < (j - i).toNat → P k st S → Goes (P (k + 1)) (fstep g b (.int (i + k)) st S)) : ∃ st' S', forL none g b (rngT i j) st S = .nx st' S' ∧ P (j - i).toNat st' S' := by
  obtain ⟨st', S', e, p⟩ := forL_inv (ck := none) (g := g) (b := b) (l := rngT i j) (st := st) (S := S) (fun pre st S => P pre.length st S) h0 (fun _ _ _ _ => trivial) fun pre t suf st S e p => by
    have hl : pre.length < (j - i).toNat := by rw [← rngT_len, e]; simp
    have ht : t = .int (i + (pre.length : Nat)) := by
      have e1 : (rngT i j)[pre.length]? = some t := by rw [e]; simp
      unfold rngT at e1
      rw [List.getElem?_map, List.getElem?_range hl] at e1
      exact (Option.some.inj e1).symm
    subst ht
    have := h pre.length st S hl p
    have e2 : (pre ++ [(T.int (i + (pre.length : Nat)))]).length = pre.length + 1 := by simp
    show Goes (fun st S => P _ st S) _
    rw [e2]
    exact this
  exact ⟨st', S', e, by rw [← rngT_len]; exact p⟩
theorem use_rng {C : RS → Prop} {g : MG} {b : AS} {i j : Int} {st : Slots} {S : Sto} (P : Nat → Slots → Sto → Prop) (h0 : P 0 st S)
    (h : ∀ (k : Nat) st S, k < (j - i).toNat → P k st S → Goes (P (k + 1)) (fstep g b (.int (i + k)) st S))
    (k : ∀ st' S', P (j - i).toNat st' S' → C (RS.nx st' S')) : C (forL none g b (rngT i j) st S) := by
  obtain ⟨st', S', e, p⟩ := forL_rng P h0 h
  rw [e]
  exact k _ _ p
theorem use_lst {C : RS → Prop} {g : MG} {b : AS} {l : List T} {st : Slots} {S : Sto} (P : List T → Slots → Sto → Prop) (h0 : P [] st S)
    (h : ∀ pre t suf st S, l = pre ++ t :: suf → P pre st S → Goes (P (pre ++ [t])) (fstep g b t st S))
    (k : ∀ st' S', P l st' S' → C (RS.nx st' S')) : C (forL none g b l st S) := by
  obtain ⟨st', S', e, p⟩ := forL_inv (ck := none) P h0 (fun _ _ _ _ => trivial) h
  rw [e]
  exact k _ _ p
theorem use_stm {C : RS → Prop} {r : RS} (Q : Slots → Sto → Prop) (h : ∃ st' S', r = .nx st' S' ∧ Q st' S') (k : ∀ st' S', Q st' S' → C (RS.nx st' S')) : C r := by
  obtain ⟨st', S', e, q⟩ := h
  rw [e]
  exact k _ _ q
/-- the answer of a def, from the middle of its body -/
def Ends (Q : T → Sto → Prop) (r : R T) : Prop := ∃ v Z, r = .ok v Z ∧ Q v Z
def EndC (rest : AS) (v : T) (r : RS) : Prop := ∃ Z, defK (r.seq rest) = .ok v Z
theorem plain_eq {t : T} (h : isPl t = true) : eqT t t = true := by
  cases t <;> simp [isPl] at h <;> simp [q_non_non, q_bl_bl, q_int_int, q_str_str]
theorem eqTs_refl : ∀ {l : List T}, (∀ t ∈ l, eqT t t = true) → eqTs l l = true
  | [], _ => rfl
  | t :: l, h => by rw [q_cons, h t List.mem_cons_self, eqTs_refl fun u hu => h u (List.mem_cons_of_mem _ hu)]; rfl
theorem eqT_tup {l : List T} (h : ∀ t ∈ l, eqT t t = true) : eqT (.tup l) (.tup l) = true := by rw [q_tup_tup, eqTs_refl h]
theorem eqT_lst {l : List T} (h : ∀ t ∈ l, eqT t t = true) : eqT (.lst l) (.lst l) = true := by rw [q_lst_lst, eqTs_refl h]
theorem dats_mem {l : List T} (h : ∀ t ∈ l, dat t = true) : dats l = true := by rw [dats_all, List.all_eq_true]; exact h
theorem dat_tup {l : List T} (h : ∀ t ∈ l, dat t = true) : dat (.tup l) = true := by show dats l = true; exact dats_mem h
theorem dat_lst {l : List T} (h : ∀ t ∈ l, dat t = true) : dat (.lst l) = true := by show dats l = true; exact dats_mem h
theorem deps_le {n : Nat} : ∀ {l : List T}, (∀ t ∈ l, dep t ≤ n) → deps l ≤ n
  | [], _ => by show (0 : Nat) ≤ n; omega
  | t :: l, h => by
    have h1 := h t List.mem_cons_self
    have h2 := deps_le (n := n) fun u hu => h u (List.mem_cons_of_mem _ hu)
    unfold deps at *
    unfold dep at h1
    rw [toDs]
    simp only [PyData.depthAll]
    omega
theorem dep_tup {n : Nat} {l : List T} (h : ∀ t ∈ l, dep t ≤ n) : dep (.tup l) ≤ n + 1 := by
  have := deps_le h
  unfold deps at this
  unfold dep
  rw [toD]
  simp only [PyData.depth]
  omega
theorem dep_lst {n : Nat} {l : List T} (h : ∀ t ∈ l, dep t ≤ n) : dep (.lst l) ≤ n + 1 := by
  have := deps_le h
  unfold deps at this
  unfold dep
  rw [toD]
  simp only [PyData.depth]
  omega
theorem e_isBe {a b : String} : isB a b = (decide (a = b) || (decide (a = "bool") && decide (b = "int"))) := by unfold isB; congr 1
theorem e_tys {k : String} : (k ∈ tys) = (k = "int" ∨ k = "bool" ∨ k = "str" ∨ k = "tuple" ∨ k = "list" ∨ k = "dict") := by simp [tys]
theorem dt_non : (dat .non = true) = True := eq_true rfl
theorem dt_bl {r : Bool} : (dat (.bl r) = true) = True := eq_true rfl
theorem dt_int {r : Int} : (dat (.int r) = true) = True := eq_true rfl
theorem dt_str {r : String} : (dat (.str r) = true) = True := eq_true rfl
theorem dt_tup {l : List T} : (dat (.tup l) = true) = (dats l = true) := propext Iff.rfl
theorem dt_tupk {l : List T} : (dat (.tupk l) = true) = (dats l = true) := propext Iff.rfl
theorem dt_lst {l : List T} : (dat (.lst l) = true) = (dats l = true) := propext Iff.rfl
theorem dt_nil : (dats [] = true) = True := eq_true rfl
theorem dt_cons {t : T} {l : List T} : (dats (t :: l) = true) = (dat t = true ∧ dats l = true) := by rw [dats, Bool.and_eq_true]
theorem dp_non {n : Nat} : (dep .non ≤ n) = True := eq_true (Nat.zero_le n)
theorem dp_bl {r : Bool} {n : Nat} : (dep (.bl r) ≤ n) = True := eq_true (Nat.zero_le n)
theorem dp_int {r : Int} {n : Nat} : (dep (.int r) ≤ n) = True := eq_true (Nat.zero_le n)
theorem dp_str {r : String} {n : Nat} : (dep (.str r) ≤ n) = True := eq_true (Nat.zero_le n)
theorem dp_tup {l : List T} {n : Nat} : (dep (.tup l) ≤ n + 1) = (deps l ≤ n) := by unfold dep deps; rw [toD]; simp only [PyData.depth]; exact propext ⟨fun h => by omega, fun h => by omega⟩
theorem dp_tupk {l : List T} {n : Nat} : (dep (.tupk l) ≤ n + 1) = (deps l ≤ n) := by unfold dep deps; rw [toD]; simp only [PyData.depth]; exact propext ⟨fun h => by omega, fun h => by omega⟩
theorem dp_lst {l : List T} {n : Nat} : (dep (.lst l) ≤ n + 1) = (deps l ≤ n) := by unfold dep deps; rw [toD]; simp only [PyData.depth]; exact propext ⟨fun h => by omega, fun h => by omega⟩
theorem dp_nil {n : Nat} : (deps [] ≤ n) = True := eq_true (Nat.zero_le n)
theorem dp_cons {t : T} {l : List T} {n : Nat} : (deps (t :: l) ≤ n) = (dep t ≤ n ∧ deps l ≤ n) := by unfold deps dep; rw [toDs]; simp only [PyData.depthAll]; exact propext ⟨fun h => by omega, fun h => by omega⟩
theorem opEq_tup_tup {l m : List T} {S : Sto} (h1 : dats l = true) (h2 : dats m = true) (h3 : deps m ≤ 59) : opEq (.tup l) (.tup m) S = .ok (.bl (eqTs l m)) S := by rw [opEq_dat (by exact h1) (by exact h2) (.inr (by rw [dp_tup]; exact h3)), q_tup_tup]
theorem opNe_tup_tup {l m : List T} {S : Sto} (h1 : dats l = true) (h2 : dats m = true) (h3 : deps m ≤ 59) : opNe (.tup l) (.tup m) S = .ok (.bl (!eqTs l m)) S := by rw [opNe_dat (by exact h1) (by exact h2) (.inr (by rw [dp_tup]; exact h3)), q_tup_tup]
theorem opEq_lst_lst {l m : List T} {S : Sto} (h1 : dats l = true) (h2 : dats m = true) (h3 : deps m ≤ 59) : opEq (.lst l) (.lst m) S = .ok (.bl (eqTs l m)) S := by rw [opEq_dat (by exact h1) (by exact h2) (.inr (by rw [dp_lst]; exact h3)), q_lst_lst]
theorem opNe_lst_lst {l m : List T} {S : Sto} (h1 : dats l = true) (h2 : dats m = true) (h3 : deps m ≤ 59) : opNe (.lst l) (.lst m) S = .ok (.bl (!eqTs l m)) S := by rw [opNe_dat (by exact h1) (by exact h2) (.inr (by rw [dp_lst]; exact h3)), q_lst_lst]
theorem rs_dat : ∀ (k : Nat) (S : Sto) (t : T), dat t = true → rs k S t = t
  | 0, _, _, _ => rfl
  | k + 1, S, t, h => by
    have go : ∀ l : List T, dats l = true → l.map (rs k S) = l := by
      intro l hl
      rw [dats_all, List.all_eq_true] at hl
      conv => rhs; rw [← List.map_id l]
      exact List.map_congr_left fun u hu => rs_dat k S u (hl u hu)
    cases t with
    | ref n => cases h
    | tup l => show T.tup (l.map (rs k S)) = _; rw [go l h]
    | lst l => show T.lst (l.map (rs k S)) = _; rw [go l h]
    | _ => rfl
theorem vw_dat {t : T} {S : Sto} (h : dat t = true) : vw S t = t := if_pos h
theorem vw_ref {n : Nat} {l : List T} {S : Sto} (hS : S[n]? = some (.lst l)) (h : dats l = true) : vw S (.ref n) = .lst l := by
  have e : vw S (.ref n) = rsA (rs 3 S) S (.ref n) := if_neg Bool.false_ne_true
  rw [e]
  unfold rsA
  simp only [hS]
  rw [dats_all, List.all_eq_true] at h
  congr 1
  conv => rhs; rw [← List.map_id l]
  exact List.map_congr_left fun u hu => rs_dat 3 S u (h u hu)
theorem opEq_vw {x y u v : T} {S : Sto} (ex : vw S x = u) (ey : vw S y = v) (hu : dat u = true) (hv : dat v = true) (hd : dep u ≤ 60 ∨ dep v ≤ 60) : opEq x y S = .ok (.bl (eqT u v)) S := by
  unfold opEq
  rw [ex, ey, if_pos ⟨hu, hv, hd⟩]
theorem opNe_vw {x y u v : T} {S : Sto} (ex : vw S x = u) (ey : vw S y = v) (hu : dat u = true) (hv : dat v = true) (hd : dep u ≤ 60 ∨ dep v ≤ 60) : opNe x y S = .ok (.bl (!eqT u v)) S := by
  unfold opNe
  rw [ex, ey, if_pos ⟨hu, hv, hd⟩]
theorem opEq_ref_lst {n : Nat} {l m : List T} {S : Sto} (hS : S[n]? = some (.lst l)) (h1 : dats l = true) (h2 : dats m = true) (h3 : deps m ≤ 59) : opEq (.ref n) (.lst m) S = .ok (.bl (eqTs l m)) S := by rw [opEq_vw (vw_ref hS h1) (vw_dat (by exact h2)) (by exact h1) (by exact h2) (.inr (by rw [dp_lst]; exact h3)), q_lst_lst]
theorem opEq_lst_ref {n : Nat} {l m : List T} {S : Sto} (hS : S[n]? = some (.lst l)) (h1 : dats l = true) (h2 : dats m = true) (h3 : deps m ≤ 59) : opEq (.lst m) (.ref n) S = .ok (.bl (eqTs m l)) S := by rw [opEq_vw (vw_dat (by exact h2)) (vw_ref hS h1) (by exact h2) (by exact h1) (.inl (by rw [dp_lst]; exact h3)), q_lst_lst]
theorem opNe_ref_lst {n : Nat} {l m : List T} {S : Sto} (hS : S[n]? = some (.lst l)) (h1 : dats l = true) (h2 : dats m = true) (h3 : deps m ≤ 59) : opNe (.ref n) (.lst m) S = .ok (.bl (!eqTs l m)) S := by rw [opNe_vw (vw_ref hS h1) (vw_dat (by exact h2)) (by exact h1) (by exact h2) (.inr (by rw [dp_lst]; exact h3)), q_lst_lst]
theorem opNe_lst_ref {n : Nat} {l m : List T} {S : Sto} (hS : S[n]? = some (.lst l)) (h1 : dats l = true) (h2 : dats m = true) (h3 : deps m ≤ 59) : opNe (.lst m) (.ref n) S = .ok (.bl (!eqTs m l)) S := by rw [opNe_vw (vw_dat (by exact h2)) (vw_ref hS h1) (by exact h2) (by exact h1) (.inl (by rw [dp_lst]; exact h3)), q_lst_lst]
-- simp set: e_bok, e_bexc, e_bbad, e_sok, e_sexc, e_sbad, e_qnx, e_qrt, e_qbr, e_qct, e_qexc, e_qbad, e_onx, e_oexc, e_nok, e_seq, e_pass, e_brk, e_cnt, e_exp, e_expK, e_ret, e_retK, e_retN, e_if, e_ifK, e_set, e_setK, e_asg, e_asgK, e_raise, e_gN, e_gsN, e_gsC, e_gT, e_gTk, e_m1, e_m2, e_m2K, e_mN, e_nil, e_cons, e_consK, e_consL, e_C, e_V, e_vget, e_B, e_opB, e_Tru, e_TAnd, e_taK, e_TOr, e_toK, e_TNot, e_tnK, e_And, e_Or, e_Not, e_andK, e_orK, e_notK, e_IfE, e_ifeK, e_Chain, e_ch1, e_ch2, e_ch3, e_Call, e_oget, e_Fld, e_fldK, e_Meth, e_mtK, e_mtL, e_ometh, e_Make, e_mkK, e_mkN, e_isNon, e_sget, e_gIx, e_gi1, e_gi2, e_SetF, e_sf1, e_sf2, e_DPut, e_dp1, e_dp2, e_dp3, e_pget, e_pgetS, e_AugF, e_af1, e_afP, e_af2, e_af3, e_AugIx, e_ai1, e_ai2, e_ai3, e_ai4, e_ai5, e_Aug, e_augK, e_au1, e_au2, e_ML, e_mlK, e_Get1, e_gg1, e_gg2, e_ggD, e_Get2, e_gh1, e_gh2, e_gh3, e_NewD, e_mkDt, e_mkDf, e_mkLt, e_mkLf, e_Frz, e_NoP, e_Part, e_partK, e_Sl, e_sl1, e_sl2, e_opSlT, e_opSlL, e_For, e_forK, e_Lc, e_lcK, e_Yes, e_itT, e_itL, e_itR1, e_itR2, e_itTKt, e_itTKk, e_itLKl, e_itLKs, e_itR1K, e_itR2K, e_add, e_addT, e_addL, e_addI, e_sub, e_mod, e_div, e_mul, e_pow, e_mulL, e_rep, e_repK, e_neg, e_lt, e_le, e_gt, e_ge, e_abs, e_int, e_intB, e_min2, e_max2, e_tup, e_lst, e_lenK0, e_len, e_lenT, e_lenL, e_lenS, e_lenK, e_lenD, e_mkLK, e_list, e_seqT, e_seqL, e_seqS, e_seqK, e_lkL, e_lkS, e_lkP, e_tupleT, e_tupleL, e_srtK, e_sortI, e_anyK, e_allK, e_sumK, e_any, e_all, e_sum, e_atK, e_okK, e_ix, e_ixL, e_is, e_isnt, e_isB, e_isntB, e_non_int, e_non_str, e_non_bl, e_non_tup, e_non_tupk, e_non_lst, e_non_dct, e_non_ref, e_isiK, e_isi, e_ty_non, e_ty_int, e_ty_str, e_ty_bl, e_ty_tup, e_ty_tupk, e_ty_lst, e_ty_scr, e_ty_dct, e_tru_non, e_tru_bl, e_tru_int, e_tru_tup, e_tru_lst, e_dgK, e_dget, e_diK, e_dnK, e_din, e_dnin, e_dOf, e_keyI, e_keyS, e_keyT, e_seqR, e_lkR, e_lkPR, e_lstO, e_isLR, e_isLO, e_dOfR, e_dctO, e_lckO, e_lenR, e_lenOl, e_lenOd, e_tyR, e_tyOl, e_tyOd, e_truR, e_truO, e_objR, e_objO, e_setLR, e_setLO, e_setL2, e_setFR, e_setFO, e_putR, e_putO, e_appR, e_appO, e_extR, e_extO, e_popR, e_frzR, e_frzOl, e_frzOd, e_itR, e_itO, e_def, e_dfr, e_dfn, e_dfe, e_forLc, e_forL0, e_forB, e_forNn, e_forNc, e_forNb, e_forNr, e_forNe, e_fstep, e_fsB, e_lc0, e_lcc, e_lc1, e_lc2, e_Pop1, e_pp1, e_Pop2, e_pq0, e_pq1, e_pq2, e_pop1R, e_pop2R, e_popDO, e_popGs, e_popGn, e_srtPK, e_sortP, q_non_non, q_non_bl, q_non_int, q_non_str, q_non_tup, q_non_tupk, q_non_lst, q_non_scr, q_bl_non, q_bl_bl, q_bl_int, q_bl_str, q_bl_tup, q_bl_tupk, q_bl_lst, q_bl_scr, q_int_non, q_int_bl, q_int_int, q_int_str, q_int_tup, q_int_tupk, q_int_lst, q_int_scr, q_str_non, q_str_bl, q_str_int, q_str_str, q_str_tup, q_str_tupk, q_str_lst, q_str_scr, q_tup_non, q_tup_bl, q_tup_int, q_tup_str, q_tup_tup, q_tup_tupk, q_tup_lst, q_tup_scr, q_tupk_non, q_tupk_bl, q_tupk_int, q_tupk_str, q_tupk_tup, q_tupk_tupk, q_tupk_lst, q_tupk_scr, q_lst_non, q_lst_bl, q_lst_int, q_lst_str, q_lst_tup, q_lst_tupk, q_lst_lst, q_lst_scr, q_scr_non, q_scr_bl, q_scr_int, q_scr_str, q_scr_tup, q_scr_tupk, q_scr_lst, q_scr_scr, q_nil, q_cons, q_nilc, q_consn, opEq_non_non, opNe_non_non, opEq_non_bl, opNe_non_bl, opEq_non_int, opNe_non_int, opEq_non_str, opNe_non_str, opEq_bl_non, opNe_bl_non, opEq_bl_bl, opNe_bl_bl, opEq_bl_int, opNe_bl_int, opEq_bl_str, opNe_bl_str, opEq_int_non, opNe_int_non, opEq_int_bl, opNe_int_bl, opEq_int_int, opNe_int_int, opEq_int_str, opNe_int_str, opEq_str_non, opNe_str_non, opEq_str_bl, opNe_str_bl, opEq_str_int, opNe_str_int, opEq_str_str, opNe_str_str, e_isBe, e_tys, dt_non, dt_bl, dt_int, dt_str, dt_tup, dt_tupk, dt_lst, dt_nil, dt_cons, dp_non, dp_bl, dp_int, dp_str, dp_tup, dp_tupk, dp_lst, dp_nil, dp_cons, opEq_tup_tup, opNe_tup_tup, opEq_lst_lst, opNe_lst_lst, opEq_ref_lst, opEq_lst_ref, opNe_ref_lst, opNe_lst_ref
end Ab

namespace Ab
open PySem PySem.Spec PyProof.Rows L2 Sp
/-! written dicts with text keys -/
def lookT (z : String) : List (String × T) → Option T
  | [] => none
  | (k, t) :: r => if k = z then some t else lookT z r
theorem lookT_nil {z : String} : lookT z [] = none := rfl
theorem lookT_cons {z k : String} {t : T} {r : List (String × T)} : lookT z ((k, t) :: r) = if k = z then some t else lookT z r := rfl
def dvT : T → He.Dv
  | .bl b => .bl b
  | .int i => .int i
  | .str s => .str (.ofString s)
  | _ => .non
def tupVB (K : PySem.W.Frag) (v : Value) (l : List T) : Bool := match v with
  | .ref a => (match K.lookup a with
    | some ⟨.type c, _, .seq its _, _⟩ => decide (c = "tuple") && (decide (its.size ≤ sizeLine) && He.relAll (l.map fun t => (dvT t).v K) its.toList)
    | _ => false)
  | _ => false
def valB (K : PySem.W.Frag) (v : Value) : T → Bool
  | .tupk l => l.all isPl && tupVB K v l
  | t => isPl t && He.relAll [(dvT t).v K] [v]
def entB (K : PySem.W.Frag) : List DictEntry → List (String × T) → Bool
  | [], [] => true
  | e :: es, (k, t) :: r => (match e.key with
    | .str y _ => y == Str.ofString k
    | _ => false) && (valB K e.val t && entB K es r)
  | _, _ => false
def tabB (K : PySem.W.Frag) (x : String) (tbl : List (String × T)) : Bool := match K.lookup (He.ga K (.ofString x)) with
  | some ⟨_, _, .dict es _, _⟩ => entB K es.toList tbl
  | _ => false
section
variable {K : PySem.W.Frag}
theorem pl_rp {g : G} {t : T} (h : isPl t = true) : Rp K g t ((dvT t).v K) := by
  cases t with
  | non => exact .non
  | bl b => exact .bl b
  | int i => exact .int i
  | str s => exact .str s
  | _ => cases h
theorem pls_rp {g : G} : ∀ {l : List T}, l.all isPl = true → Rps K g l (l.map fun t => (dvT t).v K)
  | [], _ => .nil
  | t :: l, h => by
    rw [List.all_cons, Bool.and_eq_true] at h
    exact .cons (pl_rp h.1) (pls_rp h.2)
theorem plB_ok {v : Value} {t : T} (h : (isPl t && He.relAll [(dvT t).v K] [v]) = true) : ∃ x, RelV x v ∧ ∀ g : G, Rp K g t x := by
  rw [Bool.and_eq_true] at h
  have := He.relAll_ok h.2
  cases this with
  | cons r _ => exact ⟨_, r, fun g => pl_rp h.1⟩
theorem valB_ok {v : Value} : ∀ {t : T}, valB K v t = true → ∃ x, RelV x v ∧ ∀ g : G, Rp K g t x
  | .tupk l, h => by
    have h : (l.all isPl && tupVB K v l) = true := h
    rw [Bool.and_eq_true] at h
    obtain ⟨h1, h2⟩ := h
    unfold tupVB at h2
    split at h2
    · rename_i a
      split at h2
      · rename_i c od its n sl q
        rw [Bool.and_eq_true, Bool.and_eq_true] at h2
        exact ⟨V.ref a, rfl, fun g => Rp.tupk (.inr ⟨_, its, n, q, congrArg Value.type (of_decide_eq_true h2.1), rfl, of_decide_eq_true h2.2.1, He.relAll_ok h2.2.2⟩) (pls_rp h1)⟩
      · cases h2
    · cases h2
  | .non, h => plB_ok h
  | .bl _, h => plB_ok h
  | .int _, h => plB_ok h
  | .str _, h => plB_ok h
  | .tup _, h => plB_ok h
  | .lst _, h => plB_ok h
  | .dct _ _, h => plB_ok h
  | .scr _, h => plB_ok h
  | .ref _, h => plB_ok h
  | .ty _, h => plB_ok h
  | .con _, h => plB_ok h
theorem ent_ok : ∀ {es : List DictEntry} {tbl : List (String × T)}, entB K es tbl = true → ∀ z : String,
    (∃ e t, es.find? (·.key.isStr (.ofString z)) = some e ∧ lookT z tbl = some t ∧ valB K e.val t = true) ∨ (es.find? (·.key.isStr (.ofString z)) = none ∧ lookT z tbl = none ∧ es.any (·.refKey) = false)
  | [], [], _, _ => .inr ⟨rfl, rfl, rfl⟩
  | e :: es, (k, t) :: r, h, z => by
    have h : ((match e.key with
      | .str y _ => y == Str.ofString k
      | _ => false) && (valB K e.val t && entB K es r)) = true := h
    rw [Bool.and_eq_true, Bool.and_eq_true] at h
    obtain ⟨h1, h2, h3⟩ := h
    cases ek : e.key with
    | str y tk =>
      rw [ek] at h1
      have hy : y = Str.ofString k := eq_of_beq h1
      have e1 : e.key.isStr (.ofString z) = decide (k = z) := by rw [ek]; show (y == _) = _; rw [hy, str_beq]
      by_cases c : k = z
      · exact .inl ⟨e, t, by rw [List.find?_cons_of_pos (by rw [e1]; exact decide_eq_true c)], by rw [lookT_cons, if_pos c], h2⟩
      · rcases ent_ok h3 z with ⟨e', t', a, b, d⟩ | ⟨a, b, d⟩
        · exact .inl ⟨e', t', by rw [List.find?_cons_of_neg (by rw [e1]; simp [c])]; exact a, by rw [lookT_cons, if_neg c]; exact b, d⟩
        · refine .inr ⟨by rw [List.find?_cons_of_neg (by rw [e1]; simp [c])]; exact a, by rw [lookT_cons, if_neg c]; exact b, ?_⟩
          rw [List.any_cons, d]
          unfold DictEntry.refKey
          rw [ek]; rfl
    | _ => rw [ek] at h1; cases h1
  | [], _ :: _, h, _ => by cases h
  | _ :: _, [], h, _ => by cases h
theorem tab_ok {x : String} {tbl : List (String × T)} (h : tabB K x tbl = true) (z : String) :
    (∃ t u v, lookT z tbl = some t ∧ PySem.W.nsIn K (He.ga K (.ofString x)) (.ofString z) = some (some u) ∧ RelV v u ∧ ∀ g : G, Rp K g t v) ∨ (lookT z tbl = none ∧ PySem.W.nsIn K (He.ga K (.ofString x)) (.ofString z) = some none) := by
  unfold tabB at h
  split at h
  · rename_i es n sl q
    rcases ent_ok h z with ⟨e, t, a, b, d⟩ | ⟨a, b, d⟩
    · obtain ⟨v, rv, hr⟩ := valB_ok d
      refine .inl ⟨t, e.val, v, b, ?_, rv, hr⟩
      unfold PySem.W.nsIn
      rw [q]
      simp only [a]
    · refine .inr ⟨b, ?_⟩
      unfold PySem.W.nsIn
      rw [q]
      simp only [a, d]
      rfl
  · cases h
end
def opConIn (x : String) (tbl : List (String × T)) : T → T → Sto → R T
  | .str z, .con y, S => if y = x then .ok (.bl (lookT z tbl).isSome) S else .bad
  | _, _, _ => .bad
def opConNin (x : String) (tbl : List (String × T)) : T → T → Sto → R T
  | .str z, .con y, S => if y = x then .ok (.bl (!(lookT z tbl).isSome)) S else .bad
  | _, _, _ => .bad
def conK (S : Sto) : Option T → R T
  | some t => .ok t S
  | none => .bad
def opConGet (x : String) (tbl : List (String × T)) : T → T → Sto → R T
  | .con y, .str z, S => if y = x then conK S (lookT z tbl) else .bad
  | _, _, _ => .bad
theorem e_conIn {x z : String} {tbl : List (String × T)} {S : Sto} : opConIn x tbl (.str z) (.con x) S = .ok (.bl (lookT z tbl).isSome) S := by simp [opConIn]
theorem e_conNin {x z : String} {tbl : List (String × T)} {S : Sto} : opConNin x tbl (.str z) (.con x) S = .ok (.bl (!(lookT z tbl).isSome)) S := by simp [opConNin]
theorem e_conGet {x z : String} {tbl : List (String × T)} {S : Sto} : opConGet x tbl (.con x) (.str z) S = conK S (lookT z tbl) := by simp [opConGet]
theorem e_conK {t : T} {S : Sto} : conK S (some t) = .ok t S := rfl
section
variable {X : Cx} {K : PySem.W.Frag} {w : World} {x : String} {tbl : List (String × T)}
def rConIn (K : PySem.W.Frag) (x : String) (f : Bool → Bool) : R2 := fun a b H Q => ∃ (z : Str) (r : Option Value), a = .str z ∧ b = .ref (He.ga K (.ofString x)) ∧ PySem.W.nsIn K (He.ga K (.ofString x)) z = some r ∧ Q (.bl (f r.isSome)) H
theorem up_conIn (h : tabB K x tbl = true) : Up2 K (opConIn x tbl) (rConIn K x id) := by
  intro E S H g a b v w Q W ra rb p
  unfold opConIn at p
  split at p
  · rename_i z y
    split at p
    · rename_i c
      subst c
      cases ra
      cases rb
      rcases tab_ok (K := K) h z with ⟨t, u, v, e1, e2, _⟩ | ⟨e1, e2⟩
      · rw [e1] at p
        exact ⟨_, _, rfl, rfl, e2, p.val W (.bl true)⟩
      · rw [e1] at p
        exact ⟨_, _, rfl, rfl, e2, p.val W (.bl false)⟩
    · exact p.elim
  · exact p.elim
theorem up_conNin (h : tabB K x tbl = true) : Up2 K (opConNin x tbl) (rConIn K x (!·)) := by
  intro E S H g a b v w Q W ra rb p
  unfold opConNin at p
  split at p
  · rename_i z y
    split at p
    · rename_i c
      subst c
      cases ra
      cases rb
      rcases tab_ok (K := K) h z with ⟨t, u, v, e1, e2, _⟩ | ⟨e1, e2⟩
      · rw [e1] at p
        exact ⟨_, _, rfl, rfl, e2, p.val W (.bl false)⟩
      · rw [e1] at p
        exact ⟨_, _, rfl, rfl, e2, p.val W (.bl true)⟩
    · exact p.elim
  · exact p.elim
theorem op_conIn (D : ∃ es n, KDict K w (He.ga K (.ofString x)) es n) (hK : X.K = K := by rfl) (hw : X.w = w := by rfl) : OpR X (compareOp .In) (rConIn K x id) := by
  subst hK; subst hw; obtain ⟨es, n, D⟩ := D; exact op_in_kd D
theorem op_conNin (D : ∃ es n, KDict K w (He.ga K (.ofString x)) es n) (hK : X.K = K := by rfl) (hw : X.w = w := by rfl) : OpR X (compareOp .NotIn) (rConIn K x (!·)) := by
  subst hK; subst hw; obtain ⟨es, n, D⟩ := D; exact op_notIn_kd D
theorem up_conGet (D : ∃ es n, KDict K w (He.ga K (.ofString x)) es n) (h : tabB K x tbl = true) : Up2 K (opConGet x tbl) (rIxD K w) := by
  obtain ⟨es, n, D⟩ := D
  intro E S H g a b v w Q W ra rb p
  unfold opConGet at p
  split at p
  · rename_i y z
    split at p
    · rename_i c
      subst c
      cases ra
      cases rb
      rcases tab_ok (K := K) h z with ⟨t, u, v, e1, e2, e3, e4⟩ | ⟨e1, e2⟩
      · rw [e1] at p
        exact ⟨_, _, v, rfl, rfl, ⟨es, n, u, D.at_, D.lit, e2, e3⟩, p.val W (e4 g)⟩
      · rw [e1] at p
        exact p.elim
    · exact p.elim
  · exact p.elim
/-- a sum of lists that changes later -/
def lkM (S : Sto) : T → Option (List T)
  | .lst l => some l
  | .ref n => (match S[n]? with
    | some (.lst l) => some l
    | _ => none)
  | _ => none
def opAddM (x y : T) (S : Sto) : R T := match lkM S x with
  | some a => (match lkM S y with
    | some b => if a.length + b.length ≤ sizeLine then mkL false (a ++ b) S else .bad
    | none => .bad)
  | none => .bad
theorem lkM_rp {S : Sto} {H : Hp} {g : G} (W : Wd K S H g) {x : T} {v : V} {l : List T} (e : lkM S x = some l) (r : Rp K g x v) : ∃ a vs, v = .ref a ∧ H a = some (.lst vs) ∧ Rps K g l vs := by
  unfold lkM at e
  split at e
  · cases e; exact r.lstH W
  · split at e
    · rename_i q
      cases e
      obtain ⟨a, rfl, m, vs, h1, r1⟩ := r.refH W q (fun z => nomatch z)
      exact ⟨a, vs, rfl, h1, r1⟩
    · cases e
  · cases e
theorem up_addM : Up2 K opAddM (rAddU K) := by
  intro E S H g x y v w Q W rx ry p
  unfold opAddM at p
  split at p
  · rename_i la e1
    split at p
    · rename_i lb e2
      split at p
      · rename_i hl
        obtain ⟨a, vs, rfl, h1, r1⟩ := lkM_rp W e1 rx
        obtain ⟨b, ws, rfl, h2, r2⟩ := lkM_rp W e2 ry
        exact .inr ⟨a, b, vs, ws, rfl, rfl, h1, h2, by rw [← r1.length, ← r2.length]; exact hl, Post.newLst p W (r1.append r2)⟩
      · exact p.elim
    · exact p.elim
  · exact p.elim
theorem e_lkMl {l : List T} {S : Sto} : lkM S (.lst l) = some l := rfl
def lkMO : Option O → Option (List T)
  | some (.lst l) => some l
  | _ => none
theorem e_lkMr {n : Nat} {S : Sto} : lkM S (.ref n) = lkMO S[n]? := by unfold lkM lkMO; rfl
theorem e_lkMO {l : List T} : lkMO (some (.lst l)) = some l := rfl
def amK (S : Sto) (a b : List T) : R T := if a.length + b.length ≤ sizeLine then mkL false (a ++ b) S else .bad
def amJ (S : Sto) (y : T) (a : List T) : R T := pget (lkM S y) (amK S a)
theorem e_addM {x y : T} {S : Sto} : opAddM x y S = pget (lkM S x) (amJ S y) := by unfold opAddM; cases lkM S x with | none => rfl | some a => show _ = pget (lkM S y) (amK S a); cases lkM S y <;> rfl
theorem e_amJ {y : T} {S : Sto} {a : List T} : amJ S y a = pget (lkM S y) (amK S a) := rfl
theorem e_amK {S : Sto} {a b : List T} : amK S a b = if a.length + b.length ≤ sizeLine then mkL false (a ++ b) S else .bad := rfl
theorem e_gsnoc {α : Type} {S : List α} {a : α} : (S ++ [a])[S.length]? = some a := by simp
theorem e_ssnoc {α : Type} {S : List α} {a b : α} : (S ++ [a]).set S.length b = S ++ [b] := by
  rw [List.set_append_right _ _ (Nat.le_refl _), Nat.sub_self]; rfl
def slO (fz : Bool) (a b : Option Int) (S : Sto) (o : Option (List T)) : R T := match o with
  | some l => mkL fz (cutT l a b) S
  | none => .bad
theorem e_opSlR {n : Nat} {fz : Bool} {S : Sto} {a b : Option Int} : opSl fz (.ref n) a b S = slO fz a b S (lkMO S[n]?) := by
  show (match lkL S (.ref n) with
    | some l => mkL fz (cutT l a b) S
    | none => .bad) = _
  have e : lkL S (.ref n) = lkMO S[n]? := by unfold lkL lkMO; rfl
  rw [e]
  rfl
theorem e_slO {fz : Bool} {S : Sto} {a b : Option Int} {l : List T} : slO fz a b S (some l) = mkL fz (cutT l a b) S := rfl
theorem mem_cutT {l : List T} {a b : Option Int} {t : T} (h : t ∈ cutT l a b) : t ∈ l := List.mem_of_mem_drop (List.mem_of_mem_take h)
theorem len_cutT {l : List T} {a b : Option Int} : (cutT l a b).length ≤ l.length := by
  unfold cutT
  rw [List.length_take, List.length_drop]
  omega
theorem rngT_0 {i : Int} : rngT 0 i = (List.range i.toNat).map fun (k : Nat) => T.int (0 + k) := by unfold rngT; rw [Int.sub_zero]
theorem rngT_00 : rngT 0 0 = [] := rfl
theorem rngT_1 : rngT 0 1 = [.int 0] := rfl
theorem rngT_2 : rngT 0 2 = [.int 0, .int 1] := rfl
theorem rngT_3 : rngT 0 3 = [.int 0, .int 1, .int 2] := rfl
theorem rngT_4 : rngT 0 4 = [.int 0, .int 1, .int 2, .int 3] := rfl
-- e_inT
theorem e_in_tup {x : T} {l : List T} {S : Sto} (h1 : dat x = true) (h2 : dats l = true) (h3 : deps l ≤ 60) : opIn x (.tup l) S = .ok (.bl (l.any fun z => eqT z x)) S := opIn_dat rfl h1 h2 (.inr h3)
theorem e_nin_tup {x : T} {l : List T} {S : Sto} (h1 : dat x = true) (h2 : dats l = true) (h3 : deps l ≤ 60) : opNin x (.tup l) S = .ok (.bl (!l.any fun z => eqT z x)) S := opNin_dat rfl h1 h2 (.inr h3)
theorem e_in_tupk {x : T} {l : List T} {S : Sto} (h1 : dat x = true) (h2 : dats l = true) (h3 : deps l ≤ 60) : opIn x (.tupk l) S = .ok (.bl (l.any fun z => eqT z x)) S := opIn_dat rfl h1 h2 (.inr h3)
theorem e_nin_tupk {x : T} {l : List T} {S : Sto} (h1 : dat x = true) (h2 : dats l = true) (h3 : deps l ≤ 60) : opNin x (.tupk l) S = .ok (.bl (!l.any fun z => eqT z x)) S := opNin_dat rfl h1 h2 (.inr h3)
theorem e_in_lst {x : T} {l : List T} {S : Sto} (h1 : dat x = true) (h2 : dats l = true) (h3 : deps l ≤ 60) : opIn x (.lst l) S = .ok (.bl (l.any fun z => eqT z x)) S := opIn_dat rfl h1 h2 (.inr h3)
theorem e_nin_lst {x : T} {l : List T} {S : Sto} (h1 : dat x = true) (h2 : dats l = true) (h3 : deps l ≤ 60) : opNin x (.lst l) S = .ok (.bl (!l.any fun z => eqT z x)) S := opNin_dat rfl h1 h2 (.inr h3)
def tuO (S : Sto) (o : Option (List T)) : R T := match o with
  | some l => .ok (.tup l) S
  | none => .bad
theorem e_tupleR {n : Nat} {S : Sto} : opTuple [.ref n] S = tuO S (lkMO S[n]?) := by
  have e : lkL S (.ref n) = lkMO S[n]? := by unfold lkL lkMO; rfl
  show (match lkL S (.ref n) with
    | some l => R.ok (T.tup l) S
    | none => .bad) = _
  rw [e]
  rfl
theorem e_tuO {S : Sto} {l : List T} : tuO S (some l) = .ok (.tup l) S := rfl
def opEq0 (x y : T) (S : Sto) : R T := opEq x y S
def opNe0 (x y : T) (S : Sto) : R T := opNe x y S
def eqRL (n : Nat) (m : List T) (S : Sto) : Option O → R T
  | some (.lst l) => if dats l = true ∧ dats m = true ∧ deps m ≤ 59 then .ok (.bl (eqTs l m)) S else opEq0 (.ref n) (.lst m) S
  | _ => opEq0 (.ref n) (.lst m) S
def neRL (n : Nat) (m : List T) (S : Sto) : Option O → R T
  | some (.lst l) => if dats l = true ∧ dats m = true ∧ deps m ≤ 59 then .ok (.bl (!eqTs l m)) S else opNe0 (.ref n) (.lst m) S
  | _ => opNe0 (.ref n) (.lst m) S
theorem e_eqRL {n : Nat} {m : List T} {S : Sto} : opEq (.ref n) (.lst m) S = eqRL n m S S[n]? := by
  unfold eqRL
  split
  · rename_i l h
    split
    · rename_i c; exact opEq_ref_lst h c.1 c.2.1 c.2.2
    · rfl
  · rfl
theorem e_neRL {n : Nat} {m : List T} {S : Sto} : opNe (.ref n) (.lst m) S = neRL n m S S[n]? := by
  unfold neRL
  split
  · rename_i l h
    split
    · rename_i c; exact opNe_ref_lst h c.1 c.2.1 c.2.2
    · rfl
  · rfl
theorem e_eqRLs {n : Nat} {m l : List T} {S : Sto} : eqRL n m S (some (.lst l)) = if dats l = true ∧ dats m = true ∧ deps m ≤ 59 then .ok (.bl (eqTs l m)) S else opEq0 (.ref n) (.lst m) S := rfl
theorem e_neRLs {n : Nat} {m l : List T} {S : Sto} : neRL n m S (some (.lst l)) = if dats l = true ∧ dats m = true ∧ deps m ≤ 59 then .ok (.bl (!eqTs l m)) S else opNe0 (.ref n) (.lst m) S := rfl
theorem ixN_int {n : Nat} {i : Int} (a : 0 ≤ i) (b : i < n) : ixN n i = some i.toNat := by unfold ixN; rw [if_pos a, if_pos b]
theorem e_putTn {f : String} {t : T} : putT f t [] = [(f, t)] := rfl
theorem e_putTc {f h : String} {t x : T} {r : List (String × T)} : putT f t ((h, x) :: r) = if h = f then (h, t) :: r else (h, x) :: putT f t r := rfl
theorem e_lookn {f : String} : List.lookup f ([] : List (String × T)) = none := rfl
theorem e_lookc {f h : String} {x : T} {r : List (String × T)} : List.lookup f ((h, x) :: r) = if f = h then some x else List.lookup f r := by
  rw [List.lookup_cons]
  by_cases c : f = h
  · rw [if_pos c, beq_iff_eq.mpr c]
  · rw [if_neg c, beq_eq_false_iff_ne.mpr c]
theorem e_ogetG {α : Type} {x : α} {S : Sto} : oget (some x) S = .ok x S := rfl
theorem ix_kdK (hK : X.K = K := by rfl) (hw : X.w = w := by rfl) : IxR X (rIxD K w) := by subst hK; subst hw; exact ix_kdict
theorem aConGet {E : XS} {a b : Expr} {ea eb : AE} {pos : Pos} (u : Up2 K (opConGet x tbl) (rIxD K w)) (ha : PE X a (LE K E ea)) (hb : PE X b (LE K E eb)) (hs : PlainIx b := by exact fun _ _ => rfl) (hK : X.K = K := by rfl) (hw : X.w = w := by rfl) : PE X (.Subscript a b pos) (LE K E (m2 (opConGet x tbl) ea eb)) :=
  PE.weak (pe_ix (ix_kdK hK hw) ha hb hs) fun _ _ _ h => LE.op2 u h
end
section
variable {X : Cx} {K : PySem.W.Frag} {E : XS}
theorem aPar {i j : Nat} {x y : Str} {a b : Expr} {ra : AA} {px py pt pos : Pos} {kt k2 pt2} (hN : X.N.Nodup) (h : PA X [a, b] (LA K E ra)) (hc : X.calm = true := by rfl) (hi : X.N[i]? = some x := by rfl) (hj : X.N[j]? = some y := by rfl) (hij : i ≠ j := by decide)
    (hx : X.env.scope.names.lookup x = some .local := by rfl) (hy : X.env.scope.names.lookup y = some .local := by rfl)
    (hw : swappedStores [.Tuple [.Name x px, .Name y py] kt pt] (.Tuple [a, b] k2 pt2) X.env = pure (some [x, y]) := by rfl)
    (hs : swapsWithSole [.Tuple [.Name x px, .Name y py] kt pt] (.Tuple [a, b] k2 pt2) pos.line X.env = pure false := by rfl) :
    PS X (.Assign [.Tuple [.Name x px, .Name y py] kt pt] (.Tuple [a, b] k2 pt2) pos) (LS K E (mPar i j ra)) :=
  PS.weak (ps_par hc hN hi hj hij hx hy h hw hs) fun D σ H ⟨st, S, g, w, sl, p⟩ => LA.run (f := fun ts S => match ts with
    | [t, u] => .nx ((st.set i (some t)).set j (some u)) S
    | _ => .bad) w sl p fun ts S1 vs H1 g1 w1 sl1 x1 r1 p1 => by
    split at p1
    · cases r1 with
      | cons a r1 =>
        cases r1 with
        | cons b r1 =>
          cases r1
          exact ⟨_, _, rfl, p1 _ H1 g1 w1 (.refl _ _ _) ((sl1.set i a).set j b)⟩
    · exact p1.elim
def parK (i j : Nat) (st : Slots) (ts : List T) (S : Sto) : RS := match ts with
  | [t, u] => .nx ((st.set i (some t)).set j (some u)) S
  | _ => .bad
theorem e_Par {i j : Nat} {ra : AA} {st : Slots} {S : Sto} : mPar i j ra st S = (ra st S).stm st (parK i j st) := rfl
theorem e_parK {i j : Nat} {st : Slots} {t u : T} {S : Sto} : parK i j st [t, u] S = .nx ((st.set i (some t)).set j (some u)) S := rfl
end
end Ab

namespace Ab
open PySem PySem.Spec PyProof.Rows L2 Sp
/-! ## try .. except C as e: return what isinstance tells of e -/
def lkX {β : Type} (z : String) : List (String × β) → Option β
  | [] => none
  | (k, b) :: r => if k = z then some b else lkX z r
theorem lkX_nil {β : Type} {z : String} : lkX z ([] : List (String × β)) = none := rfl
theorem lkX_cons {β : Type} {z k : String} {b : β} {r : List (String × β)} : lkX z ((k, b) :: r) = if k = z then some b else lkX z r := rfl
theorem tb_nil {β : Type} {P : String → β → Prop} : ∀ (x : String) (k : β), lkX x ([] : List (String × β)) = some k → P x k := fun _ _ h => nomatch h
theorem tb_cons {β : Type} {P : String → β → Prop} {c : String} {b : β} {tb : List (String × β)} (h : P c b) (t : ∀ x k, lkX x tb = some k → P x k) : ∀ x k, lkX x ((c, b) :: tb) = some k → P x k := by
  intro x k e
  rw [lkX_cons] at e
  by_cases q : c = x
  · subst q
    rw [if_pos rfl] at e
    cases e
    exact h
  · rw [if_neg q] at e
    exact t x k e
def TBx (K : PySem.W.Frag) (tb : List (String × Bool)) (cls : Value) (d : Option Addr) (x : String) : Prop := lkX x tb = some true ∧ cls = cR K x ∧ d = none
def LX (K : PySem.W.Frag) (Z : String → Prop) (i : Nat) (a : Addr) (ea : String → AE) : TE := fun σ H Q => ∃ x, Z x ∧ σ[i]? = some (some (.ref a)) ∧ LE K XS0 (ea x) σ H Q
def LXA (K : PySem.W.Frag) (Z : String → Prop) (i : Nat) (a : Addr) (ra : String → AA) : TA := fun σ H Q => ∃ x, Z x ∧ σ[i]? = some (some (.ref a)) ∧ LA K XS0 (ra x) σ H Q
def LXS (K : PySem.W.Frag) (Z : String → Prop) (i : Nat) (a : Addr) (s : String → AS) : TS := fun D σ H => ∃ x, Z x ∧ σ[i]? = some (some (.ref a)) ∧ LS K XS0 (s x) D σ H
def mIsX (tc : List (String × Bool)) : String → AE := fun x => match lkX x tc with
  | some b => mC (.bl b)
  | none => fun _ _ => .bad
section
variable {X : Cx} {K : PySem.W.Frag} {Z : String → Prop} {i : Nat} {a : Addr} {e : Expr} {es : List Expr} {pos : Pos}
theorem axC {ea : AE} (h : PE X e (LE K XS0 ea)) : PE X e (LX K Z i a fun _ => ea) := PE.weak h fun σ H Q ⟨_, _, _, p⟩ => p
theorem axIs {tb tc : List (String × Bool)} {cls : Value} {d : Option Addr} {C : Str}
    (h : PE X e (tCB (rIsG K a cls d) (tCons (tVar i) (tCons (tC (.ref (He.ga K C))) tNil)))) (hE : ∀ x k, lkX x tb = some k → ExcC K (He.ga K (.ofString x)))
    (hk : ∀ x k, lkX x tc = some k → PySem.W.kitOne K (.ref (He.ga K (.ofString x))) (.ref (He.ga K C)) = some k) : PE X e (LX K (TBx K tb cls d) i a (mIsX tc)) :=
  PE.weak h fun σ H Q ⟨x, ⟨h1, h2, h3⟩, h4, st, S, g, w, sl, p⟩ => by
    unfold mIsX at p
    cases q : lkX x tc with
    | none => simp only [q] at p; exact p.elim
    | some b =>
      simp only [q] at p
      exact ⟨.ref a, h4, ⟨_, _, b, h2, h3, hE x _ h1, rfl, hk x b q, p.val w (.bl b)⟩⟩
theorem axNil : PA X [] (LXA K Z i a fun _ => mNil) := PA.weak aNil fun σ H Q ⟨_, _, _, p⟩ => p
theorem axCons {ea : String → AE} {ra : String → AA} (ha : PE X e (LX K Z i a ea)) (hr : PA X es (LXA K Z i a ra)) (hs : starEach (e :: es) X.env = (false, eval e X.env) :: starEach es X.env := by rfl) : PA X (e :: es) (LXA K Z i a fun x => mCons (ea x) (ra x)) :=
  PA.weak (pa_cons ha hr hs) fun σ H Q ⟨x, h1, h2, st, S, g, w, sl, p⟩ => ⟨x, h1, h2, LE.bind (f := fun y st S => (ra x st S).bind fun xs S => .ok (y :: xs) S) w sl p fun t S1 v H1 g1 w1 sl1 x1 r1 p1 =>
    ⟨x, h1, h2, LA.bind (f := fun xs _ S => .ok (t :: xs) S) w1 sl1 p1 fun ts S2 vs H2 g2 w2 sl2 x2 r2 p2 => p2.val (v := v :: vs) w2 (.cons (r1.mono x2.le) r2)⟩⟩
theorem axLst (fz : Bool) {ra : String → AA} (h : PA X es (LXA K Z i a ra)) : PE X (.List es pos) (LX K Z i a fun x => mN (opLst fz) (ra x)) :=
  PE.weak (pe_lst h) fun σ H Q ⟨x, h1, h2, h⟩ => ⟨x, h1, h2, LA.opN (r := fun xs H Q => xs.length ≤ sizeLine ∧ ∀ p, H p = none → Q (.ref p) (upd H p (.lst xs))) (fun {E S H g xs vs Q} W rx p => by
    unfold opLst at p
    split at p
    · rename_i c
      exact ⟨by rw [← rx.length]; exact c, Post.newLst p W rx⟩
    · exact p.elim) h⟩
theorem axRet {ea : String → AE} (h : PE X e (LX K Z i a ea)) : PSs X [.Return (some e) pos] (LXS K Z i a fun x => mRet (ea x)) :=
  pss_one (PS.weak (ps_ret h) fun D σ H ⟨x, h1, h2, st, S, g, w, sl, p⟩ => ⟨x, h1, h2, LE.run (f := fun t S => .rt t S) w sl p fun t S1 v H1 g1 w1 sl1 x1 r1 p1 => p1 v H1 g1 w1 (.refl _ _ _) r1⟩)
end
/-- try: b except c as e: return .. -/
def mTryA (i : Nat) (tb : List (String × Bool)) (b : AS) (s : String → AS) : AS := fun st S => match b st S with
  | .exc x st S => (match lkX x tb with
    | some true => if i < st.length then (match s x (st.set i none) S with
      | .rt t S => .rt t S
      | _ => .bad) else .bad
    | some false => .exc x st S
    | none => .bad)
  | r => r
section
variable {X : Cx} {K : PySem.W.Frag} {E : XS} {body suite : List Stmt} {b₀ : Stmt} {np pos pos' : Pos} {b : AS} {s : String → AS} {n : Str}
theorem aTryAs {c : String} {cS : Str} {tb : List (String × Bool)} (i : Nat) (hN : X.N.Nodup) (hf : cS = Str.ofString c) (hs : X.stack = X.env :: X.outer) (hfr : X.env.frame = some X.env.locals) (hm : X.mg cS = some (.ref (He.ga K cS))) (tk : Takes X (wx E)) (ht : ∀ x k, lkX x tb = some k → PySem.W.exmOne K (cR K x) (.ref (He.ga K cS)) = some k)
    (hb : ∀ (W : WX) (pn : List (Addr × Obj)) (xe : Value → Shared → Prop), Takes (X.tr pn xe) W → PassesOwn (model X.prog X.w) X.A X.env xe → PSs (X.tr pn xe) body (LS K (fun σ c d H => W c d σ H) b))
    (hsu : ∀ (a : Addr) (oe : Obj) (cls : Value) (d : Option Addr) (pn : List (Addr × Obj)), Zc cls d oe → (∃ vs, oe.data = .fields vs) → PSs (X.suite a ((a, oe) :: pn)) (b₀ :: suite) (LXS K (TBx K tb cls d) i a s))
    (hi : X.N[i]? = some n := by rfl) (hln : X.env.kindOf n = some .local := by rfl) (hg : Gl X cS := by rfl) (hdb : (cS == ("__debug__" : Str)) = false := by decide) (hK : X.K = K := by rfl) :
    PS X (.Try body [.ExceptHandler (some (.Name cS np)) (some n) (b₀ :: suite) pos'] [] [] pos) (LS K E (mTryA i tb b s)) := by
  subst hf hK
  refine PS.weak (ps_try_as (i := i) (c := .ref (He.ga X.K (.ofString c))) (tb := fun W => LS X.K (fun σ c d H => W c d σ H) b) (ts := fun a cls d => LXS X.K (TBx X.K tb cls d) i a s) (Wout := wx E) hs hfr hN hi hln ⟨hg, hdb, .inl hm⟩ tk hb hsu) fun D σ H ⟨st, S, g, w, sl, p⟩ => ⟨st, S, g, w, sl, ?_⟩
  unfold mTryA at p
  cases z : b st S with
  | exc x st' S' =>
    rw [z] at p
    intro σ' H' g' w' x' sl'
    cases q : lkX x tb with
    | none => simp only [q] at p; exact p.elim
    | some k =>
      refine ⟨k, ht x k q, fun e a _ => ?_, fun e => ?_⟩
      · subst e
        simp only [q] at p
        by_cases hl : i < st'.length
        · rw [if_pos hl] at p
          refine ⟨x, ⟨q, rfl, rfl⟩, List.getElem?_set_self (by rw [← sl'.1]; exact hl), st'.set i none, S', g', w', sl'.unset i _, ?_⟩
          have p' := PostS.trans p x'
          cases y : s x (st'.set i none) S' with
          | exc _ _ _ => rw [y] at p'; exact p'.elim
          | nx a b => rw [y] at p'; exact p'.elim
          | br a b => rw [y] at p'; exact p'.elim
          | ct a b => rw [y] at p'; exact p'.elim
          | rt a b => rw [y] at p'; exact p'
          | bad => rw [y] at p'; exact p'
        · rw [if_neg hl] at p; exact p.elim
      · subst e
        simp only [q] at p
        exact p σ' H' g' w' x' sl'
  | nx a b => rw [z] at p; exact p
  | br a b => rw [z] at p; exact p
  | ct a b => rw [z] at p; exact p
  | rt a b => rw [z] at p; exact p
  | bad => rw [z] at p; exact p
end
/-! evaluation -/
def tyK (tb : List (String × Bool)) (s : String → AS) (i : Nat) : RS → RS
  | .exc x st S => (match lkX x tb with
    | some true => if i < st.length then (match s x (st.set i none) S with
      | .rt t S => .rt t S
      | _ => .bad) else .bad
    | some false => .exc x st S
    | none => .bad)
  | r => r
def rtK : RS → RS
  | .rt t S => .rt t S
  | _ => .bad
section
variable {i : Nat} {tb : List (String × Bool)} {b : AS} {s : String → AS} {st : Slots} {S : Sto} {x : String} {t : T}
theorem e_TryA : mTryA i tb b s st S = tyK tb s i (b st S) := rfl
theorem e_tyNx : tyK tb s i (.nx st S) = .nx st S := rfl
theorem e_tyRt : tyK tb s i (.rt t S) = .rt t S := rfl
theorem e_tyBr : tyK tb s i (.br st S) = .br st S := rfl
theorem e_tyCt : tyK tb s i (.ct st S) = .ct st S := rfl
def tyC (i : Nat) (s : String → AS) (x : String) (st : Slots) (S : Sto) : Option Bool → RS
  | some true => if i < st.length then rtK (s x (st.set i none) S) else .bad
  | some false => .exc x st S
  | none => .bad
theorem e_tyEx : tyK tb s i (.exc x st S) = tyC i s x st S (lkX x tb) := by
  show (match lkX x tb with
    | some true => _
    | some false => _
    | none => _) = _
  cases lkX x tb with
  | none => rfl
  | some k => cases k <;> rfl
theorem e_tyC1 : tyC i s x st S (some true) = if i < st.length then rtK (s x (st.set i none) S) else .bad := rfl
theorem e_tyC0 : tyC i s x st S (some false) = .exc x st S := rfl
theorem e_rtK : rtK (.rt t S) = .rt t S := rfl
def isxK (o : Option Bool) : AE := match o with
  | some b => mC (.bl b)
  | none => fun _ _ => .bad
theorem e_IsX {tc : List (String × Bool)} : mIsX tc x st S = isxK (lkX x tc) st S := by
  unfold mIsX isxK
  cases lkX x tc <;> rfl
theorem e_isxK {k : Bool} : isxK (some k) st S = .ok (.bl k) S := rfl
end
theorem e_opSlTk {fz : Bool} {ts : List T} {l h : Option Int} {S : Sto} : opSl fz (.tupk ts) l h S = if (cutT ts l h).length < ts.length then .ok (.tup (cutT ts l h)) S else .bad := rfl
/-! ## NAME.index(..) of a tuple of texts of the module -/
def ixS (z : String) : List String → Option Nat
  | [] => none
  | s :: r => if s = z then some 0 else (ixS z r).map (· + 1)
theorem ixS_nil {z : String} : ixS z [] = none := rfl
theorem ixS_cons {z s : String} {r : List String} : ixS z (s :: r) = if s = z then some 0 else (ixS z r).map (· + 1) := rfl
theorem ixS_ok {z : String} : ∀ {ss : List String} {j : Nat}, ixS z ss = some j → ss[j]? = some z ∧ ∀ m, m < j → ss[m]? ≠ some z
  | [], _, h => nomatch h
  | s :: r, j, h => by
    rw [ixS_cons] at h
    by_cases q : s = z
    · rw [if_pos q] at h
      cases h
      exact ⟨by rw [q]; rfl, fun m hm => nomatch hm⟩
    · rw [if_neg q] at h
      obtain ⟨k, hk, rfl⟩ := Option.map_eq_some_iff.mp h
      obtain ⟨h1, h2⟩ := ixS_ok hk
      refine ⟨by rw [List.getElem?_cons_succ]; exact h1, fun m hm => ?_⟩
      cases m with
      | zero => rw [List.getElem?_cons_zero]; exact fun e => q (Option.some.inj e)
      | succ m => rw [List.getElem?_cons_succ]; exact h2 m (by omega)
def ndB (x : Str) (K : PySem.W.Frag) : Bool := match K.lookup (He.ga K x) with
  | some ⟨.type c, none, _, _⟩ => decide (c = "tuple")
  | _ => false
theorem ndB_ok {x : Str} {K : PySem.W.Frag} (h : ndB x K = true) : ∃ o, K.lookup (He.ga K x) = some o ∧ o.cls = .type "tuple" ∧ o.dict = none := by
  unfold ndB at h
  cases q : K.lookup (He.ga K x) with
  | none => rw [q] at h; cases h
  | some o =>
    obtain ⟨oc, od, dt, osl⟩ := o
    rw [q] at h
    cases oc with
    | type c =>
      cases od with
      | none => exact ⟨_, rfl, congrArg Value.type (of_decide_eq_true h), rfl⟩
      | some _ => cases h
    | _ => cases od <;> cases h
def tixK (ss : List String) : T → Sto → R T
  | .str z, S => (match ixS z ss with
    | some j => .ok (.int (j : Nat)) S
    | none => .bad)
  | _, _ => .bad
def mTIx (ss : List String) (a : AE) : AE := fun st S => (a st S).bind (tixK ss)
section
variable {X : Cx} {K : PySem.W.Frag} {E : XS} {e : Expr} {ea : AE} {np apos cpos : Pos}
theorem aTIx {x : Str} {ss : List String} (hl : ndB x K = true) (hs : He.tupB K x (ss.map fun s => He.Dv.str (.ofString s)) = true) (gx : X.mg x = some (.ref (He.ga K x))) (ha : PE X e (LE K E ea)) (hgl : Gl X x := by rfl) (hdb : (x == ("__debug__" : Str)) = false := by decide) (hK : X.K = K := by rfl)
    (hbase : attributeBase (.Name x np) "index" X.env (eval (.Name x np) X.env) = eval (.Name x np) X.env := by rfl)
    (hfew : ((backTo cpos (starEach [e] X.env)).all (fun x => !x.1) && (backToKw cpos (keywordEach [] X.env)).all (fun x => x.1.isSome)
      && decide (([e] : List Expr).length + ([] : List Keyword).length + (if ([] : List Keyword).isEmpty then 0 else 1) < 30)) = true := by rfl)
    (hline : (apos.endLine == cpos.line) = true := by rfl) (hst : starEach [e] X.env = (false, eval e X.env) :: starEach [] X.env := by rfl) (hplain : (backTo cpos (starEach [] X.env)).any (·.1) = false := by rfl) :
    PE X (.Call (.Attribute (.Name x np) "index" apos) [e] [] cpos) (LE K E (mTIx ss ea)) := by
  subst hK
  refine PE.weak (pe_bm PySem.F.plainAttrs_tuple PySem.F.slot_tuple_index PySem.F.type_tuple_index mt_tup_index (pe_globR hgl gx hdb) (pa_cons ha pa_nil hst) hbase hfew hline hst hplain) fun σ H Q ⟨st, S, g, w, sl, p⟩ => ⟨.inr (.inl ⟨rfl, ndB_ok hl⟩), ?_⟩
  refine LE.bind (f := fun t _ S => tixK ss t S) w sl p fun t S1 v H1 g1 w1 sl1 x1 r1 p1 => ?_
  cases r1 with
  | str z =>
    unfold tixK at p1
    simp only at p1
    cases q : ixS z ss with
    | none => simp only [q] at p1; exact p1.elim
    | some j =>
      simp only [q] at p1
      obtain ⟨h1, h2⟩ := ixS_ok q
      refine ⟨_, ss.map Str.ofString, _, j, rfl, rfl, ?_, ?_, ?_, p1.val w1 (.int _)⟩
      · have := He.tupB_ok hs H1
        rw [List.map_map] at this ⊢
        exact this
      · rw [List.getElem?_map, h1]; rfl
      · intro m hm e
        rw [List.getElem?_map] at e
        obtain ⟨u, hu, q⟩ := Option.map_eq_some_iff.mp e
        exact h2 m hm (by rw [hu, ofString_inj q])
  | _ => exact p1.elim
end
section
variable {ss : List String} {a : AE} {st : Slots} {S : Sto} {z : String}
def tixO (S : Sto) : Option Nat → R T
  | some j => .ok (.int (j : Nat)) S
  | none => .bad
theorem e_TIx : mTIx ss a st S = (a st S).bind (tixK ss) := rfl
theorem e_tixK : tixK ss (.str z) S = tixO S (ixS z ss) := by
  show (match ixS z ss with
    | some j => _
    | none => _) = _
  cases ixS z ss <;> rfl
theorem e_tixO {j : Nat} : tixO S (some j) = .ok (.int (j : Nat)) S := rfl
end
/-! ## isinstance of an own object and a built-in type: False -/
def isoB (C : Str) (n : String) (K : PySem.W.Frag) : Bool :=
  He.eqO (PySem.W.findIn K (.ref (He.ga K C)) "__class__") (some (some (.builtin "object.__class__"))) && (He.eqO (PySem.W.specialIn K (.builtin "object.__class__") "__get__") (some (some (.builtin "getset_descriptor.__get__"))) &&
  (decide (PySem.W.takesIn K (.builtin "object.__class__") = some true) && (decide (PySem.W.mroIn K (He.ga K C) (.type "object") = some true) && decide (PySem.W.kitOne K (.ref (He.ga K C)) (.type n) = some false))))
def isoK (c n m : String) (S : Sto) (xs : List T) : Option O → R T
  | some (.obj d _) => if d = c ∧ m = n then .ok (.bl false) S else .bad
  | _ => opIsi xs S
def opIsiO (c n : String) : List T → Sto → R T
  | [.ref i, .ty m], S => isoK c n m S [.ref i, .ty m] S[i]?
  | xs, S => opIsi xs S
section
variable {K : PySem.W.Frag}
theorem up_isiO {c n : String} (cl : Cls K (He.ga K (.ofString c))) (h : isoB (.ofString c) n K = true) : UpN K (opIsiO c n) (rIsi K) := by
  intro E S H g xs vs Q W rx p
  unfold opIsiO at p
  split at p
  · rename_i i m
    cases hS : S[i]? with
    | none => rw [hS] at p; exact up_isi W rx p
    | some o =>
      rw [hS] at p
      cases o with
      | obj d fs =>
        change Post K E S H g (Rp K) (if d = c ∧ m = n then R.ok (.bl false) S else .bad) Q at p
        split at p
        · rename_i hc
          obtain ⟨rfl, rfl⟩ := hc
          cases rx with
          | cons r1 rx =>
            cases rx with
            | cons r2 rx =>
              cases rx
              cases r2
              obtain ⟨a, rfl, hm, dx, ws, h1, _⟩ := r1.refH W hS (fun z => nomatch z)
              obtain ⟨q1, q⟩ := He.ba h
              obtain ⟨q2, q⟩ := He.ba q
              obtain ⟨q3, q⟩ := He.ba q
              obtain ⟨q4, q5⟩ := He.ba q
              exact ⟨_, _, _, _, _, rfl, .ty m, .base (.ins h1 cl (He.eqO_ok q1) (He.eqO_ok q2) (of_decide_eq_true q3) (of_decide_eq_true q4)), of_decide_eq_true q5, p.val W (.bl _)⟩
        · exact p.elim
      | _ => exact up_isi W rx p
  · exact up_isi W rx p
end
section
variable {S : Sto} {c n m d : String} {i : Nat} {fs : List (String × T)} {xs l : List T}
theorem e_isiOR : opIsiO c n [.ref i, .ty m] S = isoK c n m S [.ref i, .ty m] S[i]? := rfl
theorem e_isiOL : opIsiO c n [.lst l, .ty m] S = opIsi [.lst l, .ty m] S := rfl
theorem e_isoKo : isoK c n m S xs (some (.obj d fs)) = if d = c ∧ m = n then .ok (.bl false) S else .bad := rfl
theorem e_isoKl : isoK c n m S xs (some (.lst l)) = opIsi xs S := rfl
end
-- simp set: lkX_nil, lkX_cons, e_TryA, e_tyNx, e_tyRt, e_tyBr, e_tyCt, e_tyEx, e_tyC1, e_tyC0, e_rtK, e_IsX, e_isxK, e_TIx, e_tixK, e_tixO, ixS_nil, ixS_cons, e_isiOR, e_isiOL, e_isoKo, e_isoKl
end Ab

namespace Ab
open PySem PySem.Spec PyProof.Rows L2 Sp
/-! ## sorted of tuples with distinct ints at their heads -/
section
variable {prog : Program} {w : World} {A : Around} {s : Shared}
def IsHd (h : Heap) (v : Value) (x : Int) : Prop := ∃ (a : Addr) (o : Obj) (t : Tok) (r : List Value) (n : Nat), v = .ref a ∧ h.get? a = some o ∧ o.cls = .type "tuple" ∧ o.data = .seq (Value.int x t :: r).toArray n
theorem lex_same {b fin : Bool} {Q : Bool → Shared → Prop} (hq : Q fin s) : ∀ (l : List Value) (i : Nat), PySem.W.KatLex prog w A b fin Q (l.zip l) i s
  | [], _ => PySem.W.kat_nil hq
  | v :: l, i => PySem.W.kat_cons (SeqAt.EqAt.same v prog w _ _ (PySem.W.kat_yes (lex_same hq l (i + 1))))
theorem hd_cmp {vs : List Value} {k : Value → Int} (hp : ∀ v ∈ vs, IsHd s.heap v (k v)) (hu : ∀ v ∈ vs, ∀ u ∈ vs, k v = k u → v = u) : SrtO.Cmp prog w A s (tuples' true) (fun p => p.1 ∈ vs) (SrtO.lt2 fun v u => decide (k v < k u)) := by
  intro p q hm hm'
  have h1 := hp _ hm
  have h2 := hp _ hm'
  have h3 := hu _ hm _ hm'
  show wpAny (model prog w) A (keyLt' (tuples' true) p.1 q.1) (fun r s' => s' = s ∧ r = decide (k p.1 < k q.1)) (fun _ _ => False) s
  by_cases e : k p.1 = k q.1
  · have e2 : decide (k p.1 < k q.1) = false := decide_eq_false (by omega)
    rw [e2, ← h3 e]
    obtain ⟨a, o, t, r, n, ea, ho, hc, hd⟩ := h1
    rw [ea]
    refine PySem.W.kat_lt ho hd ho hd ?_
    exact lex_same ⟨rfl, decide_eq_false (Nat.lt_irrefl _)⟩ _ 0
  · generalize k p.1 = x at h1 e ⊢
    generalize k q.1 = x' at h2 e ⊢
    obtain ⟨a, o, t, r, n, ea, ho, hc, hd⟩ := h1
    obtain ⟨a', o', t', r', n', ea', ho', hc', hd'⟩ := h2
    rw [ea, ea']
    refine PySem.W.kat_lt ho hd ho' hd' ?_
    show PySem.W.KatLex prog w A true _ _ ((.int x t, .int x' t') :: r.zip r') 0 s
    refine PySem.W.kat_cons (SeqAt.EqAt.int_int x t x' t' prog w _ _ ?_)
    have ne : (x == x') = false := beq_false_of_ne e
    rw [ne]
    exact PySem.W.kat_no (oneLt_int ⟨rfl, rfl⟩)
theorem hd_firsts {h : Heap} : ∀ {vs : List Value}, (∀ v ∈ vs, ∃ x, IsHd h v x) → ∃ fs : List Value, PySem.W.KatTups h vs fs ∧ fs.length = vs.length ∧ ∀ f ∈ fs, ∃ x t, f = Value.int x t
  | [], _ => ⟨[], PySem.W.KatTups.nil, rfl, fun f hf => nomatch hf⟩
  | v :: vs, hp => by
    obtain ⟨fs, f1, f2, f3⟩ := hd_firsts (vs := vs) fun u hu => hp u (List.mem_cons_of_mem _ hu)
    obtain ⟨x, a, o, t, r, n, rfl, ho, hc, hd⟩ := hp v List.mem_cons_self
    refine ⟨.int x t :: fs, PySem.W.KatTups.cons ho hc hd rfl f1, by simp [f2], fun f hf => ?_⟩
    rcases List.mem_cons.mp hf with rfl | hf
    · exact ⟨x, t, rfl⟩
    · exact f3 f hf
theorem swo_int {α : Type} (k : α → Int) : SrtO.Swo fun v u => decide (k v < k u) := by
  constructor
  · intro x y h
    have := of_decide_eq_true h
    exact decide_eq_false (by omega)
  · intro x y z h1 h2
    have a := of_decide_eq_false h1
    have b := of_decide_eq_false h2
    exact decide_eq_false (by omega)
theorem hd_sorted {E : Value → Shared → Prop} {l : Addr} {vs : List Value} {k : Value → Int} {Q : Value → Shared → Prop} (hl : s.heap.IsList l vs.toArray) (hz : vs.length ≤ sizeLine) (hp : ∀ v ∈ vs, IsHd s.heap v (k v)) (hu : ∀ v ∈ vs, ∀ u ∈ vs, k v = k u → v = u)
    (h : ∀ (h' : Heap) (d : Addr) (out : List Value), SrtO.Srtd (fun v u => decide (k v < k u)) out → out.Perm vs → (∀ b o, s.heap.get? b = some o → h'.get? b = some o) → s.heap.objs.size ≤ d → (∃ n, h'.get? d = some (seqObj "list" out.toArray n)) → Q (.ref d) { s with heap := h' }) :
    wpAny (model prog w) A (call (.builtin "sorted") [.ref l]) Q E s := by
  refine SrtO.sorted_ord (swo_int k) hl hz (fun h2 h₁ a ha kk => ?_) fun out hs hb => ?_
  · intro h' keep
    have hp' : ∀ v ∈ vs, IsHd h' v (k v) := fun v hm => by
      obtain ⟨b, o, t, r, n, e, ho, hc, hd⟩ := hp v hm
      have h3 := (kk b o ho).2
      refine ⟨b, o, t, r, n, e, keep b o (fun z => ?_) h3, hc, hd⟩
      subst z
      rw [h3] at ha
      cases ha
      exact absurd (Value.type.inj hc) (by decide)
    obtain ⟨fs, f1, f2, f3⟩ := hd_firsts fun v hm => ⟨_, hp' v hm⟩
    refine ⟨tuples' true, fun Q E hq => ?_, hd_cmp hp' hu⟩
    refine PySem.W.kat_kind (T := .type "int") f1 (by omega) (fun f hm => ?_) (by rfl) ?_
    · obtain ⟨x, t, rfl⟩ := f3 f hm
      exact PySem.W.Looks.now
    · rw [show (Value.type "int" != Value.type "tuple") = true from by decide +kernel]
      exact hq
  · exact h _ _ out hs hb.perm (fun b o e => PyProof.Rows.sortedAll_old e) (Nat.le_succ _) (PyProof.Rows.sortedAll_at s.heap vs out.toArray)
end
def rSortedH (K : PySem.W.Frag) : List V → Hp → VK → Prop := fun vs H Q => ∃ (a : Addr) (xs : List V) (k : V → Int), vs = [V.ref a] ∧ SqL K H a xs ∧ (∀ x ∈ xs, ∃ t r, x = V.ref t ∧ H t = some (.tup (.int (k x) :: r))) ∧ (∀ x ∈ xs, ∀ y ∈ xs, k x = k y → x = y) ∧
  ∀ ys p, SrtO.Srtd (fun v u => decide (k v < k u)) ys → ys.Perm xs → H p = none → Q (.ref p) (upd H p (.lst ys))
theorem cr_sortedHK {X : Cx} (K : PySem.W.Frag) (hK : X.K = K := by rfl) : CallR X (.builtin "sorted") (rSortedH K) := by
  subst hK
  intro pins s σ H vs us Q I r h
  obtain ⟨a, xs, k, rfl, hs, hx, hu, q⟩ := h
  obtain ⟨its, rv, hl, hz⟩ := I.list hs
  obtain ⟨u, rfl, ru⟩ := vals1 r
  cases (show u = Value.ref a from ru)
  obtain ⟨e1, e2⟩ := refs_back rv fun x m => let ⟨t, _, e, _⟩ := hx x m; ⟨t, e⟩
  have mem : ∀ v ∈ its, backV v ∈ xs := fun v hv => by rw [e1]; exact List.mem_map.mpr ⟨v, hv, rfl⟩
  refine hd_sorted (k := fun u => k (backV u)) hl.isList (by rw [← rv.length]; exact hz) (fun v hv => ?_) (fun v hv u hu' e => ?_) fun h' d out h1 h2 kp hd hn => ?_
  · obtain ⟨t, rfl⟩ := e2 v hv
    obtain ⟨t', r', e, ht⟩ := hx _ (mem _ hv)
    cases e
    obtain ⟨_, its2, r2, o, ho, hc, n, hd⟩ := I.hok _ _ ht
    cases r2 with
    | cons ri rr =>
      obtain ⟨t1, rfl⟩ := ri
      exact ⟨t, o, t1, _, n, rfl, ho, hc, hd⟩
  · obtain ⟨t, rfl⟩ := e2 v hv
    obtain ⟨t', rfl⟩ := e2 u hu'
    have := hu _ (mem _ hv) _ (mem _ hu') e
    cases this
    rfl
  · have h3 : ∀ u ∈ out, ∃ a, u = Value.ref a := fun u hu => e2 u (h2.mem_iff.mp hu)
    obtain ⟨n, hn⟩ := hn
    have hb : (out.map backV).Perm xs := by rw [e1]; exact h2.map _
    refine ⟨.ref d, upd H d (.lst (out.map backV)), I.laid (t' := s.toks) kp hd ⟨?_, out, n, vals_back h3, hn⟩, rfl, q _ d (SrtO.srtd_map h1) hb (I.hok.fresh hd)⟩
    rw [hb.length_eq]
    exact hz
/-! the same over trees -/
def hdsOf : List T → Option (List (Int × T))
  | [] => some []
  | .tup (.int i :: r) :: ts => if keyb (.int i :: r) = true then (hdsOf ts).map ((i, .tup (.int i :: r)) :: ·) else none
  | _ => none
def insH (p : Int × T) : List (Int × T) → List (Int × T)
  | [] => [p]
  | q :: qs => if p.1 ≤ q.1 then p :: q :: qs else q :: insH p qs
def sortH : List (Int × T) → List (Int × T)
  | [] => []
  | p :: ps => insH p (sortH ps)
theorem insH_perm (p : Int × T) : ∀ l, (insH p l).Perm (p :: l)
  | [] => .refl _
  | q :: qs => by
    unfold insH
    split
    · exact .refl _
    · exact ((insH_perm p qs).cons q).trans (.swap p q qs)
theorem sortH_perm : ∀ l, (sortH l).Perm l
  | [] => .refl _
  | p :: ps => (insH_perm p (sortH ps)).trans ((sortH_perm ps).cons p)
theorem insH_asc (p : Int × T) : ∀ l : List (Int × T), (l.map (·.1)).Pairwise (· ≤ ·) → ((insH p l).map (·.1)).Pairwise (· ≤ ·)
  | [], _ => by simp [insH]
  | q :: qs, h => by
    unfold insH
    rw [List.map_cons] at h
    obtain ⟨h1, h2⟩ := List.pairwise_cons.mp h
    split
    · rename_i c
      rw [List.map_cons, List.map_cons]
      refine List.pairwise_cons.mpr ⟨fun x hx => ?_, h⟩
      rcases List.mem_cons.mp hx with rfl | hx
      · exact c
      · exact Int.le_trans c (h1 x hx)
    · rename_i c
      rw [List.map_cons]
      refine List.pairwise_cons.mpr ⟨fun x hx => ?_, insH_asc p qs h2⟩
      rcases List.mem_cons.mp (((insH_perm p qs).map (·.1)).mem_iff.mp hx) with rfl | hx
      · show q.1 ≤ p.1; omega
      · exact h1 x hx
theorem sortH_asc : ∀ l, ((sortH l).map (·.1)).Pairwise (· ≤ ·)
  | [] => .nil
  | p :: ps => insH_asc p _ (sortH_asc ps)
theorem asc_uniq : ∀ {l m : List Int}, l.Perm m → l.Pairwise (· ≤ ·) → m.Pairwise (· ≤ ·) → l = m
  | [], _, p, _, _ => (List.nil_perm.mp p).symm
  | a :: l, [], p, _, _ => (List.cons_ne_nil _ _ (List.perm_nil.mp p)).elim
  | a :: l, b :: m, p, h1, h2 => by
    obtain ⟨q1, q2⟩ := List.pairwise_cons.mp h1
    obtain ⟨q3, q4⟩ := List.pairwise_cons.mp h2
    have e : a = b := by
      rcases List.mem_cons.mp (p.mem_iff.mp List.mem_cons_self) with e | e
      · exact e
      · rcases List.mem_cons.mp (p.mem_iff.mpr (List.mem_cons_self (a := b) (l := m))) with e' | e'
        · exact e'.symm
        · have a1 := q1 b e'; have a2 := q3 a e; omega
    subst e
    rw [asc_uniq ((List.perm_cons a).mp p) q2 q4]
def opSortH (fz : Bool) : List T → Sto → R T
  | [x], S => match (lkL S x).bind hdsOf with
    | some l => if (l.map (·.1)).Nodup then mkL fz ((sortH l).map (·.2)) S else .bad
    | none => .bad
  | _, _ => .bad
section
variable {K : PySem.W.Frag}
/-- the int at the head of the tuple at v -/
def hdAt (H : Hp) (v : V) : Int := match v with
  | .ref t => (match H t with
    | some (.tup (.int i :: _)) => i
    | _ => 0)
  | _ => 0
def IsH (K : PySem.W.Frag) (g : G) (H : Hp) (p : Int × T) (x : V) : Prop := Rp K g p.2 x ∧ ∃ t r, x = .ref t ∧ H t = some (.tup (.int p.1 :: r)) ∧ hdAt H x = p.1
theorem hds_rp {S : Sto} {H : Hp} {g : G} (W : Wd K S H g) : ∀ {ts : List T} {vs : List V} {l : List (Int × T)}, hdsOf ts = some l → Rps K g ts vs → l.map (·.1) = vs.map (hdAt H) ∧ (∀ x ∈ vs, ∃ p ∈ l, IsH K g H p x) ∧ l.length = vs.length
  | [], vs, l, e, r => by
    cases r; cases e
    exact ⟨rfl, (fun x hx => nomatch hx), rfl⟩
  | t :: ts, vs, l, e, r => by
    unfold hdsOf at e
    split at e
    · rename_i h; cases h
    · rename_i i r0 ts0 h
      cases h
      split at e
      · rename_i hk
        obtain ⟨m, hm, rfl⟩ := Option.map_eq_some_iff.mp e
        cases r with
        | cons r1 rr =>
          obtain ⟨h1, h2, h3⟩ := hds_rp W hm rr
          have r1' := r1
          cases r1 with
          | @tup _ ad _ a b c =>
            have e3 := W.sub _ _ (b hk)
            cases c with
            | cons c1 c2 =>
              cases c1
              have hd : hdAt H (.ref ad) = i := by unfold hdAt; simp only [e3]
              refine ⟨by rw [List.map_cons, List.map_cons, h1, hd], fun x hx => ?_, by simp [h3]⟩
              rcases List.mem_cons.mp hx with rfl | hx
              · exact ⟨_, List.mem_cons_self, r1', _, _, rfl, e3, hd⟩
              · obtain ⟨p, hp, q⟩ := h2 x hx
                exact ⟨p, List.mem_cons_of_mem _ hp, q⟩
      · cases e
    · cases e
theorem nodup_fst {l : List (Int × T)} (h : (l.map (·.1)).Nodup) : ∀ {p q : Int × T}, p ∈ l → q ∈ l → p.1 = q.1 → p = q := by
  induction l with
  | nil => intro p q hp; cases hp
  | cons a l ih =>
    intro p q hp hq e
    rw [List.map_cons, List.nodup_cons] at h
    rcases List.mem_cons.mp hp with ep | hp2
    · rcases List.mem_cons.mp hq with eq | hq2
      · rw [ep, eq]
      · subst ep; exact (h.1 (List.mem_map.mpr ⟨q, hq2, e.symm⟩)).elim
    · rcases List.mem_cons.mp hq with eq | hq2
      · subst eq; exact (h.1 (List.mem_map.mpr ⟨p, hp2, e⟩)).elim
      · exact ih h.2 hp2 hq2 e
theorem nodup_map_inj {α β : Type} {f : α → β} : ∀ {l : List α}, (l.map f).Nodup → ∀ {x y : α}, x ∈ l → y ∈ l → f x = f y → x = y
  | [], _, _, _, hx, _, _ => nomatch hx
  | a :: l, h, x, y, hx, hy, e => by
    rw [List.map_cons, List.nodup_cons] at h
    rcases List.mem_cons.mp hx with ex | hx2
    · rcases List.mem_cons.mp hy with ey | hy2
      · rw [ex, ey]
      · subst ex; exact (h.1 (List.mem_map.mpr ⟨y, hy2, e.symm⟩)).elim
    · rcases List.mem_cons.mp hy with ey | hy2
      · subst ey; exact (h.1 (List.mem_map.mpr ⟨x, hx2, e⟩)).elim
      · exact nodup_map_inj h.2 hx2 hy2 e
theorem Rps.hds {g : G} {H : Hp} {l : List (Int × T)} (nd : (l.map (·.1)).Nodup) : ∀ {A : List (Int × T)} {ys : List V}, A.map (·.1) = ys.map (hdAt H) → (∀ p ∈ A, p ∈ l) → (∀ y ∈ ys, ∃ p ∈ l, IsH K g H p y) → Rps K g (A.map (·.2)) ys
  | [], [], _, _, _ => .nil
  | [], _ :: _, e, _, _ => by cases e
  | _ :: _, [], e, _, _ => by cases e
  | a :: A, y :: ys, e, ha, hy => by
    rw [List.map_cons, List.map_cons] at e
    injection e with e1 e2
    obtain ⟨p, hp, r, _, _, _, _, hd⟩ := hy y List.mem_cons_self
    have : a = p := nodup_fst nd (ha a List.mem_cons_self) hp (by rw [e1, hd])
    subst this
    exact .cons r (Rps.hds nd e2 (fun q hq => ha q (List.mem_cons_of_mem _ hq)) fun z hz => hy z (List.mem_cons_of_mem _ hz))
theorem up_sortH (fz : Bool) : UpN K (opSortH fz) (rSortedH K) := by
  intro E S H g xs vs Q W rx p
  unfold opSortH at p
  split at p
  · obtain ⟨v, rfl, r⟩ := rx.one
    split at p
    · rename_i l e
      split at p
      · rename_i nd
        obtain ⟨ts, e1, e2⟩ := Option.bind_eq_some_iff.mp e
        obtain ⟨a, ws, rfl, h, r1⟩ := lkL_rp W e1 r
        obtain ⟨h1, h2, h3⟩ := hds_rp W e2 r1
        refine ⟨a, ws, hdAt H, rfl, h, fun x hx => ?_, fun x hx y hy e => ?_, fun ys q srt pm hq => ?_⟩
        · obtain ⟨p, hp, _, t, r, rfl, e, hd⟩ := h2 x hx
          exact ⟨t, r, rfl, by rw [hd]; exact e⟩
        · have nd' : (ws.map (hdAt H)).Nodup := by rw [← h1]; exact nd
          exact nodup_map_inj nd' hx hy e
        · have e3 : (sortH l).map (·.1) = ys.map (hdAt H) := asc_uniq (((sortH_perm l).map _).trans (by rw [h1]; exact (pm.map _).symm)) (sortH_asc l) (List.pairwise_map.mpr (srt.imp fun {x y} a => by have := of_decide_eq_false a; omega))
          exact Post.newLst p W (Rps.hds nd e3 (fun p hp => (sortH_perm l).mem_iff.mp hp) fun y hy => h2 y (pm.mem_iff.mp hy)) q hq
      · exact p.elim
    · exact p.elim
  · exact p.elim
end
section
variable {fz : Bool} {S : Sto} {t : T}
def srtHK (fz : Bool) (S : Sto) (l : List (Int × T)) : R T := if (l.map (·.1)).Nodup then mkL fz ((sortH l).map (·.2)) S else .bad
theorem e_sortH : opSortH fz [t] S = pget ((lkL S t).bind hdsOf) (srtHK fz S) := by simp only [opSortH]; cases (lkL S t).bind hdsOf <;> rfl
theorem e_srtHK {l : List (Int × T)} : srtHK fz S l = if (l.map (·.1)).Nodup then mkL fz ((sortH l).map (·.2)) S else .bad := rfl
end
-- simp set: e_sortH, e_srtHK
end Ab

namespace Ab
open PySem PySem.Spec PyProof.Rows L2 Sp
/-! ## max(xs, default=d) of ints -/
def rMaxDf (K : PySem.W.Frag) : List V → List V → Hp → VK → Prop := fun vs zs H Q => ∃ (a : Addr) (ns : List Int) (d : V), vs = [V.ref a] ∧ zs = [d] ∧ SqL K H a (ns.map V.int) ∧ (ns = [] → Q d H) ∧ ∀ m, m ∈ ns → (∀ x ∈ ns, x ≤ m) → Q (.int m) H
theorem ints_hold {h : Heap} : ∀ {vs : List Value} {ns : List Int}, IntsAre vs ns → PySem.W.HoldAll (α := Int) h vs ns
  | _, _, .nil => ⟨[], .nil⟩
  | _, _, .cons i t r => by
    obtain ⟨as, q⟩ := ints_hold (h := h) r
    exact ⟨[] ++ as, .cons (.int i t) q⟩
theorem maxOf_int (y : Int) : ∀ ys : List Int, PySem.W.maxOf y ys ∈ y :: ys ∧ ∀ x ∈ y :: ys, x ≤ PySem.W.maxOf y ys := by
  intro ys
  induction ys generalizing y with
  | nil => exact ⟨List.mem_cons_self, fun x hx => by rw [List.mem_singleton.mp hx]; exact Int.le_refl _⟩
  | cons z zs ih =>
    have e : PySem.W.maxOf y (z :: zs) = PySem.W.maxOf (if y < z then z else y) zs := by
      show PySem.W.maxOf (if PySem.W.DatumOrd.lt y z = true then z else y) zs = _
      congr 1
      by_cases c : y < z
      · rw [if_pos c, if_pos (by exact decide_eq_true c)]
      · rw [if_neg c, if_neg (by exact fun h => c (of_decide_eq_true h))]
    rw [e]
    obtain ⟨h1, h2⟩ := ih (if y < z then z else y)
    by_cases c : y < z
    · rw [if_pos c] at h1 h2 ⊢
      refine ⟨List.mem_cons_of_mem _ h1, fun x hx => ?_⟩
      rcases List.mem_cons.mp hx with rfl | hx
      · exact Int.le_trans (Int.le_of_lt c) (h2 z List.mem_cons_self)
      · exact h2 x hx
    · rw [if_neg c] at h1 h2 ⊢
      refine ⟨?_, fun x hx => ?_⟩
      · rcases List.mem_cons.mp h1 with h | h
        · rw [h]; exact List.mem_cons_self
        · exact List.mem_cons_of_mem _ (List.mem_cons_of_mem _ h)
      · rcases List.mem_cons.mp hx with rfl | hx
        · exact h2 x List.mem_cons_self
        · rcases List.mem_cons.mp hx with rfl | hx
          · exact Int.le_trans (Int.not_lt.mp c) (h2 y List.mem_cons_self)
          · exact h2 x (List.mem_cons_of_mem _ hx)
theorem cr_maxDf {X : Cx} (hc : X.calm = true) (hu : X.A.units + 64 < cLine) : CallRK X (.builtin "max") ["default"] (rMaxDf X.K) := by
  intro pins s σ H xs zs us ws Q I r rz h
  obtain ⟨a, ns, d, rfl, rfl, hs, h0, h1⟩ := h
  obtain ⟨its, rv, hl, _⟩ := I.list hs
  rw [Vals.ref1 r]
  obtain ⟨dv, rfl, rd⟩ := vals1 rz
  refine PySem.W.max_list_datum_default (α := Int) (xs := ns) (I.ok.hd hc) hl.isList (by simpa using ints_hold rv.ints) (by show X.A.units + 1 + 0 < cLine; omega) (fun e h' tk k => ⟨d, H, I.kept k, rd, h0 e⟩) fun y ys i v h' tk e _ hv k => ?_
  obtain ⟨as, hv⟩ := hv
  have hv' : Reads h' v (.int (PySem.W.maxOf y ys)) as := hv
  cases hv' with
  | int i t =>
    subst e
    obtain ⟨m1, m2⟩ := maxOf_int y ys
    exact ⟨.int _, H, I.kept k, ⟨t, rfl⟩, h1 _ m1 m2⟩
def maxDK (d : Int) (x : T) (S : Sto) : R T := match (lkL S x).bind intsOf with
  | some [] => .ok (.int d) S
  | some (i :: is) => .ok (.int (maxI (i :: is))) S
  | none => .bad
def mMaxD (d : Int) (a : AE) : AE := fun st S => (a st S).bind (maxDK d)
section
variable {X : Cx} {K : PySem.W.Frag} {E : XS} {e : Expr} {ea : AE} {pos p kpos cpos : Pos} {d : Int} {j : Nat}
theorem aMaxD (d : Int) (hu : X.A.units + 64 < cLine) (hm : X.mg "max" = none) (ha : PE X e (LE K E ea)) (hK : X.K = K := by rfl) (hc : X.calm = true := by rfl) (hg : Gl X "max" := by rfl)
    (hv : bootBuiltins "max" = some (.builtin "max") := by decide +kernel) (hst : starEach [e] X.env = (false, eval e X.env) :: starEach [] X.env := by rfl)
    (he : backTo pos (starEach [e] X.env) = (false, eval e X.env) :: backTo pos (starEach [] X.env) := by rfl) (hpl : (backTo pos (starEach [e] X.env)).any (·.1) = false := by rfl)
    (hall : (backToKw pos (keywordEach [⟨some "default", .Constant (.int d) j cpos, kpos⟩] X.env)).all (·.1.isSome) = true := by rfl) (hnone : (backToKw pos (keywordEach [⟨some "default", .Constant (.int d) j cpos, kpos⟩] X.env)).any (·.1.isNone) = false := by rfl) (hks : (backToKw pos (keywordEach [⟨some "default", .Constant (.int d) j cpos, kpos⟩] X.env)).filterMap (·.1) = [Str.ofString "default"] := by rfl) :
    PE X (.Call (.Name "max" p) [e] [⟨some "default", .Constant (.int d) j cpos, kpos⟩] pos) (LE K E (mMaxD d ea)) := by
  subst hK
  refine PE.weak (pe_callBK (cr_maxDf hc hu) hg hm hv (pa_cons ha pa_nil hst) (pk_cons pe_int pk_nil) (by decide) (by decide) he hpl hall hnone hks) fun σ H Q ⟨st, S, g, w, sl, p⟩ => ?_
  refine LE.bind (f := fun t _ S => maxDK d t S) w sl p fun t S1 v H1 g1 w1 sl1 x1 r1 p1 => ?_
  unfold maxDK at p1
  cases q : (lkL S1 t).bind intsOf with
  | none => simp only [q] at p1; exact p1.elim
  | some ns =>
    obtain ⟨ts, e1, e2⟩ := Option.bind_eq_some_iff.mp q
    obtain ⟨a, ws, rfl, h, r2⟩ := lkL_rp w1 e1 r1
    obtain ⟨e3, _⟩ := intsOf_rp e2 r2
    subst e3
    cases ns with
    | nil =>
      simp only [q] at p1
      exact ⟨a, [], .int d, rfl, rfl, h, fun _ => p1.val w1 (.int _), (fun m hm _ => nomatch hm)⟩
    | cons i is =>
      simp only [q] at p1
      refine ⟨a, i :: is, .int d, rfl, rfl, h, (fun e => nomatch e), fun m hm hy => ?_⟩
      obtain ⟨m1, m2⟩ := maxI_mem i is
      have : m = maxI (i :: is) := Int.le_antisymm (m2 m hm) (hy _ m1)
      subst this
      exact p1.val w1 (.int _)
end
/-! ## sorted(d), d a dict of int keys -/
def rSortedDI (K : PySem.W.Frag) : List V → Hp → VK → Prop := fun xs H Q => ∃ (a : Addr) (kvs : List (Key × V)) (ks : List Int), xs = [.ref a] ∧ Rd H a (.dK kvs) ∧ kvs.map (·.1) = ks.map Sum.inl ∧ ks.length ≤ sizeLine ∧
  ∀ (ys : List Int) (p : Addr), ys.Perm ks → ys.Pairwise (· ≤ ·) → H p = none → Q (.ref p) (upd H p (.lst (ys.map V.int)))
theorem cr_sortedDI {X : Cx} (K : PySem.W.Frag) (calm : X.calm = true := by rfl) : CallR X (.builtin "sorted") (rSortedDI K) := by
  intro pins s σ H args vals Q I rel q
  obtain ⟨a, kvs, ks, rfl, hd, hks, size, q⟩ := q
  obtain ⟨u, rfl, ru⟩ := vals1 rel
  cases ru
  obtain ⟨z, lo, ents, same, dd⟩ := dk_rd I.hok hd
  obtain ⟨ep, place⟩ := dd.dictAt
  have keys : ents.map (·.1) = ks.map Sum.inl := by
    rw [← hks]; exact same.keys.symm
  have len : ents.length = ks.length := by
    simpa using congrArg List.length keys
  have few : ents.length ≤ sizeLine := len ▸ size
  refine Calls.call_function_entry kind_sorted plain_sorted entry_sorted (args_sorted1 _) ?_
  unfold Builtin.«sorted»
  refine wpAny_bind (m := checkCount "sorted" 1 1 _) (wpAny_pure ?_)
  refine wpAny_bind (PySem.W.kdu_collect (A := X.A.in1)
    (PySem.W.kdl_dict (knd := mixKind X.prog X.w) (kvs := ents) (ep := ep) lo) (I.ok.hd calm) place few ?_)
  intro h1 tk acc kp got
  have many : acc.toList.length = ks.length := by
    rw [Array.length_toList, got.1, len]
  have allI : IntsAre acc.toList ks := ints_each many fun j v at_ => by
    obtain ⟨k, x, at1, at2⟩ := got.2 j v (by rw [← Array.getElem?_toList]; exact at_)
    have at3 : (ks.map Sum.inl)[j]? = some k := by
      rw [← keys, List.getElem?_map, at1]; rfl
    rw [List.getElem?_map] at at3
    obtain ⟨y, hy, rfl⟩ := Option.map_eq_some_iff.mp at3
    rcases keyIs_shape (show keyIs (Sum.inl y) v = true from at2) with ⟨i, t, ei, ev⟩ | ⟨_, _, ei, _⟩
    · cases ei; exact ⟨y, t, hy, ev⟩
    · cases ei
  have I1 : Inv X pins σ H { s with heap := h1, toks := tk } := I.kept kp
  refine wpAny_bind (wpAny_newList ?_ (by rw [many]; exact size))
  have new : (h1.push (seqObj "list" acc.toList.toArray 0)).get? h1.objs.size = some (seqObj "list" acc.toList.toArray 0) := Heap.get?_push_size _ rfl
  refine wpAny_bind (wpAny_holding (wpAny_call_entry slot_list_sort ⟨_, new, rfl⟩ entry_list_sort
    (SrtO.list_sort_ord (s := { s with heap := h1.push (seqObj "list" acc.toList.toArray 0), toks := tk }) SrtO.swo_int new (by rw [many]; exact size)
      (fun two => SrtO.ints_sortable allI two) fun out o1 o2 => ⟨_, rfl, ?_⟩) (args_list_sort _)))
  obtain ⟨g1, g2, g3⟩ := SrtO.ints_out allI o1 o2
  obtain ⟨ep2, there⟩ := sortedHeap_at (vs := acc.toList) (out := out.toArray) new
  have fits : ((out.map SrtO.iv).map V.int).length ≤ sizeLine := by
    rw [List.length_map, g2.length_eq]; exact size
  refine wpAny_pure ⟨_, rfl, .ref h1.objs.size, upd H h1.objs.size (.lst ((out.map SrtO.iv).map V.int)), I1.laid (t' := tk) ?_ (Nat.le_refl _) ⟨fits, out, ep2, vals_of_ints g1, there⟩, rfl, q _ _ g2 g3 (I1.hok.fresh (Nat.le_refl _))⟩
  intro b u eb
  have lt : b < h1.objs.size := Heap.lt_size eb
  rw [sortedHeap_old (Nat.ne_of_lt lt) (by rw [size_push']; exact Nat.lt_succ_of_lt lt)]
  exact Heap.get?_push_of_some _ eb
def opSortD (fz : Bool) : List T → Sto → R T
  | [x], S => match dOf S x with
    | some (false, ps) => (match intsOf (ps.map (·.1)) with
      | some l => if l.length ≤ sizeLine then mkL fz ((sortI l).map .int) S else .bad
      | none => .bad)
    | _ => .bad
  | _, _ => .bad
theorem keys_inl : ∀ {kvs : List (Key × V)} {l : List Int}, (kvs.map fun kv => kV kv.1) = l.map V.int → kvs.map (·.1) = l.map Sum.inl
  | [], [], _ => rfl
  | [], _ :: _, e => by cases e
  | _ :: _, [], e => by cases e
  | (k, v) :: kvs, i :: l, e => by
    rw [List.map_cons, List.map_cons] at e
    injection e with e1 e2
    rw [List.map_cons, List.map_cons, keys_inl e2]
    congr 1
    cases k with
    | inl j => cases e1; rfl
    | inr z => cases e1
theorem up_sortD {K : PySem.W.Frag} (fz : Bool) : UpN K (opSortD fz) (rSortedDI K) := by
  intro E S H g xs vs Q W rx p
  unfold opSortD at p
  split at p
  · obtain ⟨v, rfl, r⟩ := rx.one
    split at p
    · rename_i ps e
      split at p
      · rename_i l e2
        split at p
        · rename_i hl
          obtain ⟨a, u, rfl, h, kvs, rfl, rr⟩ := dOf_rp W e r
          obtain ⟨e3, _⟩ := intsOf_rp e2 rr.keys
          refine ⟨a, kvs, l, rfl, h, keys_inl e3, hl, fun ns' q perm srt hq => ?_⟩
          have : ns' = sortI l := sorted_same (perm.trans (sortI_perm l).symm) srt (sortI_sorted l)
          subst this
          exact Post.newLst p W (Rps.ints _) q hq
        · exact p.elim
      · exact p.elim
    · exact p.elim
  · exact p.elim
section
variable {fz : Bool} {S : Sto} {t : T} {d i : Int} {is l : List Int} {a : AE} {st : Slots} {ps : List (T × T)}
def maxDO (d : Int) (S : Sto) : Option (List Int) → R T
  | some [] => .ok (.int d) S
  | some (i :: is) => .ok (.int (maxI (i :: is))) S
  | none => .bad
theorem e_MaxD : mMaxD d a st S = (a st S).bind (maxDK d) := rfl
theorem e_maxDK : maxDK d t S = maxDO d S ((lkL S t).bind intsOf) := by
  unfold maxDK maxDO
  cases (lkL S t).bind intsOf with
  | none => rfl
  | some l => cases l <;> rfl
theorem e_maxDn : maxDO d S (some []) = .ok (.int d) S := rfl
theorem e_maxDc : maxDO d S (some (i :: is)) = .ok (.int (maxI (i :: is))) S := rfl
def srtDL (fz : Bool) (S : Sto) (l : List Int) : R T := if l.length ≤ sizeLine then mkL fz ((sortI l).map .int) S else .bad
def srtDK (fz : Bool) (S : Sto) : Bool × List (T × T) → R T
  | (false, ps) => pget (intsOf (ps.map (·.1))) (srtDL fz S)
  | _ => .bad
theorem e_sortD : opSortD fz [t] S = pget (dOf S t) (srtDK fz S) := by
  simp only [opSortD]
  generalize dOf S t = o
  rcases o with _ | ⟨_ | _, ps⟩
  · rfl
  · show _ = pget (intsOf (ps.map (·.1))) (srtDL fz S)
    simp only
    cases intsOf (ps.map (·.1)) <;> rfl
  · rfl
theorem e_srtDK : srtDK fz S (false, ps) = pget (intsOf (ps.map (·.1))) (srtDL fz S) := rfl
theorem e_srtDL : srtDL fz S l = if l.length ≤ sizeLine then mkL fz ((sortI l).map .int) S else .bad := rfl
end
theorem tb_one {β : Type} {P : String → β → Prop} {c : String} {b : β} (h : P c b) : ∀ x k, List.lookup x [(c, b)] = some k → P x k := by
  intro x k e
  unfold List.lookup at e
  cases q : x == c with
  | true =>
    rw [q] at e
    have hx : x = c := by simpa using q
    subst hx
    injection e with e
    subst e
    exact h
  | false =>
    rw [q] at e
    cases e
-- simp set: e_MaxD, e_maxDK, e_maxDn, e_maxDc, e_sortD, e_srtDK, e_srtDL
end Ab

namespace Ab
open PySem PySem.Spec PyProof.Rows L2 Sp
/-! ## loops that may end early -/
/-- a step goes on (P), ends the def with a value (Q), or breaks (B) -/
def GoesR (P : Slots → Sto → Prop) (Q : T → Sto → Prop) (B : Slots → Sto → Prop) : RS → Prop
  | .nx st S => P st S
  | .ct st S => P st S
  | .rt t S => Q t S
  | .br st S => B st S
  | _ => False
def EndsR (P : Slots → Sto → Prop) (Q : T → Sto → Prop) : RS → Prop
  | .nx st S => P st S
  | .rt t S => Q t S
  | _ => False
theorem forL_stop {ck : Option (Nat × List T)} {g : MG} {b : AS} {t : T} {ts : List T} {st : Slots} {S : Sto} (h : okC ck S) {P : Slots → Sto → Prop} {Q : T → Sto → Prop} {B : Slots → Sto → Prop} (e : GoesR P Q B (fstep g b t st S)) : (∃ st' S', forL ck g b (t :: ts) st S = forL ck g b ts st' S' ∧ P st' S') ∨ EndsR B Q (forL ck g b (t :: ts) st S) := by
  rw [forL_cons _ _ _ _ _ _ _ h]
  unfold fstep fsB at e
  unfold forB forN
  cases q : (g t st S).only with
  | nx st1 S1 =>
    rw [q] at e
    simp only at e ⊢
    cases q2 : b st1 S1 with
    | nx st2 S2 => rw [q2] at e; exact .inl ⟨st2, S2, rfl, e⟩
    | ct st2 S2 => rw [q2] at e; exact .inl ⟨st2, S2, rfl, e⟩
    | rt t2 S2 => rw [q2] at e; exact .inr e
    | br st2 S2 => rw [q2] at e; exact .inr e
    | exc => rw [q2] at e; exact e.elim
    | bad => rw [q2] at e; exact e.elim
  | ct st1 S1 => exfalso; revert q; cases g t st S <;> intro q <;> cases q
  | rt st1 S1 => exfalso; revert q; cases g t st S <;> intro q <;> cases q
  | br st1 S1 => exfalso; revert q; cases g t st S <;> intro q <;> cases q
  | exc => rw [q] at e; exact e.elim
  | bad => rw [q] at e; exact e.elim
theorem forL_gen {ck : Option (Nat × List T)} {g : MG} {b : AS} {l : List T} {st : Slots} {S : Sto} (P : List T → Slots → Sto → Prop) (Q : T → Sto → Prop) (B : Slots → Sto → Prop) (h0 : P [] st S) (hck : ∀ pre st S, P pre st S → okC ck S)
    (h : ∀ pre t suf st S, l = pre ++ t :: suf → P pre st S → GoesR (P (pre ++ [t])) Q B (fstep g b t st S)) : EndsR (fun st S => P l st S ∨ B st S) Q (forL ck g b l st S) := by
  have go : ∀ (suf pre : List T) (st : Slots) (S : Sto), l = pre ++ suf → P pre st S → EndsR (fun st S => P l st S ∨ B st S) Q (forL ck g b suf st S) := by
    intro suf
    induction suf with
    | nil => intro pre st S e p; rw [List.append_nil] at e; subst e; rw [forL_nil _ _ _ _ _ (hck _ _ _ p)]; exact .inl p
    | cons t suf ih =>
      intro pre st S e p
      rcases forL_stop (ts := suf) (hck _ _ _ p) (h pre t suf st S e p) with ⟨st1, S1, e1, p1⟩ | h1
      · rw [e1]
        exact ih (pre ++ [t]) st1 S1 (by rw [e]; simp) p1
      · cases q : forL ck g b (t :: suf) st S with
        | nx st2 S2 => rw [q] at h1; exact .inr h1
        | rt t2 S2 => rw [q] at h1; exact h1
        | br => rw [q] at h1; exact h1.elim
        | ct => rw [q] at h1; exact h1.elim
        | exc => rw [q] at h1; exact h1.elim
        | bad => rw [q] at h1; exact h1.elim
  exact go l [] st S rfl h0
theorem use_gen {C : RS → Prop} {ck : Option (Nat × List T)} {g : MG} {b : AS} {l : List T} {st : Slots} {S : Sto} (P : List T → Slots → Sto → Prop) (Q : T → Sto → Prop) (B : Slots → Sto → Prop) (h0 : P [] st S) (hck : ∀ pre st S, P pre st S → okC ck S)
    (h : ∀ pre t suf st S, l = pre ++ t :: suf → P pre st S → GoesR (P (pre ++ [t])) Q B (fstep g b t st S))
    (k1 : ∀ st' S', P l st' S' ∨ B st' S' → C (.nx st' S')) (k2 : ∀ t S', Q t S' → C (.rt t S')) : C (forL ck g b l st S) := by
  have e := forL_gen P Q B h0 hck h
  cases q : forL ck g b l st S with
  | nx st2 S2 => rw [q] at e; exact k1 _ _ e
  | rt t2 S2 => rw [q] at e; exact k2 _ _ e
  | br => rw [q] at e; exact e.elim
  | ct => rw [q] at e; exact e.elim
  | exc => rw [q] at e; exact e.elim
  | bad => rw [q] at e; exact e.elim
theorem use_rngR {C : RS → Prop} {g : MG} {b : AS} {i j : Int} {st : Slots} {S : Sto} (P : Nat → Slots → Sto → Prop) (Q : T → Sto → Prop) (B : Slots → Sto → Prop) (h0 : P 0 st S)
    (h : ∀ (k : Nat) st S, k < (j - i).toNat → P k st S → GoesR (P (k + 1)) Q B (fstep g b (.int (i + k)) st S))
    (k1 : ∀ st' S', P (j - i).toNat st' S' ∨ B st' S' → C (.nx st' S')) (k2 : ∀ t S', Q t S' → C (.rt t S')) : C (forL none g b (rngT i j) st S) := by
  refine use_gen (fun pre st S => P pre.length st S) Q B h0 (fun _ _ _ _ => trivial) (fun pre t suf st S e p => ?_) (fun st' S' h => k1 st' S' (by rw [rngT_len] at h; exact h)) k2
  have hl : pre.length < (j - i).toNat := by rw [← rngT_len, e]; simp
  have ht : t = .int (i + (pre.length : Nat)) := by
    have e1 : (rngT i j)[pre.length]? = some t := by rw [e]; simp
    unfold rngT at e1
    rw [List.getElem?_map, List.getElem?_range hl] at e1
    exact (Option.some.inj e1).symm
  subst ht
  have := h pre.length st S hl p
  have e2 : (pre ++ [(T.int (i + (pre.length : Nat)))]).length = pre.length + 1 := by simp
  show GoesR (fun st S => P _ st S) _ _ _
  rw [e2]
  exact this
/-! ## a try, evaluated -/
section
variable {tb : List (String × Bool)} {b s : AS} {st : Slots} {S : Sto} {x : String} {t : T}
def trnK : RS → RS := RS.nox
def trcK (s : AS) (x : String) (st : Slots) (S : Sto) : Option Bool → RS
  | some true => trnK (s st S)
  | some false => .exc x st S
  | none => .bad
def tryK (tb : List (String × Bool)) (s : AS) : RS → RS
  | .exc x st S => trcK s x st S (lkX x tb)
  | r => r
theorem lookup_lkX : ∀ tb : List (String × Bool), tb.lookup x = lkX x tb
  | [] => rfl
  | (k, v) :: r => by
    rw [lkX_cons, List.lookup_cons, lookup_lkX r]
    by_cases c : k = x
    · subst c; simp
    · rw [if_neg c]
      have : (x == k) = false := by simp [Ne.symm c]
      rw [this]
theorem e_Try : mTry tb b s st S = tryK tb s (b st S) := by
  unfold mTry tryK
  cases b st S with
  | exc x st' S' =>
    show (match tb.lookup x with
      | some true => (s st' S').nox
      | some false => RS.exc x st' S'
      | none => .bad) = trcK s x st' S' (lkX x tb)
    rw [lookup_lkX]
    cases lkX x tb with
    | none => rfl
    | some k => cases k <;> rfl
  | _ => rfl
theorem e_tryNx : tryK tb s (.nx st S) = .nx st S := rfl
theorem e_tryRt : tryK tb s (.rt t S) = .rt t S := rfl
theorem e_tryBr : tryK tb s (.br st S) = .br st S := rfl
theorem e_tryCt : tryK tb s (.ct st S) = .ct st S := rfl
theorem e_tryEx : tryK tb s (.exc x st S) = trcK s x st S (lkX x tb) := rfl
theorem e_tryC1 : trcK s x st S (some true) = trnK (s st S) := rfl
theorem e_tryC0 : trcK s x st S (some false) = .exc x st S := rfl
theorem e_trnN : trnK (.nx st S) = .nx st S := rfl
theorem e_trnR : trnK (.rt t S) = .rt t S := rfl
theorem e_trnB : trnK (.br st S) = .br st S := rfl
theorem e_trnC : trnK (.ct st S) = .ct st S := rfl
end
end Ab

namespace K07
open PySem PySem.Spec PyProof.Rows L2 Sp Ab
def top (i : Nat) : Stmt := PySem.Challenge.pw_spindlegate_k07_log_after_cuts.main.body.getD i (.Pass ⟨0, 0, 0, 0⟩)
abbrev s__law_tape : Stmt := top 18
def d__law_tape : He.DefD := ⟨("_law_tape", none), "_law_tape", "_law_tape", defArgs s__law_tape, defBody s__law_tape, defScope s__law_tape, [], []⟩
abbrev s_is_between : Stmt := top 12
def d_is_between : He.DefD := ⟨("is_between", none), "is_between", "is_between", defArgs s_is_between, defBody s_is_between, defScope s_is_between, [], []⟩
abbrev s_Flash___init__ : Stmt := inClass (top 14) 0
def d_Flash___init__ : He.DefD := ⟨("Flash", some "__init__"), "__init__", "Flash.__init__", defArgs s_Flash___init__, defBody s_Flash___init__, defScope s_Flash___init__, [], []⟩
abbrev s_Flash_check_block : Stmt := inClass (top 14) 1
def d_Flash_check_block : He.DefD := ⟨("Flash", some "check_block"), "check_block", "Flash.check_block", defArgs s_Flash_check_block, defBody s_Flash_check_block, defScope s_Flash_check_block, [], []⟩
abbrev s_Flash_check_page : Stmt := inClass (top 14) 2
def d_Flash_check_page : He.DefD := ⟨("Flash", some "check_page"), "check_page", "Flash.check_page", defArgs s_Flash_check_page, defBody s_Flash_check_page, defScope s_Flash_check_page, [], []⟩
abbrev s_Flash_read : Stmt := inClass (top 14) 3
def d_Flash_read : He.DefD := ⟨("Flash", some "read"), "read", "Flash.read", defArgs s_Flash_read, defBody s_Flash_read, defScope s_Flash_read, [], []⟩
abbrev s_next_page : Stmt := top 13
def d_next_page : He.DefD := ⟨("next_page", none), "next_page", "next_page", defArgs s_next_page, defBody s_next_page, defScope s_next_page, [], []⟩
abbrev s_Log___init__ : Stmt := inClass (top 16) 0
def d_Log___init__ : He.DefD := ⟨("Log", some "__init__"), "__init__", "Log.__init__", defArgs s_Log___init__, defBody s_Log___init__, defScope s_Log___init__, [], []⟩
abbrev s__law_at : Stmt := top 19
def d__law_at : He.DefD := ⟨("_law_at", none), "_law_at", "_law_at", defArgs s__law_at, defBody s__law_at, defScope s__law_at, [], []⟩
abbrev s_Flash_fail_after : Stmt := inClass (top 14) 9
def d_Flash_fail_after : He.DefD := ⟨("Flash", some "fail_after"), "fail_after", "Flash.fail_after", defArgs s_Flash_fail_after, defBody s_Flash_fail_after, defScope s_Flash_fail_after, [], []⟩
abbrev s__law_used : Stmt := top 20
def d__law_used : He.DefD := ⟨("_law_used", none), "_law_used", "_law_used", defArgs s__law_used, defBody s__law_used, defScope s__law_used, [], []⟩
abbrev s__law_state : Stmt := top 22
def d__law_state : He.DefD := ⟨("_law_state", none), "_law_state", "_law_state", defArgs s__law_state, defBody s__law_state, defScope s__law_state, [], []⟩
abbrev s__law_elsewhere : Stmt := top 31
def d__law_elsewhere : He.DefD := ⟨("_law_elsewhere", none), "_law_elsewhere", "_law_elsewhere", defArgs s__law_elsewhere, defBody s__law_elsewhere, defScope s__law_elsewhere, [], []⟩
abbrev s__law_spare : Stmt := top 30
def d__law_spare : He.DefD := ⟨("_law_spare", none), "_law_spare", "_law_spare", defArgs s__law_spare, defBody s__law_spare, defScope s__law_spare, [], []⟩
abbrev s__law_room : Stmt := top 23
def d__law_room : He.DefD := ⟨("_law_room", none), "_law_room", "_law_room", defArgs s__law_room, defBody s__law_room, defScope s__law_room, [], []⟩
abbrev s__law_found : Stmt := top 25
def d__law_found : He.DefD := ⟨("_law_found", none), "_law_found", "_law_found", defArgs s__law_found, defBody s__law_found, defScope s__law_found, [], []⟩
abbrev s__law_record : Stmt := top 21
def d__law_record : He.DefD := ⟨("_law_record", none), "_law_record", "_law_record", defArgs s__law_record, defBody s__law_record, defScope s__law_record, [], []⟩
abbrev s__law_choose : Stmt := top 32
def d__law_choose : He.DefD := ⟨("_law_choose", none), "_law_choose", "_law_choose", defArgs s__law_choose, defBody s__law_choose, defScope s__law_choose, [], []⟩
abbrev s__law_target : Stmt := top 24
def d__law_target : He.DefD := ⟨("_law_target", none), "_law_target", "_law_target", defArgs s__law_target, defBody s__law_target, defScope s__law_target, [], []⟩
abbrev s_Log_check_block : Stmt := inClass (top 16) 1
def d_Log_check_block : He.DefD := ⟨("Log", some "check_block"), "check_block", "Log.check_block", defArgs s_Log_check_block, defBody s_Log_check_block, defScope s_Log_check_block, [], []⟩
abbrev s_Log_state : Stmt := inClass (top 16) 2
def d_Log_state : He.DefD := ⟨("Log", some "state"), "state", "Log.state", defArgs s_Log_state, defBody s_Log_state, defScope s_Log_state, [], []⟩
abbrev s_Log_free_blocks : Stmt := inClass (top 16) 3
def d_Log_free_blocks : He.DefD := ⟨("Log", some "free_blocks"), "free_blocks", "Log.free_blocks", defArgs s_Log_free_blocks, defBody s_Log_free_blocks, defScope s_Log_free_blocks, [], []⟩
abbrev s_Log_room : Stmt := inClass (top 16) 6
def d_Log_room : He.DefD := ⟨("Log", some "room"), "room", "Log.room", defArgs s_Log_room, defBody s_Log_room, defScope s_Log_room, [], []⟩
abbrev s_Flash_wear : Stmt := inClass (top 14) 8
def d_Flash_wear : He.DefD := ⟨("Flash", some "wear"), "wear", "Flash.wear", defArgs s_Flash_wear, defBody s_Flash_wear, defScope s_Flash_wear, [], []⟩
abbrev s_Log_choose : Stmt := inClass (top 16) 7
def d_Log_choose : He.DefD := ⟨("Log", some "choose"), "choose", "Log.choose", defArgs s_Log_choose, defBody s_Log_choose, defScope s_Log_choose, [], []⟩
abbrev s_Flash_operate : Stmt := inClass (top 14) 4
def d_Flash_operate : He.DefD := ⟨("Flash", some "operate"), "operate", "Flash.operate", defArgs s_Flash_operate, defBody s_Flash_operate, defScope s_Flash_operate, [], []⟩
abbrev s_Flash_program : Stmt := inClass (top 14) 5
def d_Flash_program : He.DefD := ⟨("Flash", some "program"), "program", "Flash.program", defArgs s_Flash_program, defBody s_Flash_program, defScope s_Flash_program, [], []⟩
abbrev s_Log_append : Stmt := inClass (top 16) 8
def d_Log_append : He.DefD := ⟨("Log", some "append"), "append", "Log.append", defArgs s_Log_append, defBody s_Log_append, defScope s_Log_append, [], []⟩
abbrev s_Log_closed_blocks : Stmt := inClass (top 16) 4
def d_Log_closed_blocks : He.DefD := ⟨("Log", some "closed_blocks"), "closed_blocks", "Log.closed_blocks", defArgs s_Log_closed_blocks, defBody s_Log_closed_blocks, defScope s_Log_closed_blocks, [], []⟩
abbrev s_Flash_fill : Stmt := inClass (top 14) 7
def d_Flash_fill : He.DefD := ⟨("Flash", some "fill"), "fill", "Flash.fill", defArgs s_Flash_fill, defBody s_Flash_fill, defScope s_Flash_fill, [], []⟩
abbrev s_Flash_erase : Stmt := inClass (top 14) 6
def d_Flash_erase : He.DefD := ⟨("Flash", some "erase"), "erase", "Flash.erase", defArgs s_Flash_erase, defBody s_Flash_erase, defScope s_Flash_erase, [], []⟩
abbrev s_Log_erase : Stmt := inClass (top 16) 9
def d_Log_erase : He.DefD := ⟨("Log", some "erase"), "erase", "Log.erase", defArgs s_Log_erase, defBody s_Log_erase, defScope s_Log_erase, [], []⟩
abbrev s__law_do : Stmt := top 28
def d__law_do : He.DefD := ⟨("_law_do", none), "_law_do", "_law_do", defArgs s__law_do, defBody s__law_do, defScope s__law_do, [], []⟩
abbrev s__law_apply : Stmt := top 29
def d__law_apply : He.DefD := ⟨("_law_apply", none), "_law_apply", "_law_apply", defArgs s__law_apply, defBody s__law_apply, defScope s__law_apply, [], []⟩
abbrev s_Flash_cut : Stmt := inClass (top 14) 10
def d_Flash_cut : He.DefD := ⟨("Flash", some "cut"), "cut", "Flash.cut", defArgs s_Flash_cut, defBody s_Flash_cut, defScope s_Flash_cut, [], []⟩
abbrev s_Log_pages : Stmt := inClass (top 16) 5
def d_Log_pages : He.DefD := ⟨("Log", some "pages"), "pages", "Log.pages", defArgs s_Log_pages, defBody s_Log_pages, defScope s_Log_pages, [], []⟩
abbrev s__law_same : Stmt := top 26
def d__law_same : He.DefD := ⟨("_law_same", none), "_law_same", "_law_same", defArgs s__law_same, defBody s__law_same, defScope s__law_same, [], []⟩
abbrev s__law_orders : Stmt := top 33
def d__law_orders : He.DefD := ⟨("_law_orders", none), "_law_orders", "_law_orders", defArgs s__law_orders, defBody s__law_orders, defScope s__law_orders, [], []⟩
abbrev s_Flash_image : Stmt := inClass (top 14) 11
def d_Flash_image : He.DefD := ⟨("Flash", some "image"), "image", "Flash.image", defArgs s_Flash_image, defBody s_Flash_image, defScope s_Flash_image, [], []⟩
abbrev s_Log_records : Stmt := inClass (top 16) 10
def d_Log_records : He.DefD := ⟨("Log", some "records"), "records", "Log.records", defArgs s_Log_records, defBody s_Log_records, defScope s_Log_records, [], []⟩
abbrev s_Log_holders : Stmt := inClass (top 16) 12
def d_Log_holders : He.DefD := ⟨("Log", some "holders"), "holders", "Log.holders", defArgs s_Log_holders, defBody s_Log_holders, defScope s_Log_holders, [], []⟩
abbrev s_Log_top : Stmt := inClass (top 16) 11
def d_Log_top : He.DefD := ⟨("Log", some "top"), "top", "Log.top", defArgs s_Log_top, defBody s_Log_top, defScope s_Log_top, [], []⟩
abbrev s__law_reads : Stmt := top 27
def d__law_reads : He.DefD := ⟨("_law_reads", none), "_law_reads", "_law_reads", defArgs s__law_reads, defBody s__law_reads, defScope s__law_reads, [], []⟩
abbrev s_law : Stmt := top 34
def d_law : He.DefD := ⟨("law", none), "law", "law", defArgs s_law, defBody s_law, defScope s_law, [], []⟩
theorem sc__law_tape : FnScope ["_law_script", "_law_tape_here", "_law_k", "_law_value", "_law_step"] ["_law_script"] (defScope s__law_tape) := ⟨rfl, rfl, rfl, by decide +kernel, rfl, by decide +kernel, by decide +kernel⟩
theorem sc_is_between : FnScope ["value", "low", "high"] ["value", "low", "high"] (defScope s_is_between) := ⟨rfl, rfl, rfl, by decide +kernel, rfl, by decide +kernel, by decide +kernel⟩
theorem sc_Flash___init__ : FnScope ["self", "blocks", "block"] ["self", "blocks"] (defScope s_Flash___init__) := ⟨rfl, rfl, rfl, by decide +kernel, rfl, by decide +kernel, by decide +kernel⟩
theorem sc_Flash_check_block : FnScope ["self", "block"] ["self", "block"] (defScope s_Flash_check_block) := ⟨rfl, rfl, rfl, by decide +kernel, rfl, by decide +kernel, by decide +kernel⟩
theorem sc_Flash_check_page : FnScope ["self", "block", "page"] ["self", "block", "page"] (defScope s_Flash_check_page) := ⟨rfl, rfl, rfl, by decide +kernel, rfl, by decide +kernel, by decide +kernel⟩
theorem sc_Flash_read : FnScope ["self", "block", "page"] ["self", "block", "page"] (defScope s_Flash_read) := ⟨rfl, rfl, rfl, by decide +kernel, rfl, by decide +kernel, by decide +kernel⟩
theorem sc_next_page : FnScope ["pages", "last", "page"] ["pages"] (defScope s_next_page) := ⟨rfl, rfl, rfl, by decide +kernel, rfl, by decide +kernel, by decide +kernel⟩
theorem sc_Log___init__ : FnScope ["self", "flash", "block", "begun", "page"] ["self", "flash"] (defScope s_Log___init__) := ⟨rfl, rfl, rfl, by decide +kernel, rfl, by decide +kernel, by decide +kernel⟩
theorem sc__law_at : FnScope ["_law_tape_here", "_law_k"] ["_law_tape_here", "_law_k"] (defScope s__law_at) := ⟨rfl, rfl, rfl, by decide +kernel, rfl, by decide +kernel, by decide +kernel⟩
theorem sc_Flash_fail_after : FnScope ["self", "count"] ["self", "count"] (defScope s_Flash_fail_after) := ⟨rfl, rfl, rfl, by decide +kernel, rfl, by decide +kernel, by decide +kernel⟩
theorem sc__law_used : FnScope ["_law_pages", "_law_last", "_law_page"] ["_law_pages"] (defScope s__law_used) := ⟨rfl, rfl, rfl, by decide +kernel, rfl, by decide +kernel, by decide +kernel⟩
theorem sc__law_state : FnScope ["_law_held", "_law_block", "_law_used_here"] ["_law_held", "_law_block"] (defScope s__law_state) := ⟨rfl, rfl, rfl, by decide +kernel, rfl, by decide +kernel, by decide +kernel⟩
theorem sc__law_elsewhere : FnScope ["_law_held", "_law_block", "_law_page", "_law_other"] ["_law_held", "_law_block", "_law_page"] (defScope s__law_elsewhere) := ⟨rfl, rfl, rfl, by decide +kernel, rfl, by decide +kernel, by decide +kernel⟩
theorem sc__law_spare : FnScope ["_law_held", "_law_block", "_law_lone", "_law_page"] ["_law_held"] (defScope s__law_spare) := ⟨rfl, rfl, rfl, by decide +kernel, rfl, by decide +kernel, by decide +kernel⟩
theorem sc__law_room : FnScope ["_law_held", "_law_is_copy", "_law_block", "_law_free", "_law_room_here"] ["_law_held", "_law_is_copy"] (defScope s__law_room) := ⟨rfl, rfl, rfl, by decide +kernel, rfl, by decide +kernel, by decide +kernel⟩
theorem sc__law_found : FnScope ["_law_held", "_law_found_here", "_law_pages", "_law_page"] ["_law_held"] (defScope s__law_found) := ⟨rfl, rfl, rfl, by decide +kernel, rfl, by decide +kernel, by decide +kernel⟩
theorem sc__law_record : FnScope ["_law_order"] ["_law_order"] (defScope s__law_record) := ⟨rfl, rfl, rfl, by decide +kernel, rfl, by decide +kernel, by decide +kernel⟩
theorem sc__law_choose : FnScope ["_law_held", "_law_number", "_law_pick", "_law_order", "_law_block", "_law_closed", "_law_lone", "_law_page"] ["_law_held", "_law_number", "_law_pick", "_law_order"] (defScope s__law_choose) := ⟨rfl, rfl, rfl, by decide +kernel, rfl, by decide +kernel, by decide +kernel⟩
theorem sc__law_target : FnScope ["_law_held", "_law_wears", "_law_best", "_law_block"] ["_law_held", "_law_wears"] (defScope s__law_target) := ⟨rfl, rfl, rfl, by decide +kernel, rfl, by decide +kernel, by decide +kernel⟩
theorem sc_Log_check_block : FnScope ["self", "block"] ["self", "block"] (defScope s_Log_check_block) := ⟨rfl, rfl, rfl, by decide +kernel, rfl, by decide +kernel, by decide +kernel⟩
theorem sc_Log_state : FnScope ["self", "block"] ["self", "block"] (defScope s_Log_state) := ⟨rfl, rfl, rfl, by decide +kernel, rfl, by decide +kernel, by decide +kernel⟩
theorem sc_Log_free_blocks : FnScope ["self", "block"] ["self"] (defScope s_Log_free_blocks) := ⟨rfl, rfl, rfl, by decide +kernel, rfl, by decide +kernel, by decide +kernel⟩
theorem sc_Log_room : FnScope ["self", "is_copy", "free", "many"] ["self", "is_copy"] (defScope s_Log_room) := ⟨rfl, rfl, rfl, by decide +kernel, rfl, by decide +kernel, by decide +kernel⟩
theorem sc_Flash_wear : FnScope ["self", "block"] ["self", "block"] (defScope s_Flash_wear) := ⟨rfl, rfl, rfl, by decide +kernel, rfl, by decide +kernel, by decide +kernel⟩
theorem sc_Log_choose : FnScope ["self", "block"] ["self"] (defScope s_Log_choose) := ⟨rfl, rfl, rfl, by decide +kernel, rfl, by decide +kernel, by decide +kernel⟩
theorem sc_Flash_operate : FnScope ["self", "operation"] ["self", "operation"] (defScope s_Flash_operate) := ⟨rfl, rfl, rfl, by decide +kernel, rfl, by decide +kernel, by decide +kernel⟩
theorem sc_Flash_program : FnScope ["self", "block", "page", "record"] ["self", "block", "page", "record"] (defScope s_Flash_program) := ⟨rfl, rfl, rfl, by decide +kernel, rfl, by decide +kernel, by decide +kernel⟩
theorem sc_Log_append : FnScope ["self", "record", "is_copy", "block", "page"] ["self", "record", "is_copy"] (defScope s_Log_append) := ⟨rfl, rfl, rfl, by decide +kernel, rfl, by decide +kernel, by decide +kernel⟩
theorem sc_Log_closed_blocks : FnScope ["self", "block"] ["self"] (defScope s_Log_closed_blocks) := ⟨rfl, rfl, rfl, by decide +kernel, rfl, by decide +kernel, by decide +kernel⟩
theorem sc_Flash_fill : FnScope ["self", "block", "content"] ["self", "block", "content"] (defScope s_Flash_fill) := ⟨rfl, rfl, rfl, by decide +kernel, rfl, by decide +kernel, by decide +kernel⟩
theorem sc_Flash_erase : FnScope ["self", "block"] ["self", "block"] (defScope s_Flash_erase) := ⟨rfl, rfl, rfl, by decide +kernel, rfl, by decide +kernel, by decide +kernel⟩
theorem sc_Log_erase : FnScope ["self", "block"] ["self", "block"] (defScope s_Log_erase) := ⟨rfl, rfl, rfl, by decide +kernel, rfl, by decide +kernel, by decide +kernel⟩
theorem sc__law_do : FnScope ["_law_log", "_law_act", "_law_what", "_law_is_copy"] ["_law_log", "_law_act", "_law_what", "_law_is_copy"] (defScope s__law_do) := ⟨rfl, rfl, rfl, by decide +kernel, rfl, by decide +kernel, by decide +kernel⟩
theorem sc__law_apply : FnScope ["_law_held", "_law_wears", "_law_act", "_law_block", "_law_content"] ["_law_held", "_law_wears", "_law_act", "_law_block", "_law_content"] (defScope s__law_apply) := ⟨rfl, rfl, rfl, by decide +kernel, rfl, by decide +kernel, by decide +kernel⟩
theorem sc_Flash_cut : FnScope ["self", "choice", "block", "page", "record", "content"] ["self", "choice"] (defScope s_Flash_cut) := ⟨rfl, rfl, rfl, by decide +kernel, rfl, by decide +kernel, by decide +kernel⟩
theorem sc_Log_pages : FnScope ["self", "block"] ["self", "block"] (defScope s_Log_pages) := ⟨rfl, rfl, rfl, by decide +kernel, rfl, by decide +kernel, by decide +kernel⟩
theorem sc__law_same : FnScope ["_law_log", "_law_held", "_law_block"] ["_law_log", "_law_held"] (defScope s__law_same) := ⟨rfl, rfl, rfl, by decide +kernel, rfl, by decide +kernel, by decide +kernel⟩
theorem sc__law_orders : FnScope ["_law_held", "_law_record_here"] ["_law_held"] (defScope s__law_orders) := ⟨rfl, rfl, rfl, by decide +kernel, rfl, by decide +kernel, by decide +kernel⟩
theorem sc_Flash_image : FnScope ["self", "block"] ["self"] (defScope s_Flash_image) := ⟨rfl, rfl, rfl, by decide +kernel, rfl, by decide +kernel, by decide +kernel⟩
theorem sc_Log_records : FnScope ["self", "found", "pages", "page", "order"] ["self"] (defScope s_Log_records) := ⟨rfl, rfl, rfl, by decide +kernel, rfl, by decide +kernel, by decide +kernel⟩
theorem sc_Log_holders : FnScope ["self", "record", "block"] ["self", "record"] (defScope s_Log_holders) := ⟨rfl, rfl, rfl, by decide +kernel, rfl, by decide +kernel, by decide +kernel⟩
theorem sc_Log_top : FnScope ["self", "orders", "record"] ["self"] (defScope s_Log_top) := ⟨rfl, rfl, rfl, by decide +kernel, rfl, by decide +kernel, by decide +kernel⟩
theorem sc__law_reads : FnScope ["_law_log", "_law_held", "_law_found_here", "_law_told", "_law_top", "_law_record_here", "_law_block"] ["_law_log", "_law_held"] (defScope s__law_reads) := ⟨rfl, rfl, rfl, by decide +kernel, rfl, by decide +kernel, by decide +kernel⟩
theorem sc_law : FnScope ["_law_script", "_law_tape_here", "_law_flash", "_law_log", "_law_block", "_law_held", "_law_wears", "_law_order", "_law_left", "_law_fuses", "_law_k", "_law_number", "_law_pick", "_law_chosen", "_law_act", "_law_what", "_law_is_copy", "_law_content", "_law_done", "_law_choice", "_law_n", "_law_row"] ["_law_script"] (defScope s_law) := ⟨rfl, rfl, rfl, by decide +kernel, rfl, by decide +kernel, by decide +kernel⟩
def fn : List He.DefD := [d__law_tape, d_is_between, d_Flash___init__, d_Flash_check_block, d_Flash_check_page, d_Flash_read, d_next_page, d_Log___init__, d__law_at, d_Flash_fail_after, d__law_used, d__law_state, d__law_elsewhere, d__law_spare, d__law_room, d__law_found, d__law_record, d__law_choose, d__law_target, d_Log_check_block, d_Log_state, d_Log_free_blocks, d_Log_room, d_Flash_wear, d_Log_choose, d_Flash_operate, d_Flash_program, d_Log_append, d_Log_closed_blocks, d_Flash_fill, d_Flash_erase, d_Log_erase, d__law_do, d__law_apply, d_Flash_cut, d_Log_pages, d__law_same, d__law_orders, d_Flash_image, d_Log_records, d_Log_holders, d_Log_top, d__law_reads, d_law]
def fa : List He.Fa := [.free "len", .free "range", .free "abs", .free "int", .free "isinstance", .free "bool", .int "MAX_BLOCKS" 24, .int "MIN_BLOCKS" 8, .glo "is_between", .exc "NotValid", .glo "NotValid", .cls "Flash", .noat "Flash" "blocks", .int "PAGES" 8, .noat "Flash" "held", .noat "Flash" "wears", .noat "Flash" "left", .noat "Flash" "power", .noat "Flash" "broken", .meth "Flash" "check_block", .meth "Flash" "check_page", .exc "PowerOff", .glo "PowerOff", .cls "Log", .noat "Log" "flash", .noat "Log" "held", .meth "Flash" "read", .glo "next_page", .exc "BadFlash", .glo "BadFlash", .noat "Log" "current", .int "MAX_COUNT" 100000, .glo "_law_used", .glo "_law_state", .glo "_law_elsewhere", .free "tuple", .free "sorted", .glo "_law_spare", .glo "_law_room", .glo "_law_found", .glo "_law_record", .meth "Log" "check_block", .meth "Log" "state", .meth "Log" "free_blocks", .meth "Flash" "wear", .meth "Flash" "operate", .meth "Log" "room", .exc "NoRoom", .glo "NoRoom", .meth "Log" "choose", .meth "Flash" "program", .meth "Flash" "fill", .meth "Log" "closed_blocks", .meth "Flash" "erase", .meth "Log" "append", .meth "Log" "erase", .exm "PowerOff" "PowerOff" true, .str "TORN" "torn", .free "list", .meth "Log" "pages", .meth "Log" "records", .free "max", .meth "Log" "holders", .meth "Log" "top", .glo "_law_tape", .mkr "Flash", .glo "Flash", .mkr "Log", .glo "Log", .free "min", .glo "_law_at", .meth "Flash" "fail_after", .glo "_law_choose", .glo "_law_target", .glo "_law_do", .glo "_law_apply", .meth "Flash" "cut", .glo "_law_same", .glo "_law_orders", .meth "Flash" "image", .glo "_law_reads", .glo "law"]
def ts : List He.Tab := []
def exs : List (PySem.W.Frag → Bool) := []
def exA (K : PySem.W.Frag) : Bool := exs.all fun f => f K
noncomputable section
def b__law_tape : AS := (mSeq (mSet 1 (mN (opLst false) mNil))
  (mSeq (mFor (itR1 (mCons (mN opLen (mCons (mV 0) mNil)) mNil)) (gN 2) (mSeq (mSet 3 (mN opAbs (mCons (mN opInt (mCons (m2 opIx (mV 0) (mV 2)) mNil)) mNil)))
  (mIf (mB (m2 opGe (mV 3) (m2 opPow (mC (.int 10)) (mC (.int 18))))) (mFor (itR1 (mCons (mC (.int 60)) mNil)) (gN 4) (mIf (mB (m2 opGt (mV 3) (mC (.int 0)))) (mSeq (mExp (mML opApp (mV 1) (mCons (m2 opMod (mV 3) (mC (.int 1000))) mNil)))
  (mSet 3 (m2 opDiv (mV 3) (mC (.int 1000))))) mPass)) (mFor (itR1 (mCons (mC (.int 4)) mNil)) (gN 4) (mSeq (mSet 3 (m2 opMod (m2 opAdd (m2 opAdd (m2 opMul (mV 3) (mC (.int 48271))) (m2 opMul (mC (.int 69621)) (m2 opAdd (mV 2) (mC (.int 1))))) (m2 opMul (mC (.int 7)) (mV 4))) (mC (.int 2147483647))))
  (mSeq (mSet 3 (m2 opMod (m2 opMul (mV 3) (mC (.int 16807))) (mC (.int 2147483647))))
  (mExp (mML opApp (mV 1) (mCons (m2 opMod (m2 opDiv (mV 3) (mC (.int 1000))) (mC (.int 1000))) mNil)))))))))
  (mRet (mFrz (mV 1)))))
def m__law_tape : AF := mDef 1 5 b__law_tape
def b_is_between : AS := (mSeq (mIf (mTOr (mTNot (mB (mN opIsi (mCons (mV 0) (mCons (mC (.ty "int")) mNil))))) (mB (mN opIsi (mCons (mV 0) (mCons (mC (.ty "bool")) mNil))))) (mRet (mC (.bl false))) mPass)
  (mRet (mChain opLe opLe (mV 1) (mV 0) (mV 2))))
def m_is_between : AF := mDef 3 3 b_is_between
def b_Flash___init__ : AS := (mSeq (mIf (mTNot (mB (mCall m_is_between (mCons (mV 1) (mCons (mC (.int 8)) (mCons (mC (.int 24)) mNil)))))) (mRaise "NotValid") mPass)
  (mSeq (mSetF "Flash" "blocks" (mV 0) (mV 1))
  (mSeq (mSetF "Flash" "held" (mV 0) (mLc false (itR1 (mCons (mV 1) mNil)) 2 mYes (m2 (opRep false) (mN (opLst true) (mCons (mC .non) mNil)) (mC (.int 8)))))
  (mSeq (mSetF "Flash" "wears" (mV 0) (m2 (opRep false) (mN (opLst true) (mCons (mC (.int 0)) mNil)) (mV 1)))
  (mSeq (mSetF "Flash" "left" (mV 0) (mC .non))
  (mSeq (mSetF "Flash" "power" (mV 0) (mC (.bl true)))
  (mSetF "Flash" "broken" (mV 0) (mC .non))))))))
def m_Flash___init__ : AF := mDef 2 3 b_Flash___init__
def b_Flash_check_block : AS := (mIf (mTNot (mB (mCall m_is_between (mCons (mV 1) (mCons (mC (.int 0)) (mCons (m2 opSub (mFld "Flash" "blocks" (mV 0)) (mC (.int 1))) mNil)))))) (mRaise "NotValid") mPass)
def m_Flash_check_block : AF := mDef 2 2 b_Flash_check_block
def b_Flash_check_page : AS := (mSeq (mExp (mMeth "Flash" "check_block" m_Flash_check_block (mV 0) (mCons (mV 1) mNil)))
  (mIf (mTNot (mB (mCall m_is_between (mCons (mV 2) (mCons (mC (.int 0)) (mCons (m2 opSub (mC (.int 8)) (mC (.int 1))) mNil)))))) (mRaise "NotValid") mPass))
def m_Flash_check_page : AF := mDef 3 3 b_Flash_check_page
def b_Flash_read : AS := (mSeq (mExp (mMeth "Flash" "check_page" m_Flash_check_page (mV 0) (mCons (mV 1) (mCons (mV 2) mNil))))
  (mSeq (mIf (mTNot (mB (mFld "Flash" "power" (mV 0)))) (mRaise "PowerOff") mPass)
  (mRet (m2 opIx (m2 opIx (mFld "Flash" "held" (mV 0)) (mV 1)) (mV 2)))))
def m_Flash_read : AF := mDef 3 3 b_Flash_read
def b_next_page : AS := (mSeq (mSet 1 (mC (.int 0)))
  (mSeq (mFor (itR1 (mCons (mC (.int 8)) mNil)) (gN 2) (mIf (mB (m2 opIsnt (m2 opIx (mV 0) (mV 2)) (mC .non))) (mSet 1 (m2 opAdd (mV 2) (mC (.int 1)))) mPass))
  (mRet (mV 1))))
def m_next_page : AF := mDef 1 3 b_next_page
def b_Log___init__ : AS := (mSeq (mSetF "Log" "flash" (mV 0) (mV 1))
  (mSeq (mSetF "Log" "held" (mV 0) (mN (opLst false) mNil))
  (mSeq (mFor (itR1 (mCons (mFld "Flash" "blocks" (mV 1)) mNil)) (gN 2) (mExp (mML opApp (mFld "Log" "held" (mV 0)) (mCons (mLc false (itR1 (mCons (mC (.int 8)) mNil)) 4 mYes (mMeth "Flash" "read" m_Flash_read (mV 1) (mCons (mV 2) (mCons (mV 4) mNil)))) mNil))))
  (mSeq (mSet 3 (mLc true (itR1 (mCons (mFld "Flash" "blocks" (mV 1)) mNil)) 2 (mB (mChain opLt opLt (mC (.int 0)) (mCall m_next_page (mCons (m2 opIx (mFld "Log" "held" (mV 0)) (mV 2)) mNil)) (mC (.int 8)))) (mV 2)))
  (mSeq (mIf (mB (m2 opGt (mN opLen (mCons (mV 3) mNil)) (mC (.int 1)))) (mRaise "BadFlash") mPass)
  (mSeq (mSetF "Log" "current" (mV 0) (mC .non))
  (mIf (mTru (mV 3)) (mSetF "Log" "current" (mV 0) (m2 opIx (mV 3) (mC (.int 0)))) mPass)))))))
def m_Log___init__ : AF := mDef 2 5 b_Log___init__
def b__law_at : AS := (mSeq (mIf (mB (m2 opLt (mV 1) (mN opLen (mCons (mV 0) mNil)))) (mRet (m2 opIx (mV 0) (mV 1))) mPass)
  (mRet (mC (.int 0))))
def m__law_at : AF := mDef 2 2 b__law_at
def b_Flash_fail_after : AS := (mSeq (mIf (mTAnd (mB (m2 opIsnt (mV 1) (mC .non))) (mTNot (mB (mCall m_is_between (mCons (mV 1) (mCons (mC (.int 0)) (mCons (mC (.int 100000)) mNil))))))) (mRaise "NotValid") mPass)
  (mSetF "Flash" "left" (mV 0) (mV 1)))
def m_Flash_fail_after : AF := mDef 2 2 b_Flash_fail_after
def b__law_used : AS := (mSeq (mSet 1 (mC (.int 0)))
  (mSeq (mFor (itR1 (mCons (mC (.int 8)) mNil)) (gN 2) (mIf (mB (m2 opIsnt (m2 opIx (mV 0) (mV 2)) (mC .non))) (mSet 1 (m2 opAdd (mV 2) (mC (.int 1)))) mPass))
  (mRet (mV 1))))
def m__law_used : AF := mDef 1 3 b__law_used
def b__law_state : AS := (mSeq (mSet 2 (mCall m__law_used (mCons (m2 opIx (mV 0) (mV 1)) mNil)))
  (mSeq (mIf (mB (m2 opEq (mV 2) (mC (.int 0)))) (mRet (mC (.str "free"))) mPass)
  (mSeq (mIf (mB (m2 opLt (mV 2) (mC (.int 8)))) (mRet (mC (.str "open"))) mPass)
  (mRet (mC (.str "closed"))))))
def m__law_state : AF := mDef 2 3 b__law_state
def b__law_elsewhere : AS := (mSeq (mFor (itR1 (mCons (mN opLen (mCons (mV 0) mNil)) mNil)) (gN 3) (mIf (mTAnd (mB (m2 opNe (mV 3) (mV 1))) (mB (m2 opIn (mV 2) (m2 opIx (mV 0) (mV 3))))) (mRet (mC (.bl true))) mPass))
  (mRet (mC (.bl false))))
def m__law_elsewhere : AF := mDef 3 4 b__law_elsewhere
def b__law_spare : AS := (mSeq (mFor (itR1 (mCons (mN opLen (mCons (mV 0) mNil)) mNil)) (gN 1) (mIf (mB (m2 opEq (mCall m__law_state (mCons (mV 0) (mCons (mV 1) mNil))) (mC (.str "closed")))) (mSeq (mSet 2 (mLc true (itL (m2 opIx (mV 0) (mV 1))) 3 (mTAnd (mB (mN opIsi (mCons (mV 3) (mCons (mC (.ty "tuple")) mNil)))) (mTNot (mTru (mCall m__law_elsewhere (mCons (mV 0) (mCons (mV 1) (mCons (mV 3) mNil))))))) (mV 3)))
  (mIf (mB (m2 opEq (mV 2) (mN (opLst true) mNil))) (mRet (mV 1)) mPass)) mPass))
  (mRet (mC .non)))
def m__law_spare : AF := mDef 1 4 b__law_spare
def b__law_room : AS := (mSeq (mSet 3 (mN opLen (mCons (mLc true (itR1 (mCons (mN opLen (mCons (mV 0) mNil)) mNil)) 2 (mB (m2 opEq (mCall m__law_state (mCons (mV 0) (mCons (mV 2) mNil))) (mC (.str "free")))) (mV 2)) mNil)))
  (mSeq (mSet 4 (m2 opMul (mC (.int 8)) (mV 3)))
  (mSeq (mIf (mTAnd (mTNot (mTru (mV 1))) (mB (m2 opEq (mV 3) (mC (.int 0))))) (mRet (mC (.int 0))) mPass)
  (mSeq (mIf (mTNot (mTru (mV 1))) (mSet 4 (m2 opMul (mC (.int 8)) (m2 opSub (mV 3) (mC (.int 1))))) mPass)
  (mSeq (mFor (itR1 (mCons (mN opLen (mCons (mV 0) mNil)) mNil)) (gN 2) (mIf (mB (m2 opEq (mCall m__law_state (mCons (mV 0) (mCons (mV 2) mNil))) (mC (.str "open")))) (mSet 4 (m2 opSub (m2 opAdd (mV 4) (mC (.int 8))) (mCall m__law_used (mCons (m2 opIx (mV 0) (mV 2)) mNil)))) mPass))
  (mRet (mV 4)))))))
def m__law_room : AF := mDef 2 5 b__law_room
def b__law_found : AS := (mSeq (mSet 1 (mN (opLst false) mNil))
  (mSeq (mFor (itL (mV 0)) (gN 2) (mFor (itL (mV 2)) (gN 3) (mIf (mTAnd (mB (mN opIsi (mCons (mV 3) (mCons (mC (.ty "tuple")) mNil)))) (mB (m2 opNin (mV 3) (mV 1)))) (mExp (mML opApp (mV 1) (mCons (mV 3) mNil))) mPass)))
  (mRet (mN (opSortH true) (mCons (mV 1) mNil)))))
def m__law_found : AF := mDef 1 4 b__law_found
def b__law_record : AS := (mRet (mN opTup (mCons (mV 0) (mCons (mC (.str "write")) (mCons (m2 opMod (mV 0) (mC (.int 4))) (mCons (mC (.int 1)) (mCons (mV 0) (mCons (m2 opAdd (mC (.int 1)) (m2 opMod (mV 0) (mC (.int 8)))) (mCons (m2 opMod (mV 0) (mC (.int 64))) (mCons (m2 opMul (mV 0) (mC (.int 7))) mNil))))))))))
def m__law_record : AF := mDef 1 1 b__law_record
def b__law_choose : AS := (mSeq (mIf (mTAnd (mB (m2 opEq (m2 opMod (mV 1) (mC (.int 8))) (mC (.int 7)))) (mB (m2 opIsnt (mCall m__law_spare (mCons (mV 0) mNil)) (mC .non)))) (mRet (mN opTup (mCons (mC (.str "erase")) (mCons (mCall m__law_spare (mCons (mV 0) mNil)) (mCons (mC (.bl false)) mNil))))) mPass)
  (mSeq (mIf (mTAnd (mB (m2 opGt (m2 opMod (mV 1) (mC (.int 8))) (mC (.int 3)))) (mTAnd (mB (m2 opGt (mN opLen (mCons (mCall m__law_found (mCons (mV 0) mNil)) mNil)) (mC (.int 0)))) (mB (m2 opGt (mCall m__law_room (mCons (mV 0) (mCons (mC (.bl true)) mNil))) (mC (.int 0)))))) (mSeq (mSet 5 (mLc true (itR1 (mCons (mN opLen (mCons (mV 0) mNil)) mNil)) 4 (mB (m2 opEq (mCall m__law_state (mCons (mV 0) (mCons (mV 4) mNil))) (mC (.str "closed")))) (mV 4)))
  (mIf (mB (m2 opGt (mN opLen (mCons (mV 5) mNil)) (mC (.int 0)))) (mSeq (mSet 4 (m2 opIx (mV 5) (m2 opMod (mV 2) (mN opLen (mCons (mV 5) mNil)))))
  (mSeq (mSet 6 (mLc true (itL (m2 opIx (mV 0) (mV 4))) 7 (mTAnd (mB (mN opIsi (mCons (mV 7) (mCons (mC (.ty "tuple")) mNil)))) (mTNot (mTru (mCall m__law_elsewhere (mCons (mV 0) (mCons (mV 4) (mCons (mV 7) mNil))))))) (mV 7)))
  (mIf (mB (m2 opGt (mN opLen (mCons (mV 6) mNil)) (mC (.int 0)))) (mRet (mN opTup (mCons (mC (.str "append")) (mCons (m2 opIx (mV 6) (mC (.int 0))) (mCons (mC (.bl true)) mNil))))) mPass))) mPass)) mPass)
  (mSeq (mIf (mB (m2 opGt (mCall m__law_room (mCons (mV 0) (mCons (mC (.bl false)) mNil))) (mC (.int 0)))) (mRet (mN opTup (mCons (mC (.str "append")) (mCons (mCall m__law_record (mCons (m2 opAdd (mV 3) (mC (.int 1))) mNil)) (mCons (mC (.bl false)) mNil))))) mPass)
  (mRet (mC .non)))))
def m__law_choose : AF := mDef 4 8 b__law_choose
def b__law_target : AS := (mSeq (mSet 2 (mC .non))
  (mSeq (mFor (itR1 (mCons (mN opLen (mCons (mV 0) mNil)) mNil)) (gN 3) (mSeq (mIf (mB (m2 opEq (mCall m__law_state (mCons (mV 0) (mCons (mV 3) mNil))) (mC (.str "open")))) (mRet (mV 3)) mPass)
  (mIf (mTAnd (mB (m2 opEq (mCall m__law_state (mCons (mV 0) (mCons (mV 3) mNil))) (mC (.str "free")))) (mTOr (mB (m2 opIs (mV 2) (mC .non))) (mB (m2 opLt (m2 opIx (mV 1) (mV 3)) (m2 opIx (mV 1) (mV 2)))))) (mSet 2 (mV 3)) mPass)))
  (mRet (mV 2))))
def m__law_target : AF := mDef 2 4 b__law_target
def b_Log_check_block : AS := (mIf (mTNot (mB (mCall m_is_between (mCons (mV 1) (mCons (mC (.int 0)) (mCons (m2 opSub (mFld "Flash" "blocks" (mFld "Log" "flash" (mV 0))) (mC (.int 1))) mNil)))))) (mRaise "NotValid") mPass)
def m_Log_check_block : AF := mDef 2 2 b_Log_check_block
def b_Log_state : AS := (mSeq (mExp (mMeth "Log" "check_block" m_Log_check_block (mV 0) (mCons (mV 1) mNil)))
  (mSeq (mIf (mB (m2 opEq (mV 1) (mFld "Log" "current" (mV 0)))) (mRet (mC (.str "open"))) mPass)
  (mSeq (mIf (mB (m2 opEq (mCall m_next_page (mCons (m2 opIx (mFld "Log" "held" (mV 0)) (mV 1)) mNil)) (mC (.int 0)))) (mRet (mC (.str "free"))) mPass)
  (mRet (mC (.str "closed"))))))
def m_Log_state : AF := mDef 2 2 b_Log_state
def b_Log_free_blocks : AS := (mRet (mLc true (itR1 (mCons (mFld "Flash" "blocks" (mFld "Log" "flash" (mV 0))) mNil)) 1 (mB (m2 opEq (mMeth "Log" "state" m_Log_state (mV 0) (mCons (mV 1) mNil)) (mC (.str "free")))) (mV 1)))
def m_Log_free_blocks : AF := mDef 1 2 b_Log_free_blocks
def b_Log_room : AS := (mSeq (mSet 2 (mN opLen (mCons (mMeth "Log" "free_blocks" m_Log_free_blocks (mV 0) mNil) mNil)))
  (mSeq (mIf (mTNot (mTru (mV 1))) (mSeq (mIf (mB (m2 opEq (mV 2) (mC (.int 0)))) (mRet (mC (.int 0))) mPass)
  (mAug 2 opSub (mC (.int 1)))) mPass)
  (mSeq (mSet 3 (m2 opMul (mC (.int 8)) (mV 2)))
  (mSeq (mIf (mB (m2 opIsnt (mFld "Log" "current" (mV 0)) (mC .non))) (mSet 3 (m2 opSub (m2 opAdd (mV 3) (mC (.int 8))) (mCall m_next_page (mCons (m2 opIx (mFld "Log" "held" (mV 0)) (mFld "Log" "current" (mV 0))) mNil)))) mPass)
  (mRet (mV 3))))))
def m_Log_room : AF := mDef 2 4 b_Log_room
def b_Flash_wear : AS := (mSeq (mExp (mMeth "Flash" "check_block" m_Flash_check_block (mV 0) (mCons (mV 1) mNil)))
  (mRet (m2 opIx (mFld "Flash" "wears" (mV 0)) (mV 1))))
def m_Flash_wear : AF := mDef 2 2 b_Flash_wear
def b_Log_choose : AS := (mRet (m2 opIx (m2 opIx (mN (opSortP true) (mCons (mLc true (itL (mMeth "Log" "free_blocks" m_Log_free_blocks (mV 0) mNil)) 1 mYes (mN opTup (mCons (mMeth "Flash" "wear" m_Flash_wear (mFld "Log" "flash" (mV 0)) (mCons (mV 1) mNil)) (mCons (mV 1) mNil)))) mNil)) (mC (.int 0))) (mC (.int 1))))
def m_Log_choose : AF := mDef 1 2 b_Log_choose
def b_Flash_operate : AS := (mSeq (mIf (mTAnd (mB (mFld "Flash" "power" (mV 0))) (mB (m2 opEq (mFld "Flash" "left" (mV 0)) (mC (.int 0))))) (mSeq (mSetF "Flash" "power" (mV 0) (mC (.bl false)))
  (mSeq (mSetF "Flash" "broken" (mV 0) (mV 1))
  (mRaise "PowerOff"))) mPass)
  (mSeq (mIf (mTNot (mB (mFld "Flash" "power" (mV 0)))) (mRaise "PowerOff") mPass)
  (mIf (mB (m2 opIsnt (mFld "Flash" "left" (mV 0)) (mC .non))) (mAugF "Flash" "left" opSub (mV 0) (mC (.int 1))) mPass)))
def m_Flash_operate : AF := mDef 2 2 b_Flash_operate
def b_Flash_program : AS := (mSeq (mExp (mMeth "Flash" "check_page" m_Flash_check_page (mV 0) (mCons (mV 1) (mCons (mV 2) mNil))))
  (mSeq (mIf (mTOr (mTNot (mB (mN opIsi (mCons (mV 3) (mCons (mC (.ty "tuple")) mNil))))) (mB (m2 opNe (mCall m_next_page (mCons (m2 opIx (mFld "Flash" "held" (mV 0)) (mV 1)) mNil)) (mV 2)))) (mRaise "NotValid") mPass)
  (mSeq (mExp (mMeth "Flash" "operate" m_Flash_operate (mV 0) (mCons (mN opTup (mCons (mV 1) (mCons (mV 2) (mCons (mV 3) mNil)))) mNil)))
  (mAsg (mV 3) (gIx (m2 opIx (mFld "Flash" "held" (mV 0)) (mV 1)) (mV 2))))))
def m_Flash_program : AF := mDef 4 4 b_Flash_program
def b_Log_append : AS := (mSeq (mIf (mB (m2 opEq (mMeth "Log" "room" m_Log_room (mV 0) (mCons (mV 2) mNil)) (mC (.int 0)))) (mRaise "NoRoom") mPass)
  (mSeq (mSet 3 (mFld "Log" "current" (mV 0)))
  (mSeq (mIf (mB (m2 opIs (mV 3) (mC .non))) (mSet 3 (mMeth "Log" "choose" m_Log_choose (mV 0) mNil)) mPass)
  (mSeq (mSet 4 (mCall m_next_page (mCons (m2 opIx (mFld "Log" "held" (mV 0)) (mV 3)) mNil)))
  (mSeq (mExp (mMeth "Flash" "program" m_Flash_program (mFld "Log" "flash" (mV 0)) (mCons (mV 3) (mCons (mV 4) (mCons (mV 1) mNil)))))
  (mSeq (mAsg (mV 1) (gIx (m2 opIx (mFld "Log" "held" (mV 0)) (mV 3)) (mV 4)))
  (mSeq (mSetF "Log" "current" (mV 0) (mV 3))
  (mIf (mB (m2 opEq (m2 opAdd (mV 4) (mC (.int 1))) (mC (.int 8)))) (mSetF "Log" "current" (mV 0) (mC .non)) mPass))))))))
def m_Log_append : AF := mDef 3 5 b_Log_append
def b_Log_closed_blocks : AS := (mRet (mLc true (itR1 (mCons (mFld "Flash" "blocks" (mFld "Log" "flash" (mV 0))) mNil)) 1 (mB (m2 opEq (mMeth "Log" "state" m_Log_state (mV 0) (mCons (mV 1) mNil)) (mC (.str "closed")))) (mV 1)))
def m_Log_closed_blocks : AF := mDef 1 2 b_Log_closed_blocks
def b_Flash_fill : AS := (mSeq (mAsg (m2 (opRep false) (mN (opLst true) (mCons (mV 2) mNil)) (mC (.int 8))) (gIx (mFld "Flash" "held" (mV 0)) (mV 1)))
  (mAugIx opAddI (mFld "Flash" "wears" (mV 0)) (mV 1) (mC (.int 1))))
def m_Flash_fill : AF := mDef 3 3 b_Flash_fill
def b_Flash_erase : AS := (mSeq (mExp (mMeth "Flash" "check_block" m_Flash_check_block (mV 0) (mCons (mV 1) mNil)))
  (mSeq (mExp (mMeth "Flash" "operate" m_Flash_operate (mV 0) (mCons (mN opTup (mCons (mV 1) (mCons (mC .non) (mCons (mC .non) mNil)))) mNil)))
  (mExp (mMeth "Flash" "fill" m_Flash_fill (mV 0) (mCons (mV 1) (mCons (mC .non) mNil))))))
def m_Flash_erase : AF := mDef 2 2 b_Flash_erase
def b_Log_erase : AS := (mSeq (mIf (mB (m2 opNin (mV 1) (mMeth "Log" "closed_blocks" m_Log_closed_blocks (mV 0) mNil))) (mRaise "NotValid") mPass)
  (mSeq (mExp (mMeth "Flash" "erase" m_Flash_erase (mFld "Log" "flash" (mV 0)) (mCons (mV 1) mNil)))
  (mAsg (m2 (opRep false) (mN (opLst true) (mCons (mC .non) mNil)) (mC (.int 8))) (gIx (mFld "Log" "held" (mV 0)) (mV 1)))))
def m_Log_erase : AF := mDef 2 2 b_Log_erase
def b__law_do : AS := (mSeq (mTry [("PowerOff", true)] (mIf (mB (m2 opEq (mV 1) (mC (.str "append")))) (mExp (mMeth "Log" "append" m_Log_append (mV 0) (mCons (mV 2) (mCons (mV 3) mNil)))) (mExp (mMeth "Log" "erase" m_Log_erase (mV 0) (mCons (mV 2) mNil)))) (mRet (mC (.bl false))))
  (mRet (mC (.bl true))))
def m__law_do : AF := mDef 4 4 b__law_do
def b__law_apply : AS := (mIf (mB (m2 opEq (mV 2) (mC (.str "append")))) (mAsg (mV 4) (gIx (m2 opIx (mV 0) (mV 3)) (mCall m__law_used (mCons (m2 opIx (mV 0) (mV 3)) mNil)))) (mSeq (mAsg (m2 (opRep false) (mN (opLst true) (mCons (mV 4) mNil)) (mC (.int 8))) (gIx (mV 0) (mV 3)))
  (mAsg (m2 opAdd (m2 opIx (mV 1) (mV 3)) (mC (.int 1))) (gIx (mV 1) (mV 3)))))
def m__law_apply : AF := mDef 5 5 b__law_apply
def b_Flash_cut : AS := (mSeq (mIf (mTNot (mB (mCall m_is_between (mCons (mV 1) (mCons (mC (.int 0)) (mCons (mC (.int 2)) mNil)))))) (mRaise "NotValid") mPass)
  (mSeq (mIf (mTAnd (mB (m2 opIsnt (mFld "Flash" "broken" (mV 0)) (mC .non))) (mB (m2 opGt (mV 1) (mC (.int 0))))) (mSeq (mAsg (mFld "Flash" "broken" (mV 0)) (gT 3 (gsC (gN 2) (gsC (gN 3) (gsC (gN 4) gsN)))))
  (mSeq (mSet 5 (m2 opIx (mN (opLst true) (mCons (mC .non) (mCons (mV 4) (mCons (mC (.str "torn")) mNil)))) (mV 1)))
  (mIf (mB (m2 opIs (mV 3) (mC .non))) (mExp (mMeth "Flash" "fill" m_Flash_fill (mV 0) (mCons (mV 2) (mCons (mV 5) mNil)))) (mAsg (mV 5) (gIx (m2 opIx (mFld "Flash" "held" (mV 0)) (mV 2)) (mV 3)))))) mPass)
  (mSeq (mSetF "Flash" "broken" (mV 0) (mC .non))
  (mSeq (mSetF "Flash" "left" (mV 0) (mC .non))
  (mSetF "Flash" "power" (mV 0) (mC (.bl true)))))))
def m_Flash_cut : AF := mDef 2 6 b_Flash_cut
def b_Log_pages : AS := (mSeq (mExp (mMeth "Log" "check_block" m_Log_check_block (mV 0) (mCons (mV 1) mNil)))
  (mRet (mN (opList false) (mCons (m2 opIx (mFld "Log" "held" (mV 0)) (mV 1)) mNil))))
def m_Log_pages : AF := mDef 2 2 b_Log_pages
def b__law_same : AS := (mSeq (mFor (itR1 (mCons (mN opLen (mCons (mV 1) mNil)) mNil)) (gN 2) (mIf (mTOr (mB (m2 opNe (mMeth "Log" "state" m_Log_state (mV 0) (mCons (mV 2) mNil)) (mCall m__law_state (mCons (mV 1) (mCons (mV 2) mNil))))) (mB (m2 opNe (mMeth "Log" "pages" m_Log_pages (mV 0) (mCons (mV 2) mNil)) (m2 opIx (mV 1) (mV 2))))) (mRet (mC (.bl false))) mPass))
  (mSeq (mIf (mB (m2 opNe (mMeth "Log" "free_blocks" m_Log_free_blocks (mV 0) mNil) (mLc true (itR1 (mCons (mN opLen (mCons (mV 1) mNil)) mNil)) 2 (mB (m2 opEq (mCall m__law_state (mCons (mV 1) (mCons (mV 2) mNil))) (mC (.str "free")))) (mV 2)))) (mRet (mC (.bl false))) mPass)
  (mSeq (mIf (mB (m2 opNe (mMeth "Log" "closed_blocks" m_Log_closed_blocks (mV 0) mNil) (mLc true (itR1 (mCons (mN opLen (mCons (mV 1) mNil)) mNil)) 2 (mB (m2 opEq (mCall m__law_state (mCons (mV 1) (mCons (mV 2) mNil))) (mC (.str "closed")))) (mV 2)))) (mRet (mC (.bl false))) mPass)
  (mRet (mAnd (m2 opEq (mMeth "Log" "room" m_Log_room (mV 0) (mCons (mC (.bl true)) mNil)) (mCall m__law_room (mCons (mV 1) (mCons (mC (.bl true)) mNil)))) (m2 opEq (mMeth "Log" "room" m_Log_room (mV 0) (mCons (mC (.bl false)) mNil)) (mCall m__law_room (mCons (mV 1) (mCons (mC (.bl false)) mNil)))))))))
def m__law_same : AF := mDef 2 3 b__law_same
def b__law_orders : AS := (mRet (mLc true (itL (mCall m__law_found (mCons (mV 0) mNil))) 1 mYes (m2 opIx (mV 1) (mC (.int 0)))))
def m__law_orders : AF := mDef 1 2 b__law_orders
def b_Flash_image : AS := (mRet (mLc true (itR1 (mCons (mFld "Flash" "blocks" (mV 0)) mNil)) 1 mYes (mN opTup (mCons (m2 opIx (mFld "Flash" "wears" (mV 0)) (mV 1)) (mCons (mN (opList true) (mCons (m2 opIx (mFld "Flash" "held" (mV 0)) (mV 1)) mNil)) mNil)))))
def m_Flash_image : AF := mDef 1 2 b_Flash_image
def b_Log_records : AS := (mSeq (mSet 1 (mNewD false false))
  (mSeq (mFor (itL (mFld "Log" "held" (mV 0))) (gN 2) (mFor (itL (mV 2)) (gN 3) (mIf (mTAnd (mB (m2 opIsnt (mV 3) (mC .non))) (mB (m2 opNe (mV 3) (mC (.str "torn"))))) (mDPut (mV 1) (m2 opIx (mV 3) (mC (.int 0))) (mV 3)) mPass)))
  (mRet (mLc true (itL (mN (opSortD true) (mCons (mV 1) mNil))) 4 mYes (m2 opDGet (mV 1) (mV 4))))))
def m_Log_records : AF := mDef 1 5 b_Log_records
def b_Log_holders : AS := (mRet (mLc true (itR1 (mCons (mFld "Flash" "blocks" (mFld "Log" "flash" (mV 0))) mNil)) 2 (mB (m2 opIn (mV 1) (m2 opIx (mFld "Log" "held" (mV 0)) (mV 2)))) (mV 2)))
def m_Log_holders : AF := mDef 2 3 b_Log_holders
def b_Log_top : AS := (mSeq (mSet 1 (mLc true (itL (mMeth "Log" "records" m_Log_records (mV 0) mNil)) 2 mYes (m2 opIx (mV 2) (mC (.int 0)))))
  (mRet (mMaxD 0 (mV 1))))
def m_Log_top : AF := mDef 1 3 b_Log_top
def b__law_reads : AS := (mSeq (mSet 2 (mCall m__law_found (mCons (mV 1) mNil)))
  (mSeq (mSet 3 (mMeth "Log" "records" m_Log_records (mV 0) mNil))
  (mSeq (mIf (mTOr (mTNot (mB (mN opIsi (mCons (mV 3) (mCons (mC (.ty "list")) mNil))))) (mB (m2 opNe (mV 3) (mV 2)))) (mRet (mC (.bl false))) mPass)
  (mSeq (mSet 4 (mC (.int 0)))
  (mSeq (mFor (itL (mV 2)) (gN 5) (mSeq (mSet 4 (mN opMax2 (mCons (mV 4) (mCons (m2 opIx (mV 5) (mC (.int 0))) mNil))))
  (mIf (mB (m2 opNe (mMeth "Log" "holders" m_Log_holders (mV 0) (mCons (mV 5) mNil)) (mLc true (itR1 (mCons (mN opLen (mCons (mV 1) mNil)) mNil)) 6 (mB (m2 opIn (mV 5) (m2 opIx (mV 1) (mV 6)))) (mV 6)))) (mRet (mC (.bl false))) mPass)))
  (mRet (m2 opEq (mMeth "Log" "top" m_Log_top (mV 0) mNil) (mV 4))))))))
def m__law_reads : AF := mDef 2 7 b__law_reads
def b_law : AS := (mSeq (mSet 1 (mCall m__law_tape (mCons (mV 0) mNil)))
  (mSeq (mSet 2 (mMake "Flash" m_Flash___init__ (mCons (mC (.int 8)) mNil)))
  (mSeq (mSet 3 (mMake "Log" m_Log___init__ (mCons (mV 2) mNil)))
  (mSeq (mSet 5 (mLc false (itR1 (mCons (mC (.int 8)) mNil)) 4 mYes (m2 (opRep false) (mN (opLst true) (mCons (mC .non) mNil)) (mC (.int 8)))))
  (mSeq (mSet 6 (m2 (opRep false) (mN (opLst true) (mCons (mC (.int 0)) mNil)) (mC (.int 8))))
  (mSeq (mSet 7 (mC (.int 0)))
  (mSeq (mSet 8 (mC .non))
  (mSeq (mSet 9 (mC (.int 0)))
  (mSeq (mFor (itR1 (mCons (mN opMin2 (mCons (mC (.int 90)) (mCons (mN opMax2 (mCons (mC (.int 0)) (mCons (m2 opSub (mN opLen (mCons (mV 1) mNil)) (mC (.int 2))) mNil))) mNil))) mNil)) (gN 10) (mSeq (mSet 11 (mCall m__law_at (mCons (mV 1) (mCons (mV 10) mNil))))
  (mSeq (mSet 12 (mCall m__law_at (mCons (mV 1) (mCons (m2 opAdd (mV 10) (mC (.int 1))) mNil))))
  (mSeq (mIf (mTAnd (mB (m2 opIs (mV 8) (mC .non))) (mTAnd (mB (m2 opLt (mV 9) (mC (.int 6)))) (mB (m2 opEq (m2 opMod (mV 11) (mC (.int 9))) (mC (.int 4)))))) (mSeq (mSet 8 (m2 opMod (mV 12) (mC (.int 7))))
  (mSeq (mSet 9 (m2 opAdd (mV 9) (mC (.int 1))))
  (mExp (mMeth "Flash" "fail_after" m_Flash_fail_after (mV 2) (mCons (mV 8) mNil))))) mPass)
  (mSeq (mSet 13 (mCall m__law_choose (mCons (mV 5) (mCons (m2 opDiv (mV 11) (mC (.int 9))) (mCons (mV 12) (mCons (mV 7) mNil))))))
  (mSeq (mIf (mB (m2 opIsnt (mV 13) (mC .non))) (mSeq (mAsg (mV 13) (gT 3 (gsC (gN 14) (gsC (gN 15) (gsC (gN 16) gsN)))))
  (mSeq (mSet 4 (mV 15))
  (mSeq (mSet 17 (mC .non))
  (mSeq (mIf (mB (m2 opEq (mV 14) (mC (.str "append")))) (mSeq (mSet 4 (mCall m__law_target (mCons (mV 5) (mCons (mV 6) mNil))))
  (mSet 17 (mV 15))) mPass)
  (mSeq (mSet 18 (mCall m__law_do (mCons (mV 3) (mCons (mV 14) (mCons (mV 15) (mCons (mV 16) mNil))))))
  (mSeq (mIf (mB (m2 opNe (mV 18) (mOr (m2 opIs (mV 8) (mC .non)) (m2 opGt (mV 8) (mC (.int 0)))))) (mRet (mC (.bl false))) mPass)
  (mSeq (mIf (mTru (mV 18)) (mSeq (mExp (mCall m__law_apply (mCons (mV 5) (mCons (mV 6) (mCons (mV 14) (mCons (mV 4) (mCons (mV 17) mNil)))))))
  (mIf (mB (m2 opIsnt (mV 8) (mC .non))) (mSet 8 (m2 opSub (mV 8) (mC (.int 1)))) mPass)) (mSeq (mSet 19 (m2 opMod (mV 12) (mC (.int 3))))
  (mSeq (mIf (mB (m2 opGt (mV 19) (mC (.int 0)))) (mExp (mCall m__law_apply (mCons (mV 5) (mCons (mV 6) (mCons (mV 14) (mCons (mV 4) (mCons (m2 opIx (mN (opLst true) (mCons (mV 17) (mCons (mC (.str "torn")) mNil))) (m2 opSub (mV 19) (mC (.int 1)))) mNil))))))) mPass)
  (mSeq (mExp (mMeth "Flash" "cut" m_Flash_cut (mV 2) (mCons (mV 19) mNil)))
  (mSeq (mSet 8 (mC .non))
  (mSet 3 (mMake "Log" m_Log___init__ (mCons (mV 2) mNil))))))))
  (mIf (mTAnd (mB (m2 opEq (mV 14) (mC (.str "append")))) (mTAnd (mTNot (mTru (mV 16))) (mTOr (mTru (mV 18)) (mB (m2 opEq (m2 opMod (mV 12) (mC (.int 3))) (mC (.int 1))))))) (mSet 7 (m2 opAdd (mV 7) (mC (.int 1)))) mPass)))))))) mPass)
  (mSeq (mIf (mTNot (mB (mCall m__law_same (mCons (mV 3) (mCons (mV 5) mNil))))) (mRet (mC (.bl false))) mPass)
  (mIf (mB (m2 opNe (mCall m__law_orders (mCons (mV 5) mNil)) (mLc true (itR1 (mCons (mV 7) mNil)) 20 mYes (m2 opAdd (mC (.int 1)) (mV 20))))) (mRet (mC (.bl false))) mPass))))))))
  (mRet (mAnd (mCall m__law_reads (mCons (mV 3) (mCons (mV 5) mNil))) (m2 opEq (mLc true (itL (mMeth "Flash" "image" m_Flash_image (mV 2) mNil)) 21 mYes (m2 opIx (mV 21) (mC (.int 1)))) (mV 5)))))))))))))
def m_law : AF := mDef 1 22 b_law
end
section
variable {P : Program} {w : World} {K : PySem.W.Frag} {mg : Str → Option Value} {base : Heap}
theorem ok__law_tape (T : Tx fa fn ts exs w K mg) : Okd P w K mg base ("_law_tape", none) 1 ["_law_script"] (spA K 1 m__law_tape) :=
  okd (k := 0) T 0 rfl sc__law_tape (fun _ _ _ _ _ _ us hl => match us, hl with | [_], _ => rfl) (fun vs H Q E h => h.1) (fun f cdv A outer s H vs Q E hr h => aDef (n := 1) (b := b__law_tape) rfl (aSCons (aSet (i := 1) sc__law_tape.nd (aLst false aNil))
      (aSCons (aFor (passes_of rfl) rfl (aItR1 (T.free 1) (aCons (aCallB up_len c_lenU (by rfl) (T.free 0) (by decide +kernel) (aCons (aV 0) aNil)) aNil)) (aGN (i := 2) sc__law_tape.nd) (aSCons (aSet (i := 3) sc__law_tape.nd (aCallB up_abs c_abs (by rfl) (T.free 2) (by decide +kernel) (aCons (aCallTy up_int c_int (by rfl) (T.free 3) (by decide +kernel) (aCons (aIx (aV 0) (aV 2)) aNil)) aNil)))
      (aSOne (aIf (aTCmp up_ge L2.op_ge (aV 3) (aOp up_pow L2.op_pow aInt aInt) (nomark _)) (aSOne (aFor (passes_of rfl) rfl (aItR1 (T.free 1) (aCons aInt aNil)) (aGN (i := 4) sc__law_tape.nd) (aSOne (aIf (aTCmp up_gt L2.op_gt (aV 3) aInt (nomark _)) (aSCons (aExp (aML up_app PySem.F.slot_list_append PySem.F.type_list_append mt_append (aV 1) (aCons (aOp up_mod L2.op_mod (aV 3) aInt) aNil)))
      (aSOne (aSet (i := 3) sc__law_tape.nd (aOp up_div L2.op_fdiv (aV 3) aInt)))) aSNil)))) (aSOne (aFor (passes_of rfl) rfl (aItR1 (T.free 1) (aCons aInt aNil)) (aGN (i := 4) sc__law_tape.nd) (aSCons (aSet (i := 3) sc__law_tape.nd (aOp up_mod L2.op_mod (aOp up_add op_addUK (aOp up_add op_addUK (aOp up_mul op_mulU (aV 3) aInt) (aOp up_mul op_mulU aInt (aOp up_add op_addUK (aV 2) aInt))) (aOp up_mul op_mulU aInt (aV 4))) aInt))
      (aSCons (aSet (i := 3) sc__law_tape.nd (aOp up_mod L2.op_mod (aOp up_mul op_mulU (aV 3) aInt) aInt))
      (aSOne (aExp (aML up_app PySem.F.slot_list_append PySem.F.type_list_append mt_append (aV 1) (aCons (aOp up_mod L2.op_mod (aOp up_div L2.op_fdiv (aV 3) aInt) aInt) aNil))))))))))))
      (aSOne (aRet (aFrz (aV 1)))))) h)
theorem ok_is_between (T : Tx fa fn ts exs w K mg) : Okd P w K mg base ("is_between", none) 1 ["value", "low", "high"] (spA K 3 m_is_between) :=
  okd (k := 0) T 1 rfl sc_is_between (fun _ _ _ _ _ _ us hl => match us, hl with | [_, _, _], _ => rfl) (fun vs H Q E h => h.1) (fun f cdv A outer s H vs Q E hr h => aDef (n := 3) (b := b_is_between) rfl (aSCons (aIf (PW.pt (aTOr (aTNot (aTVal (aCallB up_isi (call_isiK K) (by rfl) (T.free 4) (by decide +kernel) (aCons (aV 0) (aCons (aGlob (pe_bltn (v := .ty "int") rfl (T.free 3) (by decide +kernel) rfl) fun _ => .ty _) aNil))))) (aTOr1 (aTVal (aCallB up_isi (call_isiK K) (by rfl) (T.free 4) (by decide +kernel) (aCons (aV 0) (aCons (aGlob (pe_bltn (v := .ty "bool") rfl (T.free 5) (by decide +kernel) rfl) fun _ => .ty _) aNil))))))) (aSOne (aRet aBl)) aSNil)
      (aSOne (aRet (aChain up_le up_le L2.op_le L2.op_le (aV 1) (aV 0) (aV 2))))) h)
theorem ok_Flash___init__ (T : Tx fa fn ts exs w K mg) : Okd P w K mg base ("Flash", some "__init__") 2 ["self", "blocks"] (spA K 2 m_Flash___init__) :=
  okd (k := 1) T 2 rfl sc_Flash___init__ (fun _ _ _ _ _ _ us hl => match us, hl with | [_, _], _ => rfl) (fun vs H Q E h => h.1) (fun f cdv A outer s H vs Q E hr h => aDef (n := 2) (b := b_Flash___init__) rfl (aSCons (aIf (aTNot (aTVal (aCall (ok_is_between T) (takes_of rfl rfl rfl rfl) (hr.mono (by decide)) (T.glo 8) (aCons (aV 1) (aCons (aGlob (pe_globI rfl (T.int 7)) fun _ => .int _) (aCons (aGlob (pe_globI rfl (T.int 6)) fun _ => .int _) aNil))) (len_cons (len_cons (len_cons len_nil)))))) (aSOne (aRaise (c := "NotValid") rfl rfl (takes_of rfl rfl rfl rfl) (T.exc 9) (T.glo 10))) aSNil)
      (aSCons (aSetF (c := "Flash") (f := "blocks") rfl (T.cls 11) (T.noat 12) (aV 0) (aV 1))
      (aSCons (aSetF (c := "Flash") (f := "held") rfl (T.cls 11) (T.noat 14) (aV 0) (aLc false rfl sc_Flash___init__.nd (aItR1 (T.free 1) (aCons (aV 1) aNil)) (blkOk_by (own := [("block", 2)]) (N := ["self", "blocks", "block"]) (sc := defScope s_Flash___init__) (by decide +kernel)) (fun _ _ _ _ _ => pg_name (i := 2) sc_Flash___init__.nd rfl (Or.inl rfl)) (fun _ _ _ _ _ => aIfN) (fun _ _ _ _ _ => (aRep false (aLst true (aCons aNon aNil)) (aGlob (pe_globI rfl (T.int 13)) fun _ => .int _)))))
      (aSCons (aSetF (c := "Flash") (f := "wears") rfl (T.cls 11) (T.noat 15) (aV 0) (aRep false (aLst true (aCons aInt aNil)) (aV 1)))
      (aSCons (aSetF (c := "Flash") (f := "left") rfl (T.cls 11) (T.noat 16) (aV 0) aNon)
      (aSCons (aSetF (c := "Flash") (f := "power") rfl (T.cls 11) (T.noat 17) (aV 0) aBl)
      (aSOne (aSetF (c := "Flash") (f := "broken") rfl (T.cls 11) (T.noat 18) (aV 0) aNon)))))))) h)
theorem ok_Flash_check_block (T : Tx fa fn ts exs w K mg) : Okd P w K mg base ("Flash", some "check_block") 2 ["self", "block"] (spA K 2 m_Flash_check_block) :=
  okd (k := 1) T 3 rfl sc_Flash_check_block (fun _ _ _ _ _ _ us hl => match us, hl with | [_, _], _ => rfl) (fun vs H Q E h => h.1) (fun f cdv A outer s H vs Q E hr h => aDef (n := 2) (b := b_Flash_check_block) rfl (aSOne (aIf (aTNot (aTVal (aCall (ok_is_between T) (takes_of rfl rfl rfl rfl) (hr.mono (by decide)) (T.glo 8) (aCons (aV 1) (aCons aInt (aCons (aOp up_sub L2.op_sub (aFld (c := "Flash") (f := "blocks") rfl (T.cls 11) (T.noat 12) (aV 0)) aInt) aNil))) (len_cons (len_cons (len_cons len_nil)))))) (aSOne (aRaise (c := "NotValid") rfl rfl (takes_of rfl rfl rfl rfl) (T.exc 9) (T.glo 10))) aSNil)) h)
theorem ok_Flash_check_page (T : Tx fa fn ts exs w K mg) : Okd P w K mg base ("Flash", some "check_page") 3 ["self", "block", "page"] (spA K 3 m_Flash_check_page) :=
  okd (k := 2) T 4 rfl sc_Flash_check_page (fun _ _ _ _ _ _ us hl => match us, hl with | [_, _, _], _ => rfl) (fun vs H Q E h => h.1) (fun f cdv A outer s H vs Q E hr h => aDef (n := 3) (b := b_Flash_check_page) rfl (aSCons (aExp (aMeth (c := "Flash") (m := "check_block") rfl (T.cls 11) (T.meth 19) (ok_Flash_check_block T) (takes_of rfl rfl rfl rfl) (hr.mono (by decide)) (aV 0) (aCons (aV 1) aNil) (len_cons len_nil)))
      (aSOne (aIf (aTNot (aTVal (aCall (ok_is_between T) (takes_of rfl rfl rfl rfl) (hr.mono (by decide)) (T.glo 8) (aCons (aV 2) (aCons aInt (aCons (aOp up_sub L2.op_sub (aGlob (pe_globI rfl (T.int 13)) fun _ => .int _) aInt) aNil))) (len_cons (len_cons (len_cons len_nil)))))) (aSOne (aRaise (c := "NotValid") rfl rfl (takes_of rfl rfl rfl rfl) (T.exc 9) (T.glo 10))) aSNil))) h)
theorem ok_Flash_read (T : Tx fa fn ts exs w K mg) : Okd P w K mg base ("Flash", some "read") 4 ["self", "block", "page"] (spA K 3 m_Flash_read) :=
  okd (k := 3) T 5 rfl sc_Flash_read (fun _ _ _ _ _ _ us hl => match us, hl with | [_, _, _], _ => rfl) (fun vs H Q E h => h.1) (fun f cdv A outer s H vs Q E hr h => aDef (n := 3) (b := b_Flash_read) rfl (aSCons (aExp (aMeth (c := "Flash") (m := "check_page") rfl (T.cls 11) (T.meth 20) (ok_Flash_check_page T) (takes_of rfl rfl rfl rfl) (hr.mono (by decide)) (aV 0) (aCons (aV 1) (aCons (aV 2) aNil)) (len_cons (len_cons len_nil))))
      (aSCons (aIf (aTNot (aTVal (aFld (c := "Flash") (f := "power") rfl (T.cls 11) (T.noat 17) (aV 0)))) (aSOne (aRaise (c := "PowerOff") rfl rfl (takes_of rfl rfl rfl rfl) (T.exc 21) (T.glo 22))) aSNil)
      (aSOne (aRet (aIx (aIx (aFld (c := "Flash") (f := "held") rfl (T.cls 11) (T.noat 14) (aV 0)) (aV 1)) (aV 2)))))) h)
theorem ok_next_page (T : Tx fa fn ts exs w K mg) : Okd P w K mg base ("next_page", none) 1 ["pages"] (spA K 1 m_next_page) :=
  okd (k := 0) T 6 rfl sc_next_page (fun _ _ _ _ _ _ us hl => match us, hl with | [_], _ => rfl) (fun vs H Q E h => h.1) (fun f cdv A outer s H vs Q E hr h => aDef (n := 1) (b := b_next_page) rfl (aSCons (aSet (i := 1) sc_next_page.nd aInt)
      (aSCons (aFor (passes_of rfl) rfl (aItR1 (T.free 1) (aCons (aGlob (pe_globI rfl (T.int 13)) fun _ => .int _) aNil)) (aGN (i := 2) sc_next_page.nd) (aSOne (aIf (aTCmp up_isnt o_notN (aIx (aV 0) (aV 2)) aNon (nomark _)) (aSOne (aSet (i := 1) sc_next_page.nd (aOp up_add op_addUK (aV 2) aInt))) aSNil)))
      (aSOne (aRet (aV 1))))) h)
theorem ok_Log___init__ (T : Tx fa fn ts exs w K mg) : Okd P w K mg base ("Log", some "__init__") 5 ["self", "flash"] (spA K 2 m_Log___init__) :=
  okd (k := 4) T 7 rfl sc_Log___init__ (fun _ _ _ _ _ _ us hl => match us, hl with | [_, _], _ => rfl) (fun vs H Q E h => h.1) (fun f cdv A outer s H vs Q E hr h => aDef (n := 2) (b := b_Log___init__) rfl (aSCons (aSetF (c := "Log") (f := "flash") rfl (T.cls 23) (T.noat 24) (aV 0) (aV 1))
      (aSCons (aSetF (c := "Log") (f := "held") rfl (T.cls 23) (T.noat 25) (aV 0) (aLst false aNil))
      (aSCons (aFor (passes_of rfl) rfl (aItR1 (T.free 1) (aCons (aFld (c := "Flash") (f := "blocks") rfl (T.cls 11) (T.noat 12) (aV 1)) aNil)) (aGN (i := 2) sc_Log___init__.nd) (aSOne (aExp (aML up_app PySem.F.slot_list_append PySem.F.type_list_append mt_append (aFld (c := "Log") (f := "held") rfl (T.cls 23) (T.noat 25) (aV 0)) (aCons (aLc false rfl sc_Log___init__.nd (aItR1 (T.free 1) (aCons (aGlob (pe_globI rfl (T.int 13)) fun _ => .int _) aNil)) (blkOk_by (own := [("page", 4)]) (N := ["self", "flash", "block", "begun", "page"]) (sc := defScope s_Log___init__) (by decide +kernel)) (fun _ _ _ _ _ => pg_name (i := 4) sc_Log___init__.nd rfl (Or.inl rfl)) (fun _ _ _ _ _ => aIfN) (fun _ _ _ _ _ => (aMeth (c := "Flash") (m := "read") rfl (T.cls 11) (T.meth 26) (ok_Flash_read T) takes0 (hr.mono (by decide)) (aV 1) (aCons (aV 2) (aCons (aV 4) aNil)) (len_cons (len_cons len_nil))))) aNil)))))
      (aSCons (aSetLc true rfl sc_Log___init__.nd (aItR1 (T.free 1) (aCons (aFld (c := "Flash") (f := "blocks") rfl (T.cls 11) (T.noat 12) (aV 1)) aNil)) (blkOk_by (own := [("block", 2)]) (N := ["self", "flash", "block", "begun", "page"]) (sc := defScope s_Log___init__) (by decide +kernel)) (fun _ _ _ _ _ => pg_name (i := 2) sc_Log___init__.nd rfl (Or.inl rfl)) (fun _ _ _ _ _ => (aIf1 (aTChain up_lt up_lt L2.op_lt L2.op_lt aInt (aCall (ok_next_page T) takes0 (hr.mono (by decide)) (T.glo 27) (aCons (aIx (aFld (c := "Log") (f := "held") rfl (T.cls 23) (T.noat 25) (aV 0)) (aV 2)) aNil) (len_cons len_nil)) (aGlob (pe_globI rfl (T.int 13)) fun _ => .int _)))) (fun _ _ _ _ _ => (aV 2)) (sw_true rfl rfl rfl (by decide +kernel)))
      (aSCons (aIf (aTCmp up_gt L2.op_gt (aCallB up_len c_lenU (by rfl) (T.free 0) (by decide +kernel) (aCons (aV 3) aNil)) aInt (nomark _)) (aSOne (aRaise (c := "BadFlash") rfl rfl (takes_of rfl rfl rfl rfl) (T.exc 28) (T.glo 29))) aSNil)
      (aSCons (aSetF (c := "Log") (f := "current") rfl (T.cls 23) (T.noat 30) (aV 0) aNon)
      (aSOne (aIf (aTru (aV 3)) (aSOne (aSetF (c := "Log") (f := "current") rfl (T.cls 23) (T.noat 30) (aV 0) (aIx (aV 3) aInt))) aSNil)))))))) h)
theorem ok__law_at (T : Tx fa fn ts exs w K mg) : Okd P w K mg base ("_law_at", none) 1 ["_law_tape_here", "_law_k"] (spA K 2 m__law_at) :=
  okd (k := 0) T 8 rfl sc__law_at (fun _ _ _ _ _ _ us hl => match us, hl with | [_, _], _ => rfl) (fun vs H Q E h => h.1) (fun f cdv A outer s H vs Q E hr h => aDef (n := 2) (b := b__law_at) rfl (aSCons (aIf (aTCmp up_lt L2.op_lt (aV 1) (aCallB up_len c_lenU (by rfl) (T.free 0) (by decide +kernel) (aCons (aV 0) aNil)) (nomark _)) (aSOne (aRet (aIx (aV 0) (aV 1)))) aSNil)
      (aSOne (aRet aInt))) h)
theorem ok_Flash_fail_after (T : Tx fa fn ts exs w K mg) : Okd P w K mg base ("Flash", some "fail_after") 2 ["self", "count"] (spA K 2 m_Flash_fail_after) :=
  okd (k := 1) T 9 rfl sc_Flash_fail_after (fun _ _ _ _ _ _ us hl => match us, hl with | [_, _], _ => rfl) (fun vs H Q E h => h.1) (fun f cdv A outer s H vs Q E hr h => aDef (n := 2) (b := b_Flash_fail_after) rfl (aSCons (aIf (PW.pt (aTAnd (aTCmp up_isnt o_notN (aV 1) aNon (nomark _)) (aTAnd1 (aTNot (aTVal (aCall (ok_is_between T) (takes_of rfl rfl rfl rfl) (hr.mono (by decide)) (T.glo 8) (aCons (aV 1) (aCons aInt (aCons (aGlob (pe_globI rfl (T.int 31)) fun _ => .int _) aNil))) (len_cons (len_cons (len_cons len_nil))))))))) (aSOne (aRaise (c := "NotValid") rfl rfl (takes_of rfl rfl rfl rfl) (T.exc 9) (T.glo 10))) aSNil)
      (aSOne (aSetF (c := "Flash") (f := "left") rfl (T.cls 11) (T.noat 16) (aV 0) (aV 1)))) h)
theorem ok__law_used (T : Tx fa fn ts exs w K mg) : Okd P w K mg base ("_law_used", none) 1 ["_law_pages"] (spA K 1 m__law_used) :=
  okd (k := 0) T 10 rfl sc__law_used (fun _ _ _ _ _ _ us hl => match us, hl with | [_], _ => rfl) (fun vs H Q E h => h.1) (fun f cdv A outer s H vs Q E hr h => aDef (n := 1) (b := b__law_used) rfl (aSCons (aSet (i := 1) sc__law_used.nd aInt)
      (aSCons (aFor (passes_of rfl) rfl (aItR1 (T.free 1) (aCons aInt aNil)) (aGN (i := 2) sc__law_used.nd) (aSOne (aIf (aTCmp up_isnt o_notN (aIx (aV 0) (aV 2)) aNon (nomark _)) (aSOne (aSet (i := 1) sc__law_used.nd (aOp up_add op_addUK (aV 2) aInt))) aSNil)))
      (aSOne (aRet (aV 1))))) h)
theorem ok__law_state (T : Tx fa fn ts exs w K mg) : Okd P w K mg base ("_law_state", none) 2 ["_law_held", "_law_block"] (spA K 2 m__law_state) :=
  okd (k := 1) T 11 rfl sc__law_state (fun _ _ _ _ _ _ us hl => match us, hl with | [_, _], _ => rfl) (fun vs H Q E h => h.1) (fun f cdv A outer s H vs Q E hr h => aDef (n := 2) (b := b__law_state) rfl (aSCons (aSet (i := 2) sc__law_state.nd (aCall (ok__law_used T) (takes_of rfl rfl rfl rfl) (hr.mono (by decide)) (T.glo 32) (aCons (aIx (aV 0) (aV 1)) aNil) (len_cons len_nil)))
      (aSCons (aIf (aTCmp up_eq (op_eqM hr.units) (aV 2) aInt (nomark _)) (aSOne (aRet aStr)) aSNil)
      (aSCons (aIf (aTCmp up_lt L2.op_lt (aV 2) aInt (nomark _)) (aSOne (aRet aStr)) aSNil)
      (aSOne (aRet aStr))))) h)
theorem ok__law_elsewhere (T : Tx fa fn ts exs w K mg) : Okd P w K mg base ("_law_elsewhere", none) 1 ["_law_held", "_law_block", "_law_page"] (spA K 3 m__law_elsewhere) :=
  okd (k := 0) T 12 rfl sc__law_elsewhere (fun _ _ _ _ _ _ us hl => match us, hl with | [_, _, _], _ => rfl) (fun vs H Q E h => h.1) (fun f cdv A outer s H vs Q E hr h => aDef (n := 3) (b := b__law_elsewhere) rfl (aSCons (aFor (passes_of rfl) rfl (aItR1 (T.free 1) (aCons (aCallB up_len c_lenU (by rfl) (T.free 0) (by decide +kernel) (aCons (aV 0) aNil)) aNil)) (aGN (i := 3) sc__law_elsewhere.nd) (aSOne (aIf (PW.pt (aTAnd (aTCmp up_ne (op_neM hr.units) (aV 3) (aV 1) (nomark _)) (aTAnd1 (aTCmp up_in (op_inM hr.units) (aV 2) (aIx (aV 0) (aV 3)) (by with_unfolding_all rfl))))) (aSOne (aRet aBl)) aSNil)))
      (aSOne (aRet aBl))) h)
theorem ok__law_spare (T : Tx fa fn ts exs w K mg) : Okd P w K mg base ("_law_spare", none) 3 ["_law_held"] (spA K 1 m__law_spare) :=
  okd (k := 2) T 13 rfl sc__law_spare (fun _ _ _ _ _ _ us hl => match us, hl with | [_], _ => rfl) (fun vs H Q E h => h.1) (fun f cdv A outer s H vs Q E hr h => aDef (n := 1) (b := b__law_spare) rfl (aSCons (aFor (passes_of rfl) rfl (aItR1 (T.free 1) (aCons (aCallB up_len c_lenU (by rfl) (T.free 0) (by decide +kernel) (aCons (aV 0) aNil)) aNil)) (aGN (i := 1) sc__law_spare.nd) (aSOne (aIf (aTCmp up_eq (op_eqM hr.units) (aCall (ok__law_state T) (takes_of rfl rfl rfl rfl) (hr.mono (by decide)) (T.glo 33) (aCons (aV 0) (aCons (aV 1) aNil)) (len_cons (len_cons len_nil))) aStr (nomark _)) (aSCons (aSetLc true rfl sc__law_spare.nd (aItL (aIx (aV 0) (aV 1))) (blkOk_by (own := [("_law_page", 3)]) (N := ["_law_held", "_law_block", "_law_lone", "_law_page"]) (sc := defScope s__law_spare) (by decide +kernel)) (fun _ _ _ _ _ => pg_name (i := 3) sc__law_spare.nd rfl (Or.inl rfl)) (fun _ _ _ _ _ => (aIf1 (PW.pt (aTAnd (aTVal (aCallB up_isi (call_isiK K) (by rfl) (T.free 4) (by decide +kernel) (aCons (aV 3) (aCons (aGlob (pe_bltn (v := .ty "tuple") rfl (T.free 35) (by decide +kernel) rfl) fun _ => .ty _) aNil)))) (aTAnd1 (aTNot (aTru (aCall (ok__law_elsewhere T) takes0 (hr.mono (by decide)) (T.glo 34) (aCons (aV 0) (aCons (aV 1) (aCons (aV 3) aNil))) (len_cons (len_cons (len_cons len_nil))))))))))) (fun _ _ _ _ _ => (aV 3)) (sw_true rfl rfl rfl (by decide +kernel)))
      (aSOne (aIf (aTCmp up_eq (op_eqM hr.units) (aV 2) (aLst true aNil) (nomark _)) (aSOne (aRet (aV 1))) aSNil))) aSNil)))
      (aSOne (aRet aNon))) h)
theorem ok__law_room (T : Tx fa fn ts exs w K mg) : Okd P w K mg base ("_law_room", none) 3 ["_law_held", "_law_is_copy"] (spA K 2 m__law_room) :=
  okd (k := 2) T 14 rfl sc__law_room (fun _ _ _ _ _ _ us hl => match us, hl with | [_, _], _ => rfl) (fun vs H Q E h => h.1) (fun f cdv A outer s H vs Q E hr h => aDef (n := 2) (b := b__law_room) rfl (aSCons (aSet (i := 3) sc__law_room.nd (aCallB up_len c_lenU (by rfl) (T.free 0) (by decide +kernel) (aCons (aLc true rfl sc__law_room.nd (aItR1 (T.free 1) (aCons (aCallB up_len c_lenU (by rfl) (T.free 0) (by decide +kernel) (aCons (aV 0) aNil)) aNil)) (blkOk_by (own := [("_law_block", 2)]) (N := ["_law_held", "_law_is_copy", "_law_block", "_law_free", "_law_room_here"]) (sc := defScope s__law_room) (by decide +kernel)) (fun _ _ _ _ _ => pg_name (i := 2) sc__law_room.nd rfl (Or.inl rfl)) (fun _ _ _ _ _ => (aIf1 (aTCmp up_eq (op_eqM hr.units) (aCall (ok__law_state T) takes0 (hr.mono (by decide)) (T.glo 33) (aCons (aV 0) (aCons (aV 2) aNil)) (len_cons (len_cons len_nil))) aStr (nomark _)))) (fun _ _ _ _ _ => (aV 2))) aNil)))
      (aSCons (aSet (i := 4) sc__law_room.nd (aOp up_mul op_mulU aInt (aV 3)))
      (aSCons (aIf (PW.pt (aTAnd (aTNot (aTru (aV 1))) (aTAnd1 (aTCmp up_eq (op_eqM hr.units) (aV 3) aInt (nomark _))))) (aSOne (aRet aInt)) aSNil)
      (aSCons (aIf (aTNot (aTru (aV 1))) (aSOne (aSet (i := 4) sc__law_room.nd (aOp up_mul op_mulU aInt (aOp up_sub L2.op_sub (aV 3) aInt)))) aSNil)
      (aSCons (aFor (passes_of rfl) rfl (aItR1 (T.free 1) (aCons (aCallB up_len c_lenU (by rfl) (T.free 0) (by decide +kernel) (aCons (aV 0) aNil)) aNil)) (aGN (i := 2) sc__law_room.nd) (aSOne (aIf (aTCmp up_eq (op_eqM hr.units) (aCall (ok__law_state T) (takes_of rfl rfl rfl rfl) (hr.mono (by decide)) (T.glo 33) (aCons (aV 0) (aCons (aV 2) aNil)) (len_cons (len_cons len_nil))) aStr (nomark _)) (aSOne (aSet (i := 4) sc__law_room.nd (aOp up_sub L2.op_sub (aOp up_add op_addUK (aV 4) aInt) (aCall (ok__law_used T) (takes_of rfl rfl rfl rfl) (hr.mono (by decide)) (T.glo 32) (aCons (aIx (aV 0) (aV 2)) aNil) (len_cons len_nil))))) aSNil)))
      (aSOne (aRet (aV 4)))))))) h)
theorem ok__law_found (T : Tx fa fn ts exs w K mg) : Okd P w K mg base ("_law_found", none) 1 ["_law_held"] (spA K 1 m__law_found) :=
  okd (k := 0) T 15 rfl sc__law_found (fun _ _ _ _ _ _ us hl => match us, hl with | [_], _ => rfl) (fun vs H Q E h => h.1) (fun f cdv A outer s H vs Q E hr h => aDef (n := 1) (b := b__law_found) rfl (aSCons (aSet (i := 1) sc__law_found.nd (aLst false aNil))
      (aSCons (aFor (passes_of rfl) rfl (aItL (aV 0)) (aGN (i := 2) sc__law_found.nd) (aSOne (aFor (passes_of rfl) rfl (aItL (aV 2)) (aGN (i := 3) sc__law_found.nd) (aSOne (aIf (PW.pt (aTAnd (aTVal (aCallB up_isi (call_isiK K) (by rfl) (T.free 4) (by decide +kernel) (aCons (aV 3) (aCons (aGlob (pe_bltn (v := .ty "tuple") rfl (T.free 35) (by decide +kernel) rfl) fun _ => .ty _) aNil)))) (aTAnd1 (aTCmp up_nin (op_ninM hr.units) (aV 3) (aV 1) (by with_unfolding_all rfl))))) (aSOne (aExp (aML up_app PySem.F.slot_list_append PySem.F.type_list_append mt_append (aV 1) (aCons (aV 3) aNil)))) aSNil)))))
      (aSOne (aRet (aCallB (up_sortH true) (cr_sortedHK K) (by rfl) (T.free 36) (by decide +kernel) (aCons (aV 1) aNil)))))) h)
theorem ok__law_record (T : Tx fa fn ts exs w K mg) : Okd P w K mg base ("_law_record", none) 1 ["_law_order"] (spA K 1 m__law_record) :=
  okd (k := 0) T 16 rfl sc__law_record (fun _ _ _ _ _ _ us hl => match us, hl with | [_], _ => rfl) (fun vs H Q E h => h.1) (fun f cdv A outer s H vs Q E hr h => aDef (n := 1) (b := b__law_record) rfl (aSOne (aRet (aTup (aCons (aV 0) (aCons aStr (aCons (aOp up_mod L2.op_mod (aV 0) aInt) (aCons aInt (aCons (aV 0) (aCons (aOp up_add op_addUK aInt (aOp up_mod L2.op_mod (aV 0) aInt)) (aCons (aOp up_mod L2.op_mod (aV 0) aInt) (aCons (aOp up_mul op_mulU (aV 0) aInt) aNil))))))))))) h)
theorem ok__law_choose (T : Tx fa fn ts exs w K mg) : Okd P w K mg base ("_law_choose", none) 4 ["_law_held", "_law_number", "_law_pick", "_law_order"] (spA K 4 m__law_choose) :=
  okd (k := 3) T 17 rfl sc__law_choose (fun _ _ _ _ _ _ us hl => match us, hl with | [_, _, _, _], _ => rfl) (fun vs H Q E h => h.1) (fun f cdv A outer s H vs Q E hr h => aDef (n := 4) (b := b__law_choose) rfl (aSCons (aIf (PW.pt (aTAnd (aTCmp up_eq (op_eqM hr.units) (aOp up_mod L2.op_mod (aV 1) aInt) aInt (nomark _)) (aTAnd1 (aTCmp up_isnt o_notN (aCall (ok__law_spare T) (takes_of rfl rfl rfl rfl) (hr.mono (by decide)) (T.glo 37) (aCons (aV 0) aNil) (len_cons len_nil)) aNon (nomark _))))) (aSOne (aRet (aTup (aCons aStr (aCons (aCall (ok__law_spare T) (takes_of rfl rfl rfl rfl) (hr.mono (by decide)) (T.glo 37) (aCons (aV 0) aNil) (len_cons len_nil)) (aCons aBl aNil)))))) aSNil)
      (aSCons (aIf (PW.pt (aTAnd (aTCmp up_gt L2.op_gt (aOp up_mod L2.op_mod (aV 1) aInt) aInt (nomark _)) (aTAnd (aTCmp up_gt L2.op_gt (aCallB up_len c_lenU (by rfl) (T.free 0) (by decide +kernel) (aCons (aCall (ok__law_found T) (takes_of rfl rfl rfl rfl) (hr.mono (by decide)) (T.glo 39) (aCons (aV 0) aNil) (len_cons len_nil)) aNil)) aInt (nomark _)) (aTAnd1 (aTCmp up_gt L2.op_gt (aCall (ok__law_room T) (takes_of rfl rfl rfl rfl) (hr.mono (by decide)) (T.glo 38) (aCons (aV 0) (aCons aBl aNil)) (len_cons (len_cons len_nil))) aInt (nomark _)))))) (aSCons (aSetLc true rfl sc__law_choose.nd (aItR1 (T.free 1) (aCons (aCallB up_len c_lenU (by rfl) (T.free 0) (by decide +kernel) (aCons (aV 0) aNil)) aNil)) (blkOk_by (own := [("_law_block", 4)]) (N := ["_law_held", "_law_number", "_law_pick", "_law_order", "_law_block", "_law_closed", "_law_lone", "_law_page"]) (sc := defScope s__law_choose) (by decide +kernel)) (fun _ _ _ _ _ => pg_name (i := 4) sc__law_choose.nd rfl (Or.inl rfl)) (fun _ _ _ _ _ => (aIf1 (aTCmp up_eq (op_eqM hr.units) (aCall (ok__law_state T) takes0 (hr.mono (by decide)) (T.glo 33) (aCons (aV 0) (aCons (aV 4) aNil)) (len_cons (len_cons len_nil))) aStr (nomark _)))) (fun _ _ _ _ _ => (aV 4)) (sw_true rfl rfl rfl (by decide +kernel)))
      (aSOne (aIf (aTCmp up_gt L2.op_gt (aCallB up_len c_lenU (by rfl) (T.free 0) (by decide +kernel) (aCons (aV 5) aNil)) aInt (nomark _)) (aSCons (aSet (i := 4) sc__law_choose.nd (aIx (aV 5) (aOp up_mod L2.op_mod (aV 2) (aCallB up_len c_lenU (by rfl) (T.free 0) (by decide +kernel) (aCons (aV 5) aNil)))))
      (aSCons (aSetLc true rfl sc__law_choose.nd (aItL (aIx (aV 0) (aV 4))) (blkOk_by (own := [("_law_page", 7)]) (N := ["_law_held", "_law_number", "_law_pick", "_law_order", "_law_block", "_law_closed", "_law_lone", "_law_page"]) (sc := defScope s__law_choose) (by decide +kernel)) (fun _ _ _ _ _ => pg_name (i := 7) sc__law_choose.nd rfl (Or.inl rfl)) (fun _ _ _ _ _ => (aIf1 (PW.pt (aTAnd (aTVal (aCallB up_isi (call_isiK K) (by rfl) (T.free 4) (by decide +kernel) (aCons (aV 7) (aCons (aGlob (pe_bltn (v := .ty "tuple") rfl (T.free 35) (by decide +kernel) rfl) fun _ => .ty _) aNil)))) (aTAnd1 (aTNot (aTru (aCall (ok__law_elsewhere T) takes0 (hr.mono (by decide)) (T.glo 34) (aCons (aV 0) (aCons (aV 4) (aCons (aV 7) aNil))) (len_cons (len_cons (len_cons len_nil))))))))))) (fun _ _ _ _ _ => (aV 7)) (sw_true rfl rfl rfl (by decide +kernel)))
      (aSOne (aIf (aTCmp up_gt L2.op_gt (aCallB up_len c_lenU (by rfl) (T.free 0) (by decide +kernel) (aCons (aV 6) aNil)) aInt (nomark _)) (aSOne (aRet (aTup (aCons aStr (aCons (aIx (aV 6) aInt) (aCons aBl aNil)))))) aSNil)))) aSNil))) aSNil)
      (aSCons (aIf (aTCmp up_gt L2.op_gt (aCall (ok__law_room T) (takes_of rfl rfl rfl rfl) (hr.mono (by decide)) (T.glo 38) (aCons (aV 0) (aCons aBl aNil)) (len_cons (len_cons len_nil))) aInt (nomark _)) (aSOne (aRet (aTup (aCons aStr (aCons (aCall (ok__law_record T) (takes_of rfl rfl rfl rfl) (hr.mono (by decide)) (T.glo 40) (aCons (aOp up_add op_addUK (aV 3) aInt) aNil) (len_cons len_nil)) (aCons aBl aNil)))))) aSNil)
      (aSOne (aRet aNon))))) h)
theorem ok__law_target (T : Tx fa fn ts exs w K mg) : Okd P w K mg base ("_law_target", none) 3 ["_law_held", "_law_wears"] (spA K 2 m__law_target) :=
  okd (k := 2) T 18 rfl sc__law_target (fun _ _ _ _ _ _ us hl => match us, hl with | [_, _], _ => rfl) (fun vs H Q E h => h.1) (fun f cdv A outer s H vs Q E hr h => aDef (n := 2) (b := b__law_target) rfl (aSCons (aSet (i := 2) sc__law_target.nd aNon)
      (aSCons (aFor (passes_of rfl) rfl (aItR1 (T.free 1) (aCons (aCallB up_len c_lenU (by rfl) (T.free 0) (by decide +kernel) (aCons (aV 0) aNil)) aNil)) (aGN (i := 3) sc__law_target.nd) (aSCons (aIf (aTCmp up_eq (op_eqM hr.units) (aCall (ok__law_state T) (takes_of rfl rfl rfl rfl) (hr.mono (by decide)) (T.glo 33) (aCons (aV 0) (aCons (aV 3) aNil)) (len_cons (len_cons len_nil))) aStr (nomark _)) (aSOne (aRet (aV 3))) aSNil)
      (aSOne (aIf (PW.pt (aTAnd (aTCmp up_eq (op_eqM hr.units) (aCall (ok__law_state T) (takes_of rfl rfl rfl rfl) (hr.mono (by decide)) (T.glo 33) (aCons (aV 0) (aCons (aV 3) aNil)) (len_cons (len_cons len_nil))) aStr (nomark _)) (aTAnd1 (PW.pt (aTOr (aTCmp up_is o_isN (aV 2) aNon (nomark _)) (aTOr1 (aTCmp up_lt L2.op_lt (aIx (aV 1) (aV 3)) (aIx (aV 1) (aV 2)) (nomark _)))))))) (aSOne (aSet (i := 2) sc__law_target.nd (aV 3))) aSNil))))
      (aSOne (aRet (aV 2))))) h)
theorem ok_Log_check_block (T : Tx fa fn ts exs w K mg) : Okd P w K mg base ("Log", some "check_block") 2 ["self", "block"] (spA K 2 m_Log_check_block) :=
  okd (k := 1) T 19 rfl sc_Log_check_block (fun _ _ _ _ _ _ us hl => match us, hl with | [_, _], _ => rfl) (fun vs H Q E h => h.1) (fun f cdv A outer s H vs Q E hr h => aDef (n := 2) (b := b_Log_check_block) rfl (aSOne (aIf (aTNot (aTVal (aCall (ok_is_between T) (takes_of rfl rfl rfl rfl) (hr.mono (by decide)) (T.glo 8) (aCons (aV 1) (aCons aInt (aCons (aOp up_sub L2.op_sub (aFld (c := "Flash") (f := "blocks") rfl (T.cls 11) (T.noat 12) (aFld (c := "Log") (f := "flash") rfl (T.cls 23) (T.noat 24) (aV 0))) aInt) aNil))) (len_cons (len_cons (len_cons len_nil)))))) (aSOne (aRaise (c := "NotValid") rfl rfl (takes_of rfl rfl rfl rfl) (T.exc 9) (T.glo 10))) aSNil)) h)
theorem ok_Log_state (T : Tx fa fn ts exs w K mg) : Okd P w K mg base ("Log", some "state") 3 ["self", "block"] (spA K 2 m_Log_state) :=
  okd (k := 2) T 20 rfl sc_Log_state (fun _ _ _ _ _ _ us hl => match us, hl with | [_, _], _ => rfl) (fun vs H Q E h => h.1) (fun f cdv A outer s H vs Q E hr h => aDef (n := 2) (b := b_Log_state) rfl (aSCons (aExp (aMeth (c := "Log") (m := "check_block") rfl (T.cls 23) (T.meth 41) (ok_Log_check_block T) (takes_of rfl rfl rfl rfl) (hr.mono (by decide)) (aV 0) (aCons (aV 1) aNil) (len_cons len_nil)))
      (aSCons (aIf (aTCmp up_eq (op_eqM hr.units) (aV 1) (aFld (c := "Log") (f := "current") rfl (T.cls 23) (T.noat 30) (aV 0)) (nomark _)) (aSOne (aRet aStr)) aSNil)
      (aSCons (aIf (aTCmp up_eq (op_eqM hr.units) (aCall (ok_next_page T) (takes_of rfl rfl rfl rfl) (hr.mono (by decide)) (T.glo 27) (aCons (aIx (aFld (c := "Log") (f := "held") rfl (T.cls 23) (T.noat 25) (aV 0)) (aV 1)) aNil) (len_cons len_nil)) aInt (nomark _)) (aSOne (aRet aStr)) aSNil)
      (aSOne (aRet aStr))))) h)
theorem ok_Log_free_blocks (T : Tx fa fn ts exs w K mg) : Okd P w K mg base ("Log", some "free_blocks") 4 ["self"] (spA K 1 m_Log_free_blocks) :=
  okd (k := 3) T 21 rfl sc_Log_free_blocks (fun _ _ _ _ _ _ us hl => match us, hl with | [_], _ => rfl) (fun vs H Q E h => h.1) (fun f cdv A outer s H vs Q E hr h => aDef (n := 1) (b := b_Log_free_blocks) rfl (aSOne (aRet (aLc true rfl sc_Log_free_blocks.nd (aItR1 (T.free 1) (aCons (aFld (c := "Flash") (f := "blocks") rfl (T.cls 11) (T.noat 12) (aFld (c := "Log") (f := "flash") rfl (T.cls 23) (T.noat 24) (aV 0))) aNil)) (blkOk_by (own := [("block", 1)]) (N := ["self", "block"]) (sc := defScope s_Log_free_blocks) (by decide +kernel)) (fun _ _ _ _ _ => pg_name (i := 1) sc_Log_free_blocks.nd rfl (Or.inl rfl)) (fun _ _ _ _ _ => (aIf1 (aTCmp up_eq (op_eqM hr.units) (aMeth (c := "Log") (m := "state") rfl (T.cls 23) (T.meth 42) (ok_Log_state T) takes0 (hr.mono (by decide)) (aV 0) (aCons (aV 1) aNil) (len_cons len_nil)) aStr (nomark _)))) (fun _ _ _ _ _ => (aV 1))))) h)
theorem ok_Log_room (T : Tx fa fn ts exs w K mg) : Okd P w K mg base ("Log", some "room") 5 ["self", "is_copy"] (spA K 2 m_Log_room) :=
  okd (k := 4) T 22 rfl sc_Log_room (fun _ _ _ _ _ _ us hl => match us, hl with | [_, _], _ => rfl) (fun vs H Q E h => h.1) (fun f cdv A outer s H vs Q E hr h => aDef (n := 2) (b := b_Log_room) rfl (aSCons (aSet (i := 2) sc_Log_room.nd (aCallB up_len c_lenU (by rfl) (T.free 0) (by decide +kernel) (aCons (aMeth0 (c := "Log") (m := "free_blocks") rfl (T.cls 23) (T.meth 43) (ok_Log_free_blocks T) (takes_of rfl rfl rfl rfl) (hr.mono (by decide)) (aV 0)) aNil)))
      (aSCons (aIf (aTNot (aTru (aV 1))) (aSCons (aIf (aTCmp up_eq (op_eqM hr.units) (aV 2) aInt (nomark _)) (aSOne (aRet aInt)) aSNil)
      (aSOne (aAug (j := 2) up_subI sc_Log_room.nd i_sub aInt))) aSNil)
      (aSCons (aSet (i := 3) sc_Log_room.nd (aOp up_mul op_mulU (aGlob (pe_globI rfl (T.int 13)) fun _ => .int _) (aV 2)))
      (aSCons (aIf (aTCmp up_isnt o_notN (aFld (c := "Log") (f := "current") rfl (T.cls 23) (T.noat 30) (aV 0)) aNon (nomark _)) (aSOne (aSet (i := 3) sc_Log_room.nd (aOp up_sub L2.op_sub (aOp up_add op_addUK (aV 3) (aGlob (pe_globI rfl (T.int 13)) fun _ => .int _)) (aCall (ok_next_page T) (takes_of rfl rfl rfl rfl) (hr.mono (by decide)) (T.glo 27) (aCons (aIx (aFld (c := "Log") (f := "held") rfl (T.cls 23) (T.noat 25) (aV 0)) (aFld (c := "Log") (f := "current") rfl (T.cls 23) (T.noat 30) (aV 0))) aNil) (len_cons len_nil))))) aSNil)
      (aSOne (aRet (aV 3))))))) h)
theorem ok_Flash_wear (T : Tx fa fn ts exs w K mg) : Okd P w K mg base ("Flash", some "wear") 3 ["self", "block"] (spA K 2 m_Flash_wear) :=
  okd (k := 2) T 23 rfl sc_Flash_wear (fun _ _ _ _ _ _ us hl => match us, hl with | [_, _], _ => rfl) (fun vs H Q E h => h.1) (fun f cdv A outer s H vs Q E hr h => aDef (n := 2) (b := b_Flash_wear) rfl (aSCons (aExp (aMeth (c := "Flash") (m := "check_block") rfl (T.cls 11) (T.meth 19) (ok_Flash_check_block T) (takes_of rfl rfl rfl rfl) (hr.mono (by decide)) (aV 0) (aCons (aV 1) aNil) (len_cons len_nil)))
      (aSOne (aRet (aIx (aFld (c := "Flash") (f := "wears") rfl (T.cls 11) (T.noat 15) (aV 0)) (aV 1))))) h)
theorem ok_Log_choose (T : Tx fa fn ts exs w K mg) : Okd P w K mg base ("Log", some "choose") 5 ["self"] (spA K 1 m_Log_choose) :=
  okd (k := 4) T 24 rfl sc_Log_choose (fun _ _ _ _ _ _ us hl => match us, hl with | [_], _ => rfl) (fun vs H Q E h => h.1) (fun f cdv A outer s H vs Q E hr h => aDef (n := 1) (b := b_Log_choose) rfl (aSOne (aRet (aIx (aIx (aCallB (up_sortP true) (cr_sortedPK K) (by rfl) (T.free 36) (by decide +kernel) (aCons (aLc true rfl sc_Log_choose.nd (aItL (aMeth0 (c := "Log") (m := "free_blocks") rfl (T.cls 23) (T.meth 43) (ok_Log_free_blocks T) (takes_of rfl rfl rfl rfl) (hr.mono (by decide)) (aV 0))) (blkOk_by (own := [("block", 1)]) (N := ["self", "block"]) (sc := defScope s_Log_choose) (by decide +kernel)) (fun _ _ _ _ _ => pg_name (i := 1) sc_Log_choose.nd rfl (Or.inl rfl)) (fun _ _ _ _ _ => aIfN) (fun _ _ _ _ _ => (aTup (aCons (aMeth (c := "Flash") (m := "wear") rfl (T.cls 11) (T.meth 44) (ok_Flash_wear T) takes0 (hr.mono (by decide)) (aFld (c := "Log") (f := "flash") rfl (T.cls 23) (T.noat 24) (aV 0)) (aCons (aV 1) aNil) (len_cons len_nil)) (aCons (aV 1) aNil))))) aNil)) aInt) aInt))) h)
theorem ok_Flash_operate (T : Tx fa fn ts exs w K mg) : Okd P w K mg base ("Flash", some "operate") 1 ["self", "operation"] (spA K 2 m_Flash_operate) :=
  okd (k := 0) T 25 rfl sc_Flash_operate (fun _ _ _ _ _ _ us hl => match us, hl with | [_, _], _ => rfl) (fun vs H Q E h => h.1) (fun f cdv A outer s H vs Q E hr h => aDef (n := 2) (b := b_Flash_operate) rfl (aSCons (aIf (PW.pt (aTAnd (aTVal (aFld (c := "Flash") (f := "power") rfl (T.cls 11) (T.noat 17) (aV 0))) (aTAnd1 (aTCmp up_eq (op_eqM hr.units) (aFld (c := "Flash") (f := "left") rfl (T.cls 11) (T.noat 16) (aV 0)) aInt (nomark _))))) (aSCons (aSetF (c := "Flash") (f := "power") rfl (T.cls 11) (T.noat 17) (aV 0) aBl)
      (aSCons (aSetF (c := "Flash") (f := "broken") rfl (T.cls 11) (T.noat 18) (aV 0) (aV 1))
      (aSOne (aRaise (c := "PowerOff") rfl rfl (takes_of rfl rfl rfl rfl) (T.exc 21) (T.glo 22))))) aSNil)
      (aSCons (aIf (aTNot (aTVal (aFld (c := "Flash") (f := "power") rfl (T.cls 11) (T.noat 17) (aV 0)))) (aSOne (aRaise (c := "PowerOff") rfl rfl (takes_of rfl rfl rfl rfl) (T.exc 21) (T.glo 22))) aSNil)
      (aSOne (aIf (aTCmp up_isnt o_notN (aFld (c := "Flash") (f := "left") rfl (T.cls 11) (T.noat 16) (aV 0)) aNon (nomark _)) (aSOne (aAugF (c := "Flash") (f := "left") up_subI n_sub rfl (T.cls 11) (T.noat 16) (aV 0) aInt)) aSNil)))) h)
theorem ok_Flash_program (T : Tx fa fn ts exs w K mg) : Okd P w K mg base ("Flash", some "program") 4 ["self", "block", "page", "record"] (spA K 4 m_Flash_program) :=
  okd (k := 3) T 26 rfl sc_Flash_program (fun _ _ _ _ _ _ us hl => match us, hl with | [_, _, _, _], _ => rfl) (fun vs H Q E h => h.1) (fun f cdv A outer s H vs Q E hr h => aDef (n := 4) (b := b_Flash_program) rfl (aSCons (aExp (aMeth (c := "Flash") (m := "check_page") rfl (T.cls 11) (T.meth 20) (ok_Flash_check_page T) (takes_of rfl rfl rfl rfl) (hr.mono (by decide)) (aV 0) (aCons (aV 1) (aCons (aV 2) aNil)) (len_cons (len_cons len_nil))))
      (aSCons (aIf (PW.pt (aTOr (aTNot (aTVal (aCallB up_isi (call_isiK K) (by rfl) (T.free 4) (by decide +kernel) (aCons (aV 3) (aCons (aGlob (pe_bltn (v := .ty "tuple") rfl (T.free 35) (by decide +kernel) rfl) fun _ => .ty _) aNil))))) (aTOr1 (aTCmp up_ne (op_neM hr.units) (aCall (ok_next_page T) (takes_of rfl rfl rfl rfl) (hr.mono (by decide)) (T.glo 27) (aCons (aIx (aFld (c := "Flash") (f := "held") rfl (T.cls 11) (T.noat 14) (aV 0)) (aV 1)) aNil) (len_cons len_nil)) (aV 2) (nomark _))))) (aSOne (aRaise (c := "NotValid") rfl rfl (takes_of rfl rfl rfl rfl) (T.exc 9) (T.glo 10))) aSNil)
      (aSCons (aExp (aMeth (c := "Flash") (m := "operate") rfl (T.cls 11) (T.meth 45) (ok_Flash_operate T) (takes_of rfl rfl rfl rfl) (hr.mono (by decide)) (aV 0) (aCons (aTup (aCons (aV 1) (aCons (aV 2) (aCons (aV 3) aNil)))) aNil) (len_cons len_nil)))
      (aSOne (aAsg (aV 3) (aGIx (aIx (aFld (c := "Flash") (f := "held") rfl (T.cls 11) (T.noat 14) (aV 0)) (aV 1)) (aV 2))))))) h)
theorem ok_Log_append (T : Tx fa fn ts exs w K mg) : Okd P w K mg base ("Log", some "append") 6 ["self", "record", "is_copy"] (spA K 3 m_Log_append) :=
  okd (k := 5) T 27 rfl sc_Log_append (fun _ _ _ _ _ _ us hl => match us, hl with | [_, _, _], _ => rfl) (fun vs H Q E h => h.1) (fun f cdv A outer s H vs Q E hr h => aDef (n := 3) (b := b_Log_append) rfl (aSCons (aIf (aTCmp up_eq (op_eqM hr.units) (aMeth (c := "Log") (m := "room") rfl (T.cls 23) (T.meth 46) (ok_Log_room T) (takes_of rfl rfl rfl rfl) (hr.mono (by decide)) (aV 0) (aCons (aV 2) aNil) (len_cons len_nil)) aInt (nomark _)) (aSOne (aRaise (c := "NoRoom") rfl rfl (takes_of rfl rfl rfl rfl) (T.exc 47) (T.glo 48))) aSNil)
      (aSCons (aSet (i := 3) sc_Log_append.nd (aFld (c := "Log") (f := "current") rfl (T.cls 23) (T.noat 30) (aV 0)))
      (aSCons (aIf (aTCmp up_is o_isN (aV 3) aNon (nomark _)) (aSOne (aSet (i := 3) sc_Log_append.nd (aMeth0 (c := "Log") (m := "choose") rfl (T.cls 23) (T.meth 49) (ok_Log_choose T) (takes_of rfl rfl rfl rfl) (hr.mono (by decide)) (aV 0)))) aSNil)
      (aSCons (aSet (i := 4) sc_Log_append.nd (aCall (ok_next_page T) (takes_of rfl rfl rfl rfl) (hr.mono (by decide)) (T.glo 27) (aCons (aIx (aFld (c := "Log") (f := "held") rfl (T.cls 23) (T.noat 25) (aV 0)) (aV 3)) aNil) (len_cons len_nil)))
      (aSCons (aExp (aMeth (c := "Flash") (m := "program") rfl (T.cls 11) (T.meth 50) (ok_Flash_program T) (takes_of rfl rfl rfl rfl) (hr.mono (by decide)) (aFld (c := "Log") (f := "flash") rfl (T.cls 23) (T.noat 24) (aV 0)) (aCons (aV 3) (aCons (aV 4) (aCons (aV 1) aNil))) (len_cons (len_cons (len_cons len_nil)))))
      (aSCons (aAsg (aV 1) (aGIx (aIx (aFld (c := "Log") (f := "held") rfl (T.cls 23) (T.noat 25) (aV 0)) (aV 3)) (aV 4)))
      (aSCons (aSetF (c := "Log") (f := "current") rfl (T.cls 23) (T.noat 30) (aV 0) (aV 3))
      (aSOne (aIf (aTCmp up_eq (op_eqM hr.units) (aOp up_add op_addUK (aV 4) aInt) (aGlob (pe_globI rfl (T.int 13)) fun _ => .int _) (nomark _)) (aSOne (aSetF (c := "Log") (f := "current") rfl (T.cls 23) (T.noat 30) (aV 0) aNon)) aSNil))))))))) h)
theorem ok_Log_closed_blocks (T : Tx fa fn ts exs w K mg) : Okd P w K mg base ("Log", some "closed_blocks") 4 ["self"] (spA K 1 m_Log_closed_blocks) :=
  okd (k := 3) T 28 rfl sc_Log_closed_blocks (fun _ _ _ _ _ _ us hl => match us, hl with | [_], _ => rfl) (fun vs H Q E h => h.1) (fun f cdv A outer s H vs Q E hr h => aDef (n := 1) (b := b_Log_closed_blocks) rfl (aSOne (aRet (aLc true rfl sc_Log_closed_blocks.nd (aItR1 (T.free 1) (aCons (aFld (c := "Flash") (f := "blocks") rfl (T.cls 11) (T.noat 12) (aFld (c := "Log") (f := "flash") rfl (T.cls 23) (T.noat 24) (aV 0))) aNil)) (blkOk_by (own := [("block", 1)]) (N := ["self", "block"]) (sc := defScope s_Log_closed_blocks) (by decide +kernel)) (fun _ _ _ _ _ => pg_name (i := 1) sc_Log_closed_blocks.nd rfl (Or.inl rfl)) (fun _ _ _ _ _ => (aIf1 (aTCmp up_eq (op_eqM hr.units) (aMeth (c := "Log") (m := "state") rfl (T.cls 23) (T.meth 42) (ok_Log_state T) takes0 (hr.mono (by decide)) (aV 0) (aCons (aV 1) aNil) (len_cons len_nil)) aStr (nomark _)))) (fun _ _ _ _ _ => (aV 1))))) h)
theorem ok_Flash_fill (T : Tx fa fn ts exs w K mg) : Okd P w K mg base ("Flash", some "fill") 1 ["self", "block", "content"] (spA K 3 m_Flash_fill) :=
  okd (k := 0) T 29 rfl sc_Flash_fill (fun _ _ _ _ _ _ us hl => match us, hl with | [_, _, _], _ => rfl) (fun vs H Q E h => h.1) (fun f cdv A outer s H vs Q E hr h => aDef (n := 3) (b := b_Flash_fill) rfl (aSCons (aAsg (aRep false (aLst true (aCons (aV 2) aNil)) (aGlob (pe_globI rfl (T.int 13)) fun _ => .int _)) (aGIx (aFld (c := "Flash") (f := "held") rfl (T.cls 11) (T.noat 14) (aV 0)) (aV 1)))
      (aSOne (aAugIx up_addI i_add (aFld (c := "Flash") (f := "wears") rfl (T.cls 11) (T.noat 15) (aV 0)) (aV 1) aInt))) h)
theorem ok_Flash_erase (T : Tx fa fn ts exs w K mg) : Okd P w K mg base ("Flash", some "erase") 3 ["self", "block"] (spA K 2 m_Flash_erase) :=
  okd (k := 2) T 30 rfl sc_Flash_erase (fun _ _ _ _ _ _ us hl => match us, hl with | [_, _], _ => rfl) (fun vs H Q E h => h.1) (fun f cdv A outer s H vs Q E hr h => aDef (n := 2) (b := b_Flash_erase) rfl (aSCons (aExp (aMeth (c := "Flash") (m := "check_block") rfl (T.cls 11) (T.meth 19) (ok_Flash_check_block T) (takes_of rfl rfl rfl rfl) (hr.mono (by decide)) (aV 0) (aCons (aV 1) aNil) (len_cons len_nil)))
      (aSCons (aExp (aMeth (c := "Flash") (m := "operate") rfl (T.cls 11) (T.meth 45) (ok_Flash_operate T) (takes_of rfl rfl rfl rfl) (hr.mono (by decide)) (aV 0) (aCons (aTup (aCons (aV 1) (aCons aNon (aCons aNon aNil)))) aNil) (len_cons len_nil)))
      (aSOne (aExp (aMeth (c := "Flash") (m := "fill") rfl (T.cls 11) (T.meth 51) (ok_Flash_fill T) (takes_of rfl rfl rfl rfl) (hr.mono (by decide)) (aV 0) (aCons (aV 1) (aCons aNon aNil)) (len_cons (len_cons len_nil))))))) h)
theorem ok_Log_erase (T : Tx fa fn ts exs w K mg) : Okd P w K mg base ("Log", some "erase") 5 ["self", "block"] (spA K 2 m_Log_erase) :=
  okd (k := 4) T 31 rfl sc_Log_erase (fun _ _ _ _ _ _ us hl => match us, hl with | [_, _], _ => rfl) (fun vs H Q E h => h.1) (fun f cdv A outer s H vs Q E hr h => aDef (n := 2) (b := b_Log_erase) rfl (aSCons (aIf (aTCmp up_nin (op_ninM hr.units) (aV 1) (aMeth0 (c := "Log") (m := "closed_blocks") rfl (T.cls 23) (T.meth 52) (ok_Log_closed_blocks T) (takes_of rfl rfl rfl rfl) (hr.mono (by decide)) (aV 0)) (by with_unfolding_all rfl)) (aSOne (aRaise (c := "NotValid") rfl rfl (takes_of rfl rfl rfl rfl) (T.exc 9) (T.glo 10))) aSNil)
      (aSCons (aExp (aMeth (c := "Flash") (m := "erase") rfl (T.cls 11) (T.meth 53) (ok_Flash_erase T) (takes_of rfl rfl rfl rfl) (hr.mono (by decide)) (aFld (c := "Log") (f := "flash") rfl (T.cls 23) (T.noat 24) (aV 0)) (aCons (aV 1) aNil) (len_cons len_nil)))
      (aSOne (aAsg (aRep false (aLst true (aCons aNon aNil)) (aGlob (pe_globI rfl (T.int 13)) fun _ => .int _)) (aGIx (aFld (c := "Log") (f := "held") rfl (T.cls 23) (T.noat 25) (aV 0)) (aV 1)))))) h)
theorem ok__law_do (T : Tx fa fn ts exs w K mg) : Okd P w K mg base ("_law_do", none) 7 ["_law_log", "_law_act", "_law_what", "_law_is_copy"] (spA K 4 m__law_do) :=
  okd (k := 6) T 32 rfl sc__law_do (fun _ _ _ _ _ _ us hl => match us, hl with | [_, _, _, _], _ => rfl) (fun vs H Q E h => h.1) (fun f cdv A outer s H vs Q E hr h => aDef (n := 4) (b := b__law_do) rfl (aSCons (aTry (c := "PowerOff") (tb := [("PowerOff", true)]) rfl rfl rfl (T.glo 22) (takes_of rfl rfl rfl rfl) (tb_one (T.exm 56)) (fun W pn xe tk po => (aSOne (aIf (aTCmp up_eq (op_eqM hr.units) (aV 1) aStr (nomark _)) (aSOne (aExp (aMeth (c := "Log") (m := "append") rfl (T.cls 23) (T.meth 54) (ok_Log_append T) tk (hr.mono (by decide)) (aV 0) (aCons (aV 2) (aCons (aV 3) aNil)) (len_cons (len_cons len_nil))))) (aSOne (aExp (aMeth (c := "Log") (m := "erase") rfl (T.cls 23) (T.meth 55) (ok_Log_erase T) tk (hr.mono (by decide)) (aV 0) (aCons (aV 2) aNil) (len_cons len_nil))))))) (fun a oe cls d pn hz hf => (aSOne (aRet aBl))))
      (aSOne (aRet aBl))) h)
theorem ok__law_apply (T : Tx fa fn ts exs w K mg) : Okd P w K mg base ("_law_apply", none) 2 ["_law_held", "_law_wears", "_law_act", "_law_block", "_law_content"] (spA K 5 m__law_apply) :=
  okd (k := 1) T 33 rfl sc__law_apply (fun _ _ _ _ _ _ us hl => match us, hl with | [_, _, _, _, _], _ => rfl) (fun vs H Q E h => h.1) (fun f cdv A outer s H vs Q E hr h => aDef (n := 5) (b := b__law_apply) rfl (aSOne (aIf (aTCmp up_eq (op_eqM hr.units) (aV 2) aStr (nomark _)) (aSOne (aAsg (aV 4) (aGIx (aIx (aV 0) (aV 3)) (aCall (ok__law_used T) (takes_of rfl rfl rfl rfl) (hr.mono (by decide)) (T.glo 32) (aCons (aIx (aV 0) (aV 3)) aNil) (len_cons len_nil))))) (aSCons (aAsg (aRep false (aLst true (aCons (aV 4) aNil)) aInt) (aGIx (aV 0) (aV 3)))
      (aSOne (aAsg (aOp up_add op_addUK (aIx (aV 1) (aV 3)) aInt) (aGIx (aV 1) (aV 3))))))) h)
theorem ok_Flash_cut (T : Tx fa fn ts exs w K mg) : Okd P w K mg base ("Flash", some "cut") 2 ["self", "choice"] (spA K 2 m_Flash_cut) :=
  okd (k := 1) T 34 rfl sc_Flash_cut (fun _ _ _ _ _ _ us hl => match us, hl with | [_, _], _ => rfl) (fun vs H Q E h => h.1) (fun f cdv A outer s H vs Q E hr h => aDef (n := 2) (b := b_Flash_cut) rfl (aSCons (aIf (aTNot (aTVal (aCall (ok_is_between T) (takes_of rfl rfl rfl rfl) (hr.mono (by decide)) (T.glo 8) (aCons (aV 1) (aCons aInt (aCons aInt aNil))) (len_cons (len_cons (len_cons len_nil)))))) (aSOne (aRaise (c := "NotValid") rfl rfl (takes_of rfl rfl rfl rfl) (T.exc 9) (T.glo 10))) aSNil)
      (aSCons (aIf (PW.pt (aTAnd (aTCmp up_isnt o_notN (aFld (c := "Flash") (f := "broken") rfl (T.cls 11) (T.noat 18) (aV 0)) aNon (nomark _)) (aTAnd1 (aTCmp up_gt L2.op_gt (aV 1) aInt (nomark _))))) (aSCons (aAsg (aFld (c := "Flash") (f := "broken") rfl (T.cls 11) (T.noat 18) (aV 0)) (aGT (n := 3) rfl (aGsC (aGN (i := 2) sc_Flash_cut.nd) (aGsC (aGN (i := 3) sc_Flash_cut.nd) (aGsC (aGN (i := 4) sc_Flash_cut.nd) aGsN)))))
      (aSCons (aSet (i := 5) sc_Flash_cut.nd (aIx (aLst true (aCons aNon (aCons (aV 4) (aCons (aGlob (pe_globS rfl (T.str 57)) fun _ => .str _) aNil)))) (aV 1)))
      (aSOne (aIf (aTCmp up_is o_isN (aV 3) aNon (nomark _)) (aSOne (aExp (aMeth (c := "Flash") (m := "fill") rfl (T.cls 11) (T.meth 51) (ok_Flash_fill T) (takes_of rfl rfl rfl rfl) (hr.mono (by decide)) (aV 0) (aCons (aV 2) (aCons (aV 5) aNil)) (len_cons (len_cons len_nil))))) (aSOne (aAsg (aV 5) (aGIx (aIx (aFld (c := "Flash") (f := "held") rfl (T.cls 11) (T.noat 14) (aV 0)) (aV 2)) (aV 3)))))))) aSNil)
      (aSCons (aSetF (c := "Flash") (f := "broken") rfl (T.cls 11) (T.noat 18) (aV 0) aNon)
      (aSCons (aSetF (c := "Flash") (f := "left") rfl (T.cls 11) (T.noat 16) (aV 0) aNon)
      (aSOne (aSetF (c := "Flash") (f := "power") rfl (T.cls 11) (T.noat 17) (aV 0) aBl)))))) h)
theorem ok_Log_pages (T : Tx fa fn ts exs w K mg) : Okd P w K mg base ("Log", some "pages") 3 ["self", "block"] (spA K 2 m_Log_pages) :=
  okd (k := 2) T 35 rfl sc_Log_pages (fun _ _ _ _ _ _ us hl => match us, hl with | [_, _], _ => rfl) (fun vs H Q E h => h.1) (fun f cdv A outer s H vs Q E hr h => aDef (n := 2) (b := b_Log_pages) rfl (aSCons (aExp (aMeth (c := "Log") (m := "check_block") rfl (T.cls 23) (T.meth 41) (ok_Log_check_block T) (takes_of rfl rfl rfl rfl) (hr.mono (by decide)) (aV 0) (aCons (aV 1) aNil) (len_cons len_nil)))
      (aSOne (aRet (aCallTy (up_list false) (c_listK K) (by rfl) (T.free 58) (by decide +kernel) (aCons (aIx (aFld (c := "Log") (f := "held") rfl (T.cls 23) (T.noat 25) (aV 0)) (aV 1)) aNil))))) h)
theorem ok__law_same (T : Tx fa fn ts exs w K mg) : Okd P w K mg base ("_law_same", none) 6 ["_law_log", "_law_held"] (spA K 2 m__law_same) :=
  okd (k := 5) T 36 rfl sc__law_same (fun _ _ _ _ _ _ us hl => match us, hl with | [_, _], _ => rfl) (fun vs H Q E h => h.1) (fun f cdv A outer s H vs Q E hr h => aDef (n := 2) (b := b__law_same) rfl (aSCons (aFor (passes_of rfl) rfl (aItR1 (T.free 1) (aCons (aCallB up_len c_lenU (by rfl) (T.free 0) (by decide +kernel) (aCons (aV 1) aNil)) aNil)) (aGN (i := 2) sc__law_same.nd) (aSOne (aIf (PW.pt (aTOr (aTCmp up_ne (op_neM hr.units) (aMeth (c := "Log") (m := "state") rfl (T.cls 23) (T.meth 42) (ok_Log_state T) (takes_of rfl rfl rfl rfl) (hr.mono (by decide)) (aV 0) (aCons (aV 2) aNil) (len_cons len_nil)) (aCall (ok__law_state T) (takes_of rfl rfl rfl rfl) (hr.mono (by decide)) (T.glo 33) (aCons (aV 1) (aCons (aV 2) aNil)) (len_cons (len_cons len_nil))) (nomark _)) (aTOr1 (aTCmp up_ne (op_neM hr.units) (aMeth (c := "Log") (m := "pages") rfl (T.cls 23) (T.meth 59) (ok_Log_pages T) (takes_of rfl rfl rfl rfl) (hr.mono (by decide)) (aV 0) (aCons (aV 2) aNil) (len_cons len_nil)) (aIx (aV 1) (aV 2)) (nomark _))))) (aSOne (aRet aBl)) aSNil)))
      (aSCons (aIf (aTCmp up_ne (op_neM hr.units) (aMeth0 (c := "Log") (m := "free_blocks") rfl (T.cls 23) (T.meth 43) (ok_Log_free_blocks T) (takes_of rfl rfl rfl rfl) (hr.mono (by decide)) (aV 0)) (aLc true rfl sc__law_same.nd (aItR1 (T.free 1) (aCons (aCallB up_len c_lenU (by rfl) (T.free 0) (by decide +kernel) (aCons (aV 1) aNil)) aNil)) (blkOk_by (own := [("_law_block", 2)]) (N := ["_law_log", "_law_held", "_law_block"]) (sc := defScope s__law_same) (by decide +kernel)) (fun _ _ _ _ _ => pg_name (i := 2) sc__law_same.nd rfl (Or.inl rfl)) (fun _ _ _ _ _ => (aIf1 (aTCmp up_eq (op_eqM hr.units) (aCall (ok__law_state T) takes0 (hr.mono (by decide)) (T.glo 33) (aCons (aV 1) (aCons (aV 2) aNil)) (len_cons (len_cons len_nil))) aStr (nomark _)))) (fun _ _ _ _ _ => (aV 2))) (nomark _)) (aSOne (aRet aBl)) aSNil)
      (aSCons (aIf (aTCmp up_ne (op_neM hr.units) (aMeth0 (c := "Log") (m := "closed_blocks") rfl (T.cls 23) (T.meth 52) (ok_Log_closed_blocks T) (takes_of rfl rfl rfl rfl) (hr.mono (by decide)) (aV 0)) (aLc true rfl sc__law_same.nd (aItR1 (T.free 1) (aCons (aCallB up_len c_lenU (by rfl) (T.free 0) (by decide +kernel) (aCons (aV 1) aNil)) aNil)) (blkOk_by (own := [("_law_block", 2)]) (N := ["_law_log", "_law_held", "_law_block"]) (sc := defScope s__law_same) (by decide +kernel)) (fun _ _ _ _ _ => pg_name (i := 2) sc__law_same.nd rfl (Or.inl rfl)) (fun _ _ _ _ _ => (aIf1 (aTCmp up_eq (op_eqM hr.units) (aCall (ok__law_state T) takes0 (hr.mono (by decide)) (T.glo 33) (aCons (aV 1) (aCons (aV 2) aNil)) (len_cons (len_cons len_nil))) aStr (nomark _)))) (fun _ _ _ _ _ => (aV 2))) (nomark _)) (aSOne (aRet aBl)) aSNil)
      (aSOne (aRet (aAnd (aCmp up_eq (op_eqM hr.units) (aMeth (c := "Log") (m := "room") rfl (T.cls 23) (T.meth 46) (ok_Log_room T) (takes_of rfl rfl rfl rfl) (hr.mono (by decide)) (aV 0) (aCons aBl aNil) (len_cons len_nil)) (aCall (ok__law_room T) (takes_of rfl rfl rfl rfl) (hr.mono (by decide)) (T.glo 38) (aCons (aV 1) (aCons aBl aNil)) (len_cons (len_cons len_nil))) (nomark _)) (aOne (aCmp up_eq (op_eqM hr.units) (aMeth (c := "Log") (m := "room") rfl (T.cls 23) (T.meth 46) (ok_Log_room T) (takes_of rfl rfl rfl rfl) (hr.mono (by decide)) (aV 0) (aCons aBl aNil) (len_cons len_nil)) (aCall (ok__law_room T) (takes_of rfl rfl rfl rfl) (hr.mono (by decide)) (T.glo 38) (aCons (aV 1) (aCons aBl aNil)) (len_cons (len_cons len_nil))) (nomark _))))))))) h)
theorem ok__law_orders (T : Tx fa fn ts exs w K mg) : Okd P w K mg base ("_law_orders", none) 2 ["_law_held"] (spA K 1 m__law_orders) :=
  okd (k := 1) T 37 rfl sc__law_orders (fun _ _ _ _ _ _ us hl => match us, hl with | [_], _ => rfl) (fun vs H Q E h => h.1) (fun f cdv A outer s H vs Q E hr h => aDef (n := 1) (b := b__law_orders) rfl (aSOne (aRet (aLc true rfl sc__law_orders.nd (aItL (aCall (ok__law_found T) (takes_of rfl rfl rfl rfl) (hr.mono (by decide)) (T.glo 39) (aCons (aV 0) aNil) (len_cons len_nil))) (blkOk_by (own := [("_law_record_here", 1)]) (N := ["_law_held", "_law_record_here"]) (sc := defScope s__law_orders) (by decide +kernel)) (fun _ _ _ _ _ => pg_name (i := 1) sc__law_orders.nd rfl (Or.inl rfl)) (fun _ _ _ _ _ => aIfN) (fun _ _ _ _ _ => (aIx (aV 1) aInt))))) h)
theorem ok_Flash_image (T : Tx fa fn ts exs w K mg) : Okd P w K mg base ("Flash", some "image") 1 ["self"] (spA K 1 m_Flash_image) :=
  okd (k := 0) T 38 rfl sc_Flash_image (fun _ _ _ _ _ _ us hl => match us, hl with | [_], _ => rfl) (fun vs H Q E h => h.1) (fun f cdv A outer s H vs Q E hr h => aDef (n := 1) (b := b_Flash_image) rfl (aSOne (aRet (aLc true rfl sc_Flash_image.nd (aItR1 (T.free 1) (aCons (aFld (c := "Flash") (f := "blocks") rfl (T.cls 11) (T.noat 12) (aV 0)) aNil)) (blkOk_by (own := [("block", 1)]) (N := ["self", "block"]) (sc := defScope s_Flash_image) (by decide +kernel)) (fun _ _ _ _ _ => pg_name (i := 1) sc_Flash_image.nd rfl (Or.inl rfl)) (fun _ _ _ _ _ => aIfN) (fun _ _ _ _ _ => (aTup (aCons (aIx (aFld (c := "Flash") (f := "wears") rfl (T.cls 11) (T.noat 15) (aV 0)) (aV 1)) (aCons (aCallTy (up_list true) (c_listK K) (by rfl) (T.free 58) (by decide +kernel) (aCons (aIx (aFld (c := "Flash") (f := "held") rfl (T.cls 11) (T.noat 14) (aV 0)) (aV 1)) aNil)) aNil))))))) h)
theorem ok_Log_records (T : Tx fa fn ts exs w K mg) : Okd P w K mg base ("Log", some "records") 1 ["self"] (spA K 1 m_Log_records) :=
  okd (k := 0) T 39 rfl sc_Log_records (fun _ _ _ _ _ _ us hl => match us, hl with | [_], _ => rfl) (fun vs H Q E h => h.1) (fun f cdv A outer s H vs Q E hr h => aDef (n := 1) (b := b_Log_records) rfl (aSCons (aSet (i := 1) sc_Log_records.nd (aNewK false))
      (aSCons (aFor (passes_of rfl) rfl (aItL (aFld (c := "Log") (f := "held") rfl (T.cls 23) (T.noat 25) (aV 0))) (aGN (i := 2) sc_Log_records.nd) (aSOne (aFor (passes_of rfl) rfl (aItL (aV 2)) (aGN (i := 3) sc_Log_records.nd) (aSOne (aIf (PW.pt (aTAnd (aTCmp up_isnt o_notN (aV 3) aNon (nomark _)) (aTAnd1 (aTCmp up_ne (op_neM hr.units) (aV 3) (aGlob (pe_globS rfl (T.str 57)) fun _ => .str _) (nomark _))))) (aSOne (aDPut hr.un1 (aV 1) (aIx (aV 3) aInt) (aV 3))) aSNil)))))
      (aSOne (aRet (aLc true rfl sc_Log_records.nd (aItL (aCallB (up_sortD true) (cr_sortedDI K) (by rfl) (T.free 36) (by decide +kernel) (aCons (aV 1) aNil))) (blkOk_by (own := [("order", 4)]) (N := ["self", "found", "pages", "page", "order"]) (sc := defScope s_Log_records) (by decide +kernel)) (fun _ _ _ _ _ => pg_name (i := 4) sc_Log_records.nd rfl (Or.inl rfl)) (fun _ _ _ _ _ => aIfN) (fun _ _ _ _ _ => (aDGet hr.un1 (aV 1) (aV 4)))))))) h)
theorem ok_Log_holders (T : Tx fa fn ts exs w K mg) : Okd P w K mg base ("Log", some "holders") 1 ["self", "record"] (spA K 2 m_Log_holders) :=
  okd (k := 0) T 40 rfl sc_Log_holders (fun _ _ _ _ _ _ us hl => match us, hl with | [_, _], _ => rfl) (fun vs H Q E h => h.1) (fun f cdv A outer s H vs Q E hr h => aDef (n := 2) (b := b_Log_holders) rfl (aSOne (aRet (aLc true rfl sc_Log_holders.nd (aItR1 (T.free 1) (aCons (aFld (c := "Flash") (f := "blocks") rfl (T.cls 11) (T.noat 12) (aFld (c := "Log") (f := "flash") rfl (T.cls 23) (T.noat 24) (aV 0))) aNil)) (blkOk_by (own := [("block", 2)]) (N := ["self", "record", "block"]) (sc := defScope s_Log_holders) (by decide +kernel)) (fun _ _ _ _ _ => pg_name (i := 2) sc_Log_holders.nd rfl (Or.inl rfl)) (fun _ _ _ _ _ => (aIf1 (aTCmp up_in (op_inM hr.units) (aV 1) (aIx (aFld (c := "Log") (f := "held") rfl (T.cls 23) (T.noat 25) (aV 0)) (aV 2)) (by with_unfolding_all rfl)))) (fun _ _ _ _ _ => (aV 2))))) h)
theorem ok_Log_top (T : Tx fa fn ts exs w K mg) : Okd P w K mg base ("Log", some "top") 2 ["self"] (spA K 1 m_Log_top) :=
  okd (k := 1) T 41 rfl sc_Log_top (fun _ _ _ _ _ _ us hl => match us, hl with | [_], _ => rfl) (fun vs H Q E h => h.1) (fun f cdv A outer s H vs Q E hr h => aDef (n := 1) (b := b_Log_top) rfl (aSCons (aSetLc true rfl sc_Log_top.nd (aItL (aMeth0 (c := "Log") (m := "records") rfl (T.cls 23) (T.meth 60) (ok_Log_records T) (takes_of rfl rfl rfl rfl) (hr.mono (by decide)) (aV 0))) (blkOk_by (own := [("record", 2)]) (N := ["self", "orders", "record"]) (sc := defScope s_Log_top) (by decide +kernel)) (fun _ _ _ _ _ => pg_name (i := 2) sc_Log_top.nd rfl (Or.inl rfl)) (fun _ _ _ _ _ => aIfN) (fun _ _ _ _ _ => (aIx (aV 2) aInt)) (sw_true rfl rfl rfl (by decide +kernel)))
      (aSOne (aRet (aMaxD 0 hr.units (T.free 61) (aV 1))))) h)
theorem ok__law_reads (T : Tx fa fn ts exs w K mg) : Okd P w K mg base ("_law_reads", none) 3 ["_law_log", "_law_held"] (spA K 2 m__law_reads) :=
  okd (k := 2) T 42 rfl sc__law_reads (fun _ _ _ _ _ _ us hl => match us, hl with | [_, _], _ => rfl) (fun vs H Q E h => h.1) (fun f cdv A outer s H vs Q E hr h => aDef (n := 2) (b := b__law_reads) rfl (aSCons (aSet (i := 2) sc__law_reads.nd (aCall (ok__law_found T) (takes_of rfl rfl rfl rfl) (hr.mono (by decide)) (T.glo 39) (aCons (aV 1) aNil) (len_cons len_nil)))
      (aSCons (aSet (i := 3) sc__law_reads.nd (aMeth0 (c := "Log") (m := "records") rfl (T.cls 23) (T.meth 60) (ok_Log_records T) (takes_of rfl rfl rfl rfl) (hr.mono (by decide)) (aV 0)))
      (aSCons (aIf (PW.pt (aTOr (aTNot (aTVal (aCallB up_isi (call_isiK K) (by rfl) (T.free 4) (by decide +kernel) (aCons (aV 3) (aCons (aGlob (pe_bltn (v := .ty "list") rfl (T.free 58) (by decide +kernel) rfl) fun _ => .ty _) aNil))))) (aTOr1 (aTCmp up_ne (op_neM hr.units) (aV 3) (aV 2) (nomark _))))) (aSOne (aRet aBl)) aSNil)
      (aSCons (aSet (i := 4) sc__law_reads.nd aInt)
      (aSCons (aFor (passes_of rfl) rfl (aItL (aV 2)) (aGN (i := 5) sc__law_reads.nd) (aSCons (aSet (i := 4) sc__law_reads.nd (aCallB up_max2 (c_max2 rfl) (by rfl) (T.free 61) (by decide +kernel) (aCons (aV 4) (aCons (aIx (aV 5) aInt) aNil))))
      (aSOne (aIf (aTCmp up_ne (op_neM hr.units) (aMeth (c := "Log") (m := "holders") rfl (T.cls 23) (T.meth 62) (ok_Log_holders T) (takes_of rfl rfl rfl rfl) (hr.mono (by decide)) (aV 0) (aCons (aV 5) aNil) (len_cons len_nil)) (aLc true rfl sc__law_reads.nd (aItR1 (T.free 1) (aCons (aCallB up_len c_lenU (by rfl) (T.free 0) (by decide +kernel) (aCons (aV 1) aNil)) aNil)) (blkOk_by (own := [("_law_block", 6)]) (N := ["_law_log", "_law_held", "_law_found_here", "_law_told", "_law_top", "_law_record_here", "_law_block"]) (sc := defScope s__law_reads) (by decide +kernel)) (fun _ _ _ _ _ => pg_name (i := 6) sc__law_reads.nd rfl (Or.inl rfl)) (fun _ _ _ _ _ => (aIf1 (aTCmp up_in (op_inM hr.units) (aV 5) (aIx (aV 1) (aV 6)) (by with_unfolding_all rfl)))) (fun _ _ _ _ _ => (aV 6))) (nomark _)) (aSOne (aRet aBl)) aSNil))))
      (aSOne (aRet (aCmp up_eq (op_eqM hr.units) (aMeth0 (c := "Log") (m := "top") rfl (T.cls 23) (T.meth 63) (ok_Log_top T) (takes_of rfl rfl rfl rfl) (hr.mono (by decide)) (aV 0)) (aV 4) (nomark _))))))))) h)
theorem ok_law (T : Tx fa fn ts exs w K mg) {fd : FuncData} (F : FunD K "law" "law" (defArgs s_law) (defBody s_law) (defScope s_law) [] [] (He.ga K "law") fd) (ht : ∀ ns : List Int, ns.length ≤ 63 → ∃ S, m_law [.scr (ns.map .int)] [] = .ok (.bl true) S) : FnOk P w K mg base (L2.CX P w) 8 (He.ga K "law") fd ["_law_script"] (sp_law K) :=
  FunD.ok (k := 7) F sc_law (fun vs H Q E h => by obtain ⟨a, ns, rfl, _⟩ := h; rfl) (fun cdv A outer s H vs Q E hr h => aDef (n := 1) (b := b_law) rfl (aSCons (aSet (i := 1) sc_law.nd (aCall (ok__law_tape T) (takes_of rfl rfl rfl rfl) (hr.mono (by decide)) (T.glo 64) (aCons (aV 0) aNil) (len_cons len_nil)))
      (aSCons (aSet (i := 2) sc_law.nd (aMake (c := "Flash") rfl (T.mkr 65) (ok_Flash___init__ T) (takes_of rfl rfl rfl rfl) (hr.mono (by decide)) (T.glo 66) (aCons aInt aNil) (len_cons len_nil)))
      (aSCons (aSet (i := 3) sc_law.nd (aMake (c := "Log") rfl (T.mkr 67) (ok_Log___init__ T) (takes_of rfl rfl rfl rfl) (hr.mono (by decide)) (T.glo 68) (aCons (aV 2) aNil) (len_cons len_nil)))
      (aSCons (aSetLc false rfl sc_law.nd (aItR1 (T.free 1) (aCons aInt aNil)) (blkOk_by (own := [("_law_block", 4)]) (N := ["_law_script", "_law_tape_here", "_law_flash", "_law_log", "_law_block", "_law_held", "_law_wears", "_law_order", "_law_left", "_law_fuses", "_law_k", "_law_number", "_law_pick", "_law_chosen", "_law_act", "_law_what", "_law_is_copy", "_law_content", "_law_done", "_law_choice", "_law_n", "_law_row"]) (sc := defScope s_law) (by decide +kernel)) (fun _ _ _ _ _ => pg_name (i := 4) sc_law.nd rfl (Or.inl rfl)) (fun _ _ _ _ _ => aIfN) (fun _ _ _ _ _ => (aRep false (aLst true (aCons aNon aNil)) aInt)) (sw_true rfl rfl rfl (by decide +kernel)))
      (aSCons (aSet (i := 6) sc_law.nd (aRep false (aLst true (aCons aInt aNil)) aInt))
      (aSCons (aSet (i := 7) sc_law.nd aInt)
      (aSCons (aSet (i := 8) sc_law.nd aNon)
      (aSCons (aSet (i := 9) sc_law.nd aInt)
      (aSCons (aFor (passes_of rfl) rfl (aItR1 (T.free 1) (aCons (aCallB up_min2 (c_min2 rfl) (by rfl) (T.free 69) (by decide +kernel) (aCons aInt (aCons (aCallB up_max2 (c_max2 rfl) (by rfl) (T.free 61) (by decide +kernel) (aCons aInt (aCons (aOp up_sub L2.op_sub (aCallB up_len c_lenU (by rfl) (T.free 0) (by decide +kernel) (aCons (aV 1) aNil)) aInt) aNil))) aNil))) aNil)) (aGN (i := 10) sc_law.nd) (aSCons (aSet (i := 11) sc_law.nd (aCall (ok__law_at T) (takes_of rfl rfl rfl rfl) (hr.mono (by decide)) (T.glo 70) (aCons (aV 1) (aCons (aV 10) aNil)) (len_cons (len_cons len_nil))))
      (aSCons (aSet (i := 12) sc_law.nd (aCall (ok__law_at T) (takes_of rfl rfl rfl rfl) (hr.mono (by decide)) (T.glo 70) (aCons (aV 1) (aCons (aOp up_add op_addUK (aV 10) aInt) aNil)) (len_cons (len_cons len_nil))))
      (aSCons (aIf (PW.pt (aTAnd (aTCmp up_is o_isN (aV 8) aNon (nomark _)) (aTAnd (aTCmp up_lt L2.op_lt (aV 9) aInt (nomark _)) (aTAnd1 (aTCmp up_eq (op_eqM hr.units) (aOp up_mod L2.op_mod (aV 11) aInt) aInt (nomark _)))))) (aSCons (aSet (i := 8) sc_law.nd (aOp up_mod L2.op_mod (aV 12) aInt))
      (aSCons (aSet (i := 9) sc_law.nd (aOp up_add op_addUK (aV 9) aInt))
      (aSOne (aExp (aMeth (c := "Flash") (m := "fail_after") rfl (T.cls 11) (T.meth 71) (ok_Flash_fail_after T) (takes_of rfl rfl rfl rfl) (hr.mono (by decide)) (aV 2) (aCons (aV 8) aNil) (len_cons len_nil)))))) aSNil)
      (aSCons (aSet (i := 13) sc_law.nd (aCall (ok__law_choose T) (takes_of rfl rfl rfl rfl) (hr.mono (by decide)) (T.glo 72) (aCons (aV 5) (aCons (aOp up_div L2.op_fdiv (aV 11) aInt) (aCons (aV 12) (aCons (aV 7) aNil)))) (len_cons (len_cons (len_cons (len_cons len_nil))))))
      (aSCons (aIf (aTCmp up_isnt o_notN (aV 13) aNon (nomark _)) (aSCons (aAsg (aV 13) (aGT (n := 3) rfl (aGsC (aGN (i := 14) sc_law.nd) (aGsC (aGN (i := 15) sc_law.nd) (aGsC (aGN (i := 16) sc_law.nd) aGsN)))))
      (aSCons (aSet (i := 4) sc_law.nd (aV 15))
      (aSCons (aSet (i := 17) sc_law.nd aNon)
      (aSCons (aIf (aTCmp up_eq (op_eqM hr.units) (aV 14) aStr (nomark _)) (aSCons (aSet (i := 4) sc_law.nd (aCall (ok__law_target T) (takes_of rfl rfl rfl rfl) (hr.mono (by decide)) (T.glo 73) (aCons (aV 5) (aCons (aV 6) aNil)) (len_cons (len_cons len_nil))))
      (aSOne (aSet (i := 17) sc_law.nd (aV 15)))) aSNil)
      (aSCons (aSet (i := 18) sc_law.nd (aCall (ok__law_do T) (takes_of rfl rfl rfl rfl) (hr.mono (by decide)) (T.glo 74) (aCons (aV 3) (aCons (aV 14) (aCons (aV 15) (aCons (aV 16) aNil)))) (len_cons (len_cons (len_cons (len_cons len_nil))))))
      (aSCons (aIf (aTCmp up_ne (op_neM hr.units) (aV 18) (aOr (aCmp up_is o_isN (aV 8) aNon (nomark _)) (aOne (aCmp up_gt L2.op_gt (aV 8) aInt (nomark _)))) (nomark _)) (aSOne (aRet aBl)) aSNil)
      (aSCons (aIf (aTru (aV 18)) (aSCons (aExp (aCall (ok__law_apply T) (takes_of rfl rfl rfl rfl) (hr.mono (by decide)) (T.glo 75) (aCons (aV 5) (aCons (aV 6) (aCons (aV 14) (aCons (aV 4) (aCons (aV 17) aNil))))) (len_cons (len_cons (len_cons (len_cons (len_cons len_nil)))))))
      (aSOne (aIf (aTCmp up_isnt o_notN (aV 8) aNon (nomark _)) (aSOne (aSet (i := 8) sc_law.nd (aOp up_sub L2.op_sub (aV 8) aInt))) aSNil))) (aSCons (aSet (i := 19) sc_law.nd (aOp up_mod L2.op_mod (aV 12) aInt))
      (aSCons (aIf (aTCmp up_gt L2.op_gt (aV 19) aInt (nomark _)) (aSOne (aExp (aCall (ok__law_apply T) (takes_of rfl rfl rfl rfl) (hr.mono (by decide)) (T.glo 75) (aCons (aV 5) (aCons (aV 6) (aCons (aV 14) (aCons (aV 4) (aCons (aIx (aLst true (aCons (aV 17) (aCons aStr aNil))) (aOp up_sub L2.op_sub (aV 19) aInt)) aNil))))) (len_cons (len_cons (len_cons (len_cons (len_cons len_nil)))))))) aSNil)
      (aSCons (aExp (aMeth (c := "Flash") (m := "cut") rfl (T.cls 11) (T.meth 76) (ok_Flash_cut T) (takes_of rfl rfl rfl rfl) (hr.mono (by decide)) (aV 2) (aCons (aV 19) aNil) (len_cons len_nil)))
      (aSCons (aSet (i := 8) sc_law.nd aNon)
      (aSOne (aSet (i := 3) sc_law.nd (aMake (c := "Log") rfl (T.mkr 67) (ok_Log___init__ T) (takes_of rfl rfl rfl rfl) (hr.mono (by decide)) (T.glo 68) (aCons (aV 2) aNil) (len_cons len_nil)))))))))
      (aSOne (aIf (PW.pt (aTAnd (aTCmp up_eq (op_eqM hr.units) (aV 14) aStr (nomark _)) (aTAnd (aTNot (aTru (aV 16))) (aTAnd1 (PW.pt (aTOr (aTru (aV 18)) (aTOr1 (aTCmp up_eq (op_eqM hr.units) (aOp up_mod L2.op_mod (aV 12) aInt) aInt (nomark _))))))))) (aSOne (aSet (i := 7) sc_law.nd (aOp up_add op_addUK (aV 7) aInt))) aSNil))))))))) aSNil)
      (aSCons (aIf (aTNot (aTVal (aCall (ok__law_same T) (takes_of rfl rfl rfl rfl) (hr.mono (by decide)) (T.glo 77) (aCons (aV 3) (aCons (aV 5) aNil)) (len_cons (len_cons len_nil))))) (aSOne (aRet aBl)) aSNil)
      (aSOne (aIf (aTCmp up_ne (op_neM hr.units) (aCall (ok__law_orders T) (takes_of rfl rfl rfl rfl) (hr.mono (by decide)) (T.glo 78) (aCons (aV 5) aNil) (len_cons len_nil)) (aLc true rfl sc_law.nd (aItR1 (T.free 1) (aCons (aV 7) aNil)) (blkOk_by (own := [("_law_n", 20)]) (N := ["_law_script", "_law_tape_here", "_law_flash", "_law_log", "_law_block", "_law_held", "_law_wears", "_law_order", "_law_left", "_law_fuses", "_law_k", "_law_number", "_law_pick", "_law_chosen", "_law_act", "_law_what", "_law_is_copy", "_law_content", "_law_done", "_law_choice", "_law_n", "_law_row"]) (sc := defScope s_law) (by decide +kernel)) (fun _ _ _ _ _ => pg_name (i := 20) sc_law.nd rfl (Or.inl rfl)) (fun _ _ _ _ _ => aIfN) (fun _ _ _ _ _ => (aOp up_add op_addUK aInt (aV 20)))) (nomark _)) (aSOne (aRet aBl)) aSNil)))))))))
      (aSOne (aRet (aAnd (aCall (ok__law_reads T) (takes_of rfl rfl rfl rfl) (hr.mono (by decide)) (T.glo 80) (aCons (aV 3) (aCons (aV 5) aNil)) (len_cons (len_cons len_nil))) (aOne (aCmp up_eq (op_eqM hr.units) (aLc true rfl sc_law.nd (aItL (aMeth0 (c := "Flash") (m := "image") rfl (T.cls 11) (T.meth 79) (ok_Flash_image T) (takes_of rfl rfl rfl rfl) (hr.mono (by decide)) (aV 2))) (blkOk_by (own := [("_law_row", 21)]) (N := ["_law_script", "_law_tape_here", "_law_flash", "_law_log", "_law_block", "_law_held", "_law_wears", "_law_order", "_law_left", "_law_fuses", "_law_k", "_law_number", "_law_pick", "_law_chosen", "_law_act", "_law_what", "_law_is_copy", "_law_content", "_law_done", "_law_choice", "_law_n", "_law_row"]) (sc := defScope s_law) (by decide +kernel)) (fun _ _ _ _ _ => pg_name (i := 21) sc_law.nd rfl (Or.inl rfl)) (fun _ _ _ _ _ => aIfN) (fun _ _ _ _ _ => (aIx (aV 21) aInt))) (aV 5) (nomark _))))))))))))))) (law_in ht h))
end
local macro_rules | `(tactic| walk_at "ev") => `(tactic| simp only [e_bok, e_bexc, e_bbad, e_sok, e_sexc, e_sbad, e_qnx, e_qrt, e_qbr, e_qct, e_qexc, e_qbad, e_onx, e_oexc, e_nok, e_seq, e_pass, e_brk, e_cnt, e_exp, e_expK, e_ret, e_retK, e_retN, e_if, e_ifK, e_set, e_setK, e_asg, e_asgK, e_raise, e_gN, e_gsN, e_gsC, e_gT, e_gTk, e_m1, e_m2, e_m2K, e_mN, e_nil, e_cons, e_consK, e_consL, e_C, e_V, e_vget, e_B, e_opB, e_Tru, e_TAnd, e_taK, e_TOr, e_toK, e_TNot, e_tnK, e_And, e_Or, e_Not, e_andK, e_orK, e_notK, e_IfE, e_ifeK, e_Chain, e_ch1, e_ch2, e_ch3, e_Call, e_oget, e_Fld, e_fldK, e_Meth, e_mtK, e_mtL, e_ometh, e_Make, e_mkK, e_mkN, e_isNon, e_sget, e_gIx, e_gi1, e_gi2, e_SetF, e_sf1, e_sf2, e_DPut, e_dp1, e_dp2, e_dp3, e_pget, e_pgetS, e_AugF, e_af1, e_afP, e_af2, e_af3, e_AugIx, e_ai1, e_ai2, e_ai3, e_ai4, e_ai5, e_Aug, e_augK, e_au1, e_au2, e_ML, e_mlK, e_Get1, e_gg1, e_gg2, e_ggD, e_Get2, e_gh1, e_gh2, e_gh3, e_NewD, e_mkDt, e_mkDf, e_mkLt, e_mkLf, e_Frz, e_NoP, e_Part, e_partK, e_Sl, e_sl1, e_sl2, e_opSlT, e_opSlL, e_For, e_forK, e_Lc, e_lcK, e_Yes, e_itT, e_itL, e_itR1, e_itR2, e_itTKt, e_itTKk, e_itLKl, e_itLKs, e_itR1K, e_itR2K, e_add, e_addT, e_addL, e_addI, e_sub, e_mod, e_div, e_mul, e_pow, e_mulL, e_rep, e_repK, e_neg, e_lt, e_le, e_gt, e_ge, e_abs, e_int, e_intB, e_min2, e_max2, e_tup, e_lst, e_lenK0, e_len, e_lenT, e_lenL, e_lenS, e_lenK, e_lenD, e_mkLK, e_list, e_seqT, e_seqL, e_seqS, e_seqK, e_lkL, e_lkS, e_lkP, e_tupleT, e_tupleL, e_srtK, e_sortI, e_anyK, e_allK, e_sumK, e_any, e_all, e_sum, e_atK, e_okK, e_ix, e_ixL, e_is, e_isnt, e_isB, e_isntB, e_non_int, e_non_str, e_non_bl, e_non_tup, e_non_tupk, e_non_lst, e_non_dct, e_non_ref, e_isiK, e_isi, e_ty_non, e_ty_int, e_ty_str, e_ty_bl, e_ty_tup, e_ty_tupk, e_ty_lst, e_ty_scr, e_ty_dct, e_tru_non, e_tru_bl, e_tru_int, e_tru_tup, e_tru_lst, e_dgK, e_dget, e_diK, e_dnK, e_din, e_dnin, e_dOf, e_keyI, e_keyS, e_keyT, e_seqR, e_lkR, e_lkPR, e_lstO, e_isLR, e_isLO, e_dOfR, e_dctO, e_lckO, e_lenR, e_lenOl, e_lenOd, e_tyR, e_tyOl, e_tyOd, e_truR, e_truO, e_objR, e_objO, e_setLR, e_setLO, e_setL2, e_setFR, e_setFO, e_putR, e_putO, e_appR, e_appO, e_extR, e_extO, e_popR, e_frzR, e_frzOl, e_frzOd, e_itR, e_itO, e_def, e_dfr, e_dfn, e_dfe, e_forLc, e_forL0, e_forB, e_forNn, e_forNc, e_forNb, e_forNr, e_forNe, e_fstep, e_fsB, e_lc0, e_lcc, e_lc1, e_lc2, e_Pop1, e_pp1, e_Pop2, e_pq0, e_pq1, e_pq2, e_pop1R, e_pop2R, e_popDO, e_popGs, e_popGn, e_srtPK, e_sortP, q_non_non, q_non_bl, q_non_int, q_non_str, q_non_tup, q_non_tupk, q_non_lst, q_non_scr, q_bl_non, q_bl_bl, q_bl_int, q_bl_str, q_bl_tup, q_bl_tupk, q_bl_lst, q_bl_scr, q_int_non, q_int_bl, q_int_int, q_int_str, q_int_tup, q_int_tupk, q_int_lst, q_int_scr, q_str_non, q_str_bl, q_str_int, q_str_str, q_str_tup, q_str_tupk, q_str_lst, q_str_scr, q_tup_non, q_tup_bl, q_tup_int, q_tup_str, q_tup_tup, q_tup_tupk, q_tup_lst, q_tup_scr, q_tupk_non, q_tupk_bl, q_tupk_int, q_tupk_str, q_tupk_tup, q_tupk_tupk, q_tupk_lst, q_tupk_scr, q_lst_non, q_lst_bl, q_lst_int, q_lst_str, q_lst_tup, q_lst_tupk, q_lst_lst, q_lst_scr, q_scr_non, q_scr_bl, q_scr_int, q_scr_str, q_scr_tup, q_scr_tupk, q_scr_lst, q_scr_scr, q_nil, q_cons, q_nilc, q_consn, opEq_non_non, opNe_non_non, opEq_non_bl, opNe_non_bl, opEq_non_int, opNe_non_int, opEq_non_str, opNe_non_str, opEq_bl_non, opNe_bl_non, opEq_bl_bl, opNe_bl_bl, opEq_bl_int, opNe_bl_int, opEq_bl_str, opNe_bl_str, opEq_int_non, opNe_int_non, opEq_int_bl, opNe_int_bl, opEq_int_int, opNe_int_int, opEq_int_str, opNe_int_str, opEq_str_non, opNe_str_non, opEq_str_bl, opNe_str_bl, opEq_str_int, opNe_str_int, opEq_str_str, opNe_str_str, e_isBe, e_tys, dt_non, dt_bl, dt_int, dt_str, dt_tup, dt_tupk, dt_lst, dt_nil, dt_cons, dp_non, dp_bl, dp_int, dp_str, dp_tup, dp_tupk, dp_lst, dp_nil, dp_cons, opEq_tup_tup, opNe_tup_tup, opEq_lst_lst, opNe_lst_lst, opEq_non_tup, opNe_non_tup, opEq_non_tupk, opNe_non_tupk, e_conIn, e_conNin, e_conGet, e_conK, lookT_nil, lookT_cons, e_lkMl, e_lkMr, e_addM, e_amJ, e_amK, e_gsnoc, e_ssnoc, e_in_tup, e_nin_tup, e_in_tupk, e_nin_tupk, e_in_lst, e_nin_lst, e_ogetG, e_putTn, e_putTc, e_lookn, e_lookc, e_Par, e_parK, e_tupleR, e_tuO, e_lkMO, e_slO, e_eqRL, e_neRL, e_eqRLs, e_neRLs, e_opSlR, rngT_00, rngT_1, rngT_2, rngT_3, rngT_4, lkX_nil, lkX_cons, e_TryA, e_tyNx, e_tyRt, e_tyBr, e_tyCt, e_tyEx, e_tyC1, e_tyC0, e_rtK, e_IsX, e_isxK, e_TIx, e_tixK, e_tixO, ixS_nil, ixS_cons, e_opSlTk, e_isiOR, e_isiOL, e_isoKo, e_isoKl, e_sortH, e_srtHK, e_MaxD, e_maxDK, e_maxDn, e_maxDc, e_sortD, e_srtDK, e_srtDL, e_Try, e_tryNx, e_tryRt, e_tryBr, e_tryCt, e_tryEx, e_tryC1, e_tryC0, e_trnN, e_trnR, e_trnB, e_trnC, Int.cast_ofNat_Int, List.getElem?_cons_zero, List.getElem?_cons_succ, List.set_cons_zero, List.set_cons_succ, List.map_cons, List.map_nil, List.cons_append, List.nil_append, List.append_nil, List.length_cons, List.length_nil, ↓reduceIte, Nat.reduceAdd, Nat.reduceSub, Nat.reduceMul, Nat.reduceLT, Nat.reduceLeDiff, Nat.reduceEqDiff, Int.reduceAdd, Int.reduceSub, Int.reduceMul, Int.reduceNeg, Int.reduceLT, Int.reduceLE, Int.reduceEq, Int.reducePow, Int.reduceToNat, Nat.reducePow, Int.reduceDiv, Int.reduceMod, List.reduceReplicate, String.reduceEq, Bool.false_eq_true, Bool.true_eq_false, decide_true, decide_false, Bool.not_true, Bool.not_false, Bool.and_true, Bool.true_and, Bool.and_false, Bool.false_and, Bool.or_true, Bool.true_or, Bool.or_false, Bool.false_or, Option.bind_some, Option.map_some, Option.bind_none, Option.map_none, Option.isNone_none, Option.isNone_some, ite_self, eq_self, ne_eq, Option.isSome_some, Option.isSome_none, Option.getD_some, Option.getD_none, decide_eq_true_eq, decide_eq_false_iff_not, Bool.not_eq_true, List.any_cons, List.any_nil, and_self, and_true, true_and, or_true, true_or, false_or, or_false, false_and, and_false, reduceCtorEq, not_false_eq_true, not_true_eq_false, line_small, atI_lit, atI_m1, List.getElem?_set, List.length_set, List.set_set, ixN_lit, List.length_append])
local macro_rules | `(tactic| walk_at "ev*") => `(tactic| simp only [*, e_bok, e_bexc, e_bbad, e_sok, e_sexc, e_sbad, e_qnx, e_qrt, e_qbr, e_qct, e_qexc, e_qbad, e_onx, e_oexc, e_nok, e_seq, e_pass, e_brk, e_cnt, e_exp, e_expK, e_ret, e_retK, e_retN, e_if, e_ifK, e_set, e_setK, e_asg, e_asgK, e_raise, e_gN, e_gsN, e_gsC, e_gT, e_gTk, e_m1, e_m2, e_m2K, e_mN, e_nil, e_cons, e_consK, e_consL, e_C, e_V, e_vget, e_B, e_opB, e_Tru, e_TAnd, e_taK, e_TOr, e_toK, e_TNot, e_tnK, e_And, e_Or, e_Not, e_andK, e_orK, e_notK, e_IfE, e_ifeK, e_Chain, e_ch1, e_ch2, e_ch3, e_Call, e_oget, e_Fld, e_fldK, e_Meth, e_mtK, e_mtL, e_ometh, e_Make, e_mkK, e_mkN, e_isNon, e_sget, e_gIx, e_gi1, e_gi2, e_SetF, e_sf1, e_sf2, e_DPut, e_dp1, e_dp2, e_dp3, e_pget, e_pgetS, e_AugF, e_af1, e_afP, e_af2, e_af3, e_AugIx, e_ai1, e_ai2, e_ai3, e_ai4, e_ai5, e_Aug, e_augK, e_au1, e_au2, e_ML, e_mlK, e_Get1, e_gg1, e_gg2, e_ggD, e_Get2, e_gh1, e_gh2, e_gh3, e_NewD, e_mkDt, e_mkDf, e_mkLt, e_mkLf, e_Frz, e_NoP, e_Part, e_partK, e_Sl, e_sl1, e_sl2, e_opSlT, e_opSlL, e_For, e_forK, e_Lc, e_lcK, e_Yes, e_itT, e_itL, e_itR1, e_itR2, e_itTKt, e_itTKk, e_itLKl, e_itLKs, e_itR1K, e_itR2K, e_add, e_addT, e_addL, e_addI, e_sub, e_mod, e_div, e_mul, e_pow, e_mulL, e_rep, e_repK, e_neg, e_lt, e_le, e_gt, e_ge, e_abs, e_int, e_intB, e_min2, e_max2, e_tup, e_lst, e_lenK0, e_len, e_lenT, e_lenL, e_lenS, e_lenK, e_lenD, e_mkLK, e_list, e_seqT, e_seqL, e_seqS, e_seqK, e_lkL, e_lkS, e_lkP, e_tupleT, e_tupleL, e_srtK, e_sortI, e_anyK, e_allK, e_sumK, e_any, e_all, e_sum, e_atK, e_okK, e_ix, e_ixL, e_is, e_isnt, e_isB, e_isntB, e_non_int, e_non_str, e_non_bl, e_non_tup, e_non_tupk, e_non_lst, e_non_dct, e_non_ref, e_isiK, e_isi, e_ty_non, e_ty_int, e_ty_str, e_ty_bl, e_ty_tup, e_ty_tupk, e_ty_lst, e_ty_scr, e_ty_dct, e_tru_non, e_tru_bl, e_tru_int, e_tru_tup, e_tru_lst, e_dgK, e_dget, e_diK, e_dnK, e_din, e_dnin, e_dOf, e_keyI, e_keyS, e_keyT, e_seqR, e_lkR, e_lkPR, e_lstO, e_isLR, e_isLO, e_dOfR, e_dctO, e_lckO, e_lenR, e_lenOl, e_lenOd, e_tyR, e_tyOl, e_tyOd, e_truR, e_truO, e_objR, e_objO, e_setLR, e_setLO, e_setL2, e_setFR, e_setFO, e_putR, e_putO, e_appR, e_appO, e_extR, e_extO, e_popR, e_frzR, e_frzOl, e_frzOd, e_itR, e_itO, e_def, e_dfr, e_dfn, e_dfe, e_forLc, e_forL0, e_forB, e_forNn, e_forNc, e_forNb, e_forNr, e_forNe, e_fstep, e_fsB, e_lc0, e_lcc, e_lc1, e_lc2, e_Pop1, e_pp1, e_Pop2, e_pq0, e_pq1, e_pq2, e_pop1R, e_pop2R, e_popDO, e_popGs, e_popGn, e_srtPK, e_sortP, q_non_non, q_non_bl, q_non_int, q_non_str, q_non_tup, q_non_tupk, q_non_lst, q_non_scr, q_bl_non, q_bl_bl, q_bl_int, q_bl_str, q_bl_tup, q_bl_tupk, q_bl_lst, q_bl_scr, q_int_non, q_int_bl, q_int_int, q_int_str, q_int_tup, q_int_tupk, q_int_lst, q_int_scr, q_str_non, q_str_bl, q_str_int, q_str_str, q_str_tup, q_str_tupk, q_str_lst, q_str_scr, q_tup_non, q_tup_bl, q_tup_int, q_tup_str, q_tup_tup, q_tup_tupk, q_tup_lst, q_tup_scr, q_tupk_non, q_tupk_bl, q_tupk_int, q_tupk_str, q_tupk_tup, q_tupk_tupk, q_tupk_lst, q_tupk_scr, q_lst_non, q_lst_bl, q_lst_int, q_lst_str, q_lst_tup, q_lst_tupk, q_lst_lst, q_lst_scr, q_scr_non, q_scr_bl, q_scr_int, q_scr_str, q_scr_tup, q_scr_tupk, q_scr_lst, q_scr_scr, q_nil, q_cons, q_nilc, q_consn, opEq_non_non, opNe_non_non, opEq_non_bl, opNe_non_bl, opEq_non_int, opNe_non_int, opEq_non_str, opNe_non_str, opEq_bl_non, opNe_bl_non, opEq_bl_bl, opNe_bl_bl, opEq_bl_int, opNe_bl_int, opEq_bl_str, opNe_bl_str, opEq_int_non, opNe_int_non, opEq_int_bl, opNe_int_bl, opEq_int_int, opNe_int_int, opEq_int_str, opNe_int_str, opEq_str_non, opNe_str_non, opEq_str_bl, opNe_str_bl, opEq_str_int, opNe_str_int, opEq_str_str, opNe_str_str, e_isBe, e_tys, dt_non, dt_bl, dt_int, dt_str, dt_tup, dt_tupk, dt_lst, dt_nil, dt_cons, dp_non, dp_bl, dp_int, dp_str, dp_tup, dp_tupk, dp_lst, dp_nil, dp_cons, opEq_tup_tup, opNe_tup_tup, opEq_lst_lst, opNe_lst_lst, opEq_non_tup, opNe_non_tup, opEq_non_tupk, opNe_non_tupk, e_conIn, e_conNin, e_conGet, e_conK, lookT_nil, lookT_cons, e_lkMl, e_lkMr, e_addM, e_amJ, e_amK, e_gsnoc, e_ssnoc, e_in_tup, e_nin_tup, e_in_tupk, e_nin_tupk, e_in_lst, e_nin_lst, e_ogetG, e_putTn, e_putTc, e_lookn, e_lookc, e_Par, e_parK, e_tupleR, e_tuO, e_lkMO, e_slO, e_eqRL, e_neRL, e_eqRLs, e_neRLs, e_opSlR, rngT_00, rngT_1, rngT_2, rngT_3, rngT_4, lkX_nil, lkX_cons, e_TryA, e_tyNx, e_tyRt, e_tyBr, e_tyCt, e_tyEx, e_tyC1, e_tyC0, e_rtK, e_IsX, e_isxK, e_TIx, e_tixK, e_tixO, ixS_nil, ixS_cons, e_opSlTk, e_isiOR, e_isiOL, e_isoKo, e_isoKl, e_sortH, e_srtHK, e_MaxD, e_maxDK, e_maxDn, e_maxDc, e_sortD, e_srtDK, e_srtDL, e_Try, e_tryNx, e_tryRt, e_tryBr, e_tryCt, e_tryEx, e_tryC1, e_tryC0, e_trnN, e_trnR, e_trnB, e_trnC, Int.cast_ofNat_Int, List.getElem?_cons_zero, List.getElem?_cons_succ, List.set_cons_zero, List.set_cons_succ, List.map_cons, List.map_nil, List.cons_append, List.nil_append, List.append_nil, List.length_cons, List.length_nil, ↓reduceIte, Nat.reduceAdd, Nat.reduceSub, Nat.reduceMul, Nat.reduceLT, Nat.reduceLeDiff, Nat.reduceEqDiff, Int.reduceAdd, Int.reduceSub, Int.reduceMul, Int.reduceNeg, Int.reduceLT, Int.reduceLE, Int.reduceEq, Int.reducePow, Int.reduceToNat, Nat.reducePow, Int.reduceDiv, Int.reduceMod, List.reduceReplicate, String.reduceEq, Bool.false_eq_true, Bool.true_eq_false, decide_true, decide_false, Bool.not_true, Bool.not_false, Bool.and_true, Bool.true_and, Bool.and_false, Bool.false_and, Bool.or_true, Bool.true_or, Bool.or_false, Bool.false_or, Option.bind_some, Option.map_some, Option.bind_none, Option.map_none, Option.isNone_none, Option.isNone_some, ite_self, eq_self, ne_eq, Option.isSome_some, Option.isSome_none, Option.getD_some, Option.getD_none, decide_eq_true_eq, decide_eq_false_iff_not, Bool.not_eq_true, List.any_cons, List.any_nil, and_self, and_true, true_and, or_true, true_or, false_or, or_false, false_and, and_false, reduceCtorEq, not_false_eq_true, not_true_eq_false, line_small, atI_lit, atI_m1, List.getElem?_set, List.length_set, List.set_set, ixN_lit, List.length_append])
theorem at_scr {ns : List Int} {k : Nat} (h : k < ns.length) : ∃ z, atI (ns.map T.int) (0 + (k : Int)) = some (.int z) := by
  refine ⟨ns[k], ?_⟩
  rw [Int.zero_add, Ab.atI_nat, List.getElem?_map, List.getElem?_eq_getElem h]; rfl
def Dg (l : List Int) : Prop := ∀ x ∈ l, 0 ≤ x ∧ x < 1000
theorem Dg.snoc {l : List Int} (h : Dg l) {x : Int} (a : 0 ≤ x ∧ x < 1000) : Dg (l ++ [x]) := fun y hy => (List.mem_append.mp hy).elim (h y) fun e => by rw [List.mem_singleton.mp e]; exact a
theorem map_snoc {l : List Int} {x : Int} : l.map T.int ++ [T.int x] = (l ++ [x]).map T.int := by rw [List.map_append]; rfl
theorem md0 (x : Int) : 0 ≤ x % 1000 := Int.emod_nonneg x (by decide)
theorem md1 (x : Int) : x % 1000 < 1000 := Int.emod_lt_of_pos x (by decide)
def TP (x : T) (m : Nat) (st : Slots) (S : Sto) : Prop := ∃ l o2 o3 o4, S = [.lst (l.map .int)] ∧ st = [some x, some (.ref 0), o2, o3, o4] ∧ l.length ≤ m ∧ Dg l
noncomputable def tpBody : AS := (mIf (mB (m2 opGe (mV 3) (m2 opPow (mC (.int 10)) (mC (.int 18))))) (mFor (itR1 (mCons (mC (.int 60)) mNil)) (gN 4) (mIf (mB (m2 opGt (mV 3) (mC (.int 0)))) (mSeq (mExp (mML opApp (mV 1) (mCons (m2 opMod (mV 3) (mC (.int 1000))) mNil)))
          (mSet 3 (m2 opDiv (mV 3) (mC (.int 1000))))) mPass)) (mFor (itR1 (mCons (mC (.int 4)) mNil)) (gN 4) (mSeq (mSet 3 (m2 opMod (m2 opAdd (m2 opAdd (m2 opMul (mV 3) (mC (.int 48271))) (m2 opMul (mC (.int 69621)) (m2 opAdd (mV 2) (mC (.int 1))))) (m2 opMul (mC (.int 7)) (mV 4))) (mC (.int 2147483647))))
          (mSeq (mSet 3 (m2 opMod (m2 opMul (mV 3) (mC (.int 16807))) (mC (.int 2147483647))))
          (mExp (mML opApp (mV 1) (mCons (m2 opMod (m2 opDiv (mV 3) (mC (.int 1000))) (mC (.int 1000))) mNil)))))))
theorem lt5 {n : Nat} (h : n ≤ 4999) : n < sizeLine := Nat.lt_of_le_of_lt h (by decide)
theorem tp_big (x : T) (k : Nat) (hk : k < 63) (l : List Int) (hl : l.length ≤ 60 * k) (dg : Dg l) (o4 : Option T) (v : Int) (c : 1000000000000000000 ≤ v) :
    Goes (TP x (60 * (k + 1))) (tpBody [some x, some (.ref 0), some (.int (0 + k)), some (.int v), o4] [.lst (l.map .int)]) := by
  unfold tpBody
  walk_at "ev*"
  refine use_rng (C := fun r => Goes _ r) (fun j st S => ∃ l v o4, S = [.lst (l.map .int)] ∧ st = [some x, some (.ref 0), some (.int (0 + k)), some (.int v), o4] ∧ l.length ≤ 60 * k + j ∧ Dg l) ?_ ?_ ?_
  · exact ⟨l, v, _, rfl, rfl, hl, dg⟩
  · rintro j st S hj ⟨l, v, o4, rfl, rfl, hl, dg⟩
    have hj' : j < 60 := by omega
    have hL : (l.map T.int).length < sizeLine := by rw [List.length_map]; exact lt5 (by omega)
    by_cases cv : 0 < v
    · walk_at "ev*"
      exact ⟨l ++ [v % 1000], _, _, by rw [map_snoc], rfl, by simp; omega, dg.snoc ⟨md0 v, md1 v⟩⟩
    · walk_at "ev*"
      exact ⟨l, _, _, rfl, rfl, by omega, dg⟩
  · rintro st S ⟨l, v, o4, rfl, rfl, hl, dg⟩
    exact ⟨l, _, _, _, rfl, rfl, by omega, dg⟩
theorem tp_small (x : T) (k : Nat) (hk : k < 63) (l : List Int) (hl : l.length ≤ 60 * k) (dg : Dg l) (o4 : Option T) (v : Int) (c : ¬ 1000000000000000000 ≤ v) :
    Goes (TP x (60 * (k + 1))) (tpBody [some x, some (.ref 0), some (.int (0 + k)), some (.int v), o4] [.lst (l.map .int)]) := by
  have hL0 : (l.map T.int).length < sizeLine := by rw [List.length_map]; exact lt5 (by omega)
  have hL1 : (l.map T.int).length + 1 < sizeLine := by rw [List.length_map]; exact lt5 (by omega)
  have hL2 : (l.map T.int).length + 1 + 1 < sizeLine := by rw [List.length_map]; exact lt5 (by omega)
  have hL3 : (l.map T.int).length + 1 + 1 + 1 < sizeLine := by rw [List.length_map]; exact lt5 (by omega)
  have h4 : ∀ e a b c d : Int, Goes (TP x (60 * (k + 1))) (.nx [some x, some (.ref 0), some (.int (0 + k)), some (.int e), some (.int 3)] [.lst (l.map T.int ++ [.int (a % 1000)] ++ [.int (b % 1000)] ++ [.int (c % 1000)] ++ [.int (d % 1000)])]) := fun e a b c d =>
    ⟨l ++ [a % 1000] ++ [b % 1000] ++ [c % 1000] ++ [d % 1000], _, _, _, by rw [← map_snoc, ← map_snoc, ← map_snoc, ← map_snoc], rfl, by simp; omega, (((dg.snoc ⟨md0 _, md1 _⟩).snoc ⟨md0 _, md1 _⟩).snoc ⟨md0 _, md1 _⟩).snoc ⟨md0 _, md1 _⟩⟩
  clear hl dg
  unfold tpBody
  revert h4
  walk_at "ev*"
  intro h4
  exact h4 _ _ _ _ _
theorem tape_B : b__law_tape = (mSeq (mSet 1 (mN (opLst false) mNil)) (mSeq (mFor (itR1 (mCons (mN opLen (mCons (mV 0) mNil)) mNil)) (gN 2) (mSeq (mSet 3 (mN opAbs (mCons (mN opInt (mCons (m2 opIx (mV 0) (mV 2)) mNil)) mNil))) tpBody)) (mRet (mFrz (mV 1))))) := by
  unfold b__law_tape tpBody
  rfl
theorem t2 (x : T) : TP x (60 * 0) [some x, some (.ref 0), none, none, none] [O.lst []] := ⟨[], _, _, _, rfl, rfl, Nat.zero_le _, fun _ h => nomatch h⟩
theorem len_scr {l : List Int} {S : Sto} : opLen [.scr (l.map .int)] S = .ok (.int l.length) S := by
  walk_at "ev"
  rw [List.length_map]
theorem tape_go (x : T) (m : Int) (hm : ∀ S, opLen [x] S = .ok (.int m) S) (h0 : 0 ≤ m) (h1 : m ≤ 63) (hx : ∀ k : Nat, (k : Int) < m → ∃ z, ∀ S, opIx x (.int (0 + (k : Int))) S = .ok (.int z) S) :
    ∃ l, m__law_tape [x] [] = .ok (.lst (l.map .int)) [.dead] ∧ Dg l := by
  have hb : -4611686018427387904 ≤ m ∧ m < 4611686018427387904 := by omega
  unfold m__law_tape
  rw [tape_B]
  walk_at "ev*"
  clear hb
  refine use_rng (C := fun r => ∃ l, defK (r.seq _) = .ok (.lst (l.map .int)) [.dead] ∧ Dg l) (fun k st S => TP x (60 * k) st S) (t2 x) ?_ ?_
  · rintro k st S hk ⟨l, o2, o3, o4, rfl, rfl, hl, dg⟩
    obtain ⟨z, hz'⟩ := hx k (by omega)
    clear hx
    have fin : ∀ v : Int, Goes (TP x (60 * (k + 1))) (tpBody [some x, some (.ref 0), some (.int (0 + k)), some (.int v), o4] [.lst (l.map .int)]) := fun v => by
      by_cases c : 1000000000000000000 ≤ v
      · exact tp_big x k (by omega) l hl dg o4 v c
      · exact tp_small x k (by omega) l hl dg o4 v c
    by_cases cz : z < 0
    · walk_at "ev*"
    · walk_at "ev*"
  · rintro st S ⟨l, o2, o3, o4, rfl, rfl, hl, dg⟩
    clear hx hm
    walk_at "ev*"
    exact ⟨l, by walk_at "ev*", dg⟩
theorem tape_ok (ns : List Int) (h : ns.length ≤ 63) : ∃ l, m__law_tape [.scr (ns.map .int)] [] = .ok (.lst (l.map .int)) [.dead] ∧ Dg l := by
  refine tape_go _ ns.length (fun S => len_scr) (by omega) (by omega) fun k hk => ?_
  obtain ⟨z, hz⟩ := at_scr (ns := ns) (k := k) (by omega)
  exact ⟨z, fun S => by walk_at "ev*"⟩
theorem atm (l : List T) (x n : Int) (hn : (l.length : Int) = n) (h : 0 < n) : ∃ v, atI l (x % n) = some v ∧ v ∈ l := by
  have a := Int.emod_nonneg x (show n ≠ 0 by omega)
  have b := Int.emod_lt_of_pos x h
  have hl : (x % n).toNat < l.length := by omega
  refine ⟨l[(x % n).toNat], ?_, List.getElem_mem hl⟩
  have := Ab.atI_nat l (x % n).toNat
  rw [show (((x % n).toNat : Nat) : Int) = x % n by omega] at this
  rw [this, List.getElem?_eq_getElem hl]
theorem at_ok {l : List Int} (dg : Dg l) (k : Nat) : ∃ d, (∀ S, m__law_at [.lst (l.map .int), .int (k : Int)] S = .ok (.int d) S) ∧ 0 ≤ d ∧ d < 1000 := by
  unfold m__law_at b__law_at
  by_cases c : k < l.length
  · have c' : (k : Int) < ((l.map T.int).length : Int) := by rw [List.length_map]; omega
    have e : atI (l.map T.int) (k : Int) = some (.int l[k]) := by rw [Ab.atI_nat, List.getElem?_map, List.getElem?_eq_getElem c]; rfl
    exact ⟨l[k], fun S => by walk_at "ev*", dg _ (List.getElem_mem c)⟩
  · have c' : ¬ (k : Int) < ((l.map T.int).length : Int) := by rw [List.length_map]; omega
    exact ⟨0, fun S => by walk_at "ev*", by simp, by simp⟩
theorem zl : ∀ n : Nat, n ≤ 100 → n ≤ sizeLine := fun n h => Nat.le_trans h (by decide)
theorem at_okI {l : List Int} (dg : Dg l) (i : Int) (h : 0 ≤ i) : ∃ d, (∀ S, m__law_at [.lst (l.map .int), .int i] S = .ok (.int d) S) ∧ 0 ≤ d ∧ d < 1000 := by
  obtain ⟨d, e, r⟩ := at_ok dg i.toNat
  rw [show ((i.toNat : Nat) : Int) = i by omega] at e
  exact ⟨d, e, r⟩
/-! ### pages of records, blocks that lie at handles (k06, k07, k08) -/
def recT (o : Int) : T := .tup [.int o, .str "write", .int (o % 4), .int 1, .int o, .int (1 + o % 8), .int (o % 64), .int (o * 7)]
def Up (t : T) : Prop := t = .str "torn" ∨ ∃ o : Int, 1 ≤ o ∧ t = recT o
def pgT (us : List T) : List T := us ++ List.replicate (8 - us.length) .non
structure Us (us : List T) : Prop where
  up : ∀ t ∈ us, Up t
  len : us.length ≤ 8
theorem pgT_len {us : List T} (h : Us us) : (pgT us).length = 8 := by unfold pgT; have := h.len; simp; omega
theorem pgT_lt {us : List T} {i : Nat} (hi : i < us.length) : (pgT us)[i]? = some us[i] := by unfold pgT; rw [List.getElem?_append_left hi, List.getElem?_eq_getElem hi]
theorem pgT_ge {us : List T} (h : Us us) {i : Nat} (hi : ¬ i < us.length) (h8 : i < 8) : (pgT us)[i]? = some .non := by
  unfold pgT
  rw [List.getElem?_append_right (by omega), List.getElem?_replicate, if_pos (by have := h.len; omega)]
theorem up_non {t : T} (h : Up t) : isNon t = false := by rcases h with rfl | ⟨l, _, rfl⟩ <;> rfl
def At (S : Sto) (F : T) (l : List T) : Prop := F = .lst l ∨ ∃ n, F = .ref n ∧ S[n]? = some (.lst l)
theorem At.len {S : Sto} {F : T} {l : List T} (h : At S F l) : opLen [F] S = .ok (.int l.length) S := by
  rcases h with rfl | ⟨n, rfl, h⟩ <;> walk_at "ev*"
theorem At.ix {S : Sto} {F : T} {l : List T} (h : At S F l) (i : Int) : opIx F (.int i) S = pget (atI l i) (okK S) := by
  rcases h with rfl | ⟨n, rfl, h⟩ <;> walk_at "ev*"
theorem At.isl {S : Sto} {F : T} {l : List T} (h : At S F l) : opIsi [F, .ty "list"] S = .ok (.bl true) S := by
  rcases h with rfl | ⟨n, rfl, h⟩ <;> walk_at "ev*"
theorem At.cpy {S : Sto} {F : T} {l : List T} (h : At S F l) : opList true [F] S = .ok (.lst l) S := by
  rcases h with rfl | ⟨n, rfl, h⟩ <;> walk_at "ev*"
theorem At.it {S : Sto} {F : T} {l : List T} (h : At S F l) : ∃ ck, itLK F S = .ok ⟨l, ck⟩ S ∧ okC ck S := by
  rcases h with rfl | ⟨n, rfl, hn⟩
  · exact ⟨none, rfl, trivial⟩
  · exact ⟨some (n, l), e_itLKr hn, hn⟩
theorem atN {l : List T} {i : Nat} {t : T} (h : l[i]? = some t) : atI l (0 + (i : Int)) = some t := by rw [Int.zero_add, Ab.atI_nat, h]
theorem atN' {l : List T} {i : Nat} {t : T} (h : l[i]? = some t) : atI l (i : Int) = some t := by rw [Ab.atI_nat, h]
theorem used_eq : m__law_used = m_next_page := rfl
theorem np_gen {S : Sto} {F : T} {l : List T} (hF : At S F l) (h8 : l.length = 8) : ∃ m : Nat, m_next_page [F] S = .ok (.int m) S ∧ m ≤ 8 ∧ (∀ (i : Nat) t, l[i]? = some t → isNon t = false → i < m) ∧ (∀ t, 0 < m → l[m - 1]? = some t → isNon t = false) := by
  have ix := hF.ix
  clear hF
  unfold m_next_page b_next_page
  walk_at "ev"
  refine use_rng (C := fun r => ∃ m : Nat, defK (r.seq (mRet (mV 1))) = .ok (.int m) S ∧ m ≤ 8 ∧ (∀ (i : Nat) t, l[i]? = some t → isNon t = false → i < m) ∧ (∀ t, 0 < m → l[m - 1]? = some t → isNon t = false)) (fun k st S' => ∃ (m : Nat) (o2 : Option T), S' = S ∧ st = [some F, some (.int m), o2] ∧ m ≤ k ∧ (∀ (i : Nat) t, i < k → l[i]? = some t → isNon t = false → i < m) ∧ (∀ t, 0 < m → l[m - 1]? = some t → isNon t = false)) ?_ ?_ ?_
  · exact ⟨0, _, rfl, rfl, Nat.le_refl _, (fun i t h => absurd h (Nat.not_lt_zero _)), (fun t h => absurd h (Nat.lt_irrefl _))⟩
  · rintro k st S' hk ⟨m, o2, rfl, rfl, a, b, c⟩
    have hk8 : k < 8 := by omega
    obtain ⟨t, ht⟩ : ∃ t, l[k]? = some t := ⟨_, List.getElem?_eq_getElem (by omega)⟩
    have hI := atN ht
    cases q : isNon t with
    | true =>
      have hb : ∀ (i : Nat) u, i < k + 1 → l[i]? = some u → isNon u = false → i < m := fun i u hi hu hn => by
        by_cases e : i = k
        · subst e; rw [ht] at hu; cases hu; rw [q] at hn; cases hn
        · exact b i u (by omega) hu hn
      clear b
      walk_at "ev*"
      exact ⟨m, _, rfl, rfl, by omega, hb, c⟩
    | false =>
      clear b c
      walk_at "ev*"
      exact ⟨k + 1, _, rfl, by rw [show ((k + 1 : Nat) : Int) = 0 + (k : Int) + 1 by omega], by omega, fun i u hi _ _ => hi, fun u _ hu => by rw [Nat.add_sub_cancel, ht] at hu; cases hu; exact q⟩
  · rintro st S' ⟨m, o2, rfl, rfl, a, b, c⟩
    refine ⟨m, by clear b c; walk_at "ev*", by omega, fun i t hi hn => ?_, c⟩
    have : i < l.length := (List.getElem?_eq_some_iff.mp hi).1
    exact b i t (by omega) hi hn
theorem np_us {S : Sto} {F : T} {us : List T} (hF : At S F (pgT us)) (h : Us us) : m_next_page [F] S = .ok (.int us.length) S := by
  obtain ⟨m, e, m8, a, b⟩ := np_gen hF (pgT_len h)
  have : m = us.length := by
    apply Nat.le_antisymm
    · by_cases c : m ≤ us.length
      · exact c
      · have := b .non (by omega) (pgT_ge h (by omega) (by omega))
        cases this
    · by_cases c : us.length = 0
      · omega
      · have := a (us.length - 1) _ (pgT_lt (by omega)) (up_non (h.up _ (List.getElem_mem _)))
        omega
  rw [e, this]
/-- blocks at handles: the list at h holds the handles hs, and these hold the pages of Bs -/
structure Hd (S : Sto) (h : Nat) (hs : List Nat) (Bs : List (List T)) : Prop where
  at_ : S[h]? = some (.lst (hs.map .ref))
  len : hs.length = Bs.length
  pg : ∀ (b : Nat) (i : Nat) us, hs[b]? = some i → Bs[b]? = some us → S[i]? = some (.lst (pgT us))
structure Bl (Bs : List (List T)) : Prop where
  us : ∀ us ∈ Bs, Us us
  l1 : 8 ≤ Bs.length
  l2 : Bs.length ≤ 24
theorem Hd.get {S : Sto} {h : Nat} {hs : List Nat} {Bs : List (List T)} (D : Hd S h hs Bs) {b : Nat} {us : List T} (hb : Bs[b]? = some us) : ∃ i, hs[b]? = some i ∧ S[i]? = some (.lst (pgT us)) := by
  have : b < hs.length := by rw [D.len]; exact (List.getElem?_eq_some_iff.mp hb).1
  exact ⟨hs[b], List.getElem?_eq_getElem this, D.pg b _ us (List.getElem?_eq_getElem this) hb⟩
theorem Hd.ix {S : Sto} {h : Nat} {hs : List Nat} {Bs : List (List T)} (D : Hd S h hs Bs) {b : Nat} {us : List T} (hb : Bs[b]? = some us) : ∃ i, opIx (.ref h) (.int (b : Int)) S = .ok (.ref i) S ∧ S[i]? = some (.lst (pgT us)) ∧ hs[b]? = some i := by
  obtain ⟨i, h1, h2⟩ := D.get hb
  refine ⟨i, ?_, h2, h1⟩
  have e : atI (hs.map T.ref) (b : Int) = some (.ref i) := by rw [Ab.atI_nat, List.getElem?_map, h1]; rfl
  have a := D.at_
  clear D h1 h2 hb
  walk_at "ev*"
def stW (us : List T) : String := if us.length = 0 then "free" else if us.length < 8 then "open" else "closed"
theorem law_state_ok {S : Sto} {h : Nat} {hs : List Nat} {Bs : List (List T)} (D : Hd S h hs Bs) (hB : Bl Bs) {b : Nat} {us : List T} (hb : Bs[b]? = some us) : m__law_state [.ref h, .int (b : Int)] S = .ok (.str (stW us)) S := by
  obtain ⟨i, e1, e2, _⟩ := D.ix hb
  have hu := hB.us us (List.mem_of_getElem? hb)
  have e3 := np_us (.inr ⟨i, rfl, e2⟩) hu
  have hl := hu.len
  rw [← used_eq] at e3
  clear D hB hu
  unfold m__law_state b__law_state stW
  by_cases c0 : us.length = 0
  · have c : ((us.length : Nat) : Int) = 0 := by omega
    generalize (us.length : Int) = n at *
    subst c
    rw [if_pos c0]
    generalize (b : Int) = bi at *
    walk_at "ev*"
  · rw [if_neg c0]
    have c : ¬ ((us.length : Nat) : Int) = 0 := by omega
    by_cases c8 : us.length < 8
    · rw [if_pos c8]
      have c2 : ((us.length : Nat) : Int) < 8 := by omega
      generalize (us.length : Int) = n at *
      generalize (b : Int) = bi at *
      walk_at "ev*"
    · rw [if_neg c8]
      have c2 : ¬ ((us.length : Nat) : Int) < 8 := by omega
      generalize (us.length : Int) = n at *
      generalize (b : Int) = bi at *
      walk_at "ev*"
def curT : Option Nat → T
  | none => .non
  | some c => .int (c : Int)
def loO (f gh : Nat) (cur : Option Nat) : O := .obj "Log" [("flash", .ref f), ("held", .ref gh), ("current", curT cur)]
def fsO (n : Int) (fh : Nat) (wv : T × T) : O := .obj "Flash" [("blocks", .int n), ("held", .ref fh), ("wears", wv.1), ("left", wv.2), ("power", .bl true), ("broken", .non)]
theorem between_yes {z lo hi : Int} (a : lo ≤ z) (b : z ≤ hi) (S : Sto) : m_is_between [.int z, .int lo, .int hi] S = .ok (.bl true) S := by
  unfold m_is_between b_is_between; walk_at "ev*"
/-- a log: which of its blocks is open -/
structure Lg (S : Sto) (g f fh gh : Nat) (wv : T × T) (gs : List Nat) (Bs : List (List T)) (cur : Option Nat) : Prop where
  o : S[g]? = some (loO f gh cur)
  fo : S[f]? = some (fsO (Bs.length : Int) fh wv)
  hd : Hd S gh gs Bs
  bl : Bl Bs
  cu : ∀ b us, Bs[b]? = some us → (cur = some b ↔ 0 < us.length ∧ us.length < 8)
  cl : ∀ c, cur = some c → c < Bs.length
theorem log_check {S : Sto} {g f fh gh : Nat} {wv : T × T} {gs : List Nat} {Bs : List (List T)} {cur : Option Nat} (D : Lg S g f fh gh wv gs Bs cur) {b : Nat} (hb : b < Bs.length) : m_Log_check_block [.ref g, .int (b : Int)] S = .ok .non S := by
  obtain ⟨n, hn⟩ : ∃ n : Int, (Bs.length : Int) = n := ⟨_, rfl⟩
  have e1 := between_yes (z := (b : Int)) (lo := 0) (hi := n - 1) (by omega) (by omega) S
  have o := D.o
  have fo := D.fo
  rw [hn] at fo
  clear D hn hb
  unfold m_Log_check_block b_Log_check_block
  unfold loO at o
  unfold fsO at fo
  generalize curT cur = c at *
  generalize (b : Int) = bi at *
  walk_at "ev*"
theorem log_state_ok {S : Sto} {g f fh gh : Nat} {wv : T × T} {gs : List Nat} {Bs : List (List T)} {cur : Option Nat} (D : Lg S g f fh gh wv gs Bs cur) {b : Nat} {us : List T} (hb : Bs[b]? = some us) : m_Log_state [.ref g, .int (b : Int)] S = .ok (.str (stW us)) S := by
  have e0 := log_check D (List.getElem?_eq_some_iff.mp hb).1
  obtain ⟨i, e1, e2, _⟩ := D.hd.ix hb
  have hu := D.bl.us us (List.mem_of_getElem? hb)
  have e3 := np_us (.inr ⟨i, rfl, e2⟩) hu
  have hl := hu.len
  have cu := D.cu b us hb
  have o := D.o
  unfold loO at o
  clear D hu hb
  unfold m_Log_state b_Log_state stW
  by_cases c0 : us.length = 0
  · rw [if_pos c0]
    have c : ((us.length : Nat) : Int) = 0 := by omega
    generalize (us.length : Int) = n at *
    subst c
    cases cur with
    | none =>
      simp only [curT] at o
      clear cu
      generalize (b : Int) = bi at *
      walk_at "ev*"
    | some d =>
      have ne : ¬ ((b : Int) = (d : Int)) := fun e => by
        have : some d = some b := by congr 1; omega
        have := (cu.mp this).1
        omega
      simp only [curT] at o
      clear cu
      generalize (b : Int) = bi at *
      generalize (d : Int) = di at *
      walk_at "ev*"
  · rw [if_neg c0]
    have c : ¬ ((us.length : Nat) : Int) = 0 := by omega
    by_cases c8 : us.length < 8
    · rw [if_pos c8]
      have ec := cu.mpr ⟨by omega, c8⟩
      subst ec
      simp only [curT] at o
      clear cu
      generalize (b : Int) = bi at *
      walk_at "ev*"
    · rw [if_neg c8]
      generalize (us.length : Int) = n at *
      cases cur with
      | none =>
        simp only [curT] at o
        clear cu
        generalize (b : Int) = bi at *
        walk_at "ev*"
      | some d =>
        have ne : ¬ ((b : Int) = (d : Int)) := fun e => by
          have : some d = some b := by congr 1; omega
          have := (cu.mp this).2
          omega
        simp only [curT] at o
        clear cu
        generalize (b : Int) = bi at *
        generalize (d : Int) = di at *
        walk_at "ev*"
/-- the blocks of a state, as both sides list them -/
def isW (Bs : List (List T)) (w : String) : T → Bool
  | .int i => decide ((Bs[i.toNat]?).map stW = some w)
  | _ => false
def frL (Bs : List (List T)) (w : String) : List T := (rngT 0 (Bs.length : Int)).filter (isW Bs w)
theorem isW_at {Bs : List (List T)} {w : String} {b : Nat} {us : List T} (hb : Bs[b]? = some us) : isW Bs w (.int (0 + (b : Int))) = decide (stW us = w) := by
  show decide ((Bs[(0 + (b : Int)).toNat]?).map stW = some w) = _
  rw [show (0 + (b : Int)).toNat = b by omega, hb]
  simp
theorem mem_rng {n : Nat} {t : T} (h : t ∈ rngT 0 (n : Int)) : ∃ b : Nat, b < n ∧ t = .int (0 + (b : Int)) := by
  unfold rngT at h
  obtain ⟨b, hb, rfl⟩ := List.mem_map.mp h
  exact ⟨b, by have := List.mem_range.mp hb; omega, rfl⟩
theorem rng_len (n : Nat) : (rngT 0 (n : Int)).length = n := by rw [rngT_len]; omega
theorem comp_log {S : Sto} {g f fh gh : Nat} {wv : T × T} {gs : List Nat} {Bs : List (List T)} {cur : Option Nat} (D : Lg S g f fh gh wv gs Bs cur) (w : String) (o1 : Option T) :
    lcL none 1 (mB (m2 opEq (mMeth "Log" "state" m_Log_state (mV 0) (mCons (mV 1) mNil)) (mC (.str w)))) (mV 1) [some (.ref g), o1] (rngT 0 (Bs.length : Int)) [] S = .ok (frL Bs w) S := by
  have e := lcL_pure (ck := none) (i := 1) (c := mB (m2 opEq (mMeth "Log" "state" m_Log_state (mV 0) (mCons (mV 1) mNil)) (mC (.str w)))) (e := mV 1) (st := [some (.ref g), o1]) (S := S) (p := isW Bs w) (f := fun t => t) (l := rngT 0 (Bs.length : Int)) (acc := []) trivial (fun t ht => ?_) (fun t ht _ => ?_) (by rw [rng_len]; have := D.bl.l2; exact zl _ (by simp; omega))
  · rw [e, List.nil_append, List.map_id']; rfl
  · obtain ⟨b, hb, rfl⟩ := mem_rng ht
    have hu : Bs[b]? = some Bs[b] := List.getElem?_eq_getElem hb
    have e1 := log_state_ok D hu
    rw [isW_at hu]
    have o := D.o
    unfold loO at o
    rw [Int.zero_add]
    clear D ht hu
    generalize curT cur = c at *
    generalize (b : Int) = bi at *
    walk_at "ev*"
  · walk_at "ev"
theorem comp_law {S : Sto} {h : Nat} {hs : List Nat} {Bs : List (List T)} (D : Hd S h hs Bs) (hB : Bl Bs) (w : String) (st : Slots) (j k : Nat) (hj : ∀ t, (st.set j (some t))[j]? = some (some t)) (hk : ∀ t, (st.set j (some t))[k]? = some (some (.ref h))) :
    lcL none j (mB (m2 opEq (mCall m__law_state (mCons (mV k) (mCons (mV j) mNil))) (mC (.str w)))) (mV j) st (rngT 0 (Bs.length : Int)) [] S = .ok (frL Bs w) S := by
  have v1 : ∀ t, mV j (st.set j (some t)) S = .ok t S := fun t => by unfold mV; rw [hj]
  have v2 : ∀ t, mV k (st.set j (some t)) S = .ok (.ref h) S := fun t => by unfold mV; rw [hk]
  have e := lcL_pure (ck := none) (i := j) (c := mB (m2 opEq (mCall m__law_state (mCons (mV k) (mCons (mV j) mNil))) (mC (.str w)))) (e := mV j) (st := st) (S := S) (p := isW Bs w) (f := fun t => t) (l := rngT 0 (Bs.length : Int)) (acc := []) trivial (fun t ht => ?_) (fun t ht _ => v1 t) (by rw [rng_len]; have := hB.l2; exact zl _ (by simp; omega))
  · rw [e, List.nil_append, List.map_id']; rfl
  · obtain ⟨b, hb, rfl⟩ := mem_rng ht
    have hu : Bs[b]? = some Bs[b] := List.getElem?_eq_getElem hb
    have e1 := law_state_ok D hB hu
    rw [isW_at hu]
    have w1 := v1 (.int (0 + (b : Int)))
    have w2 := v2 (.int (0 + (b : Int)))
    rw [Int.zero_add] at w1 w2 ⊢
    clear D ht hu v1 v2 hj hk
    generalize (b : Int) = bi at *
    generalize st.set j (some (.int bi)) = st' at *
    simp only [e_B, e_m2, e_Call, e_cons, e_consK, e_consL, e_bok, e_nil, w1, w2, e1, e_m2K, e_C, e_opB, opEq_str_str, q_str_str]
theorem app_get {S J : Sto} {n : Nat} {o : O} (h : S[n]? = some o) : (S ++ J)[n]? = some o := by
  rw [List.getElem?_append_left (List.getElem?_eq_some_iff.mp h).1, h]
theorem Hd.app {S : Sto} {h : Nat} {hs : List Nat} {Bs : List (List T)} (D : Hd S h hs Bs) (J : Sto) : Hd (S ++ J) h hs Bs := ⟨app_get D.at_, D.len, fun b i us h1 h2 => app_get (D.pg b i us h1 h2)⟩
theorem Lg.app {S : Sto} {g f fh gh : Nat} {wv : T × T} {gs : List Nat} {Bs : List (List T)} {cur : Option Nat} (D : Lg S g f fh gh wv gs Bs cur) (J : Sto) : Lg (S ++ J) g f fh gh wv gs Bs cur := ⟨app_get D.o, app_get D.fo, D.hd.app J, D.bl, D.cu, D.cl⟩
theorem Hd.ln {S : Sto} {h : Nat} {hs : List Nat} {Bs : List (List T)} (D : Hd S h hs Bs) : opLen [.ref h] S = .ok (.int (Bs.length : Int)) S := by
  rw [At.len (.inr ⟨h, rfl, D.at_⟩), List.length_map, D.len]
theorem log_free {S : Sto} {g f fh gh : Nat} {wv : T × T} {gs : List Nat} {Bs : List (List T)} {cur : Option Nat} (D : Lg S g f fh gh wv gs Bs cur) : m_Log_free_blocks [.ref g] S = .ok (.lst (frL Bs "free")) S := by
  have lc := comp_log D "free" none
  have o := D.o
  have fo := D.fo
  have l2 := D.bl.l2
  unfold loO at o
  unfold fsO at fo
  clear D
  obtain ⟨n, hn⟩ : ∃ n : Int, (Bs.length : Int) = n := ⟨_, rfl⟩
  have hb : -4611686018427387904 ≤ n ∧ n < 4611686018427387904 := by omega
  rw [hn] at lc fo
  unfold m_Log_free_blocks b_Log_free_blocks
  generalize curT cur = c at *
  generalize frL Bs "free" = fr at *
  clear hn l2
  walk_at "ev*"
theorem log_closed {S : Sto} {g f fh gh : Nat} {wv : T × T} {gs : List Nat} {Bs : List (List T)} {cur : Option Nat} (D : Lg S g f fh gh wv gs Bs cur) : m_Log_closed_blocks [.ref g] S = .ok (.lst (frL Bs "closed")) S := by
  have lc := comp_log D "closed" none
  have o := D.o
  have fo := D.fo
  have l2 := D.bl.l2
  unfold loO at o
  unfold fsO at fo
  clear D
  obtain ⟨n, hn⟩ : ∃ n : Int, (Bs.length : Int) = n := ⟨_, rfl⟩
  have hb : -4611686018427387904 ≤ n ∧ n < 4611686018427387904 := by omega
  rw [hn] at lc fo
  unfold m_Log_closed_blocks b_Log_closed_blocks
  generalize curT cur = c at *
  generalize frL Bs "closed" = fr at *
  clear hn l2
  walk_at "ev*"
def usedN (Bs : List (List T)) (c : Nat) : Int := ((Bs[c]?).getD []).length
def partV (Bs : List (List T)) : Option Nat → Int
  | none => 0
  | some c => 8 - usedN Bs c
def roomV (Bs : List (List T)) (cur : Option Nat) (cp : Bool) : Int :=
  if cp = false ∧ (frL Bs "free").length = 0 then 0 else 8 * (if cp = true then ((frL Bs "free").length : Int) else (frL Bs "free").length - 1) + partV Bs cur
theorem log_room_ok {S : Sto} {g f fh gh : Nat} {wv : T × T} {gs : List Nat} {Bs : List (List T)} {cur : Option Nat} (D : Lg S g f fh gh wv gs Bs cur) (cp : Bool) : m_Log_room [.ref g, .bl cp] S = .ok (.int (roomV Bs cur cp)) S := by
  have e1 := log_free D
  have ln : opLen [.lst (frL Bs "free")] S = .ok (.int ((frL Bs "free").length : Int)) S := by walk_at "ev"
  have o := D.o
  have pc : ∀ c, cur = some c → ∃ i, opIx (.ref gh) (.int (c : Int)) S = .ok (.ref i) S ∧ m_next_page [.ref i] S = .ok (.int (usedN Bs c)) S := fun c hc => by
    have hu : Bs[c]? = some (Bs[c]'(D.cl c hc)) := List.getElem?_eq_getElem (D.cl c hc)
    obtain ⟨i, a1, a2, _⟩ := D.hd.ix hu
    refine ⟨i, a1, ?_⟩
    rw [np_us (.inr ⟨i, rfl, a2⟩) (D.bl.us _ (List.mem_of_getElem? hu))]
    unfold usedN; rw [hu]; rfl
  clear D
  unfold loO at o
  suffices h : ∃ r, m_Log_room [.ref g, .bl cp] S = .ok (.int r) S ∧ r = roomV Bs cur cp by
    obtain ⟨r, e, rfl⟩ := h; exact e
  unfold roomV
  generalize (frL Bs "free").length = fr at *
  generalize frL Bs "free" = F at *
  unfold m_Log_room b_Log_room
  obtain ⟨n, hn⟩ : ∃ n : Int, (fr : Int) = n := ⟨_, rfl⟩
  rw [hn] at ln ⊢
  cases cur with
  | none =>
    simp only [curT] at o
    clear pc
    cases cp with
    | true => exact ⟨8 * n, by walk_at "ev*", by simp [partV]⟩
    | false =>
      by_cases c : n = 0
      · subst c
        exact ⟨0, by walk_at "ev*", by rw [if_pos ⟨rfl, by omega⟩]⟩
      · exact ⟨8 * (n - 1), by clear hn; walk_at "ev*", by rw [if_neg (by rintro ⟨_, h⟩; omega)]; simp [partV]⟩
  | some d =>
    obtain ⟨i, a1, a2⟩ := pc d rfl
    simp only [curT] at o
    simp only [partV]
    generalize usedN Bs d = u at *
    generalize (d : Int) = di at *
    clear pc
    cases cp with
    | true => exact ⟨8 * n + 8 - u, by clear hn; walk_at "ev*", by simp; omega⟩
    | false =>
      by_cases c : n = 0
      · subst c
        exact ⟨0, by clear hn; walk_at "ev*", by rw [if_pos ⟨rfl, by omega⟩]⟩
      · exact ⟨8 * (n - 1) + 8 - u, by clear hn; walk_at "ev*", by rw [if_neg (by rintro ⟨_, h⟩; omega)]; simp; omega⟩
/-- what the open block among the first k gives -/
def partK (Bs : List (List T)) (cur : Option Nat) (k : Nat) : Int := match cur with
  | none => 0
  | some c => if c < k then 8 - usedN Bs c else 0
theorem stW_open {us : List T} : stW us = "open" ↔ 0 < us.length ∧ us.length < 8 := by
  unfold stW
  by_cases a : us.length = 0
  · rw [if_pos a]; constructor
    · intro h; exact absurd h (by decide)
    · intro h; omega
  · rw [if_neg a]
    by_cases b : us.length < 8
    · rw [if_pos b]; constructor
      · intro _; omega
      · intro _; rfl
    · rw [if_neg b]; constructor
      · intro h; exact absurd h (by decide)
      · intro h; omega
theorem partK_open {Bs : List (List T)} {cur : Option Nat} {k : Nat} (h : cur = some k) : partK Bs cur (k + 1) = partK Bs cur k + 8 - usedN Bs k := by
  subst h
  unfold partK
  simp only
  rw [if_pos (Nat.lt_succ_self k), if_neg (Nat.lt_irrefl k)]; omega
theorem partK_shut {Bs : List (List T)} {cur : Option Nat} {k : Nat} (h : ¬ cur = some k) : partK Bs cur (k + 1) = partK Bs cur k := by
  unfold partK
  cases cur with
  | none => rfl
  | some c =>
    have : c ≠ k := fun e => h (by rw [e])
    simp only
    by_cases q : c < k
    · rw [if_pos q, if_pos (by omega)]
    · rw [if_neg q, if_neg (by omega)]
theorem partK_all {Bs : List (List T)} {cur : Option Nat} (cl : ∀ c, cur = some c → c < Bs.length) : partK Bs cur Bs.length = partV Bs cur := by
  unfold partK partV
  cases cur with
  | none => rfl
  | some c => simp only; rw [if_pos (cl c rfl)]
/-- what is asked of the number of the open block -/
structure Cu (Bs : List (List T)) (cur : Option Nat) : Prop where
  cu : ∀ b us, Bs[b]? = some us → (cur = some b ↔ 0 < us.length ∧ us.length < 8)
  cl : ∀ c, cur = some c → c < Bs.length
theorem law_room_ok {S : Sto} {h : Nat} {hs : List Nat} {Bs : List (List T)} {cur : Option Nat} (D : Hd S h hs Bs) (hB : Bl Bs) (C : Cu Bs cur) (cp : Bool) : m__law_room [.ref h, .bl cp] S = .ok (.int (roomV Bs cur cp)) S := by
  have lc := comp_law D hB "free" [some (.ref h), some (.bl cp), none, none, none] 2 0 (fun _ => rfl) (fun _ => rfl)
  have ln := D.ln
  have lf : ∀ S, opLen [.lst (frL Bs "free")] S = .ok (.int ((frL Bs "free").length : Int)) S := fun S => by walk_at "ev"
  have l2 := hB.l2
  have pa := partK_all C.cl
  have per : ∀ b : Nat, b < Bs.length → ∃ us i, Bs[b]? = some us ∧ m__law_state [.ref h, .int (b : Int)] S = .ok (.str (stW us)) S ∧ opIx (.ref h) (.int (b : Int)) S = .ok (.ref i) S ∧ m__law_used [.ref i] S = .ok (.int (usedN Bs b)) S := fun b hb => by
    have hu : Bs[b]? = some Bs[b] := List.getElem?_eq_getElem hb
    obtain ⟨i, a1, a2, _⟩ := D.ix hu
    refine ⟨_, i, hu, law_state_ok D hB hu, a1, ?_⟩
    rw [used_eq, np_us (.inr ⟨i, rfl, a2⟩) (hB.us _ (List.mem_of_getElem? hu))]
    unfold usedN; rw [hu]; rfl
  obtain ⟨n, hn⟩ : ∃ n : Int, (Bs.length : Int) = n := ⟨_, rfl⟩
  have hb : -4611686018427387904 ≤ n ∧ n < 4611686018427387904 := by omega
  rw [hn] at lc ln
  have key : ∀ (r : Int) (o3 o2 : Option T), ∃ o2', forL none (gN 2) (mIf (mB (m2 opEq (mCall m__law_state (mCons (mV 0) (mCons (mV 2) mNil))) (mC (.str "open")))) (mSet 4 (m2 opSub (m2 opAdd (mV 4) (mC (.int 8))) (mCall m__law_used (mCons (m2 opIx (mV 0) (mV 2)) mNil)))) mPass) (rngT 0 n) [some (.ref h), some (.bl cp), o2, o3, some (.int r)] S
      = .nx [some (.ref h), some (.bl cp), o2', o3, some (.int (r + partV Bs cur))] S := by
    intro r o3 o2
    refine use_rng (C := fun x => ∃ o2', x = .nx [some (.ref h), some (.bl cp), o2', o3, some (.int (r + partV Bs cur))] S) (fun k st S' => S' = S ∧ ∃ o2', st = [some (.ref h), some (.bl cp), o2', o3, some (.int (r + partK Bs cur k))]) ?_ ?_ ?_
    · refine ⟨rfl, o2, ?_⟩
      have : partK Bs cur 0 = 0 := by unfold partK; cases cur <;> simp
      rw [this, Int.add_zero]
    · rintro k st S' hk ⟨rfl, o2', rfl⟩
      obtain ⟨us, i, hu, e1, e2, e3⟩ := per k (by omega)
      have cu := C.cu k us hu
      rw [Int.zero_add]
      by_cases c : cur = some k
      · have so := stW_open.mpr (cu.mp c)
        rw [so] at e1
        rw [partK_open c]
        generalize usedN Bs k = u at *
        generalize partK Bs cur k = pk at *
        clear cu hu pa per lc ln lf hb C
        generalize (k : Int) = ki at *
        walk_at "ev*"
        exact ⟨rfl, _, by rw [show r + (pk + 8 - u) = r + pk + 8 - u by omega]⟩
      · have so : ¬ stW us = "open" := fun e => c (cu.mpr (stW_open.mp e))
        rw [partK_shut c]
        generalize stW us = w at *
        generalize partK Bs cur k = pk at *
        clear cu hu pa per lc ln lf hb C c
        generalize (k : Int) = ki at *
        walk_at "ev*"
        exact ⟨rfl, _, rfl⟩
    · rintro st S' ⟨rfl, o2', rfl⟩
      rw [show (n - 0).toNat = Bs.length by omega, pa]
      exact ⟨o2', rfl⟩
  suffices hh : ∃ r, m__law_room [.ref h, .bl cp] S = .ok (.int r) S ∧ r = roomV Bs cur cp by
    obtain ⟨r, e, rfl⟩ := hh; exact e
  unfold roomV
  generalize (frL Bs "free").length = fr at *
  generalize frL Bs "free" = F at *
  generalize partV Bs cur = pv at *
  clear per pa l2 hn
  obtain ⟨m, hm⟩ : ∃ m : Int, (fr : Int) = m := ⟨_, rfl⟩
  rw [hm] at lf ⊢
  unfold m__law_room b__law_room
  cases cp with
  | true =>
    obtain ⟨o2', kk⟩ := key (8 * m) (some (.int m)) none
    clear hm key
    exact ⟨8 * m + pv, by walk_at "ev*", by simp⟩
  | false =>
    by_cases c : m = 0
    · clear key
      subst c
      exact ⟨0, by walk_at "ev*", by rw [if_pos ⟨rfl, by omega⟩]⟩
    · obtain ⟨o2', kk⟩ := key (8 * (m - 1)) (some (.int m)) none
      clear key
      exact ⟨8 * (m - 1) + pv, by clear hm; walk_at "ev*", by rw [if_neg (by rintro ⟨_, h⟩; omega)]; simp⟩
def Pge (t : T) : Prop := Up t ∨ t = .non
theorem pgT_pge {us : List T} (h : Us us) : ∀ t ∈ pgT us, Pge t := fun t ht => by
  unfold pgT at ht
  rcases List.mem_append.mp ht with ht | ht
  · exact .inl (h.up t ht)
  · exact .inr (List.mem_replicate.mp ht).2
theorem pge_dat {t : T} (h : Pge t) : dat t = true ∧ dep t ≤ 10 ∧ eqT t t = true := by
  rcases h with (rfl | ⟨o, _, rfl⟩) | rfl
  · exact ⟨rfl, Nat.zero_le _, by rw [q_str_str]; exact decide_eq_true rfl⟩
  · unfold recT
    exact ⟨rfl, by simp only [dp_int, dp_str, dp_tup, dp_nil, dp_cons, and_true], by simp only [q_tup_tup, q_cons, q_nil, q_int_int, q_str_str, decide_true, Bool.and_true]⟩
  · exact ⟨rfl, Nat.zero_le _, q_non_non⟩
theorem pge_dats {l : List T} (h : ∀ t ∈ l, Pge t) : dats l = true := by
  rw [dats_all, List.all_eq_true]; exact fun t ht => (pge_dat (h t ht)).1
theorem pge_deps : ∀ {l : List T}, (∀ t ∈ l, Pge t) → deps l ≤ 10
  | [], _ => Nat.zero_le _
  | t :: l, h => by rw [dp_cons]; exact ⟨(pge_dat (h t List.mem_cons_self)).2.1, pge_deps fun u hu => h u (List.mem_cons_of_mem _ hu)⟩
theorem pge_refl {l : List T} (h : ∀ t ∈ l, Pge t) : eqTs l l = true := eqTs_refl fun t ht => (pge_dat (h t ht)).2.2
theorem ne_refs {S : Sto} {a b : Nat} {l : List T} (ha : S[a]? = some (.lst l)) (hb : S[b]? = some (.lst l)) (h : ∀ t ∈ l, Pge t) : opNe (.ref a) (.ref b) S = .ok (.bl false) S := by
  have d := pge_dats h
  rw [opNe_vw (vw_ref ha d) (vw_ref hb d) (by exact d) (by exact d) (.inl (by rw [dp_lst]; exact Nat.le_trans (pge_deps h) (by decide))), q_lst_lst, pge_refl h]; rfl
theorem log_pages {S : Sto} {g f fh gh : Nat} {wv : T × T} {gs : List Nat} {Bs : List (List T)} {cur : Option Nat} (D : Lg S g f fh gh wv gs Bs cur) {b : Nat} {us : List T} (hb : Bs[b]? = some us) : m_Log_pages [.ref g, .int (b : Int)] S = .ok (.ref S.length) (S ++ [.lst (pgT us)]) := by
  have e0 := log_check D (List.getElem?_eq_some_iff.mp hb).1
  obtain ⟨i, e1, e2, _⟩ := D.hd.ix hb
  have o := D.o
  unfold loO at o
  clear D hb
  unfold m_Log_pages b_Log_pages
  generalize curT cur = c at *
  generalize (b : Int) = bi at *
  generalize pgT us = pg at *
  walk_at "ev*"
theorem ints_dat {l : List T} (h : ∀ t ∈ l, ∃ i, t = .int i) : dats l = true ∧ deps l ≤ 10 ∧ eqTs l l = true := by
  refine ⟨?_, ?_, eqTs_refl fun t ht => ?_⟩
  · rw [dats_all, List.all_eq_true]; intro t ht; obtain ⟨i, rfl⟩ := h t ht; rfl
  · induction l with
    | nil => exact Nat.zero_le _
    | cons t l ih => rw [dp_cons]; obtain ⟨i, rfl⟩ := h t List.mem_cons_self; exact ⟨Nat.zero_le _, ih fun u hu => h u (List.mem_cons_of_mem _ hu)⟩
  · obtain ⟨i, rfl⟩ := h t ht; rw [q_int_int]; exact decide_eq_true rfl
theorem frL_int {Bs : List (List T)} {w : String} : ∀ t ∈ frL Bs w, ∃ i, t = .int i := fun t ht => by
  obtain ⟨b, _, e⟩ := mem_rng (List.mem_filter.mp ht).1
  exact ⟨_, e⟩
theorem ne_ints {l : List T} (h : ∀ t ∈ l, ∃ i, t = .int i) (S : Sto) : opNe (.lst l) (.lst l) S = .ok (.bl false) S := by
  obtain ⟨h1, h2, h3⟩ := ints_dat h
  rw [opNe_lst_lst h1 h1 (Nat.le_trans h2 (by decide)), h3]; rfl
theorem same_ok {S : Sto} {g f fh gh h : Nat} {wv : T × T} {gs hs : List Nat} {Bs : List (List T)} {cur : Option Nat} (D : Lg S g f fh gh wv gs Bs cur) (E : Hd S h hs Bs) : ∃ J, m__law_same [.ref g, .ref h] S = .ok (.bl true) (S ++ J) := by
  have ln := E.ln
  have l2 := D.bl.l2
  obtain ⟨n, hn⟩ : ∃ n : Int, (Bs.length : Int) = n := ⟨_, rfl⟩
  have hb : -4611686018427387904 ≤ n ∧ n < 4611686018427387904 := by omega
  rw [hn] at ln
  unfold m__law_same b__law_same
  walk_at "ev*"
  refine use_rng (C := fun r => ∃ J, defK (r.seq _) = .ok _ (S ++ J)) (fun k st S' => ∃ J o2, S' = S ++ J ∧ st = [some (.ref g), some (.ref h), o2]) ?_ ?_ ?_
  · exact ⟨[], _, by rw [List.append_nil], rfl⟩
  · rintro k st S' hk ⟨J, o2, rfl, rfl⟩
    have hk' : k < Bs.length := by omega
    have hu : Bs[k]? = some Bs[k] := List.getElem?_eq_getElem hk'
    have D1 := D.app J
    have E1 := E.app J
    have e1 := log_state_ok D1 hu
    have e2 := law_state_ok E1 D.bl hu
    have e3 := log_pages D1 hu
    obtain ⟨i, e4, e5, e6⟩ := (E1.app [.lst (pgT Bs[k])]).ix hu
    have e7 := ne_refs (S := S ++ J ++ [.lst (pgT Bs[k])]) (a := (S ++ J).length) e_gsnoc e5 (pgT_pge (D.bl.us _ (List.mem_of_getElem? hu)))
    have o := D1.o
    unfold loO at o
    rw [Int.zero_add]
    have fin : ∀ st, st = [some (T.ref g), some (T.ref h), some (T.int (k : Int))] → (fun st S' => ∃ J o2, S' = S ++ J ∧ st = [some (T.ref g), some (T.ref h), o2]) st (S ++ J ++ [.lst (pgT Bs[k])]) := fun st e => ⟨J ++ [.lst (pgT Bs[k])], _, by rw [List.append_assoc], e⟩
    clear D1 E1 D E hu e6 e5 hb ln hn hk
    generalize curT cur = c at *
    generalize (k : Int) = ki at *
    generalize stW Bs[k] = w at *
    generalize pgT Bs[k] = pg at *
    generalize S ++ J = S1 at *
    walk_at "ev*"
    first | done | exact fin _ rfl
  · rintro st S' ⟨J, o2, rfl, rfl⟩
    have D1 := D.app J
    have E1 := E.app J
    refine ⟨J, ?_⟩
    have f1 := log_free D1
    have f2 := log_closed D1
    have c1 := comp_law E1 D.bl "free" [some (.ref g), some (.ref h), o2] 2 1 (fun _ => rfl) (fun _ => rfl)
    have c2 := comp_law E1 D.bl "closed" [some (.ref g), some (.ref h), o2] 2 1 (fun _ => rfl) (fun _ => rfl)
    have r1 := log_room_ok D1 true
    have r2 := log_room_ok D1 false
    have r3 := law_room_ok E1 D.bl ⟨D.cu, D.cl⟩ true
    have r4 := law_room_ok E1 D.bl ⟨D.cu, D.cl⟩ false
    have n1 := fun S => ne_ints (frL_int (Bs := Bs) (w := "free")) S
    have n2 := fun S => ne_ints (frL_int (Bs := Bs) (w := "closed")) S
    have ln1 := E1.ln
    have o := D1.o
    unfold loO at o
    rw [hn] at c1 c2 ln1
    clear D E D1 E1 ln hn
    generalize curT cur = c at *
    generalize frL Bs "free" = F at *
    generalize frL Bs "closed" = G at *
    generalize S ++ J = S1 at *
    walk_at "ev*"
/-! ### the records that are found -/
theorem rec_dat (o : Int) : dat (recT o) = true ∧ dep (recT o) ≤ 10 ∧ eqT (recT o) (recT o) = true := by
  unfold recT
  exact ⟨rfl, by simp only [dp_int, dp_str, dp_tup, dp_nil, dp_cons, and_true], by simp only [q_tup_tup, q_cons, q_nil, q_int_int, q_str_str, decide_true, Bool.and_true]⟩
theorem eq_rec (a b : Int) : eqT (recT a) (recT b) = decide (a = b) := by
  by_cases h : a = b
  · subst h
    rw [(rec_dat a).2.2, decide_eq_true rfl]
  · unfold recT
    rw [q_tup_tup, q_cons, q_int_int, decide_eq_false h]; rfl
def addO (l : List Int) : T → List Int
  | .tup (.int o :: _) => if o ∈ l then l else l ++ [o]
  | _ => l
theorem addO_rec {l : List Int} {o : Int} : addO l (recT o) = if o ∈ l then l else l ++ [o] := rfl
def ordB (l : List Int) (us : List T) : List Int := (pgT us).foldl addO l
def ordA (Bs : List (List T)) : List Int := Bs.foldl ordB []
theorem recs_dat (l : List Int) : dats (l.map recT) = true ∧ deps (l.map recT) ≤ 10 ∧ eqTs (l.map recT) (l.map recT) = true := by
  refine ⟨?_, ?_, eqTs_refl fun t ht => ?_⟩
  · rw [dats_all, List.all_eq_true]; intro t ht; obtain ⟨o, _, rfl⟩ := List.mem_map.mp ht; exact (rec_dat o).1
  · induction l with
    | nil => exact Nat.zero_le _
    | cons t l ih => rw [List.map_cons, dp_cons]; exact ⟨(rec_dat t).2.1, ih⟩
  · obtain ⟨o, _, rfl⟩ := List.mem_map.mp ht; exact (rec_dat o).2.2
theorem any_rec (l : List Int) (o : Int) : ((l.map recT).any fun z => eqT z (recT o)) = decide (o ∈ l) := by
  induction l with
  | nil => rfl
  | cons a l ih =>
    rw [List.map_cons, List.any_cons, ih, eq_rec]
    by_cases h : a = o
    · subst h; simp
    · have : ¬ o = a := Ne.symm h
      simp [h, this]
theorem nin_ref {S : Sto} {n : Nat} {l : List T} {x : T} (hS : S[n]? = some (.lst l)) (h1 : dats l = true) (h2 : deps l ≤ 60) (hx : dat x = true) : opNin x (.ref n) S = .ok (.bl (!l.any fun z => eqT z x)) S := by
  unfold opNin
  rw [vw_ref hS h1, vw_dat hx]
  show (if _ then _ else _) = _
  rw [if_pos ⟨hx, h1, .inr h2⟩]
theorem in_ref {S : Sto} {n : Nat} {l : List T} {x : T} (hS : S[n]? = some (.lst l)) (h1 : dats l = true) (h2 : deps l ≤ 60) (hx : dat x = true) : opIn x (.ref n) S = .ok (.bl (l.any fun z => eqT z x)) S := by
  unfold opIn
  rw [vw_ref hS h1, vw_dat hx]
  show (if _ then _ else _) = _
  rw [if_pos ⟨hx, h1, .inr h2⟩]
theorem nin_recs {S : Sto} {n : Nat} {l : List Int} {o : Int} (hS : S[n]? = some (.lst (l.map recT))) : opNin (recT o) (.ref n) S = .ok (.bl (!decide (o ∈ l))) S := by
  rw [nin_ref hS (recs_dat l).1 (Nat.le_trans (recs_dat l).2.1 (by decide)) (rec_dat o).1, any_rec]
def OrdOk (l : List Int) : Prop := l.Nodup ∧ ∀ o ∈ l, 1 ≤ o
theorem addO_ok {l : List Int} (h : OrdOk l) {t : T} (ht : Pge t) : OrdOk (addO l t) ∧ (addO l t).length ≤ l.length + 1 := by
  rcases ht with (rfl | ⟨o, ho, rfl⟩) | rfl
  · exact ⟨h, Nat.le_succ _⟩
  · rw [addO_rec]
    by_cases c : o ∈ l
    · rw [if_pos c]; exact ⟨h, Nat.le_succ _⟩
    · rw [if_neg c]
      refine ⟨⟨List.nodup_append.mpr ⟨h.1, by simp, fun a ha b hb e => ?_⟩, fun x hx => ?_⟩, by simp⟩
      · rw [List.mem_singleton.mp hb] at e; subst e; exact c ha
      · rcases List.mem_append.mp hx with hx | hx
        · exact h.2 x hx
        · rw [List.mem_singleton.mp hx]; exact ho
  · exact ⟨h, Nat.le_succ _⟩
theorem foldO_ok : ∀ (ts : List T) {l : List Int}, OrdOk l → (∀ t ∈ ts, Pge t) → OrdOk (ts.foldl addO l) ∧ (ts.foldl addO l).length ≤ l.length + ts.length
  | [], l, h, _ => ⟨h, Nat.le_refl _⟩
  | t :: ts, l, h, ht => by
    obtain ⟨h1, h2⟩ := addO_ok h (ht t List.mem_cons_self)
    obtain ⟨h3, h4⟩ := foldO_ok ts h1 fun u hu => ht u (List.mem_cons_of_mem _ hu)
    exact ⟨h3, by rw [List.foldl_cons, List.length_cons]; omega⟩
theorem foldB_ok : ∀ (Bs : List (List T)) {l : List Int}, OrdOk l → (∀ us ∈ Bs, Us us) → OrdOk (Bs.foldl ordB l) ∧ (Bs.foldl ordB l).length ≤ l.length + 8 * Bs.length
  | [], l, h, _ => ⟨h, Nat.le_refl _⟩
  | us :: Bs, l, h, hu => by
    have u := hu us List.mem_cons_self
    obtain ⟨h1, h2⟩ := foldO_ok (pgT us) h (pgT_pge u)
    rw [pgT_len u] at h2
    obtain ⟨h3, h4⟩ := foldB_ok Bs (l := ordB l us) h1 fun v hv => hu v (List.mem_cons_of_mem _ hv)
    unfold ordB at h4 h3
    unfold ordB
    exact ⟨h3, by rw [List.foldl_cons, List.length_cons]; omega⟩
noncomputable def fdB : AS := (mIf (mTAnd (mB (mN opIsi (mCons (mV 3) (mCons (mC (.ty "tuple")) mNil)))) (mB (m2 opNin (mV 3) (mV 1)))) (mExp (mML opApp (mV 1) (mCons (mV 3) mNil))) mPass)
theorem fd_inner {ck : Option (Nat × List T)} {S : Sto} {n : Nat} (a c : Option T) (hn : n = S.length) : ∀ (ts : List T) (l : List Int) (o3 : Option T), (∀ l : List Int, okC ck (S ++ [.lst (l.map recT)])) → OrdOk l → (∀ t ∈ ts, Pge t) → l.length + ts.length ≤ 1000 →
    ∃ o, forL ck (gN 3) fdB ts [a, some (.ref n), c, o3] (S ++ [.lst (l.map recT)]) = .nx [a, some (.ref n), c, o] (S ++ [.lst ((ts.foldl addO l).map recT)])
  | [], l, o3, hk, _, _, _ => ⟨o3, forL_nil _ _ _ _ _ (hk l)⟩
  | t :: ts, l, o3, hk, ho, ht, hl => by
    subst hn
    have h1 := addO_ok ho (ht t List.mem_cons_self)
    obtain ⟨o, ih⟩ := fd_inner (ck := ck) (S := S) a c rfl ts (addO l t) (some t) hk h1.1 (fun u hu => ht u (List.mem_cons_of_mem _ hu)) (by rw [List.length_cons] at hl; omega)
    refine ⟨o, ?_⟩
    rw [forL_cons _ _ _ _ _ _ _ (hk l), List.foldl_cons]
    have sz : (l.map recT).length < sizeLine := by rw [List.length_map]; exact Nat.lt_of_le_of_lt (by omega : l.length ≤ 1000) (by decide)
    rcases ht t List.mem_cons_self with (rfl | ⟨r, hr, rfl⟩) | rfl
    · have e : addO l (.str "torn") = l := rfl
      rw [e] at ih ⊢
      clear hk ho ht hl h1
      unfold fdB at *
      walk_at "ev*"
    · have nn := nin_recs (S := S ++ [.lst (l.map recT)]) (n := S.length) (l := l) (o := r) e_gsnoc
      have ity : ∀ S, opIsi [recT r, .ty "tuple"] S = .ok (.bl true) S := fun S => by unfold recT; walk_at "ev"
      rw [addO_rec] at ih ⊢
      by_cases c1 : r ∈ l
      · rw [if_pos c1] at ih ⊢
        clear hk ho ht hl h1
        unfold fdB at *
        walk_at "ev*"
      · rw [if_neg c1, show (l ++ [r]).map recT = l.map recT ++ [recT r] by rw [List.map_append]; rfl] at ih
        rw [if_neg c1]
        clear hk ho ht hl h1
        unfold fdB at *
        walk_at "ev*"
    · have e : addO l .non = l := rfl
      rw [e] at ih ⊢
      clear hk ho ht hl h1
      unfold fdB at *
      walk_at "ev*"
theorem fd_outer {ck : Option (Nat × List T)} {S : Sto} (a : Option T) : ∀ (is : List Nat) (Bs : List (List T)) (l : List Int) (o2 o3 : Option T), (∀ l : List Int, okC ck (S ++ [.lst (l.map recT)])) → is.length = Bs.length → (∀ (b : Nat) (i : Nat) us, is[b]? = some i → Bs[b]? = some us → S[i]? = some (.lst (pgT us))) → OrdOk l → (∀ us ∈ Bs, Us us) → l.length + 8 * Bs.length ≤ 900 →
    ∃ o2' o3', forL ck (gN 2) (mFor (itL (mV 2)) (gN 3) fdB) (is.map .ref) [a, some (.ref S.length), o2, o3] (S ++ [.lst (l.map recT)]) = .nx [a, some (.ref S.length), o2', o3'] (S ++ [.lst ((Bs.foldl ordB l).map recT)])
  | [], [], l, o2, o3, hk, _, _, _, _, _ => ⟨o2, o3, forL_nil _ _ _ _ _ (hk l)⟩
  | [], _ :: _, _, _, _, _, e, _, _, _, _ => by cases e
  | _ :: _, [], _, _, _, _, e, _, _, _, _ => by cases e
  | i :: is, us :: Bs, l, o2, o3, hk, hl, hg, ho, hu, hs => by
    have gi := hg 0 i us rfl rfl
    have u := hu us List.mem_cons_self
    have lt : i < S.length := (List.getElem?_eq_some_iff.mp gi).1
    have h1 := foldO_ok (pgT us) ho (pgT_pge u)
    rw [pgT_len u] at h1
    rw [List.length_cons] at hs
    obtain ⟨o3', e1⟩ := fd_inner (ck := some (i, pgT us)) (S := S) a (some (.ref i)) rfl (pgT us) l o3 (fun l => app_get gi) ho (pgT_pge u) (by rw [pgT_len u]; omega)
    obtain ⟨p2, p3, ih⟩ := fd_outer (ck := ck) (S := S) a is Bs (ordB l us) (some (.ref i)) o3' hk (by simpa using hl) (fun b j v h1 h2 => hg (b + 1) j v h1 h2) h1.1 (fun v hv => hu v (List.mem_cons_of_mem _ hv)) (by have := h1.2; unfold ordB; omega)
    refine ⟨p2, p3, ?_⟩
    have it := e_itLKr (app_get (J := [.lst (l.map recT)]) gi)
    rw [List.map_cons, forL_cons _ _ _ _ _ _ _ (hk l), List.foldl_cons]
    unfold ordB at ih ⊢
    clear hk hg ho hu hs h1 gi
    generalize pgT us = pg at *
    generalize (List.foldl addO l pg) = l2 at *
    walk_at "ev*"
def prH (o : Int) : Int × T := (o, recT o)
theorem hds_recs : ∀ l : List Int, hdsOf (l.map recT) = some (l.map prH)
  | [] => rfl
  | o :: l => by
    show (if keyb _ = true then (hdsOf (l.map recT)).map _ else none) = _
    have hk : keyb [T.int o, .str "write", .int (o % 4), .int 1, .int o, .int (1 + o % 8), .int (o % 64), .int (o * 7)] = true := rfl
    rw [if_pos hk, hds_recs l]; rfl
theorem insH_recs (o : Int) : ∀ l : List Int, insH (prH o) (l.map prH) = (insI o l).map prH
  | [] => rfl
  | a :: l => by
    show (if o ≤ a then _ else _) = List.map prH (if o ≤ a then _ else _)
    by_cases c : o ≤ a
    · rw [if_pos c, if_pos c]; rfl
    · rw [if_neg c, if_neg c, List.map_cons, ← insH_recs o l]
theorem sortH_recs : ∀ l : List Int, sortH (l.map prH) = (sortI l).map prH
  | [] => rfl
  | o :: l => by
    show insH (prH o) (sortH (l.map prH)) = (insI o (sortI l)).map prH
    rw [sortH_recs l, insH_recs]
theorem sort_recs {S : Sto} {n : Nat} {l : List Int} (hS : S[n]? = some (.lst (l.map recT))) (h : l.Nodup) : opSortH true [.ref n] S = .ok (.lst ((sortI l).map recT)) S := by
  have hd : (l.map prH).map (·.1) = l := by rw [List.map_map]; exact List.map_id l
  have e : lkL S (.ref n) = some (l.map recT) := by unfold lkL; simp only [hS]
  rw [e_sortH, e]
  show pget (hdsOf (l.map recT)) _ = _
  rw [hds_recs, e_pget, e_srtHK, hd, if_pos h, sortH_recs, List.map_map]
  rfl
theorem law_found_ok {S : Sto} {h : Nat} {hs : List Nat} {Bs : List (List T)} (D : Hd S h hs Bs) (hB : Bl Bs) : m__law_found [.ref h] S = .ok (.lst ((sortI (ordA Bs)).map recT)) (S ++ [.lst ((ordA Bs).map recT)]) := by
  obtain ⟨ok, len⟩ := foldB_ok Bs (l := []) ⟨List.nodup_nil, fun _ h => nomatch h⟩ hB.us
  have l2 := hB.l2
  obtain ⟨p2, p3, e⟩ := fd_outer (ck := some (h, hs.map .ref)) (S := S) (some (.ref h)) hs Bs [] none none (fun l => app_get D.at_) D.len D.pg ⟨List.nodup_nil, fun _ h => nomatch h⟩ hB.us (by simp; omega)
  have it := e_itLKr (app_get (J := [.lst ([].map recT)]) D.at_)
  have st := sort_recs (S := S ++ [.lst ((ordA Bs).map recT)]) (n := S.length) (l := ordA Bs) e_gsnoc ok.1
  have eo : Bs.foldl ordB [] = ordA Bs := rfl
  rw [eo] at e
  clear D hB ok len l2 eo
  generalize ordA Bs = l at *
  generalize hs.map T.ref = rs at *
  unfold m__law_found b__law_found
  unfold fdB at e
  simp only [List.map_nil] at e it
  walk_at "ev*"
def prO (o : Int) : T × T := (.int o, recT o)
theorem getT_rec (o : Int) : ∀ l : List Int, getT (.int o) (l.map prO) = if o ∈ l then some (recT o) else none
  | [] => rfl
  | a :: l => by
    show (if kEq (.int a) (.int o) = true then some (recT a) else getT (.int o) (l.map prO)) = _
    rw [getT_rec o l]
    by_cases h : a = o
    · subst h
      have k : kEq (.int a) (.int a) = true := decide_eq_true rfl
      rw [if_pos k, if_pos List.mem_cons_self]
    · rw [if_neg (by simp [kEq, h])]
      by_cases c : o ∈ l
      · rw [if_pos c, if_pos (List.mem_cons_of_mem _ c)]
      · rw [if_neg c, if_neg (by simp [c, Ne.symm h])]
theorem repD_rec (o : Int) : ∀ l : List Int, repD (.int o) (recT o) (l.map prO) = l.map prO
  | [] => rfl
  | a :: l => by
    show (if kEq (.int a) (.int o) = true then (T.int a, recT o) else (T.int a, recT a)) :: repD (.int o) (recT o) (l.map prO) = prO a :: l.map prO
    rw [repD_rec o l]
    by_cases h : a = o
    · subst h
      have k : kEq (.int a) (.int a) = true := decide_eq_true rfl
      rw [if_pos k]; rfl
    · rw [if_neg (by simp [kEq, h])]; rfl
theorem putD_rec (o : Int) (l : List Int) : putD (.int o) (recT o) (l.map prO) = (addO l (recT o)).map prO := by
  unfold putD
  rw [getT_rec, addO_rec]
  by_cases c : o ∈ l
  · rw [if_pos c, if_pos c, if_pos (show (some (recT o)).isSome = true from rfl), repD_rec]
  · rw [if_neg c, if_neg c, if_neg (by simp), List.map_append]; rfl
noncomputable def rcB : AS := (mIf (mTAnd (mB (m2 opIsnt (mV 3) (mC .non))) (mB (m2 opNe (mV 3) (mC (.str "torn"))))) (mDPut (mV 1) (m2 opIx (mV 3) (mC (.int 0))) (mV 3)) mPass)
theorem rc_inner {ck : Option (Nat × List T)} {S : Sto} (a c o4 : Option T) : ∀ (ts : List T) (l : List Int) (o3 : Option T), (∀ l : List Int, okC ck (S ++ [.dct false (l.map prO)])) → OrdOk l → (∀ t ∈ ts, Pge t) → l.length + ts.length ≤ 1000 →
    ∃ o, forL ck (gN 3) rcB ts [a, some (.ref S.length), c, o3, o4] (S ++ [.dct false (l.map prO)]) = .nx [a, some (.ref S.length), c, o, o4] (S ++ [.dct false ((ts.foldl addO l).map prO)])
  | [], l, o3, hk, _, _, _ => ⟨o3, forL_nil _ _ _ _ _ (hk l)⟩
  | t :: ts, l, o3, hk, ho, ht, hl => by
    have h1 := addO_ok ho (ht t List.mem_cons_self)
    obtain ⟨o, ih⟩ := rc_inner (ck := ck) (S := S) a c o4 ts (addO l t) (some t) hk h1.1 (fun u hu => ht u (List.mem_cons_of_mem _ hu)) (by rw [List.length_cons] at hl; omega)
    refine ⟨o, ?_⟩
    rw [forL_cons _ _ _ _ _ _ _ (hk l), List.foldl_cons]
    have sz : (l.map prO).length < sizeLine := by rw [List.length_map]; exact Nat.lt_of_le_of_lt (by omega : l.length ≤ 1000) (by decide)
    rcases ht t List.mem_cons_self with (rfl | ⟨r, hr, rfl⟩) | rfl
    · have e : addO l (.str "torn") = l := rfl
      rw [e] at ih ⊢
      clear hk ho ht hl h1
      unfold rcB at *
      walk_at "ev*"
    · have nn : ∀ S, opNe (recT r) (.str "torn") S = .ok (.bl true) S := fun S => by rw [opNe_dat (rec_dat r).1 rfl (.inr (Nat.zero_le _))]; rfl
      have ix : ∀ S, opIx (recT r) (.int 0) S = .ok (.int r) S := fun S => by unfold recT; walk_at "ev"
      have isn : isNon (recT r) = false := rfl
      have pd := putD_rec r l
      have ky : keyOk false (.int r) = true := rfl
      clear hk ho ht hl h1
      unfold rcB at *
      generalize l.map prO = ps at *
      walk_at "ev*"
    · have e : addO l .non = l := rfl
      rw [e] at ih ⊢
      clear hk ho ht hl h1
      unfold rcB at *
      walk_at "ev*"
theorem rc_outer {ck : Option (Nat × List T)} {S : Sto} (a o4 : Option T) : ∀ (is : List Nat) (Bs : List (List T)) (l : List Int) (o2 o3 : Option T), (∀ l : List Int, okC ck (S ++ [.dct false (l.map prO)])) → is.length = Bs.length → (∀ (b : Nat) (i : Nat) us, is[b]? = some i → Bs[b]? = some us → S[i]? = some (.lst (pgT us))) → OrdOk l → (∀ us ∈ Bs, Us us) → l.length + 8 * Bs.length ≤ 900 →
    ∃ o2' o3', forL ck (gN 2) (mFor (itL (mV 2)) (gN 3) rcB) (is.map .ref) [a, some (.ref S.length), o2, o3, o4] (S ++ [.dct false (l.map prO)]) = .nx [a, some (.ref S.length), o2', o3', o4] (S ++ [.dct false ((Bs.foldl ordB l).map prO)])
  | [], [], l, o2, o3, hk, _, _, _, _, _ => ⟨o2, o3, forL_nil _ _ _ _ _ (hk l)⟩
  | [], _ :: _, _, _, _, _, e, _, _, _, _ => by cases e
  | _ :: _, [], _, _, _, _, e, _, _, _, _ => by cases e
  | i :: is, us :: Bs, l, o2, o3, hk, hl, hg, ho, hu, hs => by
    have gi := hg 0 i us rfl rfl
    have u := hu us List.mem_cons_self
    have h1 := foldO_ok (pgT us) ho (pgT_pge u)
    rw [pgT_len u] at h1
    rw [List.length_cons] at hs
    obtain ⟨o3', e1⟩ := rc_inner (ck := some (i, pgT us)) (S := S) a (some (.ref i)) o4 (pgT us) l o3 (fun l => app_get gi) ho (pgT_pge u) (by rw [pgT_len u]; omega)
    obtain ⟨p2, p3, ih⟩ := rc_outer (ck := ck) (S := S) a o4 is Bs (ordB l us) (some (.ref i)) o3' hk (by simpa using hl) (fun b j v h1 h2 => hg (b + 1) j v h1 h2) h1.1 (fun v hv => hu v (List.mem_cons_of_mem _ hv)) (by have := h1.2; unfold ordB; omega)
    refine ⟨p2, p3, ?_⟩
    have it := e_itLKr (app_get (J := [.dct false (l.map prO)]) gi)
    rw [List.map_cons, forL_cons _ _ _ _ _ _ _ (hk l), List.foldl_cons]
    unfold ordB at ih ⊢
    clear hk hg ho hu hs h1 gi
    generalize pgT us = pg at *
    generalize (List.foldl addO l pg) = l2 at *
    walk_at "ev*"
theorem keys_rec (l : List Int) : intsOf ((l.map prO).map (·.1)) = some l := by
  induction l with
  | nil => rfl
  | cons a l ih =>
    show (intsOf ((l.map prO).map (·.1))).map _ = _
    rw [ih]; rfl
theorem sort_mem {l : List Int} {o : Int} : o ∈ sortI l ↔ o ∈ l := (sortI_perm l).mem_iff
theorem log_records_ok {S : Sto} {g f fh gh : Nat} {wv : T × T} {gs : List Nat} {Bs : List (List T)} {cur : Option Nat} (D : Lg S g f fh gh wv gs Bs cur) : m_Log_records [.ref g] S = .ok (.lst ((sortI (ordA Bs)).map recT)) (S ++ [.dct false ((ordA Bs).map prO)]) := by
  obtain ⟨ok, len⟩ := foldB_ok Bs (l := []) ⟨List.nodup_nil, fun _ h => nomatch h⟩ D.bl.us
  have l2 := D.bl.l2
  obtain ⟨p2, p3, e⟩ := rc_outer (ck := some (gh, gs.map .ref)) (S := S) (some (.ref g)) none gs Bs [] none none (fun l => app_get D.hd.at_) D.hd.len D.hd.pg ⟨List.nodup_nil, fun _ h => nomatch h⟩ D.bl.us (by simp; omega)
  have it := e_itLKr (app_get (J := [.dct false ([].map prO)]) D.hd.at_)
  have eo : Bs.foldl ordB [] = ordA Bs := rfl
  rw [eo] at e
  have ll : (ordA Bs).length ≤ 900 := by rw [eo] at len; simp at len; omega
  have dO : dOf (S ++ [.dct false ((ordA Bs).map prO)]) (.ref S.length) = some (false, (ordA Bs).map prO) := by unfold dOf; simp
  have st : opSortD true [.ref S.length] (S ++ [.dct false ((ordA Bs).map prO)]) = .ok (.lst ((sortI (ordA Bs)).map .int)) (S ++ [.dct false ((ordA Bs).map prO)]) := by
    rw [e_sortD, dO, e_pget, e_srtDK, keys_rec, e_pget, e_srtDL, if_pos (Nat.le_trans ll (by decide))]; rfl
  have lc : ∀ o2 o3, lcL none 4 mYes (m2 opDGet (mV 1) (mV 4)) [some (.ref g), some (.ref S.length), o2, o3, none] ((sortI (ordA Bs)).map .int) [] (S ++ [.dct false ((ordA Bs).map prO)]) = .ok ((sortI (ordA Bs)).map recT) (S ++ [.dct false ((ordA Bs).map prO)]) := fun o2 o3 => by
    have q := lcL_map (ck := none) (i := 4) (e := m2 opDGet (mV 1) (mV 4)) (st := [some (.ref g), some (.ref S.length), o2, o3, none]) (S := S ++ [.dct false ((ordA Bs).map prO)]) (f := fun t => match t with
      | .int o => recT o
      | _ => .non) (l := (sortI (ordA Bs)).map .int) (acc := []) trivial (fun t ht => ?_) (by rw [List.length_map, (sortI_perm _).length_eq]; exact Nat.le_trans (by simp; omega : _ ≤ 900) (by decide))
    · rw [q, List.nil_append, List.map_map]; rfl
    · obtain ⟨o, ho, rfl⟩ := List.mem_map.mp ht
      have gt := getT_rec o (ordA Bs)
      rw [if_pos (sort_mem.mp ho)] at gt
      have ky : keyOk false (.int o) = true := rfl
      clear e it eo len ok st ht ho
      generalize (ordA Bs).map prO = ps at *
      walk_at "ev*"
  have o := app_get (J := [O.dct false []]) D.o
  unfold loO at o
  clear D ok len l2 eo
  generalize curT cur = c at *
  generalize (sortI (ordA Bs)).map T.int = si at *
  generalize (sortI (ordA Bs)).map recT = sr at *
  generalize (ordA Bs).map prO = ps at *
  generalize gs.map T.ref = rs at *
  unfold m_Log_records b_Log_records
  unfold rcB at e
  simp only [List.map_nil] at e it
  walk_at "ev*"
def isHo (Bs : List (List T)) (o : Int) : T → Bool
  | .int i => (match Bs[i.toNat]? with
    | some us => (pgT us).any fun z => eqT z (recT o)
    | none => false)
  | _ => false
def hoL (Bs : List (List T)) (o : Int) : List T := (rngT 0 (Bs.length : Int)).filter (isHo Bs o)
theorem isHo_at {Bs : List (List T)} {o : Int} {b : Nat} {us : List T} (hb : Bs[b]? = some us) : isHo Bs o (.int (0 + (b : Int))) = (pgT us).any fun z => eqT z (recT o) := by
  show (match Bs[(0 + (b : Int)).toNat]? with
    | some us => (pgT us).any fun z => eqT z (recT o)
    | none => false) = _
  rw [show (0 + (b : Int)).toNat = b by omega, hb]
theorem in_pages {S : Sto} {i : Nat} {us : List T} (hS : S[i]? = some (.lst (pgT us))) (hu : Us us) (o : Int) : opIn (recT o) (.ref i) S = .ok (.bl ((pgT us).any fun z => eqT z (recT o))) S :=
  in_ref hS (pge_dats (pgT_pge hu)) (Nat.le_trans (pge_deps (pgT_pge hu)) (by decide)) (rec_dat o).1
theorem log_holders_ok {S : Sto} {g f fh gh : Nat} {wv : T × T} {gs : List Nat} {Bs : List (List T)} {cur : Option Nat} (D : Lg S g f fh gh wv gs Bs cur) (o : Int) : m_Log_holders [.ref g, recT o] S = .ok (.lst (hoL Bs o)) S := by
  have l2 := D.bl.l2
  have lc : ∀ o2, lcL none 2 (mB (m2 opIn (mV 1) (m2 opIx (mFld "Log" "held" (mV 0)) (mV 2)))) (mV 2) [some (.ref g), some (recT o), o2] (rngT 0 (Bs.length : Int)) [] S = .ok (hoL Bs o) S := fun o2 => by
    have e := lcL_pure (ck := none) (i := 2) (c := mB (m2 opIn (mV 1) (m2 opIx (mFld "Log" "held" (mV 0)) (mV 2)))) (e := mV 2) (st := [some (.ref g), some (recT o), o2]) (S := S) (p := isHo Bs o) (f := fun t => t) (l := rngT 0 (Bs.length : Int)) (acc := []) trivial (fun t ht => ?_) (fun t ht _ => ?_) (by rw [rng_len]; exact zl _ (by simp; omega))
    · rw [e, List.nil_append, List.map_id']; rfl
    · obtain ⟨b, hb, rfl⟩ := mem_rng ht
      have hu : Bs[b]? = some Bs[b] := List.getElem?_eq_getElem hb
      obtain ⟨i, e1, e2, _⟩ := D.hd.ix hu
      have e3 := in_pages e2 (D.bl.us _ (List.mem_of_getElem? hu)) o
      rw [isHo_at hu]
      have ob := D.o
      unfold loO at ob
      rw [Int.zero_add]
      clear D ht hu
      generalize curT cur = c at *
      generalize (b : Int) = bi at *
      generalize recT o = r at *
      generalize ((pgT Bs[b]).any fun z => eqT z r) = q at *
      walk_at "ev*"
    · walk_at "ev"
  obtain ⟨n, hn⟩ : ∃ n : Int, (Bs.length : Int) = n := ⟨_, rfl⟩
  have hb : -4611686018427387904 ≤ n ∧ n < 4611686018427387904 := by omega
  have ob := D.o
  have fo := D.fo
  unfold loO at ob
  unfold fsO at fo
  rw [hn] at lc fo
  clear D hn l2
  unfold m_Log_holders b_Log_holders
  generalize curT cur = c at *
  generalize hoL Bs o = F at *
  generalize recT o = r at *
  walk_at "ev*"
theorem comp_ho {S : Sto} {h : Nat} {hs : List Nat} {Bs : List (List T)} (D : Hd S h hs Bs) (hB : Bl Bs) (o : Int) (a2 a3 a4 a6 : Option T) (g : T) :
    lcL none 6 (mB (m2 opIn (mV 5) (m2 opIx (mV 1) (mV 6)))) (mV 6) [some g, some (.ref h), a2, a3, a4, some (recT o), a6] (rngT 0 (Bs.length : Int)) [] S = .ok (hoL Bs o) S := by
  have l2 := hB.l2
  have e := lcL_pure (ck := none) (i := 6) (c := mB (m2 opIn (mV 5) (m2 opIx (mV 1) (mV 6)))) (e := mV 6) (st := [some g, some (.ref h), a2, a3, a4, some (recT o), a6]) (S := S) (p := isHo Bs o) (f := fun t => t) (l := rngT 0 (Bs.length : Int)) (acc := []) trivial (fun t ht => ?_) (fun t ht _ => ?_) (by rw [rng_len]; exact zl _ (by simp; omega))
  · rw [e, List.nil_append, List.map_id']; rfl
  · obtain ⟨b, hb, rfl⟩ := mem_rng ht
    have hu : Bs[b]? = some Bs[b] := List.getElem?_eq_getElem hb
    obtain ⟨i, e1, e2, _⟩ := D.ix hu
    have e3 := in_pages e2 (hB.us _ (List.mem_of_getElem? hu)) o
    rw [isHo_at hu, Int.zero_add]
    clear D ht hu
    generalize (b : Int) = bi at *
    generalize recT o = r at *
    generalize ((pgT Bs[b]).any fun z => eqT z r) = q at *
    walk_at "ev*"
  · walk_at "ev"
def mx (a o : Int) : Int := if o > a then o else a
def topV : List Int → Int
  | [] => 0
  | i :: is => maxI (i :: is)
theorem mx_ok : ∀ (l : List Int) (a : Int), (l.foldl mx a = a ∨ l.foldl mx a ∈ l) ∧ a ≤ l.foldl mx a ∧ ∀ o ∈ l, o ≤ l.foldl mx a
  | [], a => ⟨.inl rfl, Int.le_refl _, fun o h => nomatch h⟩
  | o :: l, a => by
    obtain ⟨h1, h2, h3⟩ := mx_ok l (mx a o)
    rw [List.foldl_cons]
    have m1 : mx a o = a ∨ mx a o = o := by unfold mx; by_cases c : o > a; (rw [if_pos c]; exact .inr rfl); (rw [if_neg c]; exact .inl rfl)
    have m2 : a ≤ mx a o ∧ o ≤ mx a o := by unfold mx; by_cases c : o > a; (rw [if_pos c]; omega); (rw [if_neg c]; omega)
    refine ⟨?_, by omega, fun x hx => ?_⟩
    · rcases h1 with h1 | h1
      · rcases m1 with m1 | m1
        · exact .inl (h1.trans m1)
        · exact .inr (by rw [h1, m1]; exact List.mem_cons_self)
      · exact .inr (List.mem_cons_of_mem _ h1)
    · rcases List.mem_cons.mp hx with rfl | hx
      · omega
      · exact h3 x hx
theorem top_eq {l : List Int} (h : ∀ o ∈ l, 1 ≤ o) : l.foldl mx 0 = topV l := by
  obtain ⟨h1, h2, h3⟩ := mx_ok l 0
  cases l with
  | nil => rfl
  | cons i is =>
    obtain ⟨m1, m2⟩ := maxI_mem i is
    show _ = maxI (i :: is)
    rcases h1 with h1 | h1
    · have := h3 i List.mem_cons_self; have := h i List.mem_cons_self; omega
    · exact Int.le_antisymm (m2 _ h1) (h3 _ m1)
theorem ints_of (l : List Int) : intsOf (l.map .int) = some l := by
  induction l with
  | nil => rfl
  | cons a l ih =>
    show (intsOf (l.map .int)).map _ = _
    rw [ih]; rfl
theorem max_ints {S : Sto} (l : List Int) : maxDO 0 S (intsOf (l.map .int)) = .ok (.int (topV l)) S := by
  rw [ints_of]
  cases l <;> rfl
theorem log_top_ok {S : Sto} {g f fh gh : Nat} {wv : T × T} {gs : List Nat} {Bs : List (List T)} {cur : Option Nat} (D : Lg S g f fh gh wv gs Bs cur) : ∃ J, m_Log_top [.ref g] S = .ok (.int (topV (sortI (ordA Bs)))) (S ++ J) := by
  obtain ⟨ok, len⟩ := foldB_ok Bs (l := []) ⟨List.nodup_nil, fun _ h => nomatch h⟩ D.bl.us
  have l2 := D.bl.l2
  have e := log_records_ok D
  have ll : (ordA Bs).length ≤ 900 := by have : (ordA Bs).length ≤ ([] : List Int).length + 8 * Bs.length := len; simp at this; omega
  refine ⟨[.dct false ((ordA Bs).map prO)], ?_⟩
  have lc : lcL none 2 mYes (m2 opIx (mV 2) (mC (.int 0))) [some (.ref g), none, none] ((sortI (ordA Bs)).map recT) [] (S ++ [.dct false ((ordA Bs).map prO)]) = .ok ((sortI (ordA Bs)).map .int) (S ++ [.dct false ((ordA Bs).map prO)]) := by
    have q := lcL_map (ck := none) (i := 2) (e := m2 opIx (mV 2) (mC (.int 0))) (st := [some (.ref g), none, none]) (S := S ++ [.dct false ((ordA Bs).map prO)]) (f := fun t => match t with
      | .tup (x :: _) => x
      | _ => .non) (l := (sortI (ordA Bs)).map recT) (acc := []) trivial (fun t ht => ?_) (by rw [List.length_map, (sortI_perm _).length_eq]; exact Nat.le_trans (by simp; omega : _ ≤ 900) (by decide))
    · rw [q, List.nil_append, List.map_map]; rfl
    · obtain ⟨o, ho, rfl⟩ := List.mem_map.mp ht
      unfold recT
      walk_at "ev"
  have mi := max_ints (S := S ++ [.dct false ((ordA Bs).map prO)]) (sortI (ordA Bs))
  have o := D.o
  unfold loO at o
  clear D ok len l2 ll
  generalize curT cur = c at *
  generalize topV (sortI (ordA Bs)) = tv at *
  generalize (sortI (ordA Bs)).map T.int = si at *
  generalize (sortI (ordA Bs)).map recT = sr at *
  generalize S ++ [O.dct false ((ordA Bs).map prO)] = S1 at *
  unfold m_Log_top b_Log_top
  walk_at "ev*"
theorem ne_recs (l : List Int) (S : Sto) : opNe (.lst (l.map recT)) (.lst (l.map recT)) S = .ok (.bl false) S := by
  obtain ⟨h1, h2, h3⟩ := recs_dat l
  rw [opNe_lst_lst h1 h1 (Nat.le_trans h2 (by decide)), h3]; rfl
theorem hoL_int {Bs : List (List T)} {o : Int} : ∀ t ∈ hoL Bs o, ∃ i, t = .int i := fun t ht => by
  obtain ⟨b, _, e⟩ := mem_rng (List.mem_filter.mp ht).1
  exact ⟨_, e⟩
theorem rec_inj : ∀ {l m : List Int}, l.map recT = m.map recT → l = m
  | [], [], _ => rfl
  | [], _ :: _, e => by cases e
  | _ :: _, [], e => by cases e
  | a :: l, b :: m, e => by
    rw [List.map_cons, List.map_cons] at e
    injection e with e1 e2
    have h : a = b := congrArg (fun t => match t with
      | T.tup (T.int o :: _) => o
      | _ => 0) e1
    rw [h, rec_inj e2]
theorem reads_ok {S : Sto} {g f fh gh h : Nat} {wv : T × T} {gs hs : List Nat} {Bs : List (List T)} {cur : Option Nat} (D : Lg S g f fh gh wv gs Bs cur) (E : Hd S h hs Bs) : ∃ J, m__law_reads [.ref g, .ref h] S = .ok (.bl true) (S ++ J) := by
  obtain ⟨ok, _⟩ := foldB_ok Bs (l := []) ⟨List.nodup_nil, fun _ h => nomatch h⟩ D.bl.us
  have l2 := D.bl.l2
  have hB := D.bl
  have e1 := law_found_ok E hB
  have D1 := D.app [.lst ((ordA Bs).map recT)]
  have e2 := log_records_ok D1
  have D2 := D1.app [.dct false ((ordA Bs).map prO)]
  have E2 := (E.app [.lst ((ordA Bs).map recT)]).app [.dct false ((ordA Bs).map prO)]
  obtain ⟨J, e3⟩ := log_top_ok D2
  have ho := fun o => log_holders_ok D2 o
  have co := fun o a2 a3 a4 a6 => comp_ho E2 hB o a2 a3 a4 a6 (.ref g)
  have ln := E2.ln
  have tp := top_eq (l := sortI (ordA Bs)) fun o h => ok.2 o (sort_mem.mp h)
  have nr := fun S => ne_recs (sortI (ordA Bs)) S
  have ob := D2.o
  unfold loO at ob
  have ob1 := D1.o
  unfold loO at ob1
  refine ⟨[.lst ((ordA Bs).map recT)] ++ ([.dct false ((ordA Bs).map prO)] ++ J), ?_⟩
  rw [← List.append_assoc, ← List.append_assoc]
  obtain ⟨n, hn⟩ : ∃ n : Int, (Bs.length : Int) = n := ⟨_, rfl⟩
  have hb : -4611686018427387904 ≤ n ∧ n < 4611686018427387904 := by omega
  rw [hn] at co ln
  clear D1 D2 E2 D E hB ok l2 hn
  generalize topV (sortI (ordA Bs)) = tv at *
  generalize sortI (ordA Bs) = L at *
  generalize curT cur = c at *
  generalize S ++ [O.lst ((ordA Bs).map recT)] = S1 at *
  generalize S1 ++ [O.dct false ((ordA Bs).map prO)] = S2 at *
  unfold m__law_reads b__law_reads
  have body : ∀ (r a : Int) (o5 o6 : Option T), fstep (gN 5) (mSeq (mSet 4 (mN opMax2 (mCons (mV 4) (mCons (m2 opIx (mV 5) (mC (.int 0))) mNil)))) (mIf (mB (m2 opNe (mMeth "Log" "holders" m_Log_holders (mV 0) (mCons (mV 5) mNil)) (mLc true (itR1 (mCons (mN opLen (mCons (mV 1) mNil)) mNil)) 6 (mB (m2 opIn (mV 5) (m2 opIx (mV 1) (mV 6)))) (mV 6)))) (mRet (mC (.bl false))) mPass)) (recT r) [some (.ref g), some (.ref h), some (.lst (L.map recT)), some (.lst (L.map recT)), some (.int a), o5, o6] S2 = .nx [some (.ref g), some (.ref h), some (.lst (L.map recT)), some (.lst (L.map recT)), some (.int (mx a r)), some (recT r), o6] S2 := by
    intro r a o5 o6
    have h1 := ho r
    have h2 := co r (some (.lst (L.map recT))) (some (.lst (L.map recT))) (some (.int (mx a r))) o6
    have h3 := fun S => ne_ints (hoL_int (Bs := Bs) (o := r)) S
    have h4 : ∀ S, opIx (recT r) (.int 0) S = .ok (.int r) S := fun S => by unfold recT; walk_at "ev"
    clear ho co nr tp e1 e2 e3 ob1
    generalize hoL Bs r = F at *
    generalize recT r = t at *
    generalize L.map recT = LL at *
    unfold mx at *
    walk_at "ev*"
  clear ho co
  walk_at "ev*"
  refine use_lst (C := fun r => defK (r.seq _) = .ok _ _) (fun pre st S' => S' = S2 ∧ ∃ (lo : List Int) (o5 o6 : Option T), pre = lo.map recT ∧ st = [some (.ref g), some (.ref h), some (.lst (L.map recT)), some (.lst (L.map recT)), some (.int (lo.foldl mx 0)), o5, o6]) ?_ ?_ ?_
  · exact ⟨rfl, [], none, none, rfl, rfl⟩
  · rintro pre t suf st S' e ⟨rfl, lo, o5, o6, rfl, rfl⟩
    have ht : t ∈ L.map recT := by rw [e]; simp
    obtain ⟨r, _, rfl⟩ := List.mem_map.mp ht
    rw [body]
    exact ⟨rfl, lo ++ [r], _, _, by rw [List.map_append]; rfl, by rw [List.foldl_append]; rfl⟩
  · rintro st S' ⟨rfl, lo, o5, o6, e, rfl⟩
    have : lo = L := rec_inj e.symm
    subst this
    rw [tp]
    clear body nr e
    walk_at "ev*"
/-! ### a flash of an image -/
def refs (n k : Nat) : List T := (List.range k).map fun j => .ref (n + j)
theorem refs_cons (n k : Nat) : refs n (k + 1) = .ref n :: refs (n + 1) k := by
  unfold refs
  rw [List.range_succ_eq_map, List.map_cons, List.map_map, Nat.add_zero]
  congr 1
  apply List.map_congr_left
  intro j _
  show T.ref (n + (j + 1)) = T.ref (n + 1 + j)
  congr 1; omega
theorem lc_grow {i : Nat} {e : AE} {st : Slots} {f : T → List T} : ∀ (l acc : List T) (S : Sto), (∀ t ∈ l, ∀ S', e (st.set i (some t)) S' = .ok (.ref S'.length) (S' ++ [.lst (f t)])) → acc.length + l.length ≤ 1000 →
    lcL none i mYes e st l acc S = .ok (acc ++ refs S.length l.length) (S ++ l.map fun t => .lst (f t))
  | [], acc, S, _, _ => by rw [e_lc0]; simp [refs]
  | t :: l, acc, S, h, hl => by
    have ih := lc_grow (i := i) (e := e) (st := st) (f := f) l (acc ++ [.ref S.length]) (S ++ [.lst (f t)]) (fun u hu => h u (List.mem_cons_of_mem _ hu)) (by simp at hl ⊢; omega)
    have sz : acc.length < sizeLine := Nat.lt_of_le_of_lt (by simp at hl; omega : acc.length ≤ 1000) (by decide)
    rw [e_lcc]
    show (R.nox (.ok true S)).bind _ = _
    rw [e_nok, e_bok, e_lc1, if_pos rfl, h t List.mem_cons_self, e_nok, e_bok, e_lc2, if_pos sz, ih, List.length_cons, refs_cons]
    simp
theorem gA1 {α : Type} {S J : List α} {a : α} : (S ++ [a] ++ J)[S.length]? = some a := by simp
theorem gA2 {α : Type} {S J : List α} {a b : α} : (S ++ [a] ++ J ++ [b])[S.length]? = some a := by simp
theorem gA3 {α : Type} {S J K : List α} {a b : α} : (S ++ [a] ++ J ++ [b] ++ K)[S.length]? = some a := by simp
theorem gA4 {α : Type} {S J K : List α} {a b c : α} : (S ++ [a] ++ J ++ [b] ++ K ++ [c])[S.length]? = some a := by simp
theorem sA2 {α : Type} {S J : List α} {a b x : α} : (S ++ [a] ++ J ++ [b]).set S.length x = S ++ [x] ++ J ++ [b] := by simp [List.set_append]
theorem sA4 {α : Type} {S J K : List α} {a b c x : α} : (S ++ [a] ++ J ++ [b] ++ K ++ [c]).set S.length x = S ++ [x] ++ J ++ [b] ++ K ++ [c] := by simp [List.set_append]
theorem gA5 {α : Type} {S J : List α} {a b c : α} : (S ++ [a] ++ J ++ [b] ++ [c])[S.length]? = some a := by simp
theorem sA5 {α : Type} {S J : List α} {a b c x : α} : (S ++ [a] ++ J ++ [b] ++ [c]).set S.length x = S ++ [x] ++ J ++ [b] ++ [c] := by simp [List.set_append]
theorem gA6 {α : Type} {S J K : List α} {a b c d : α} : (S ++ [a] ++ J ++ [b] ++ [c] ++ K ++ [d])[S.length]? = some a := by simp
theorem sA6 {α : Type} {S J K : List α} {a b c d x : α} : (S ++ [a] ++ J ++ [b] ++ [c] ++ K ++ [d]).set S.length x = S ++ [x] ++ J ++ [b] ++ [c] ++ K ++ [d] := by simp [List.set_append]
theorem gA7 {α : Type} {S J K : List α} {a b c d e : α} : (S ++ [a] ++ J ++ [b] ++ [c] ++ K ++ [d] ++ [e])[S.length]? = some a := by simp
theorem sA7 {α : Type} {S J K : List α} {a b c d e x : α} : (S ++ [a] ++ J ++ [b] ++ [c] ++ K ++ [d] ++ [e]).set S.length x = S ++ [x] ++ J ++ [b] ++ [c] ++ K ++ [d] ++ [e] := by simp [List.set_append]
theorem init_ok (S : Sto) (n : Int) (a : 8 ≤ n) (b : n ≤ 24) : m_Flash___init__ [.ref S.length, .int n] (S ++ [.obj "Flash" []]) = .ok .non (S ++ [fsO n (S.length + 1 + n.toNat) (.ref (S.length + 1 + n.toNat + 1), .non)] ++ List.replicate n.toNat (O.lst (List.replicate 8 .non)) ++ [.lst (refs (S.length + 1) n.toNat)] ++ [.lst (List.replicate n.toNat [T.int 0]).flatten]) := by
  have e1 := between_yes (z := n) (lo := 8) (hi := 24) a b
  have g2 := @gA2 O S; have s2 := @sA2 O S
  have g3 := @gA5 O S; have s3 := @sA5 O S
  have hb : -4611686018427387904 ≤ n ∧ n < 4611686018427387904 := by omega
  have hb2 : -9223372036854775808 ≤ n ∧ n < 9223372036854775808 := by omega
  have z := zl
  have z1 : 1 * n.toNat ≤ sizeLine := zl _ (by omega)
  have z2 : (refs (S ++ [O.obj "Flash" [("blocks", .int n)]]).length (rngT 0 n).length).length ≤ sizeLine := by unfold refs; rw [List.length_map, List.length_range, rngT_len]; exact zl _ (by omega)
  have lp : ∀ st, lcL none 2 mYes (m2 (opRep false) (mN (opLst true) (mCons (mC .non) mNil)) (mC (.int 8))) st (rngT 0 n) [] (S ++ [O.obj "Flash" [("blocks", .int n)]]) = .ok (refs (S ++ [O.obj "Flash" [("blocks", .int n)]]).length (rngT 0 n).length) (S ++ [O.obj "Flash" [("blocks", .int n)]] ++ (rngT 0 n).map fun _ => .lst (List.replicate 8 .non)) := by
    intro st
    have q := lc_grow (i := 2) (e := m2 (opRep false) (mN (opLst true) (mCons (mC .non) mNil)) (mC (.int 8))) (st := st) (f := fun _ => List.replicate 8 .non) (rngT 0 n) [] (S ++ [O.obj "Flash" [("blocks", .int n)]]) (fun t _ S' => by walk_at "ev*"; rfl) (by rw [rngT_len]; simp; omega)
    rw [q, List.nil_append]
  have jl : ((rngT 0 n).map fun _ => O.lst (List.replicate 8 T.non)) = List.replicate n.toNat (O.lst (List.replicate 8 T.non)) := List.eq_replicate_iff.mpr ⟨by rw [List.length_map, rngT_len]; simp, fun o ho => by obtain ⟨_, _, rfl⟩ := List.mem_map.mp ho; rfl⟩
  have rl : refs (S ++ [O.obj "Flash" [("blocks", .int n)]]).length (rngT 0 n).length = refs (S.length + 1) n.toNat := by rw [rngT_len]; simp
  rw [rl] at z2
  simp only [jl, rl] at lp
  have hJ : (List.replicate n.toNat (O.lst (List.replicate 8 T.non))).length = n.toNat := List.length_replicate
  generalize List.replicate n.toNat (O.lst (List.replicate 8 T.non)) = J at *
  generalize refs (S.length + 1) n.toNat = rf at *
  have hZ : ∀ Z, (List.replicate n.toNat [T.int 0]).flatten = Z → (List.replicate n.toNat [T.int 0]).flatten = Z := fun _ h => h
  clear jl rl hZ
  unfold m_Flash___init__ b_Flash___init__ fsO
  clear a b
  walk_at "ev*"
def rowP (p : Int × List T) : T := .tup [.int p.1, .lst (pgT p.2)]
theorem fl_read {S : Sto} {f fh : Nat} {wv : T × T} {fs : List Nat} {Bs : List (List T)} {n : Int} (fo : S[f]? = some (fsO n fh wv)) (hn : n = Bs.length) (D : Hd S fh fs Bs) {b : Nat} {us : List T} (hb : Bs[b]? = some us) {p : Nat} (hp : p < 8) {t : T} (ht : (pgT us)[p]? = some t) : m_Flash_read [.ref f, .int (b : Int), .int (p : Int)] S = .ok t S := by
  have hb' := (List.getElem?_eq_some_iff.mp hb).1
  have e1 := between_yes (z := (b : Int)) (lo := 0) (hi := n - 1) (by omega) (by omega) S
  have e2 := between_yes (z := (p : Int)) (lo := 0) (hi := 7) (by omega) (by omega) S
  obtain ⟨i, e3, e4, _⟩ := D.ix hb
  have e5 := atN' ht
  unfold fsO at fo
  clear D hn hb hb' hp ht
  unfold m_Flash_read b_Flash_read m_Flash_check_page b_Flash_check_page m_Flash_check_block b_Flash_check_block
  generalize (b : Int) = bi at *
  generalize (p : Int) = pi at *
  generalize pgT us = pg at *
  walk_at "ev*"
theorem read_row {S : Sto} {f fh : Nat} {wv : T × T} {fs : List Nat} {Bs : List (List T)} {n : Int} (fo : S[f]? = some (fsO n fh wv)) (hn : n = Bs.length) (D : Hd S fh fs Bs) {b : Nat} {us : List T} (hb : Bs[b]? = some us) (hu : Us us) (a0 a3 a4 : Option T) :
    lcL none 4 mYes (mMeth "Flash" "read" m_Flash_read (mV 1) (mCons (mV 2) (mCons (mV 4) mNil))) [a0, some (.ref f), some (.int (b : Int)), a3, a4] (rngT 0 8) [] S = .ok (pgT us) S := by
  have q := lcL_map (ck := none) (i := 4) (e := mMeth "Flash" "read" m_Flash_read (mV 1) (mCons (mV 2) (mCons (mV 4) mNil))) (st := [a0, some (.ref f), some (.int (b : Int)), a3, a4]) (S := S) (f := fun t => match t with
    | .int i => ((pgT us)[i.toNat]?).getD .non
    | _ => .non) (l := rngT 0 8) (acc := []) trivial (fun t ht => ?_) (by rw [rngT_len]; exact zl _ (by simp))
  · rw [q, List.nil_append]
    congr 1
    have l8 := pgT_len hu
    apply List.ext_getElem?
    intro i
    unfold rngT
    rw [List.map_map, List.getElem?_map]
    by_cases c : i < 8
    · rw [List.getElem?_range (by omega)]
      simp only [Option.map_some, Function.comp]
      rw [show (0 + (i : Int)).toNat = i by omega, List.getElem?_eq_getElem (by omega)]; rfl
    · rw [List.getElem?_eq_none (by simp; omega), List.getElem?_eq_none (by omega)]; rfl
  · obtain ⟨p, hp, rfl⟩ := mem_rng (n := 8) ht
    have hp2 : (pgT us)[p]? = some ((pgT us)[p]'(by rw [pgT_len hu]; exact hp)) := List.getElem?_eq_getElem _
    have e := fl_read fo hn D hb hp hp2
    have e2 : ((pgT us)[(0 + (p : Int)).toNat]?).getD .non = (pgT us)[p]'(by rw [pgT_len hu]; exact hp) := by rw [show (0 + (p : Int)).toNat = p by omega, hp2]; rfl
    have fo' := fo
    unfold fsO at fo'
    simp only [e2]
    rw [Int.zero_add]
    generalize (pgT us)[p]'(by rw [pgT_len hu]; exact hp) = t at *
    clear e2 hp2 D fo hb hn ht
    generalize (b : Int) = bi at *
    generalize (p : Int) = pi at *
    walk_at "ev*"
theorem g1m {α : Type} {S J : List α} {a b : α} : (S ++ [a] ++ [b] ++ J)[S.length + 1]? = some b := by simp
theorem g1n {α : Type} {S J : List α} {a b c : α} : (S ++ [a] ++ [b] ++ J ++ [c])[S.length + 1]? = some b := by simp
theorem s1n {α : Type} {S J : List α} {a b c x : α} : (S ++ [a] ++ [b] ++ J ++ [c]).set (S.length + 1) x = S ++ [a] ++ [x] ++ J ++ [c] := by simp [List.set_append]
theorem g0m {α : Type} {S J : List α} {a b : α} : (S ++ [a] ++ [b] ++ J)[S.length]? = some a := by simp
theorem s0m {α : Type} {S J : List α} {a b x : α} : (S ++ [a] ++ [b] ++ J).set S.length x = S ++ [x] ++ [b] ++ J := by simp [List.set_append]
def lo0 (f m : Nat) : O := .obj "Log" [("flash", .ref f), ("held", .ref m)]
structure LI (S : Sto) (f : Nat) (Bs : List (List T)) (k : Nat) (hs : List Nat) (J : Sto) : Prop where
  len : hs.length = k
  pg : ∀ (b : Nat) (i : Nat) us, hs[b]? = some i → Bs[b]? = some us → S.length + 2 ≤ i ∧ J[i - (S.length + 2)]? = some (.lst (pgT us))
  nd : hs.Nodup
  lt : ∀ i ∈ hs, S.length + 2 ≤ i ∧ i < S.length + 2 + J.length
theorem LI.put {S : Sto} {f : Nat} {Bs : List (List T)} {k : Nat} {hs : List Nat} {J : Sto} (h : LI S f Bs k hs J) {us : List T} (hu : Bs[k]? = some us) : LI S f Bs (k + 1) (hs ++ [S.length + 2 + J.length]) (J ++ [.lst (pgT us)]) := by
  refine ⟨by simp [h.len], fun b i vs h1 h2 => ?_, ?_, fun i hi => ?_⟩
  rotate_left
  · rw [List.nodup_append]
    exact ⟨h.nd, List.nodup_cons.mpr ⟨by simp, List.nodup_nil⟩, fun a ha b hb e => by have := (h.lt a ha).2; rw [List.mem_singleton.mp hb] at e; omega⟩
  · rcases List.mem_append.mp hi with hi | hi
    · have := h.lt i hi; simp; omega
    · rw [List.mem_singleton.mp hi]; simp
  by_cases c : b < hs.length
  · rw [List.getElem?_append_left c] at h1
    obtain ⟨p, q⟩ := h.pg b i vs h1 h2
    exact ⟨p, app_get q⟩
  · rw [List.getElem?_append_right (by omega)] at h1
    have hb : b = hs.length := by
      have := (List.getElem?_eq_some_iff.mp h1).1
      simp at this; omega
    subst hb
    rw [Nat.sub_self] at h1
    cases h1
    rw [h.len] at h2
    rw [hu] at h2
    cases h2
    exact ⟨by omega, by rw [show S.length + 2 + J.length - (S.length + 2) = J.length by omega]; simp⟩
theorem zlt : ∀ n : Nat, n ≤ 100 → n < sizeLine := fun n h => Nat.lt_of_le_of_lt h (by decide)
noncomputable def liB : AS := (mExp (mML opApp (mFld "Log" "held" (mV 0)) (mCons (mLc false (itR1 (mCons (mC (.int 8)) mNil)) 4 mYes (mMeth "Flash" "read" m_Flash_read (mV 1) (mCons (mV 2) (mCons (mV 4) mNil)))) mNil)))
theorem li_hd {S : Sto} {f : Nat} {Bs : List (List T)} {k : Nat} {hs : List Nat} {J : Sto} {a : O} (h : LI S f Bs k hs J) (hk : k = Bs.length) : Hd (S ++ [a] ++ [.lst (hs.map .ref)] ++ J) (S.length + 1) hs Bs := by
  refine ⟨g1m, by rw [h.len, hk], fun b i us h1 h2 => ?_⟩
  obtain ⟨p, q⟩ := h.pg b i us h1 h2
  rw [List.getElem?_append_right (by simp; omega), show i - (S ++ [a] ++ [O.lst (hs.map T.ref)]).length = i - (S.length + 2) by simp]
  exact q
theorem li_loop {S : Sto} {f fh : Nat} {wv : T × T} {fs : List Nat} {Bs : List (List T)} (fo : S[f]? = some (fsO (Bs.length : Int) fh wv)) (D : Hd S fh fs Bs) (hB : Bl Bs) (a4 : Option T) : ∃ hs J o2, forL none (gN 2) liB (rngT 0 (Bs.length : Int)) [some (.ref S.length), some (.ref f), none, none, a4] (S ++ [lo0 f (S.length + 1)] ++ [.lst []]) = .nx [some (.ref S.length), some (.ref f), o2, none, a4] (S ++ [lo0 f (S.length + 1)] ++ [.lst (hs.map .ref)] ++ J) ∧ LI S f Bs Bs.length hs J := by
  have l2 := hB.l2
  refine use_rng (C := fun r => ∃ hs J o2, r = .nx [some (.ref S.length), some (.ref f), o2, none, a4] (S ++ [lo0 f (S.length + 1)] ++ [.lst (hs.map .ref)] ++ J) ∧ LI S f Bs Bs.length hs J) (fun k st S' => ∃ hs J o2, st = [some (.ref S.length), some (.ref f), o2, none, a4] ∧ S' = S ++ [lo0 f (S.length + 1)] ++ [.lst (hs.map .ref)] ++ J ∧ LI S f Bs k hs J) ?_ ?_ ?_
  · exact ⟨[], [], none, rfl, by simp, rfl, (fun b i us h1 _ => by simp at h1), List.nodup_nil, fun i hi => by cases hi⟩
  · rintro k st S' hk ⟨hs, J, o2, rfl, rfl, I⟩
    have hk' : k < Bs.length := by omega
    have hu : Bs[k]? = some Bs[k] := List.getElem?_eq_getElem hk'
    have I' := I.put hu
    have us := hB.us _ (List.mem_of_getElem? hu)
    have fo1 : (S ++ [lo0 f (S.length + 1)] ++ [.lst (hs.map .ref)] ++ J)[f]? = some (fsO (Bs.length : Int) fh wv) := app_get (app_get (app_get fo))
    have D1 := ((D.app [lo0 f (S.length + 1)]).app [.lst (hs.map .ref)]).app J
    have lc := fun a0 a3 a4 => read_row fo1 rfl D1 hu us a0 a3 a4
    have sz : (hs.map T.ref).length < sizeLine := by rw [List.length_map, I.len]; exact zlt _ (by omega)
    have g1 := @g1m O S; have g2 := @g1n O S; have s2 := @s1n O S; have g0 := @g0m O S
    have hl : (S ++ [lo0 f (S.length + 1)] ++ [O.lst (hs.map .ref)] ++ J).length = S.length + 2 + J.length := by simp; omega
    have fin : ∃ hs' J' o2, [some (T.ref S.length), some (.ref f), some (.int (k : Int)), none, a4] = [some (T.ref S.length), some (.ref f), o2, none, a4] ∧ S ++ [lo0 f (S.length + 1)] ++ [O.lst (hs.map .ref ++ [.ref (S.length + 2 + J.length)])] ++ J ++ [.lst (pgT Bs[k])] = S ++ [lo0 f (S.length + 1)] ++ [.lst (hs'.map .ref)] ++ J' ∧ LI S f Bs (k + 1) hs' J' := ⟨_, _, _, rfl, by rw [List.map_append]; simp only [List.append_assoc]; rfl, I'⟩
    rw [Int.zero_add]
    clear I I' us D1 fo1 hu D fo hk
    have g3 : (S ++ [lo0 f (S.length + 1)] ++ [O.lst (hs.map .ref)] ++ J)[S.length]? = some (lo0 f (S.length + 1)) := g0
    generalize (k : Int) = ki at *
    generalize pgT Bs[k] = pg at *
    generalize hs.map T.ref = rs at *
    have g4 : (S ++ [lo0 f (S.length + 1)] ++ [O.lst rs] ++ J)[S.length + 1]? = some (.lst rs) := g1
    have g5 : (S ++ [lo0 f (S.length + 1)] ++ [O.lst rs] ++ J ++ [O.lst pg])[S.length + 1]? = some (.lst rs) := g2
    have s5 : ∀ x, (S ++ [lo0 f (S.length + 1)] ++ [O.lst rs] ++ J ++ [O.lst pg]).set (S.length + 1) x = S ++ [lo0 f (S.length + 1)] ++ [x] ++ J ++ [O.lst pg] := fun x => s2
    clear g0 g1 g2 s2
    generalize hS1 : S ++ [lo0 f (S.length + 1)] ++ [O.lst rs] ++ J = S1 at *
    clear hS1
    unfold lo0 at g3
    unfold liB
    walk_at "ev*"
    first | done | exact fin
  · rintro st S' ⟨hs, J, o2, rfl, rfl, I⟩
    exact ⟨hs, J, o2, rfl, by rw [show ((Bs.length : Int) - 0).toNat = Bs.length by omega] at I; exact I⟩
/-! ### opening a log: which blocks are begun -/
theorem comp_begun {S : Sto} {g f gh : Nat} {gs : List Nat} {Bs : List (List T)} (o : S[g]? = some (lo0 f gh)) (D : Hd S gh gs Bs) (hB : Bl Bs) (a1 a2 a3 a4 : Option T) :
    lcL none 2 (mB (mChain opLt opLt (mC (.int 0)) (mCall m_next_page (mCons (m2 opIx (mFld "Log" "held" (mV 0)) (mV 2)) mNil)) (mC (.int 8)))) (mV 2) [some (.ref g), a1, a2, a3, a4] (rngT 0 (Bs.length : Int)) [] S = .ok (frL Bs "open") S := by
  have e := lcL_pure (ck := none) (i := 2) (c := mB (mChain opLt opLt (mC (.int 0)) (mCall m_next_page (mCons (m2 opIx (mFld "Log" "held" (mV 0)) (mV 2)) mNil)) (mC (.int 8)))) (e := mV 2) (st := [some (.ref g), a1, a2, a3, a4]) (S := S) (p := isW Bs "open") (f := fun t => t) (l := rngT 0 (Bs.length : Int)) (acc := []) trivial (fun t ht => ?_) (fun t ht _ => ?_) (by rw [rng_len]; have := hB.l2; exact zl _ (by simp; omega))
  · rw [e, List.nil_append, List.map_id']; rfl
  · obtain ⟨b, hb, rfl⟩ := mem_rng ht
    have hu : Bs[b]? = some Bs[b] := List.getElem?_eq_getElem hb
    obtain ⟨i, e1, e2, _⟩ := D.ix hu
    have us := hB.us _ (List.mem_of_getElem? hu)
    have e3 := np_us (.inr ⟨i, rfl, e2⟩) us
    have hl := us.len
    rw [isW_at hu, Int.zero_add]
    unfold lo0 at o
    have so : stW Bs[b] = "open" ↔ 0 < Bs[b].length ∧ Bs[b].length < 8 := stW_open
    generalize stW Bs[b] = w at *
    clear e2 us D hB ht hu
    obtain ⟨n, hn⟩ : ∃ n : Int, (Bs[b].length : Int) = n := ⟨_, rfl⟩
    rw [hn] at e3
    by_cases c0 : (0 : Int) < n
    · by_cases c8 : n < 8
      · have : w = "open" := so.mpr ⟨by omega, by omega⟩
        subst this
        clear so hn hl
        generalize (b : Int) = bi at *
        walk_at "ev*"
      · have : ¬ w = "open" := fun h => by have := so.mp h; omega
        clear so hn hl
        generalize (b : Int) = bi at *
        walk_at "ev*"
    · have : ¬ w = "open" := fun h => by have := so.mp h; omega
      clear so hn hl
      generalize (b : Int) = bi at *
      walk_at "ev*"
  · walk_at "ev"
theorem frL_mem {Bs : List (List T)} {w : String} {t : T} : t ∈ frL Bs w ↔ ∃ b us, t = .int ((b : Nat) : Int) ∧ Bs[b]? = some us ∧ stW us = w := by
  unfold frL
  rw [List.mem_filter]
  constructor
  · rintro ⟨h1, h2⟩
    obtain ⟨b, hb, rfl⟩ := mem_rng h1
    have hu : Bs[b]? = some Bs[b] := List.getElem?_eq_getElem hb
    rw [isW_at hu] at h2
    exact ⟨b, _, by rw [Int.zero_add], hu, of_decide_eq_true h2⟩
  · rintro ⟨b, us, rfl, hu, hw⟩
    have hb := (List.getElem?_eq_some_iff.mp hu).1
    refine ⟨?_, ?_⟩
    · unfold rngT
      exact List.mem_map.mpr ⟨b, List.mem_range.mpr (by omega), by rw [Int.zero_add]⟩
    · have := isW_at (w := w) hu
      rw [Int.zero_add] at this
      rw [this]; exact decide_eq_true hw
theorem frL_nd {Bs : List (List T)} {w : String} : (frL Bs w).Nodup := by
  unfold frL rngT
  refine List.Pairwise.filter _ ?_
  exact List.Pairwise.map _ (fun a b (h : a ≠ b) e => h (by injection e with e; omega)) List.nodup_range
theorem s2m {α : Type} {S : List α} {a b x : α} : (S ++ [a] ++ [b]).set S.length x = S ++ [x] ++ [b] := by simp [List.set_append]
theorem g2m {α : Type} {S : List α} {a b : α} : (S ++ [a] ++ [b])[S.length]? = some a := by simp
theorem init_two {S : Sto} {f fh : Nat} {wv : T × T} {fs : List Nat} {Bs : List (List T)} (fo : S[f]? = some (fsO (Bs.length : Int) fh wv)) (D : Hd S fh fs Bs) (hB : Bl Bs) (h : 1 < (frL Bs "open").length) : ∃ J, m_Log___init__ [.ref S.length, .ref f] (S ++ [.obj "Log" []]) = .exc "BadFlash" (S ++ J) := by
  obtain ⟨hs, J, o2, e1, I⟩ := li_loop fo D hB none
  have D1 : Hd (S ++ [lo0 f (S.length + 1)] ++ [.lst (hs.map .ref)] ++ J) (S.length + 1) hs Bs := li_hd I rfl
  have cb := comp_begun (f := f) (g := S.length) g0m D1 hB (some (.ref f)) o2 none none
  have fo1 : ∀ x y, (S ++ [x] ++ [y])[f]? = some (fsO (Bs.length : Int) fh wv) := fun x y => app_get (app_get fo)
  have fo2 : ∀ x y, (S ++ [x] ++ [y] ++ J)[f]? = some (fsO (Bs.length : Int) fh wv) := fun x y => app_get (app_get (app_get fo))
  refine ⟨[lo0 f (S.length + 1)] ++ [.lst (hs.map .ref)] ++ J, ?_⟩
  have ln : ∀ o : O, (S ++ [o]).length = S.length + 1 := fun o => by simp
  have s2 := @s2m O S
  have g2 := @g2m O S
  have l2 := hB.l2
  obtain ⟨n, hn⟩ : ∃ n : Int, (Bs.length : Int) = n := ⟨_, rfl⟩
  have hb : -4611686018427387904 ≤ n ∧ n < 4611686018427387904 := by omega
  rw [hn] at e1 cb fo1 fo2
  obtain ⟨k, hk, h1⟩ : ∃ k : Int, (∀ S, opLen [.lst (frL Bs "open")] S = .ok (.int k) S) ∧ 1 < k := ⟨((frL Bs "open").length : Int), fun S => by walk_at "ev", by omega⟩
  have ap : S ++ ([lo0 f (S.length + 1)] ++ [O.lst (hs.map .ref)] ++ J) = S ++ [lo0 f (S.length + 1)] ++ [O.lst (hs.map .ref)] ++ J := by simp only [List.append_assoc]
  rw [ap]
  clear ap D1 I D fo hn l2 h hB
  generalize frL Bs "open" = fr at *
  generalize hs.map T.ref = rs at *
  unfold fsO at fo1 fo2
  unfold liB at e1
  unfold lo0 at *
  unfold m_Log___init__ b_Log___init__
  walk_at "ev*"
def opL : Option Nat → List T
  | none => []
  | some c => [.int (c : Int)]
theorem init_one {S : Sto} {f fh : Nat} {wv : T × T} {fs : List Nat} {Bs : List (List T)} {cur : Option Nat} (fo : S[f]? = some (fsO (Bs.length : Int) fh wv)) (D : Hd S fh fs Bs) (hB : Bl Bs) (C : Cu Bs cur) : ∃ J gh gs, m_Log___init__ [.ref S.length, .ref f] (S ++ [.obj "Log" []]) = .ok .non (S ++ J) ∧ Lg (S ++ J) S.length f fh gh wv gs Bs cur ∧ gs.Nodup ∧ ∀ i ∈ gs, S.length ≤ i := by
  obtain ⟨hs, J, o2, e1, I⟩ := li_loop fo D hB none
  have D1 : ∀ x, Hd (S ++ [x] ++ [.lst (hs.map .ref)] ++ J) (S.length + 1) hs Bs := fun x => li_hd I rfl
  have cb := comp_begun (f := f) (g := S.length) g0m (D1 _) hB (some (.ref f)) o2 none none
  have fo1 : ∀ x y, (S ++ [x] ++ [y])[f]? = some (fsO (Bs.length : Int) fh wv) := fun x y => app_get (app_get fo)
  have fo2 : ∀ x y, (S ++ [x] ++ [y] ++ J)[f]? = some (fsO (Bs.length : Int) fh wv) := fun x y => app_get (app_get (app_get fo))
  have ap : ∀ x, S ++ ([x] ++ [O.lst (hs.map .ref)] ++ J) = S ++ [x] ++ [O.lst (hs.map .ref)] ++ J := fun x => by simp only [List.append_assoc]
  have fr : frL Bs "open" = opL cur := by
    have nd := @frL_nd Bs "open"
    have mm := @frL_mem Bs "open"
    have hm : ∀ t ∈ frL Bs "open", ∃ c, cur = some c ∧ t = .int (c : Int) := fun t ht => by
      obtain ⟨b, us, e, hb, hw⟩ := mm.mp ht
      exact ⟨b, (C.cu b us hb).mpr (stW_open.mp hw), e⟩
    cases cur with
    | none =>
      cases hf : frL Bs "open" with
      | nil => rfl
      | cons t l => obtain ⟨c, hc, _⟩ := hm t (by rw [hf]; exact List.mem_cons_self); cases hc
    | some c =>
      have hin : T.int (c : Int) ∈ frL Bs "open" := mm.mpr ⟨c, _, rfl, List.getElem?_eq_getElem (C.cl c rfl), stW_open.mpr ((C.cu c _ (List.getElem?_eq_getElem (C.cl c rfl))).mp rfl)⟩
      rcases hf : frL Bs "open" with _ | ⟨t, _ | ⟨u, l⟩⟩
      · rw [hf] at hin; cases hin
      · rw [hf] at hin; rw [← List.mem_singleton.mp hin]; rfl
      · obtain ⟨_, h1, h2⟩ := hm t (by rw [hf]; exact List.mem_cons_self)
        obtain ⟨_, h3, h4⟩ := hm u (by rw [hf]; exact List.mem_cons_of_mem _ List.mem_cons_self)
        cases h1; cases h3
        rw [hf, h2, h4] at nd
        exact absurd List.mem_cons_self (List.nodup_cons.mp nd).1
  have ln : ∀ o : O, (S ++ [o]).length = S.length + 1 := fun o => by simp
  have s2 := @s2m O S
  have g2 := @g2m O S
  have s0 := @s0m O S
  have l2 := hB.l2
  obtain ⟨n, hn⟩ : ∃ n : Int, (Bs.length : Int) = n := ⟨_, rfl⟩
  have hb : -4611686018427387904 ≤ n ∧ n < 4611686018427387904 := by omega
  have fin : ∃ gh gs, Lg (S ++ [loO f (S.length + 1) cur] ++ [.lst (hs.map .ref)] ++ J) S.length f fh gh wv gs Bs cur ∧ gs.Nodup ∧ ∀ i ∈ gs, S.length ≤ i := ⟨_, hs, ⟨g0m, fo2 _ _, D1 _, hB, C.cu, C.cl⟩, I.nd, fun i hi => by have := (I.lt i hi).1; omega⟩
  suffices h : m_Log___init__ [.ref S.length, .ref f] (S ++ [.obj "Log" []]) = .ok .non (S ++ [loO f (S.length + 1) cur] ++ [.lst (hs.map .ref)] ++ J) by
    obtain ⟨gh, gs, fin⟩ := fin
    exact ⟨[loO f (S.length + 1) cur] ++ [.lst (hs.map .ref)] ++ J, gh, gs, by rw [ap]; exact h, by rw [ap]; exact fin⟩
  rw [hn] at e1 cb fo1 fo2
  rw [fr] at cb
  have gg := @g0m O S
  clear fin ap D1 I D fo hn l2 C hB fr
  generalize hs.map T.ref = rs at *
  unfold fsO at fo1 fo2
  unfold liB at e1
  unfold lo0 at *
  unfold loO
  unfold m_Log___init__ b_Log___init__
  cases cur with
  | none =>
    simp only [curT, opL] at *
    walk_at "ev*"
    rfl
  | some c =>
    simp only [curT, opL] at *
    generalize (c : Int) = ci at *
    walk_at "ev*"
    rfl
/-! ### the image of a flash; the pages that the law draws -/
theorem row_at {R : List (Int × List T)} {b : Nat} (hb : b < R.length) : (R.map fun p => p.2)[b]? = some (R[b]).2 ∧ atI (R.map fun p => T.int p.1) (b : Int) = some (.int (R[b]).1) := by
  refine ⟨by rw [List.getElem?_map, List.getElem?_eq_getElem hb]; rfl, ?_⟩
  rw [Ab.atI_nat, List.getElem?_map, List.getElem?_eq_getElem hb]; rfl
theorem rows_rng (R : List (Int × List T)) (f : T → T) (h : ∀ b : Nat, (hb : b < R.length) → f (.int (0 + (b : Int))) = rowP R[b]) : (rngT 0 (R.length : Int)).map f = R.map rowP := by
  apply List.ext_getElem?
  intro i
  unfold rngT
  rw [List.map_map, List.getElem?_map, List.getElem?_map]
  by_cases c : i < R.length
  · rw [List.getElem?_range (by omega), List.getElem?_eq_getElem c]
    simp only [Option.map_some, Function.comp]
    rw [h i c]
  · rw [List.getElem?_eq_none (by simp; omega), List.getElem?_eq_none (by omega)]; rfl
def rowF (R : List (Int × List T)) : T → T
  | .int i => ((R[i.toNat]?).map rowP).getD .non
  | _ => .non
theorem rowF_at {R : List (Int × List T)} {b : Nat} (hb : b < R.length) : rowF R (.int (0 + (b : Int))) = rowP R[b] := by
  show ((R[(0 + (b : Int)).toNat]?).map rowP).getD .non = _
  rw [show (0 + (b : Int)).toNat = b by omega, List.getElem?_eq_getElem hb]; rfl
theorem fl_image {S : Sto} {f fh wn : Nat} {lf : T} {fs : List Nat} {R : List (Int × List T)} (fo : S[f]? = some (fsO (R.length : Int) fh (.ref wn, lf))) (ww : S[wn]? = some (.lst (R.map fun p => .int p.1))) (D : Hd S fh fs (R.map fun p => p.2)) (l2 : R.length ≤ 24) : m_Flash_image [.ref f] S = .ok (.lst (R.map rowP)) S := by
  have q := lcL_map (ck := none) (i := 1) (e := mN opTup (mCons (m2 opIx (mFld "Flash" "wears" (mV 0)) (mV 1)) (mCons (mN (opList true) (mCons (m2 opIx (mFld "Flash" "held" (mV 0)) (mV 1)) mNil)) mNil))) (st := [some (.ref f), none]) (S := S) (f := rowF R) (l := rngT 0 (R.length : Int)) (acc := []) trivial (fun t ht => ?_) (by rw [rng_len]; exact zl _ (by simp; omega))
  · rw [List.nil_append, rows_rng R _ fun b hb => rowF_at hb] at q
    obtain ⟨n, hn⟩ : ∃ n : Int, (R.length : Int) = n := ⟨_, rfl⟩
    have hb : -4611686018427387904 ≤ n ∧ n < 4611686018427387904 := by omega
    rw [hn] at q fo
    clear D hn l2
    unfold fsO at fo
    generalize R.map rowP = rows at *
    unfold m_Flash_image b_Flash_image
    walk_at "ev*"
  · obtain ⟨b, hb, rfl⟩ := mem_rng ht
    obtain ⟨r1, r2⟩ := row_at hb
    obtain ⟨i, e1, e2, _⟩ := D.ix r1
    rw [rowF_at hb, Int.zero_add]
    unfold fsO at fo
    unfold rowP
    clear D r1 ht l2
    generalize R[b].2 = us at *
    generalize R[b].1 = w at *
    generalize (R.length : Int) = n at *
    generalize (R.map fun p => T.int p.1) = W at *
    generalize pgT us = pg at *
    generalize (b : Int) = bi at *
    walk_at "ev*"
theorem lrec_ok (o : Int) (S : Sto) : m__law_record [.int o] S = .ok (recT o) S := by
  unfold m__law_record b__law_record recT
  walk_at "ev*"
/-! ### the block that is opened next -/
def wN (ws : List Int) (b : Nat) : Int := (ws[b]?).getD 0
def Best (Bs : List (List T)) (ws : List Int) (k c : Nat) : Prop := c < k ∧ (∃ us, Bs[c]? = some us ∧ stW us = "free") ∧ ∀ b us, b < k → Bs[b]? = some us → stW us = "free" → leP (wN ws c, (c : Int)) (wN ws b, (b : Int))
theorem Best.uniq {Bs : List (List T)} {ws : List Int} {k c d : Nat} (a : Best Bs ws k c) (b : Best Bs ws k d) : c = d := by
  obtain ⟨c1, ⟨us, c2, c3⟩, c4⟩ := a
  obtain ⟨d1, ⟨vs, d2, d3⟩, d4⟩ := b
  have x := c4 d vs d1 d2 d3
  have y := d4 c us c1 c2 c3
  unfold leP at x y
  simp only at x y
  omega
theorem wat {ws : List Int} {b : Nat} (h : b < ws.length) : atI (ws.map T.int) (b : Int) = some (.int (wN ws b)) := by
  rw [Ab.atI_nat, List.getElem?_map]
  unfold wN
  rw [List.getElem?_eq_getElem h]; rfl
theorem wear_ok {S : Sto} {f fh wn : Nat} {lf : T} {ws : List Int} {n : Int} (fo : S[f]? = some (fsO n fh (.ref wn, lf))) (ww : S[wn]? = some (.lst (ws.map .int))) (hn : n = ws.length) {b : Nat} (hb : b < ws.length) : m_Flash_wear [.ref f, .int (b : Int)] S = .ok (.int (wN ws b)) S := by
  have e1 := between_yes (z := (b : Int)) (lo := 0) (hi := n - 1) (by omega) (by omega) S
  have e2 := wat hb
  unfold fsO at fo
  clear hn hb
  unfold m_Flash_wear b_Flash_wear m_Flash_check_block b_Flash_check_block
  generalize (b : Int) = bi at *
  generalize wN ws b = w at *
  generalize ws.map T.int = W at *
  walk_at "ev*"
def wpF (ws : List Int) : T → Int × Int
  | .int i => (wN ws i.toNat, i)
  | _ => (0, 0)
theorem prs_map (ws : List Int) : ∀ l : List T, (∀ t ∈ l, ∃ i, t = .int i) → prsOf (l.map fun t => prT (wpF ws t)) = some (l.map (wpF ws))
  | [], _ => rfl
  | t :: l, h => by
    have ih := prs_map ws l fun u hu => h u (List.mem_cons_of_mem _ hu)
    obtain ⟨i, rfl⟩ := h t List.mem_cons_self
    show (prsOf (l.map fun t => prT (wpF ws t))).map _ = _
    rw [ih]; rfl
theorem stW_free {us : List T} : stW us = "free" ↔ us.length = 0 := by
  unfold stW
  by_cases a : us.length = 0
  · rw [if_pos a]; exact ⟨fun _ => a, fun _ => rfl⟩
  · rw [if_neg a]
    by_cases b : us.length < 8
    · rw [if_pos b]; exact ⟨fun h => absurd h (by decide), fun h => absurd h a⟩
    · rw [if_neg b]; exact ⟨fun h => absurd h (by decide), fun h => absurd h a⟩
theorem choose_ok {S : Sto} {g f fh gh wn : Nat} {lf : T} {ws : List Int} {gs : List Nat} {Bs : List (List T)} {cur : Option Nat} (D : Lg S g f fh gh (.ref wn, lf) gs Bs cur) (ww : S[wn]? = some (.lst (ws.map .int))) (hw : ws.length = Bs.length) (hf : frL Bs "free" ≠ []) : ∃ c, m_Log_choose [.ref g] S = .ok (.int (c : Nat)) S ∧ Best Bs ws Bs.length c := by
  have e1 := log_free D
  have mm := @frL_mem Bs "free"
  have hi := @frL_int Bs "free"
  have fo := D.fo
  have o := D.o
  have q := lcL_map (ck := none) (i := 1) (e := mN opTup (mCons (mMeth "Flash" "wear" m_Flash_wear (mFld "Log" "flash" (mV 0)) (mCons (mV 1) mNil)) (mCons (mV 1) mNil))) (st := [some (.ref g), none]) (S := S) (f := fun t => prT (wpF ws t)) (l := frL Bs "free") (acc := []) trivial (fun t ht => by
    obtain ⟨b, us, rfl, hb, _⟩ := mm.mp ht
    have bl := (List.getElem?_eq_some_iff.mp hb).1
    have e2 := wear_ok fo ww (by omega) (b := b) (by omega)
    have e3 : prT (wpF ws (.int (b : Int))) = .tup [.int (wN ws b), .int (b : Int)] := by
      show T.tup [.int (wN ws (b : Int).toNat), .int (b : Int)] = _
      rw [show (b : Int).toNat = b by omega]
    simp only [e3]
    clear e3 bl hb ht mm hi e1
    unfold fsO at fo
    unfold loO at o
    generalize (b : Int) = bi at *
    generalize wN ws b = w at *
    clear ww
    generalize (Bs.length : Int) = n at *
    generalize curT cur = c at *
    clear D
    walk_at "ev*") (by
      have : (frL Bs "free").length ≤ (rngT 0 (Bs.length : Int)).length := List.length_filter_le _ _
      rw [rng_len] at this
      have := D.bl.l2
      exact zl _ (by simp; omega))
  rw [List.nil_append] at q
  have ps := prs_map ws (frL Bs "free") hi
  have pm := sortP_perm ((frL Bs "free").map (wpF ws))
  have so := sortP_sorted ((frL Bs "free").map (wpF ws))
  cases hs : sortP ((frL Bs "free").map (wpF ws)) with
  | nil =>
    rw [hs] at pm
    have := pm.length_eq
    simp only [List.length_map, List.length_nil] at this
    exact absurd (List.length_eq_zero_iff.mp this.symm) hf
  | cons p l =>
    rw [hs] at pm so
    obtain ⟨t, ht, hp⟩ := List.mem_map.mp (pm.mem_iff.mp List.mem_cons_self)
    obtain ⟨c, us, rfl, hc, hst⟩ := mm.mp ht
    have p2 : p = (wN ws c, (c : Int)) := by
      rw [← hp]
      show (wN ws (c : Int).toNat, (c : Int)) = _
      rw [show (c : Int).toNat = c by omega]
    refine ⟨c, ?_, (List.getElem?_eq_some_iff.mp hc).1, ⟨us, hc, hst⟩, fun b vs hb hv hsv => ?_⟩
    · subst p2
      unfold loO at o
      have sz : ∀ l : List T, l = (frL Bs "free").map (fun t => prT (wpF ws t)) → True := fun _ _ => trivial
      generalize hK : (frL Bs "free").map (fun t => prT (wpF ws t)) = K at *
      generalize frL Bs "free" = F at *
      generalize hP : F.map (wpF ws) = Pr at *
      clear sz hK hP pm so ht hp hc hst mm hi D fo hf
      generalize (c : Int) = ci at *
      generalize wN ws c = w at *
      generalize curT cur = cc at *
      unfold m_Log_choose b_Log_choose
      walk_at "ev*"
      rfl
    · subst p2
      have hin : (wN ws b, (b : Int)) ∈ (wN ws c, (c : Int)) :: l := by
        rw [pm.mem_iff]
        refine List.mem_map.mpr ⟨_, mm.mpr ⟨b, vs, rfl, hv, hsv⟩, ?_⟩
        show (wN ws (b : Int).toNat, (b : Int)) = _
        rw [show (b : Int).toNat = b by omega]
      rcases List.mem_cons.mp hin with h | h
      · rw [h]; exact .inr ⟨rfl, Int.le_refl _⟩
      · exact (List.pairwise_cons.mp so).1 _ h
noncomputable def tgB : AS := (mSeq (mIf (mB (m2 opEq (mCall m__law_state (mCons (mV 0) (mCons (mV 3) mNil))) (mC (.str "open")))) (mRet (mV 3)) mPass)
  (mIf (mTAnd (mB (m2 opEq (mCall m__law_state (mCons (mV 0) (mCons (mV 3) mNil))) (mC (.str "free")))) (mTOr (mB (m2 opIs (mV 2) (mC .non))) (mB (m2 opLt (m2 opIx (mV 1) (mV 3)) (m2 opIx (mV 1) (mV 2)))))) (mSet 2 (mV 3)) mPass))
/-- what is kept while the free block is looked for -/
def BestO (Bs : List (List T)) (ws : List Int) (k : Nat) : Option Nat → Prop
  | none => ∀ b us, b < k → Bs[b]? = some us → ¬ stW us = "free"
  | some c => Best Bs ws k c
theorem c_none : curT none = .non := rfl
theorem c_some {c : Nat} : curT (some c) = .int (c : Int) := rfl
def TgI (Bs : List (List T)) (ws : List Int) (h wh : Nat) (S0 : Sto) (k : Nat) (st : Slots) (S : Sto) : Prop := S = S0 ∧ ∃ best : Option Nat, BestO Bs ws k best ∧ ∃ o3, st = [some (.ref h), some (.ref wh), some (curT best), o3]
def TgJ (h wh d : Nat) (S0 : Sto) (st : Slots) (S : Sto) : Prop := S = S0 ∧ ∃ best : Option Nat, (∀ c, best = some c → c < d) ∧ ∃ o3, st = [some (.ref h), some (.ref wh), some (curT best), o3]
theorem BestO.skip {Bs : List (List T)} {ws : List Int} {k : Nat} {best : Option Nat} {us : List T} (hu : Bs[k]? = some us) (c : ¬ stW us = "free") (h : BestO Bs ws k best) : BestO Bs ws (k + 1) best := by
  have lt1 : ∀ b, b < k + 1 → b = k ∨ b < k := fun b h => by omega
  cases best with
  | none =>
    intro b vs hb hbu hs
    rcases lt1 b hb with rfl | hb
    · rw [hu] at hbu; cases hbu; exact c hs
    · exact h b vs hb hbu hs
  | some d =>
    refine ⟨by have := h.1; omega, h.2.1, fun b vs hb hbu hs => ?_⟩
    rcases lt1 b hb with rfl | hb
    · rw [hu] at hbu; cases hbu; exact absurd hs c
    · exact h.2.2 b vs hb hbu hs
theorem forL_pre {g : MG} {b : AS} {pre rest : List T} {st : Slots} {S : Sto} (P : Slots → Sto → Prop) (h0 : P st S) (h : ∀ t ∈ pre, ∀ st S, P st S → Goes P (fstep g b t st S)) : ∃ st' S', forL none g b (pre ++ rest) st S = forL none g b rest st' S' ∧ P st' S' := by
  induction pre generalizing st S with
  | nil => exact ⟨st, S, rfl, h0⟩
  | cons t pre ih =>
    obtain ⟨st', S', e1, p'⟩ := (h t List.mem_cons_self st S h0).out
    rw [List.cons_append, forL_step none _ _ _ _ _ _ trivial e1]
    exact ih p' fun u hu => h u (List.mem_cons_of_mem _ hu)
theorem rng_split {d m : Nat} (h : d < m) : ∃ post, rngT 0 (m : Int) = rngT 0 (d : Int) ++ .int (d : Int) :: post := by
  unfold rngT
  rw [show ((m : Int) - 0).toNat = d + (m - d) by omega, show ((d : Int) - 0).toNat = d by omega, List.range_add, show m - d = (m - d - 1) + 1 by omega, List.range_succ_eq_map]
  simp only [List.map_append, List.map_cons, List.map_map]
  refine ⟨List.map ((fun k : Nat => T.int (0 + (k : Int))) ∘ (fun x => d + x) ∘ Nat.succ) (List.range (m - d - 1)), ?_⟩
  rw [Nat.add_zero, Int.zero_add]
theorem target_none {S : Sto} {h wh : Nat} {hs : List Nat} {Bs : List (List T)} {ws : List Int} (D : Hd S h hs Bs) (hB : Bl Bs) (C : Cu Bs none) (hw : S[wh]? = some (.lst (ws.map .int))) (wl : ws.length = Bs.length) (hf : frL Bs "free" ≠ []) : ∃ c, m__law_target [.ref h, .ref wh] S = .ok (.int (c : Nat)) S ∧ Best Bs ws Bs.length c := by
  have ln := D.ln
  have l2 := hB.l2
  have wx : ∀ b : Nat, b < Bs.length → opIx (.ref wh) (.int (b : Int)) S = .ok (.int (wN ws b)) S := fun b hb => by
    have e := wat (ws := ws) (b := b) (by omega)
    generalize ws.map T.int = W at *
    generalize wN ws b = w at *
    generalize (b : Int) = bi at *
    clear ln D C hf
    walk_at "ev*"
  have ex : ∃ b us, b < Bs.length ∧ Bs[b]? = some us ∧ stW us = "free" := by
    cases q : frL Bs "free" with
    | nil => exact absurd q hf
    | cons t l =>
      obtain ⟨b, us, _, hb, hs⟩ := frL_mem.mp (show t ∈ frL Bs "free" by rw [q]; exact List.mem_cons_self)
      exact ⟨b, us, (List.getElem?_eq_some_iff.mp hb).1, hb, hs⟩
  have stt : ∀ k, (hk : k < Bs.length) → m__law_state [.ref h, .int (k : Int)] S = .ok (.str (stW Bs[k])) S ∧ ¬ stW Bs[k] = "open" := fun k hk => by
    have hu : Bs[k]? = some Bs[k] := List.getElem?_eq_getElem hk
    refine ⟨law_state_ok D hB hu, fun e => ?_⟩
    have := (C.cu k _ hu).mpr (stW_open.mp e)
    cases this
  obtain ⟨n, hn⟩ : ∃ n : Int, (Bs.length : Int) = n := ⟨_, rfl⟩
  have hb : -4611686018427387904 ≤ n ∧ n < 4611686018427387904 := by omega
  rw [hn] at ln
  have key : ∃ best : Option Nat, BestO Bs ws Bs.length best ∧ ∃ o3, forL none (gN 3) tgB (rngT 0 n) [some (.ref h), some (.ref wh), some .non, none] S = .nx [some (.ref h), some (.ref wh), some (curT best), o3] S := by
    refine use_rng (C := fun r => ∃ best : Option Nat, BestO Bs ws Bs.length best ∧ ∃ o3, r = .nx [some (.ref h), some (.ref wh), some (curT best), o3] S) (TgI Bs ws h wh S) ?_ ?_ ?_
    · exact ⟨rfl, none, (fun b us hb => absurd hb (Nat.not_lt_zero _)), none, rfl⟩
    · rintro k st S' hk ⟨rfl, best, hbest, o3, rfl⟩
      have hk' : k < Bs.length := by omega
      have hu : Bs[k]? = some Bs[k] := List.getElem?_eq_getElem hk'
      obtain ⟨e1, e2⟩ := stt k hk'
      have wk := wx k hk'
      rw [Int.zero_add]
      have fin : ∀ b2, BestO Bs ws (k + 1) b2 → TgI Bs ws h wh S' (k + 1) [some (.ref h), some (.ref wh), some (curT b2), some (.int (k : Int))] S' := fun b2 h => ⟨rfl, b2, h, _, rfl⟩
      have lt1 : ∀ b, b < k + 1 → b = k ∨ b < k := fun b h => by omega
      unfold tgB
      by_cases c : stW Bs[k] = "free"
      · rw [c] at e1
        cases best with
        | none =>
          have nb : BestO Bs ws (k + 1) (some k) := ⟨Nat.lt_succ_self k, ⟨_, hu, c⟩, fun b us hb hbu hs => by
            rcases lt1 b hb with rfl | hb
            · exact .inr ⟨rfl, Int.le_refl _⟩
            · exact absurd hs (hbest b us hb hbu)⟩
          have f2 := fin _ nb
          rw [c_some] at f2
          rw [c_none]
          clear e2 hbest hu wx ex stt C D ln hb hn fin nb lt1
          generalize (k : Int) = ki at *
          walk_at "ev*"
          exact f2
        | some d =>
          have dk : d < k := hbest.1
          have wd := wx d (by omega)
          by_cases cw : wN ws k < wN ws d
          · have nb : BestO Bs ws (k + 1) (some k) := ⟨Nat.lt_succ_self k, ⟨_, hu, c⟩, fun b us hb hbu hs => by
              rcases lt1 b hb with rfl | hb
              · exact .inr ⟨rfl, Int.le_refl _⟩
              · have := hbest.2.2 b us hb hbu hs
                unfold leP at this ⊢
                simp only at this ⊢
                omega⟩
            have f2 := fin _ nb
            rw [c_some] at f2
            rw [c_some]
            clear e2 hbest hu wx ex stt C D ln hb hn fin nb lt1 dk
            generalize (k : Int) = ki at *
            generalize (d : Int) = di at *
            generalize wN ws k = wk1 at *
            generalize wN ws d = wd1 at *
            walk_at "ev*"
            exact f2
          · have nb : BestO Bs ws (k + 1) (some d) := ⟨by omega, hbest.2.1, fun b us hb hbu hs => by
              rcases lt1 b hb with rfl | hb
              · unfold leP; simp only; omega
              · exact hbest.2.2 b us hb hbu hs⟩
            have f2 := fin _ nb
            rw [c_some] at f2
            rw [c_some]
            clear e2 hbest hu wx ex stt C D ln hb hn fin nb lt1 dk
            generalize (k : Int) = ki at *
            generalize (d : Int) = di at *
            generalize wN ws k = wk1 at *
            generalize wN ws d = wd1 at *
            walk_at "ev*"
            exact f2
      · have nb : BestO Bs ws (k + 1) best := hbest.skip hu c
        have f2 := fin _ nb
        clear nb
        generalize stW Bs[k] = w at *
        clear hbest hu wx ex stt C D ln hb hn fin lt1 wk
        generalize curT best = bt at *
        generalize (k : Int) = ki at *
        walk_at "ev*"
        exact f2
    · rintro st S' ⟨rfl, best, hbest, o3, rfl⟩
      rw [show (n - 0).toNat = Bs.length by omega] at hbest
      exact ⟨best, hbest, o3, rfl⟩
  obtain ⟨best, hbest, o3, lp⟩ := key
  cases best with
  | none =>
    obtain ⟨b, us, h1, h2, h3⟩ := ex
    exact absurd h3 (hbest b us h1 h2)
  | some c =>
    refine ⟨c, ?_, hbest⟩
    simp only [curT] at lp
    clear hbest wx ex stt C D hn hf
    unfold tgB at lp
    unfold m__law_target b__law_target
    generalize (c : Int) = ci at *
    walk_at "ev*"
theorem target_some {S : Sto} {h wh : Nat} {hs : List Nat} {Bs : List (List T)} {ws : List Int} {d : Nat} (D : Hd S h hs Bs) (hB : Bl Bs) (C : Cu Bs (some d)) (hw : S[wh]? = some (.lst (ws.map .int))) (wl : ws.length = Bs.length) : m__law_target [.ref h, .ref wh] S = .ok (.int (d : Int)) S := by
  have ln := D.ln
  have l2 := hB.l2
  have wx : ∀ b : Nat, b < Bs.length → opIx (.ref wh) (.int (b : Int)) S = .ok (.int (wN ws b)) S := fun b hb => by
    have e := wat (ws := ws) (b := b) (by omega)
    generalize ws.map T.int = W at *
    generalize wN ws b = w at *
    generalize (b : Int) = bi at *
    clear ln D C
    walk_at "ev*"
  have stt : ∀ k, (hk : k < Bs.length) → m__law_state [.ref h, .int (k : Int)] S = .ok (.str (stW Bs[k])) S ∧ (stW Bs[k] = "open" ↔ k = d) := fun k hk => by
    have hu : Bs[k]? = some Bs[k] := List.getElem?_eq_getElem hk
    refine ⟨law_state_ok D hB hu, ?_⟩
    rw [stW_open, ← C.cu k _ hu]
    exact ⟨fun e => by cases e; rfl, fun e => by rw [e]⟩
  have dl := C.cl d rfl
  obtain ⟨n, hn⟩ : ∃ n : Int, (Bs.length : Int) = n := ⟨_, rfl⟩
  have hb : -4611686018427387904 ≤ n ∧ n < 4611686018427387904 := by omega
  rw [hn] at ln
  have key : forL none (gN 3) tgB (rngT 0 n) [some (.ref h), some (.ref wh), some .non, none] S = .rt (.int (d : Int)) S := by
    obtain ⟨post, hp⟩ := rng_split dl
    rw [hn] at hp
    rw [hp]
    obtain ⟨st, S', e, ⟨rfl, best, hbest, o3, rfl⟩⟩ := forL_pre (g := gN 3) (b := tgB) (pre := rngT 0 (d : Int)) (rest := .int (d : Int) :: post) (st := [some (.ref h), some (.ref wh), some .non, none]) (S := S) (TgJ h wh d S) ⟨rfl, none, (fun c h => nomatch h), none, rfl⟩ (fun t ht st S' => by
      rintro ⟨rfl, best, hbest, o3, rfl⟩
      obtain ⟨k, kd, rfl⟩ := mem_rng ht
      have hk' : k < Bs.length := by omega
      obtain ⟨e1, e2⟩ := stt k hk'
      have wk := wx k hk'
      rw [Int.zero_add]
      have so : ¬ stW Bs[k] = "open" := fun e => by have := e2.mp e; omega
      have f1 : TgJ h wh d S' [some (.ref h), some (.ref wh), some (curT best), some (.int (k : Int))] S' := ⟨rfl, best, hbest, _, rfl⟩
      have f2 : TgJ h wh d S' [some (.ref h), some (.ref wh), some (.int (k : Int)), some (.int (k : Int))] S' := ⟨rfl, some k, (fun c h => by cases h; exact kd), _, rfl⟩
      have wd : ∀ c, best = some c → opIx (.ref wh) (.int (c : Int)) S' = .ok (.int (wN ws c)) S' := fun c h => wx c (by have := hbest c h; omega)
      unfold tgB
      by_cases cf : stW Bs[k] = "free"
      · rw [cf] at e1
        cases best with
        | none =>
          rw [c_none] at *
          clear e2 wx stt C D ln hb hn wd hbest so ht
          generalize (k : Int) = ki at *
          walk_at "ev*"
          exact f2
        | some c0 =>
          have wd1 := wd c0 rfl
          rw [c_some] at *
          clear e2 wx stt C D ln hb hn wd hbest so ht
          generalize (k : Int) = ki at *
          generalize (c0 : Int) = di at *
          generalize wN ws k = wk1 at *
          generalize wN ws c0 = wd2 at *
          by_cases cw : wk1 < wd2
          · walk_at "ev*"
            exact f2
          · walk_at "ev*"
            exact f1
      · generalize stW Bs[k] = w at *
        clear e2 wx stt C D ln hb hn wd hbest wk f2 ht
        generalize curT best = bt at *
        generalize (k : Int) = ki at *
        walk_at "ev*"
        exact f1)
    rw [e, forL_cons none _ _ _ _ _ _ trivial]
    obtain ⟨e1, e2⟩ := stt d dl
    rw [e2.mpr rfl] at e1
    clear e e2 wx stt C D ln hb hn hbest hp
    unfold tgB
    generalize (d : Int) = ki at *
    generalize curT best = bt at *
    walk_at "ev*"
  clear wx stt C D hn
  unfold tgB at key
  unfold m__law_target b__law_target
  generalize (d : Int) = ci at *
  walk_at "ev*"
/-! ### a record is appended -/
theorem ne_pg {S : Sto} {i h : Nat} {hs : List Nat} {us : List T} (a : S[i]? = some (.lst (pgT us))) (u : Us us) (b : S[h]? = some (.lst (hs.map .ref))) : i ≠ h := fun e => by
  subst e
  rw [a] at b
  injection b with b
  injection b with b
  have l8 := pgT_len u
  obtain ⟨t, ht⟩ : ∃ t, (pgT us)[0]? = some t := ⟨_, List.getElem?_eq_getElem (by omega)⟩
  have p := pgT_pge u _ (List.mem_of_getElem? ht)
  rw [b, List.getElem?_map] at ht
  cases q : hs[0]? with
  | none => rw [q] at ht; cases ht
  | some x =>
    rw [q] at ht
    injection ht with ht
    rw [← ht] at p
    rcases p with (p | ⟨o, _, p⟩) | p <;> cases p
theorem Hd.oth {S : Sto} {h : Nat} {hs : List Nat} {Bs : List (List T)} (D : Hd S h hs Bs) {i : Nat} {o : O} (h1 : i ≠ h) (h2 : i ∉ hs) : Hd (S.set i o) h hs Bs :=
  ⟨by rw [List.getElem?_set_ne h1]; exact D.at_, D.len, fun b j us a c => by
    have : i ≠ j := fun e => h2 (by rw [e]; exact List.mem_of_getElem? a)
    rw [List.getElem?_set_ne this]; exact D.pg b j us a c⟩
theorem nd_at {l : List Nat} (nd : l.Nodup) {a b x : Nat} (ha : l[a]? = some x) (hb : l[b]? = some x) : a = b := by
  obtain ⟨a1, a2⟩ := List.getElem?_eq_some_iff.mp ha
  obtain ⟨b1, b2⟩ := List.getElem?_eq_some_iff.mp hb
  by_cases c : a = b
  · exact c
  · rcases Nat.lt_or_gt_of_ne c with c | c
    · exact absurd (a2.trans b2.symm) (List.pairwise_iff_getElem.mp nd a b a1 b1 c)
    · exact absurd (b2.trans a2.symm) (List.pairwise_iff_getElem.mp nd b a b1 a1 c)
theorem Hd.own {S : Sto} {h : Nat} {hs : List Nat} {Bs : List (List T)} (D : Hd S h hs Bs) (nd : hs.Nodup) {b i : Nat} {us us' : List T} (hi : hs[b]? = some i) (hb : Bs[b]? = some us) (u : Us us) : Hd (S.set i (.lst (pgT us'))) h hs (Bs.set b us') := by
  have p := D.pg b i us hi hb
  refine ⟨by rw [List.getElem?_set_ne (ne_pg p u D.at_)]; exact D.at_, by rw [D.len, List.length_set], fun c j vs h1 h2 => ?_⟩
  by_cases e : b = c
  · subst e
    rw [hi] at h1; cases h1
    rw [List.getElem?_set_self (List.getElem?_eq_some_iff.mp hb).1] at h2
    cases h2
    rw [List.getElem?_set_self (List.getElem?_eq_some_iff.mp p).1]
  · have ij : i ≠ j := fun x => e (nd_at nd hi (by rw [x]; exact h1))
    rw [List.getElem?_set_ne e] at h2
    rw [List.getElem?_set_ne ij]
    exact D.pg c j vs h1 h2
theorem pgT_set {us : List T} (h : us.length < 8) (x : T) : (pgT us).set us.length x = pgT (us ++ [x]) := by
  unfold pgT
  rw [List.set_append_right _ _ (Nat.le_refl _), Nat.sub_self, List.append_assoc]
  congr 1
  rw [show 8 - us.length = (8 - (us ++ [x]).length) + 1 by simp; omega, List.replicate_succ]; rfl
theorem Us.snoc {us : List T} (h : Us us) (l : us.length < 8) {o : Int} (ho : 1 ≤ o) : Us (us ++ [recT o]) := ⟨fun t ht => by
  rcases List.mem_append.mp ht with ht | ht
  · exact h.up t ht
  · rw [List.mem_singleton.mp ht]; exact .inr ⟨o, ho, rfl⟩, by simp; omega⟩
theorem rec_tup (o : Int) (S : Sto) : opIsi [recT o, .ty "tuple"] S = .ok (.bl true) S := rfl
theorem ixN_nat {k n : Nat} (h : k < n) : ixN n (k : Int) = some k := by
  unfold ixN
  simp [h]
theorem checkp_ok {S : Sto} {f fh : Nat} {n : Int} {wv : T × T} (fo : S[f]? = some (fsO n fh wv)) {b p : Int} (b0 : 0 ≤ b) (b1 : b < n) (p0 : 0 ≤ p) (p1 : p < 8) : m_Flash_check_page [.ref f, .int b, .int p] S = .ok .non S := by
  have e1 := between_yes (z := b) (lo := 0) (hi := n - 1) (by omega) (by omega) S
  have e2 := between_yes (z := p) (lo := 0) (hi := 7) (by omega) (by omega) S
  unfold fsO at fo
  unfold m_Flash_check_page b_Flash_check_page m_Flash_check_block b_Flash_check_block
  clear b0 b1 p0 p1
  walk_at "ev*"
def nxC (c : Nat) (us : List T) : Option Nat := if us.length + 1 = 8 then none else some c
theorem Hd.has {S : Sto} {h : Nat} {hs : List Nat} {Bs : List (List T)} (D : Hd S h hs Bs) {i : Nat} (hi : i ∈ hs) : ∃ us, us ∈ Bs ∧ S[i]? = some (.lst (pgT us)) := by
  obtain ⟨b, hb, e⟩ := List.getElem_of_mem hi
  have hb' : b < Bs.length := by rw [← D.len]; exact hb
  exact ⟨Bs[b], List.getElem_mem hb', D.pg b i _ (by rw [List.getElem?_eq_getElem hb, e]) (List.getElem?_eq_getElem hb')⟩
theorem Cu.nxt {Bs : List (List T)} {cur : Option Nat} (C : Cu Bs cur) {c : Nat} {us : List T} (hc : Bs[c]? = some us) (l : us.length < 8) (hcur : ∀ d, cur = some d → d = c) (x : T) : Cu (Bs.set c (us ++ [x])) (nxC c us) := by
  have cl := (List.getElem?_eq_some_iff.mp hc).1
  refine ⟨fun b vs hb => ?_, fun d hd => ?_⟩
  · by_cases e : c = b
    · subst e
      rw [List.getElem?_set_self cl] at hb
      cases hb
      unfold nxC
      rw [List.length_append, List.length_singleton]
      by_cases q : us.length + 1 = 8
      · rw [if_pos q]; constructor
        · intro h; cases h
        · intro h; omega
      · rw [if_neg q]; constructor
        · intro _; omega
        · intro _; rfl
    · rw [List.getElem?_set_ne e] at hb
      have h1 := C.cu b vs hb
      constructor
      · intro h
        unfold nxC at h
        by_cases q : us.length + 1 = 8
        · rw [if_pos q] at h; cases h
        · rw [if_neg q] at h; cases h; exact absurd rfl e
      · intro h
        exact absurd (hcur b (h1.mpr h)).symm e
  · rw [List.length_set]
    unfold nxC at hd
    by_cases q : us.length + 1 = 8
    · rw [if_pos q] at hd; cases hd
    · rw [if_neg q] at hd; cases hd; exact cl
theorem Bl.nxt {Bs : List (List T)} (B : Bl Bs) {c : Nat} {us : List T} (hc : Bs[c]? = some us) (l : us.length < 8) {o : Int} (ho : 1 ≤ o) : Bl (Bs.set c (us ++ [recT o])) :=
  ⟨fun vs hv => by
    rcases List.mem_or_eq_of_mem_set hv with h | h
    · exact B.us vs h
    · rw [h]; exact (B.us us (List.mem_of_getElem? hc)).snoc l ho, by rw [List.length_set]; exact B.l1, by rw [List.length_set]; exact B.l2⟩
theorem ne_int {S : Sto} {i n : Nat} {us : List T} {ws : List Int} (a : S[i]? = some (.lst (pgT us))) (u : Us us) (b : S[n]? = some (.lst (ws.map .int))) : i ≠ n := fun e => by
  subst e
  rw [a] at b
  injection b with b
  injection b with b
  have l8 := pgT_len u
  obtain ⟨t, ht⟩ : ∃ t, (pgT us)[0]? = some t := ⟨_, List.getElem?_eq_getElem (by omega)⟩
  have p := pgT_pge u _ (List.mem_of_getElem? ht)
  rw [b, List.getElem?_map] at ht
  cases q : ws[0]? with
  | none => rw [q] at ht; cases ht
  | some x =>
    rw [q] at ht
    injection ht with ht
    rw [← ht] at p
    rcases p with (p | ⟨o, _, p⟩) | p <;> cases p
/-! ### the power that fails -/
def lfT : Option Nat → T
  | none => .non
  | some k => .int (k : Int)
def decL : Option Nat → Option Nat
  | none => none
  | some k => some (k - 1)
def fsX (n : Int) (fh : Nat) (w br : T) : O := .obj "Flash" [("blocks", .int n), ("held", .ref fh), ("wears", w), ("left", .int 0), ("power", .bl false), ("broken", br)]
theorem set_same {S : Sto} {f : Nat} {o : O} (h : S[f]? = some o) : S.set f o = S := by
  apply List.ext_getElem?
  intro i
  by_cases e : f = i
  · subst e
    rw [List.getElem?_set_self (List.getElem?_eq_some_iff.mp h).1, h]
  · rw [List.getElem?_set_ne e]
theorem gset {S : Sto} {f : Nat} {o : O} (h : S[f]? = some o) (x : O) : (S.set f x)[f]? = some x := List.getElem?_set_self (List.getElem?_eq_some_iff.mp h).1
theorem sset {S : Sto} {f : Nat} (x y : O) : (S.set f x).set f y = S.set f y := List.set_set ..
theorem operate_go {S : Sto} {f fh : Nat} {n : Int} {w : T} {lf : Option Nat} (fo : S[f]? = some (fsO n fh (w, lfT lf))) (hl : lf ≠ some 0) (x : T) : m_Flash_operate [.ref f, x] S = .ok .non (S.set f (fsO n fh (w, lfT (decL lf)))) := by
  cases lf with
  | none =>
    have e := set_same fo
    simp only [lfT, decL] at *
    rw [e]
    unfold fsO at fo
    clear e hl
    unfold m_Flash_operate b_Flash_operate
    walk_at "ev*"
  | some k =>
    have k0 : ¬ ((k : Int) = 0) := fun e => hl (by congr 1; omega)
    have ek : (k : Int) - 1 = ((k - 1 : Nat) : Int) := by omega
    simp only [lfT, decL] at *
    rw [← ek]
    generalize (k : Int) = z at *
    unfold fsO at *
    clear hl ek
    unfold m_Flash_operate b_Flash_operate
    walk_at "ev*"
theorem operate_off {S : Sto} {f fh : Nat} {n : Int} {w : T} (fo : S[f]? = some (fsO n fh (w, lfT (some 0)))) (x : T) : m_Flash_operate [.ref f, x] S = .exc "PowerOff" (S.set f (fsX n fh w x)) := by
  have g1 := fun y => gset fo y
  have s1 := @sset S f
  have e0 : lfT (some 0) = .int 0 := rfl
  rw [e0] at fo
  unfold fsO fsX at *
  clear e0
  unfold m_Flash_operate b_Flash_operate
  walk_at "ev*"
theorem program_go {S : Sto} {f fh : Nat} {w : T} {lf : Option Nat} {fs : List Nat} {Bs : List (List T)} (fo : S[f]? = some (fsO (Bs.length : Int) fh (w, lfT lf))) (hl : lf ≠ some 0) (D : Hd S fh fs Bs) (D1 : Hd (S.set f (fsO (Bs.length : Int) fh (w, lfT (decL lf)))) fh fs Bs) {b i : Nat} {us : List T} (hi : fs[b]? = some i) (hb : Bs[b]? = some us) (u : Us us) (l : us.length < 8) (o : Int) : m_Flash_program [.ref f, .int (b : Int), .int (us.length : Int), recT o] S = .ok .non ((S.set f (fsO (Bs.length : Int) fh (w, lfT (decL lf)))).set i (.lst (pgT (us ++ [recT o])))) := by
  have bl := (List.getElem?_eq_some_iff.mp hb).1
  have e1 := checkp_ok fo (b := (b : Int)) (p := (us.length : Int)) (by omega) (by omega) (by omega) (by omega)
  have p := D.pg b i us hi hb
  have p1 := D1.pg b i us hi hb
  have e2 := np_us (.inr ⟨i, rfl, p⟩) u
  obtain ⟨i', e3, _, e5⟩ := D.ix hb
  rw [hi] at e5; cases e5
  obtain ⟨i', e3', _, e5⟩ := D1.ix hb
  rw [hi] at e5; cases e5
  have e4 := fun x => operate_go fo hl x
  have g1 := gset fo (fsO (Bs.length : Int) fh (w, lfT (decL lf)))
  have e6 := rec_tup o
  have l8 := pgT_len u
  have sz : us.length < (pgT us).length := by omega
  have e7 := pgT_set l (recT o)
  rw [← e7]
  generalize pgT us = pg at *
  generalize recT o = r at *
  clear D D1 hb hi u bl e7 l8
  generalize lfT (decL lf) = q1 at *
  generalize lfT lf = q0 at *
  generalize hS1 : S.set f (fsO (Bs.length : Int) fh (w, q1)) = S1 at *
  clear hS1 hl
  unfold fsO at fo g1
  unfold m_Flash_program b_Flash_program
  have zi : ixN pg.length (us.length : Int) = some us.length := ixN_nat sz
  generalize hn : (us.length : Int) = n at *
  generalize (b : Int) = bi at *
  generalize us.length = m at *
  walk_at "ev*"
theorem program_off {S : Sto} {f fh : Nat} {w : T} {fs : List Nat} {Bs : List (List T)} (fo : S[f]? = some (fsO (Bs.length : Int) fh (w, lfT (some 0)))) (D : Hd S fh fs Bs) {b : Nat} {us : List T} (hb : Bs[b]? = some us) (u : Us us) (l : us.length < 8) (o : Int) : m_Flash_program [.ref f, .int (b : Int), .int (us.length : Int), recT o] S = .exc "PowerOff" (S.set f (fsX (Bs.length : Int) fh w (.tup [.int (b : Int), .int (us.length : Int), recT o]))) := by
  have bl := (List.getElem?_eq_some_iff.mp hb).1
  have e1 := checkp_ok fo (b := (b : Int)) (p := (us.length : Int)) (by omega) (by omega) (by omega) (by omega)
  obtain ⟨i, e3, p, e5⟩ := D.ix hb
  have e2 := np_us (.inr ⟨i, rfl, p⟩) u
  have e4 := fun x => operate_off fo x
  have e6 := rec_tup o
  generalize pgT us = pg at *
  generalize recT o = r at *
  clear D hb u bl e5
  generalize lfT (some 0) = q0 at *
  unfold fsO at fo
  unfold m_Flash_program b_Flash_program
  generalize hn : (us.length : Int) = n at *
  generalize (b : Int) = bi at *
  walk_at "ev*"
theorem Hd.ne_obj {S : Sto} {h f : Nat} {hs : List Nat} {Bs : List (List T)} {c : String} {fl} (D : Hd S h hs Bs) (fo : S[f]? = some (.obj c fl)) : f ≠ h ∧ f ∉ hs := ⟨(fun e => by have := D.at_; rw [← e, fo] at this; cases this), (fun hm => by obtain ⟨vs, _, q⟩ := D.has hm; rw [fo] at q; cases q)⟩
theorem Hd.obj {S : Sto} {h f : Nat} {hs : List Nat} {Bs : List (List T)} {c : String} {fl} (D : Hd S h hs Bs) (fo : S[f]? = some (.obj c fl)) (x : O) : Hd (S.set f x) h hs Bs := D.oth (D.ne_obj fo).1 (D.ne_obj fo).2
theorem int_obj {S : Sto} {n f : Nat} {ws : List Int} {c : String} {fl} (w : S[n]? = some (.lst (ws.map .int))) (fo : S[f]? = some (.obj c fl)) (x : O) : (S.set f x)[n]? = some (.lst (ws.map .int)) := by
  rw [List.getElem?_set_ne (fun e => by rw [e, w] at fo; cases fo)]; exact w
theorem flog {S : Sto} {g f fh gh : Nat} {wv : T × T} {gs : List Nat} {Bs : List (List T)} {cur : Option Nat} (L : Lg S g f fh gh wv gs Bs cur) : g ≠ f := fun e => by have := L.o; rw [e, L.fo] at this; unfold loO fsO at this; injection this with this; injection this with this; exact absurd this (by decide)
theorem Lg.fuse {S : Sto} {g f fh gh : Nat} {wv : T × T} {gs : List Nat} {Bs : List (List T)} {cur : Option Nat} (L : Lg S g f fh gh wv gs Bs cur) (wv' : T × T) : Lg (S.set f (fsO (Bs.length : Int) fh wv')) g f fh gh wv' gs Bs cur :=
  ⟨by rw [List.getElem?_set_ne (Ne.symm (flog L))]; exact L.o, gset L.fo _, L.hd.obj L.fo _, L.bl, L.cu, L.cl⟩
theorem append_go {S : Sto} {g f fh gh : Nat} {w : T} {lf : Option Nat} {gs fs : List Nat} {Bs : List (List T)} {cur : Option Nat} (L : Lg S g f fh gh (w, lfT lf) gs Bs cur) (hlf : lf ≠ some 0) (DF : Hd S fh fs Bs) (ndf : fs.Nodup) (ndg : gs.Nodup) (dis : ∀ i ∈ fs, i ∉ gs) {c : Nat} {us : List T} (hc : Bs[c]? = some us) (l : us.length < 8) (hcur : ∀ d, cur = some d → d = c) (hch : cur = none → m_Log_choose [.ref g] S = .ok (.int (c : Int)) S) (cp : Bool) (rm : roomV Bs cur cp ≠ 0) (o : Int) (ho : 1 ≤ o) :
    ∃ S', m_Log_append [.ref g, recT o, .bl cp] S = .ok .non S' ∧ Lg S' g f fh gh (w, lfT (decL lf)) gs (Bs.set c (us ++ [recT o])) (nxC c us) ∧ Hd S' fh fs (Bs.set c (us ++ [recT o])) ∧ (∀ h hs Bs', Hd S h hs Bs' → (∀ i ∈ hs, i ∉ fs ∧ i ∉ gs) → Hd S' h hs Bs') ∧ ∀ (n : Nat) (ws : List Int), S[n]? = some (.lst (ws.map .int)) → S'[n]? = some (.lst (ws.map .int)) := by
  have u := L.bl.us us (List.mem_of_getElem? hc)
  obtain ⟨i, hi, pi0⟩ := DF.get hc
  obtain ⟨j, hj, pj0⟩ := L.hd.get hc
  have imem : i ∈ fs := List.mem_of_getElem? hi
  have jmem : j ∈ gs := List.mem_of_getElem? hj
  have jnf : j ∉ fs := fun h => dis j h jmem
  have inotg : i ∉ gs := dis i imem
  have ij : i ≠ j := fun e => jnf (by rw [← e]; exact imem)
  have e1 := log_room_ok L cp
  have DF1 := DF.obj L.fo (fsO (Bs.length : Int) fh (w, lfT (decL lf)))
  have L1 := L.fuse (w, lfT (decL lf))
  have e4 := program_go L.fo hlf DF DF1 hi hc u l o
  have kp1 : ∀ h hs Bs', Hd S h hs Bs' → Hd (S.set f (fsO (Bs.length : Int) fh (w, lfT (decL lf)))) h hs Bs' := fun h hs Bs' D => D.obj L.fo _
  have kp2 : ∀ (n : Nat) (ws : List Int), S[n]? = some (.lst (ws.map .int)) → (S.set f (fsO (Bs.length : Int) fh (w, lfT (decL lf))))[n]? = some (.lst (ws.map .int)) := fun n ws h => int_obj h L.fo _
  have o0 := L.o
  have fo := L.fo
  obtain ⟨j1, e5, _, q1⟩ := L.hd.ix hc
  rw [hj] at q1; cases q1
  have e7 := np_us (.inr ⟨j, rfl, pj0⟩) u
  generalize hS0 : S.set f (fsO (Bs.length : Int) fh (w, lfT (decL lf))) = S0 at *
  have pi := DF1.pg c i us hi hc
  have pj := L1.hd.pg c j us hj hc
  clear DF L hS0
  -- S1: the flash holds the record
  have F1 : Hd (S0.set i (.lst (pgT (us ++ [recT o])))) fh fs (Bs.set c (us ++ [recT o])) := DF1.own ndf hi hc u
  have G1 : Hd (S0.set i (.lst (pgT (us ++ [recT o])))) gh gs Bs := L1.hd.oth (ne_pg pi u L1.hd.at_) inotg
  have io : i ≠ g := fun e => by rw [e, L1.o] at pi; cases pi
  have jo : j ≠ g := fun e => by rw [e, L1.o] at pj; cases pj
  have if_ : i ≠ f := fun e => by rw [e, L1.fo] at pi; cases pi
  have jf : j ≠ f := fun e => by rw [e, L1.fo] at pj; cases pj
  have gf : g ≠ f := flog L1
  have fhj : j ≠ fh := ne_pg pj u DF1.at_
  have F2 : Hd ((S0.set i (.lst (pgT (us ++ [recT o])))).set j (.lst (pgT (us ++ [recT o])))) fh fs (Bs.set c (us ++ [recT o])) := F1.oth fhj jnf
  have G2 : Hd ((S0.set i (.lst (pgT (us ++ [recT o])))).set j (.lst (pgT (us ++ [recT o])))) gh gs (Bs.set c (us ++ [recT o])) := G1.own ndg hj hc u
  have ng : ∀ {h : Nat} {hs : List Nat} {Bs' : List (List T)}, Hd S0 h hs Bs' → g ≠ h ∧ g ∉ hs := fun D => D.ne_obj L1.o
  refine ⟨((S0.set i (.lst (pgT (us ++ [recT o])))).set j (.lst (pgT (us ++ [recT o])))).set g (loO f gh (nxC c us)), ?_, ⟨?_, ?_, G2.oth (ng L1.hd).1 (ng L1.hd).2, L1.bl.nxt hc l ho, (Cu.nxt ⟨L1.cu, L1.cl⟩ hc l hcur _).cu, (Cu.nxt ⟨L1.cu, L1.cl⟩ hc l hcur _).cl⟩, F2.oth (ng DF1).1 (ng DF1).2, fun h hs Bs' D dj => ?_, fun n ws hw => ?_⟩
  · have o1 : (S0.set i (.lst (pgT (us ++ [recT o]))))[g]? = some (loO f gh cur) := by rw [List.getElem?_set_ne io]; exact L1.o
    have o2 : ((S0.set i (.lst (pgT (us ++ [recT o])))).set j (.lst (pgT (us ++ [recT o]))))[g]? = some (loO f gh cur) := by rw [List.getElem?_set_ne jo]; exact o1
    have gl : g < ((S0.set i (.lst (pgT (us ++ [recT o])))).set j (.lst (pgT (us ++ [recT o])))).length := (List.getElem?_eq_some_iff.mp o2).1
    have gg : ∀ x, (((S0.set i (.lst (pgT (us ++ [recT o])))).set j (.lst (pgT (us ++ [recT o])))).set g x)[g]? = some x := fun x => List.getElem?_set_self gl
    have ss : ∀ x y, (((S0.set i (.lst (pgT (us ++ [recT o])))).set j (.lst (pgT (us ++ [recT o])))).set g x).set g y = ((S0.set i (.lst (pgT (us ++ [recT o])))).set j (.lst (pgT (us ++ [recT o])))).set g y := fun x y => List.set_set ..
    have pj1 : (S0.set i (.lst (pgT (us ++ [recT o]))))[j]? = some (.lst (pgT us)) := by rw [List.getElem?_set_ne ij]; exact pj
    obtain ⟨j2, e6, _, q2⟩ := G1.ix hc
    rw [hj] at q2; cases q2
    have sz : us.length < (pgT us).length := by have := pgT_len u; omega
    have zi : ixN (pgT us).length (us.length : Int) = some us.length := ixN_nat sz
    have st := pgT_set l (recT o)
    have cc : (us.length + 1 = 8) ↔ (us.length : Int) + 1 = 8 := by omega
    clear F1 F2 G1 G2 ng DF1 L1 u hc hi hj imem jmem jnf inotg pi dis ndf ndg ij io jo if_ jf gf fhj gl pj sz kp1 kp2 pi0 pj0
    unfold loO at *
    unfold fsO at fo
    generalize pgT (us ++ [recT o]) = P at *
    generalize S0.set i (.lst P) = S1 at *
    generalize hS2 : S1.set j (.lst P) = S2 at *
    generalize (Bs.length : Int) = bn at *
    have nx1 : curT (nxC c us) = if (us.length : Int) + 1 = 8 then .non else .int (c : Int) := by
      unfold nxC
      by_cases q : us.length + 1 = 8
      · rw [if_pos q, if_pos (cc.mp q)]; rfl
      · rw [if_neg q, if_neg (fun h => q (cc.mpr h))]; rfl
    rw [nx1]
    clear nx1 cc
    generalize pgT us = pg at *
    generalize recT o = r at *
    generalize roomV Bs cur cp = rv at *
    generalize lfT lf = q0 at *
    clear hlf
    unfold m_Log_append b_Log_append
    generalize hn : (us.length : Int) = n at *
    generalize us.length = m at *
    cases cur with
    | some d =>
      have := hcur d rfl
      subst this
      clear hcur hch hn
      rw [c_some] at *
      generalize (d : Int) = ci at *
      by_cases q : n + 1 = 8
      · walk_at "ev*"
      · walk_at "ev*"
    | none =>
      have hch' := hch rfl
      clear hcur hch hn
      rw [c_none] at *
      generalize (c : Int) = ci at *
      by_cases q : n + 1 = 8
      · walk_at "ev*"
      · walk_at "ev*"
  · exact List.getElem?_set_self (by
      rw [List.length_set, List.length_set]
      exact (List.getElem?_eq_some_iff.mp L1.o).1)
  · rw [List.getElem?_set_ne gf, List.getElem?_set_ne jf, List.getElem?_set_ne if_, List.length_set]; exact L1.fo
  · have D0 := kp1 h hs Bs' D
    have D1 : Hd (S0.set i (.lst (pgT (us ++ [recT o])))) h hs Bs' := D0.oth (ne_pg pi u D0.at_) (fun hm => (dj i hm).1 imem)
    have pj1 : (S0.set i (.lst (pgT (us ++ [recT o]))))[j]? = some (.lst (pgT us)) := by rw [List.getElem?_set_ne ij]; exact pj
    exact (D1.oth (ne_pg pj1 u D1.at_) (fun hm => (dj j hm).2 jmem)).oth (ng D0).1 (ng D0).2
  · have hw0 := kp2 n ws hw
    have hj1 : (S0.set i (.lst (pgT (us ++ [recT o]))))[n]? = some (.lst (ws.map .int)) := by rw [List.getElem?_set_ne (ne_int pi u hw0)]; exact hw0
    have gn : g ≠ n := fun e => by rw [← e, L1.o] at hw0; cases hw0
    rw [List.getElem?_set_ne gn, List.getElem?_set_ne (ne_int pj u hw0)]
    exact hj1
theorem append_off {S : Sto} {g f fh gh : Nat} {w : T} {gs fs : List Nat} {Bs : List (List T)} {cur : Option Nat} (L : Lg S g f fh gh (w, lfT (some 0)) gs Bs cur) (DF : Hd S fh fs Bs) {c : Nat} {us : List T} (hc : Bs[c]? = some us) (l : us.length < 8) (hcur : ∀ d, cur = some d → d = c) (hch : cur = none → m_Log_choose [.ref g] S = .ok (.int (c : Int)) S) (cp : Bool) (rm : roomV Bs cur cp ≠ 0) (o : Int) :
    m_Log_append [.ref g, recT o, .bl cp] S = .exc "PowerOff" (S.set f (fsX (Bs.length : Int) fh w (.tup [.int (c : Int), .int (us.length : Int), recT o]))) := by
  have u := L.bl.us us (List.mem_of_getElem? hc)
  have e1 := log_room_ok L cp
  have e4 := program_off L.fo DF hc u l o
  have o0 := L.o
  have fo := L.fo
  obtain ⟨j, e5, pj, _⟩ := L.hd.ix hc
  have e7 := np_us (.inr ⟨j, rfl, pj⟩) u
  clear L DF u hc l
  unfold loO at *
  unfold fsO at fo
  generalize S.set f (fsX (Bs.length : Int) fh w (.tup [.int (c : Int), .int (us.length : Int), recT o])) = S2 at *
  generalize (Bs.length : Int) = bn at *
  generalize recT o = r at *
  generalize roomV Bs cur cp = rv at *
  generalize lfT (some 0) = q0 at *
  unfold m_Log_append b_Log_append
  generalize hn : (us.length : Int) = n at *
  cases cur with
  | some d =>
    have := hcur d rfl
    subst this
    clear hcur hch hn
    rw [c_some] at *
    generalize (d : Int) = ci at *
    walk_at "ev*"
  | none =>
    have hch' := hch rfl
    clear hcur hch hn
    rw [c_none] at *
    generalize (c : Int) = ci at *
    walk_at "ev*"
/-! ### blocks that are filled anew -/
theorem refs_ne_ints {S : Sto} {a b : Nat} {hs : List Nat} {ws : List Int} (ha : S[a]? = some (.lst (hs.map .ref))) (hb : S[b]? = some (.lst (ws.map .int))) (h0 : 0 < hs.length) : a ≠ b := fun e => by
  subst e
  rw [ha] at hb
  injection hb with hb
  injection hb with hb
  have h1 : (hs.map T.ref)[0]? = some (.ref hs[0]) := by rw [List.getElem?_map, List.getElem?_eq_getElem h0]; rfl
  rw [hb, List.getElem?_map] at h1
  cases q : ws[0]? with
  | none => rw [q] at h1; cases h1
  | some x => rw [q] at h1; cases h1
theorem Hd.nohead {S : Sto} {h h2 : Nat} {hs hs2 : List Nat} {Bs : List (List T)} (D : Hd S h hs Bs) (hB : ∀ us ∈ Bs, Us us) (h2a : S[h2]? = some (.lst (hs2.map .ref))) : h2 ∉ hs := fun hm => by
  obtain ⟨us, hu, p⟩ := D.has hm
  exact ne_pg p (hB us hu) h2a rfl
theorem Hd.noint {S : Sto} {h n : Nat} {hs : List Nat} {ws : List Int} {Bs : List (List T)} (D : Hd S h hs Bs) (hB : ∀ us ∈ Bs, Us us) (hn : S[n]? = some (.lst (ws.map .int))) : n ∉ hs := fun hm => by
  obtain ⟨us, hu, p⟩ := D.has hm
  exact ne_int p (hB us hu) hn rfl
theorem Hd.lt {S : Sto} {h : Nat} {hs : List Nat} {Bs : List (List T)} (D : Hd S h hs Bs) : ∀ i ∈ hs, i < S.length := fun i hi => by
  obtain ⟨us, _, p⟩ := D.has hi
  exact (List.getElem?_eq_some_iff.mp p).1
theorem nodup_set {l : List Nat} (h : l.Nodup) {x : Nat} (hx : ∀ i ∈ l, i < x) (b : Nat) : (l.set b x).Nodup := by
  rw [List.nodup_iff_pairwise_ne, List.pairwise_iff_getElem]
  intro i j hi hj ij
  rw [List.length_set] at hi hj
  rw [List.getElem_set, List.getElem_set]
  have di := hx _ (List.getElem_mem hi)
  have dj := hx _ (List.getElem_mem hj)
  have := List.pairwise_iff_getElem.mp h i j hi hj ij
  by_cases e1 : b = i
  · rw [if_pos e1, if_neg (by omega)]; omega
  · rw [if_neg e1]
    by_cases e2 : b = j
    · rw [if_pos e2]; omega
    · rw [if_neg e2]; exact this
def repS (S : Sto) (h : Nat) (hs : List Nat) (b : Nat) (vs : List T) : Sto := (S ++ [O.lst (pgT vs)]).set h (O.lst ((hs.map T.ref).set b (T.ref S.length)))
structure RepOk (S S' : Sto) (h : Nat) (hs hs' : List Nat) (Bs Bs' : List (List T)) : Prop where
  hd : Hd S' h hs' Bs'
  nd : hs'.Nodup
  oth : ∀ h2 hs2 Bs2, Hd S h2 hs2 Bs2 → (∀ us ∈ Bs2, Us us) → h ≠ h2 → Hd S' h2 hs2 Bs2
  itk : ∀ (n : Nat) (ws : List Int), S[n]? = some (.lst (ws.map .int)) → S'[n]? = some (.lst (ws.map .int))
  obj : ∀ (n : Nat) c fl, S[n]? = some (.obj c fl) → S'[n]? = some (.obj c fl)
  len : S'.length = S.length + 1
theorem rep_ok {S : Sto} {h : Nat} {hs : List Nat} {Bs : List (List T)} (D : Hd S h hs Bs) (nd : hs.Nodup) (hB : ∀ us ∈ Bs, Us us) {b : Nat} (hb : b < Bs.length) (vs : List T) : RepOk S (repS S h hs b vs) h hs (hs.set b S.length) Bs (Bs.set b vs) := by
  have lt := D.lt
  have hl := D.len
  have hS : h < S.length := (List.getElem?_eq_some_iff.mp D.at_).1
  have nh := D.nohead hB D.at_
  refine ⟨⟨?_, by simp [hl], fun c i ws h1 h2 => ?_⟩, nodup_set nd lt b, fun h2 hs2 Bs2 D2 hB2 ne => ?_, fun n ws hn => ?_, fun n c fl hn => ?_, by unfold repS; simp⟩
  · unfold repS; rw [List.getElem?_set_self (by simp; omega), List.map_set]
  · unfold repS
    by_cases e : b = c
    · subst e
      rw [List.getElem?_set_self (by omega)] at h1 h2
      cases h1; cases h2
      rw [List.getElem?_set_ne (by omega)]
      exact e_gsnoc
    · rw [List.getElem?_set_ne e] at h1 h2
      have hi := List.mem_of_getElem? h1
      rw [List.getElem?_set_ne (fun e => nh (by rw [e]; exact hi))]
      exact app_get (D.pg c i ws h1 h2)
  · exact (D2.app [.lst (pgT vs)]).oth ne (D2.nohead hB2 D.at_)
  · unfold repS
    rw [List.getElem?_set_ne (refs_ne_ints D.at_ hn (by omega))]
    exact app_get hn
  · unfold repS
    rw [List.getElem?_set_ne (fun e => by rw [← e, D.at_] at hn; cases hn)]
    exact app_get hn
theorem nil_us : Us [] := ⟨(fun t h => nomatch h), Nat.zero_le _⟩
def tornB : List T := List.replicate 8 (.str "torn")
theorem torn_us : Us tornB := ⟨fun t h => by rw [(List.mem_replicate.mp h).2]; exact .inl rfl, Nat.le_refl _⟩
theorem checkb_ok {S : Sto} {f fh : Nat} {n : Int} {wv : T × T} (fo : S[f]? = some (fsO n fh wv)) {b : Int} (b0 : 0 ≤ b) (b1 : b < n) : m_Flash_check_block [.ref f, .int b] S = .ok .non S := by
  have e1 := between_yes (z := b) (lo := 0) (hi := n - 1) (by omega) (by omega) S
  unfold fsO at fo
  unfold m_Flash_check_block b_Flash_check_block
  clear b0 b1
  walk_at "ev*"
def fsG (n : Int) (fh : Nat) (w l p br : T) : O := .obj "Flash" [("blocks", .int n), ("held", .ref fh), ("wears", w), ("left", l), ("power", p), ("broken", br)]
theorem fill_ok {S : Sto} {f fh wn : Nat} {fs : List Nat} {Bs : List (List T)} {ws : List Int} {n : Int} {l p br : T} (fo : S[f]? = some (fsG n fh (.ref wn) l p br)) (D : Hd S fh fs Bs) (ww : S[wn]? = some (.lst (ws.map .int))) (wl : ws.length = Bs.length) (hB : ∀ us ∈ Bs, Us us) (nd : fs.Nodup) {b : Nat} (hb : b < Bs.length) {x : T} {vs : List T} (rp : ([[x], [x], [x], [x], [x], [x], [x], [x]] : List (List T)).flatten = pgT vs) : m_Flash_fill [.ref f, .int (b : Int), x] S = .ok .non ((repS S fh fs b vs).set wn (.lst ((ws.set b (wN ws b + 1)).map .int))) := by
  have R := rep_ok D nd hB hb vs
  have at1 : (S ++ [O.lst (pgT vs)])[fh]? = some (.lst (fs.map .ref)) := app_get D.at_
  have fo0 : (S ++ [O.lst (pgT vs)])[f]? = some (fsG n fh (.ref wn) l p br) := app_get fo
  have fo1 : (repS S fh fs b vs)[f]? = some (fsG n fh (.ref wn) l p br) := R.obj _ _ _ fo
  have ww1 := R.itk _ _ ww
  have zi : ixN (fs.map T.ref).length (b : Int) = some b := ixN_nat (by rw [List.length_map, D.len]; exact hb)
  have zw : ixN (ws.map T.int).length (b : Int) = some b := ixN_nat (by rw [List.length_map]; omega)
  have aw := wat (ws := ws) (b := b) (by omega)
  have z := zl
  have ms : (ws.map T.int).set b (.int (wN ws b + 1)) = (ws.set b (wN ws b + 1)).map T.int := by rw [List.map_set]
  rw [← ms]
  have us : (S ++ [O.lst (pgT vs)]).set fh (.lst ((fs.map .ref).set b (.ref S.length))) = repS S fh fs b vs := rfl
  clear R D hB nd hb ms wl ww
  generalize repS S fh fs b vs = S2 at *
  unfold fsG at *
  generalize ws.map T.int = W at *
  generalize fs.map T.ref = rs at *
  generalize wN ws b = w at *
  generalize pgT vs = pg at *
  generalize (b : Int) = bi at *
  unfold m_Flash_fill b_Flash_fill
  walk_at "ev*"
theorem wear_set {S : Sto} {n : Nat} {ws ws' : List Int} (hn : S[n]? = some (.lst (ws.map .int))) : (S.set n (.lst (ws'.map .int)))[n]? = some (.lst (ws'.map .int)) := List.getElem?_set_self (List.getElem?_eq_some_iff.mp hn).1
theorem Hd.wset {S : Sto} {h n : Nat} {hs : List Nat} {Bs : List (List T)} {ws : List Int} {o : O} (D : Hd S h hs Bs) (hB : ∀ us ∈ Bs, Us us) (h0 : 0 < Bs.length) (hn : S[n]? = some (.lst (ws.map .int))) : Hd (S.set n o) h hs Bs :=
  D.oth (Ne.symm (refs_ne_ints D.at_ hn (by rw [D.len]; exact h0))) (D.noint hB hn)
theorem obj_wset {S : Sto} {n m : Nat} {ws : List Int} {o : O} {c fl} (hn : S[n]? = some (.lst (ws.map .int))) (hm : S[m]? = some (.obj c fl)) : (S.set n o)[m]? = some (.obj c fl) := by
  rw [List.getElem?_set_ne (fun e => by rw [e, hm] at hn; cases hn)]; exact hm
theorem closed_nin {Bs : List (List T)} (z : Int) (S : Sto) : opNin (.int z) (.lst (frL Bs "closed")) S = .ok (.bl (!(frL Bs "closed").any fun t => eqT t (.int z))) S := by
  obtain ⟨h1, h2, _⟩ := ints_dat (frL_int (Bs := Bs) (w := "closed"))
  exact e_nin_lst rfl h1 (Nat.le_trans h2 (by decide))
theorem closed_any {Bs : List (List T)} {z : Int} : ((frL Bs "closed").any fun t => eqT t (.int z)) = true ↔ ∃ b us, z = ((b : Nat) : Int) ∧ Bs[b]? = some us ∧ stW us = "closed" := by
  rw [List.any_eq_true]
  constructor
  · rintro ⟨t, ht, e⟩
    obtain ⟨b, us, rfl, hu, hs⟩ := frL_mem.mp ht
    rw [q_int_int] at e
    exact ⟨b, us, (of_decide_eq_true e).symm, hu, hs⟩
  · rintro ⟨b, us, rfl, hu, hs⟩
    exact ⟨_, frL_mem.mpr ⟨b, us, rfl, hu, hs⟩, by rw [q_int_int]; exact decide_eq_true rfl⟩
theorem Cu.era {Bs : List (List T)} {cur : Option Nat} (C : Cu Bs cur) {b : Nat} {us : List T} (hb : Bs[b]? = some us) (hs : stW us = "closed") {vs : List T} (hv : vs.length = 0 ∨ vs.length = 8) : Cu (Bs.set b vs) cur := by
  have bl := (List.getElem?_eq_some_iff.mp hb).1
  have nc : ¬ cur = some b := fun e => by
    have := stW_open.mpr ((C.cu b us hb).mp e)
    rw [hs] at this
    exact absurd this (by decide)
  refine ⟨fun c ws hc => ?_, fun c hc => by rw [List.length_set]; exact C.cl c hc⟩
  by_cases e : b = c
  · subst e
    rw [List.getElem?_set_self bl] at hc
    cases hc
    exact ⟨fun h => absurd h nc, fun h => by omega⟩
  · rw [List.getElem?_set_ne e] at hc
    exact C.cu c ws hc
theorem Bl.put {Bs : List (List T)} (B : Bl Bs) (b : Nat) {vs : List T} (hv : Us vs) : Bl (Bs.set b vs) :=
  ⟨fun ws hw => by
    rcases List.mem_or_eq_of_mem_set hw with h | h
    · exact B.us ws h
    · rw [h]; exact hv, by rw [List.length_set]; exact B.l1, by rw [List.length_set]; exact B.l2⟩
theorem mem_set_or {l : List Nat} {b x i : Nat} (h : i ∈ l.set b x) : i ∈ l ∨ i = x := List.mem_or_eq_of_mem_set h
/-- the flash and what the law keeps of it -/
structure Lf (S : Sto) (f fh wn lh lw : Nat) (fs hs : List Nat) (ws lws : List Int) (Bs Es : List (List T)) (o : O) : Prop where
  fo : S[f]? = some o
  D : Hd S fh fs Bs
  E : Hd S lh hs Es
  bB : Bl Bs
  bE : Bl Es
  ndf : fs.Nodup
  ndh : hs.Nodup
  dj : ∀ i ∈ hs, i ∉ fs
  ww : S[wn]? = some (.lst (ws.map .int))
  lww : S[lw]? = some (.lst (lws.map .int))
  ne : wn ≠ lw
  h2 : fh ≠ lh
  wl : ws.length = Bs.length
  lwl : lws.length = Es.length
  el : Es.length = Bs.length
structure Lz (S : Sto) (g f fh gh wn lh lw : Nat) (fs gs hs : List Nat) (ws lws : List Int) (Bs Es : List (List T)) (cur : Option Nat) (lf : Option Nat) : Prop where
  B : Lf S f fh wn lh lw fs hs ws lws Bs Es (fsO (Bs.length : Int) fh (.ref wn, lfT lf))
  L : Lg S g f fh gh (.ref wn, lfT lf) gs Bs cur
  ndg : gs.Nodup
  d1 : ∀ i ∈ gs, i ∉ fs ∧ i ∉ hs
  h1 : fh ≠ gh
  h3 : gh ≠ lh
theorem Lz.app_go {S : Sto} {g f fh gh wn lh lw : Nat} {fs gs hs : List Nat} {ws lws : List Int} {Bs Es : List (List T)} {cur lf : Option Nat} (X : Lz S g f fh gh wn lh lw fs gs hs ws lws Bs Es cur lf) (hlf : lf ≠ some 0) {c : Nat} {us : List T} (hc : Bs[c]? = some us) (l : us.length < 8) (hcur : ∀ d, cur = some d → d = c) (hch : cur = none → m_Log_choose [.ref g] S = .ok (.int (c : Int)) S) (cp : Bool) (rm : roomV Bs cur cp ≠ 0) (o : Int) (ho : 1 ≤ o) :
    ∃ S', m_Log_append [.ref g, recT o, .bl cp] S = .ok .non S' ∧ Lz S' g f fh gh wn lh lw fs gs hs ws lws (Bs.set c (us ++ [recT o])) Es (nxC c us) (decL lf) := by
  obtain ⟨S', e, L', D', oth, itk⟩ := append_go X.L hlf X.B.D X.B.ndf X.ndg (fun i hi hg => (X.d1 i hg).1 hi) hc l hcur hch cp rm o ho
  have fo := L'.fo
  exact ⟨S', e, ⟨fo, D', oth _ _ _ X.B.E (fun i hi => ⟨X.B.dj i hi, fun hg => (X.d1 i hg).2 hi⟩), L'.bl, X.B.bE, X.B.ndf, X.B.ndh, X.B.dj, itk _ _ X.B.ww, itk _ _ X.B.lww, X.B.ne, X.B.h2, by rw [List.length_set]; exact X.B.wl, X.B.lwl, by rw [List.length_set]; exact X.B.el⟩, L', X.ndg, X.d1, X.h1, X.h3⟩
theorem Lf.objset {S : Sto} {f fh wn lh lw : Nat} {fs hs : List Nat} {ws lws : List Int} {Bs Es : List (List T)} {c : String} {fl} (X : Lf S f fh wn lh lw fs hs ws lws Bs Es (.obj c fl)) (o' : O) : Lf (S.set f o') f fh wn lh lw fs hs ws lws Bs Es o' :=
  ⟨gset X.fo _, X.D.obj X.fo _, X.E.obj X.fo _, X.bB, X.bE, X.ndf, X.ndh, X.dj, int_obj X.ww X.fo _, int_obj X.lww X.fo _, X.ne, X.h2, X.wl, X.lwl, X.el⟩
theorem Lz.app_off {S : Sto} {g f fh gh wn lh lw : Nat} {fs gs hs : List Nat} {ws lws : List Int} {Bs Es : List (List T)} {cur : Option Nat} (X : Lz S g f fh gh wn lh lw fs gs hs ws lws Bs Es cur (some 0)) {c : Nat} {us : List T} (hc : Bs[c]? = some us) (l : us.length < 8) (hcur : ∀ d, cur = some d → d = c) (hch : cur = none → m_Log_choose [.ref g] S = .ok (.int (c : Int)) S) (cp : Bool) (rm : roomV Bs cur cp ≠ 0) (o : Int) :
    ∃ S', m_Log_append [.ref g, recT o, .bl cp] S = .exc "PowerOff" S' ∧ Lf S' f fh wn lh lw fs hs ws lws Bs Es (fsX (Bs.length : Int) fh (.ref wn) (.tup [.int (c : Int), .int (us.length : Int), recT o])) :=
  ⟨_, append_off X.L X.B.D hc l hcur hch cp rm o, X.B.objset _⟩
theorem none8 : ([[T.non], [T.non], [T.non], [T.non], [T.non], [T.non], [T.non], [T.non]] : List (List T)).flatten = pgT [] := rfl
theorem torn8 : ([[T.str "torn"], [T.str "torn"], [T.str "torn"], [T.str "torn"], [T.str "torn"], [T.str "torn"], [T.str "torn"], [T.str "torn"]] : List (List T)).flatten = pgT tornB := rfl
theorem Lf.filled {S : Sto} {f fh wn lh lw : Nat} {fs hs : List Nat} {ws lws : List Int} {Bs Es : List (List T)} {c : String} {fl} (X : Lf S f fh wn lh lw fs hs ws lws Bs Es (.obj c fl)) {b : Nat} (hb : b < Bs.length) {vs : List T} (hv : Us vs) : Lf ((repS S fh fs b vs).set wn (.lst ((ws.set b (wN ws b + 1)).map .int))) f fh wn lh lw (fs.set b S.length) hs (ws.set b (wN ws b + 1)) lws (Bs.set b vs) Es (.obj c fl) ∧ (∀ h2 hs2 Bs2, Hd S h2 hs2 Bs2 → Bl Bs2 → fh ≠ h2 → Hd ((repS S fh fs b vs).set wn (.lst ((ws.set b (wN ws b + 1)).map .int))) h2 hs2 Bs2) ∧ (∀ (n : Nat) c fl, S[n]? = some (.obj c fl) → ((repS S fh fs b vs).set wn (.lst ((ws.set b (wN ws b + 1)).map .int)))[n]? = some (.obj c fl)) ∧ S.length < ((repS S fh fs b vs).set wn (.lst ((ws.set b (wN ws b + 1)).map .int))).length := by
  have R1 := rep_ok X.D X.ndf X.bB.us hb vs
  have w1 := R1.itk _ _ X.ww
  have l1 := R1.itk _ _ X.lww
  have ltf := X.D.lt
  have lth := X.E.lt
  have s1 := R1.len
  have B' := X.bB.put b hv
  have n0' : 0 < (Bs.set b vs).length := by rw [List.length_set]; omega
  have n0 : 0 < Es.length := by rw [X.el]; omega
  refine ⟨⟨obj_wset w1 (R1.obj _ _ _ X.fo), R1.hd.wset B'.us n0' w1, (R1.oth _ _ _ X.E X.bE.us X.h2).wset X.bE.us n0 w1, B', X.bE, R1.nd, X.ndh, fun i hi hf => ?_, wear_set w1, by rw [List.getElem?_set_ne X.ne]; exact l1, X.ne, X.h2, by rw [List.length_set, List.length_set]; exact X.wl, X.lwl, by rw [List.length_set]; exact X.el⟩, fun h2 hs2 Bs2 D2 b2 ne => (R1.oth _ _ _ D2 b2.us ne).wset b2.us (by have := b2.l1; omega) w1, fun n c fl h => obj_wset w1 (R1.obj _ _ _ h), by rw [List.length_set]; omega⟩
  rcases mem_set_or hf with h2 | h2
  · exact X.dj i hi h2
  · have := lth i hi; omega
theorem Lz.era_go {S : Sto} {g f fh gh wn lh lw : Nat} {fs gs hs : List Nat} {ws lws : List Int} {Bs Es : List (List T)} {cur lf : Option Nat} (X : Lz S g f fh gh wn lh lw fs gs hs ws lws Bs Es cur lf) (hlf : lf ≠ some 0) {b : Nat} {us : List T} (hb : Bs[b]? = some us) (hc : stW us = "closed") :
    ∃ S' fs' gs', m_Log_erase [.ref g, .int (b : Int)] S = .ok .non S' ∧ Lz S' g f fh gh wn lh lw fs' gs' hs (ws.set b (wN ws b + 1)) lws (Bs.set b []) Es cur (decL lf) := by
  have hbl := (List.getElem?_eq_some_iff.mp hb).1
  have C' := Cu.era ⟨X.L.cu, X.L.cl⟩ hb hc (vs := []) (.inl rfl)
  have ltf := X.B.D.lt
  have ltg := X.L.hd.lt
  have e1 := log_closed X.L
  have e2 := closed_nin (Bs := Bs) (b : Int) S
  rw [closed_any.mpr ⟨b, us, rfl, hb, hc⟩] at e2
  have fo := X.B.fo
  have lo := X.L.o
  have e3 := checkb_ok fo (b := (b : Int)) (by omega) (by omega)
  have e4 := fun x => operate_go fo hlf x
  have X0 := X.B.objset (fsO (Bs.length : Int) fh (.ref wn, lfT (decL lf)))
  have L0 := X.L.fuse (.ref wn, lfT (decL lf))
  generalize hS0 : S.set f (fsO (Bs.length : Int) fh (.ref wn, lfT (decL lf))) = S0 at *
  have s0 : S0.length = S.length := by rw [← hS0, List.length_set]
  have ef := fill_ok X0.fo X0.D X0.ww X0.wl X0.bB.us X0.ndf hbl none8
  obtain ⟨X1, oth1, ob1, ln1⟩ := X0.filled hbl nil_us
  have G1 := oth1 _ _ _ L0.hd X0.bB X.h1
  have o1 := ob1 _ _ _ L0.o
  generalize hA1 : (repS S0 fh fs b []).set wn (.lst ((ws.set b (wN ws b + 1)).map .int)) = A1 at *
  have R4 := rep_ok G1 X.ndg X0.bB.us hbl []
  have o4 := R4.obj _ _ _ o1
  have f4 := R4.obj _ _ _ X1.fo
  have D4 := R4.oth _ _ _ X1.D X1.bB.us (Ne.symm X.h1)
  have E4 := R4.oth _ _ _ X1.E X1.bE.us X.h3
  have w4 := R4.itk _ _ X1.ww
  have l4 := R4.itk _ _ X1.lww
  have at1 : (A1 ++ [O.lst (pgT [])])[gh]? = some (.lst (gs.map .ref)) := app_get G1.at_
  have o1' : (A1 ++ [O.lst (pgT [])])[g]? = some (loO f gh cur) := app_get o1
  have us4 : List.set (A1 ++ [O.lst (pgT [])]) gh (.lst ((gs.map .ref).set b (.ref A1.length))) = repS A1 gh gs b [] := rfl
  have zg : ixN (gs.map T.ref).length (b : Int) = some b := ixN_nat (by rw [List.length_map, G1.len]; exact hbl)
  have hd4 := R4.hd
  have nd4 := R4.nd
  generalize repS A1 gh gs b [] = A4 at *
  refine ⟨A4, fs.set b S0.length, gs.set b A1.length, ?_, ⟨⟨?_, D4, E4, X1.bB, X1.bE, X1.ndf, X1.ndh, X1.dj, w4, l4, X1.ne, X1.h2, X1.wl, X1.lwl, X1.el⟩, ⟨o4, ?_, hd4, X1.bB, C'.cu, C'.cl⟩, nd4, fun i hi => ?_, X.h1, X.h3⟩⟩
  · have x0 := X0.fo
    clear X X0 X1 oth1 ob1 L0 R4 C' D4 E4 w4 l4 f4 o4 hd4 nd4 ltf ltg hbl hb hc G1 hS0 hA1 s0 ln1
    have rp := none8
    have z := zl
    unfold loO at *
    unfold fsO at *
    generalize frL Bs "closed" = fr at *
    generalize gs.map T.ref = grs at *
    generalize pgT [] = pg at *
    generalize curT cur = cc at *
    generalize (Bs.length : Int) = n at *
    generalize (b : Int) = bi at *
    generalize lfT lf = q0 at *
    generalize lfT (decL lf) = q1 at *
    clear hlf
    unfold m_Log_erase b_Log_erase m_Flash_erase b_Flash_erase
    walk_at "ev*"
  · rw [List.length_set]; exact f4
  · rw [List.length_set]; exact f4
  · rcases mem_set_or hi with h1 | h1
    · refine ⟨fun hf => ?_, (X.d1 i h1).2⟩
      rcases mem_set_or hf with h2 | h2
      · exact (X.d1 i h1).1 h2
      · have := ltg i h1; omega
    · refine ⟨fun hf => ?_, fun hh => ?_⟩
      · rcases mem_set_or hf with h2 | h2
        · have := ltf i h2; omega
        · omega
      · have := X0.E.lt i hh; omega
theorem Lz.era_off {S : Sto} {g f fh gh wn lh lw : Nat} {fs gs hs : List Nat} {ws lws : List Int} {Bs Es : List (List T)} {cur : Option Nat} (X : Lz S g f fh gh wn lh lw fs gs hs ws lws Bs Es cur (some 0)) {b : Nat} {us : List T} (hb : Bs[b]? = some us) (hc : stW us = "closed") :
    ∃ S', m_Log_erase [.ref g, .int (b : Int)] S = .exc "PowerOff" S' ∧ Lf S' f fh wn lh lw fs hs ws lws Bs Es (fsX (Bs.length : Int) fh (.ref wn) (.tup [.int (b : Int), .non, .non])) := by
  have hbl := (List.getElem?_eq_some_iff.mp hb).1
  have e1 := log_closed X.L
  have e2 := closed_nin (Bs := Bs) (b : Int) S
  rw [closed_any.mpr ⟨b, us, rfl, hb, hc⟩] at e2
  have fo := X.B.fo
  have lo := X.L.o
  have e3 := checkb_ok fo (b := (b : Int)) (by omega) (by omega)
  have e4 := operate_off fo (.tup [.int (b : Int), .non, .non])
  refine ⟨_, ?_, X.B.objset _⟩
  generalize S.set f (fsX (Bs.length : Int) fh (.ref wn) (.tup [.int (b : Int), .non, .non])) = S2 at *
  clear X hbl hb hc
  unfold loO at *
  unfold fsO at *
  generalize frL Bs "closed" = fr at *
  generalize curT cur = cc at *
  generalize (Bs.length : Int) = n at *
  generalize (b : Int) = bi at *
  generalize lfT (some 0) = q0 at *
  unfold m_Log_erase b_Log_erase m_Flash_erase b_Flash_erase
  walk_at "ev*"
/-! ### a cut -/
theorem btw2 {z : Int} (a : 0 ≤ z) (b : z ≤ 2) (S : Sto) : m_is_between [.int z, .int 0, .int 2] S = .ok (.bl true) S := between_yes a b S
theorem cut_none {S : Sto} {f fh : Nat} {n : Int} {w br : T} (fo : S[f]? = some (fsX n fh w br)) (S' : Sto) (hS : S.set f (fsO n fh (w, .non)) = S') (br0 : isNon br = false) : m_Flash_cut [.ref f, .int 0] S = .ok .non S' := by
  have e1 := btw2 (z := 0) (by decide) (by decide) S
  have g1 := fun y => gset fo y
  have s1 := @sset S f
  subst hS
  unfold fsO fsX at *
  unfold m_Flash_cut b_Flash_cut
  walk_at "ev*"
theorem cut_app {S : Sto} {f fh : Nat} {n : Int} {w : T} {fs : List Nat} {Bs : List (List T)} {c : Nat} {us : List T} {o : Int} (fo : S[f]? = some (fsX n fh w (.tup [.int (c : Int), .int (us.length : Int), recT o]))) (D : Hd S fh fs Bs) {i : Nat} (hi : fs[c]? = some i) (hc : Bs[c]? = some us) (u : Us us) (l : us.length < 8) {z : Int} {x : T} (hz : (z = 1 ∧ x = recT o) ∨ (z = 2 ∧ x = .str "torn")) : m_Flash_cut [.ref f, .int z] S = .ok .non ((S.set i (.lst (pgT (us ++ [x])))).set f (fsO n fh (w, .non))) := by
  have p := D.pg c i us hi hc
  have e1 := btw2 (z := z) (by omega) (by omega) S
  obtain ⟨i', e3, _, e5⟩ := D.ix hc
  rw [hi] at e5; cases e5
  have if_ : i ≠ f := fun e => by rw [e, fo] at p; cases p
  have fo1 : (S.set i (.lst (pgT (us ++ [x]))))[f]? = some (fsX n fh w (.tup [.int (c : Int), .int (us.length : Int), recT o])) := by rw [List.getElem?_set_ne if_]; exact fo
  have g1 := fun y => gset fo1 y
  have s1 := @sset (S.set i (.lst (pgT (us ++ [x])))) f
  have sz : us.length < (pgT us).length := by have := pgT_len u; omega
  have zi : ixN (pgT us).length (us.length : Int) = some us.length := ixN_nat sz
  have st := pgT_set l x
  have nb : isNon (T.tup [.int (c : Int), .int (us.length : Int), recT o]) = false := rfl
  clear D hi hc u l if_ sz
  generalize pgT (us ++ [x]) = P at *
  generalize pgT us = pg at *
  generalize hS1 : S.set i (.lst P) = S1 at *
  unfold fsO fsX at *
  generalize (us.length : Int) = un at *
  generalize (c : Int) = ci at *
  generalize us.length = m at *
  rcases hz with ⟨rfl, rfl⟩ | ⟨rfl, rfl⟩
  · generalize recT o = r at *
    unfold m_Flash_cut b_Flash_cut
    walk_at "ev*"
  · generalize recT o = r at *
    unfold m_Flash_cut b_Flash_cut
    walk_at "ev*"
theorem cut_era {S : Sto} {f fh wn : Nat} {n : Int} {fs : List Nat} {Bs : List (List T)} {ws : List Int} {b : Nat} (fo : S[f]? = some (fsX n fh (.ref wn) (.tup [.int (b : Int), .non, .non]))) (D : Hd S fh fs Bs) (ww : S[wn]? = some (.lst (ws.map .int))) (wl : ws.length = Bs.length) (hB : ∀ us ∈ Bs, Us us) (nd : fs.Nodup) (hb : b < Bs.length) {z : Int} {x : T} {vs : List T} (hz : (z = 1 ∧ x = .non) ∨ (z = 2 ∧ x = .str "torn")) (rp : ([[x], [x], [x], [x], [x], [x], [x], [x]] : List (List T)).flatten = pgT vs) : m_Flash_cut [.ref f, .int z] S = .ok .non (((repS S fh fs b vs).set wn (.lst ((ws.set b (wN ws b + 1)).map .int))).set f (fsO n fh (.ref wn, .non))) := by
  have ef := fill_ok (n := n) (l := .int 0) (p := .bl false) (br := .tup [.int (b : Int), .non, .non]) fo D ww wl hB nd hb rp
  have R := rep_ok D nd hB hb vs
  have f1 : ((repS S fh fs b vs).set wn (.lst ((ws.set b (wN ws b + 1)).map .int)))[f]? = some (fsX n fh (.ref wn) (.tup [.int (b : Int), .non, .non])) := obj_wset (R.itk _ _ ww) (R.obj _ _ _ fo)
  have e1 := btw2 (z := z) (by omega) (by omega) S
  generalize (repS S fh fs b vs).set wn (.lst ((ws.set b (wN ws b + 1)).map .int)) = S1 at *
  have g1 := fun y => gset f1 y
  have s1 := @sset S1 f
  clear R D ww wl hB nd hb rp
  unfold fsO fsX at *
  generalize (b : Int) = bi at *
  rcases hz with ⟨rfl, rfl⟩ | ⟨rfl, rfl⟩
  · unfold m_Flash_cut b_Flash_cut
    walk_at "ev*"
  · unfold m_Flash_cut b_Flash_cut
    walk_at "ev*"
/-! ### what the law does to its own lists -/
theorem apply_app {S : Sto} {f fh wn lh lw : Nat} {fs hs : List Nat} {ws lws : List Int} {Bs Es : List (List T)} {c : String} {fl} (X : Lf S f fh wn lh lw fs hs ws lws Bs Es (.obj c fl)) {b : Nat} {us : List T} (hb : Es[b]? = some us) (l : us.length < 8) {x : T} (hx : Us (us ++ [x])) :
    ∃ i, i ∈ hs ∧ S[i]? = some (.lst (pgT us)) ∧ m__law_apply [.ref lh, .ref lw, .str "append", .int (b : Int), x] S = .ok .non (S.set i (.lst (pgT (us ++ [x])))) ∧ Lf (S.set i (.lst (pgT (us ++ [x])))) f fh wn lh lw fs hs ws lws Bs (Es.set b (us ++ [x])) (.obj c fl) := by
  have u := X.bE.us us (List.mem_of_getElem? hb)
  obtain ⟨i, hi, pi⟩ := X.E.get hb
  have im := List.mem_of_getElem? hi
  refine ⟨i, im, pi, ?_, ⟨?_, X.D.oth (ne_pg pi u X.D.at_) (X.dj i im), X.E.own X.ndh hi hb u, X.bB, X.bE.put b hx, X.ndf, X.ndh, X.dj, ?_, ?_, X.ne, X.h2, X.wl, by rw [List.length_set]; exact X.lwl, by rw [List.length_set]; exact X.el⟩⟩
  · obtain ⟨i', e3, _, e4⟩ := X.E.ix hb
    rw [hi] at e4; cases e4
    have e5 := np_us (.inr ⟨i, rfl, pi⟩) u
    rw [← used_eq] at e5
    have sz : us.length < (pgT us).length := by have := pgT_len u; omega
    have zi : ixN (pgT us).length (us.length : Int) = some us.length := ixN_nat sz
    have st := pgT_set l x
    clear X u hi im hb hx sz
    generalize pgT (us ++ [x]) = P at *
    generalize pgT us = pg at *
    generalize (b : Int) = bi at *
    generalize (us.length : Int) = un at *
    unfold m__law_apply b__law_apply
    walk_at "ev*"
  · rw [List.getElem?_set_ne (fun e => by rw [e, X.fo] at pi; cases pi)]; exact X.fo
  · rw [List.getElem?_set_ne (ne_int pi u X.ww)]; exact X.ww
  · rw [List.getElem?_set_ne (ne_int pi u X.lww)]; exact X.lww
theorem apply_era {S : Sto} {f fh wn lh lw : Nat} {fs hs : List Nat} {ws lws : List Int} {Bs Es : List (List T)} {c : String} {fl} (X : Lf S f fh wn lh lw fs hs ws lws Bs Es (.obj c fl)) {b : Nat} (hb : b < Es.length) {x : T} {vs : List T} (hv : Us vs) (rp : ([[x], [x], [x], [x], [x], [x], [x], [x]] : List (List T)).flatten = pgT vs) :
    ∃ S' , m__law_apply [.ref lh, .ref lw, .str "erase", .int (b : Int), x] S = .ok .non S' ∧ Lf S' f fh wn lh lw fs (hs.set b S.length) ws (lws.set b (wN lws b + 1)) Bs (Es.set b vs) (.obj c fl) ∧ (∀ h2 hs2 Bs2, Hd S h2 hs2 Bs2 → Bl Bs2 → lh ≠ h2 → Hd S' h2 hs2 Bs2) ∧ (∀ (n : Nat) c fl, S[n]? = some (.obj c fl) → S'[n]? = some (.obj c fl)) := by
  have R1 := rep_ok X.E X.ndh X.bE.us hb vs
  have w1 := R1.itk _ _ X.ww
  have l1 := R1.itk _ _ X.lww
  have ltf := X.D.lt
  have lth := X.E.lt
  have s1 := R1.len
  have B' := X.bE.put b hv
  have n0' : 0 < (Es.set b vs).length := by rw [List.length_set]; omega
  have n0 : 0 < Bs.length := by rw [← X.el]; omega
  refine ⟨(repS S lh hs b vs).set lw (.lst ((lws.set b (wN lws b + 1)).map .int)), ?_, ⟨obj_wset l1 (R1.obj _ _ _ X.fo), (R1.oth _ _ _ X.D X.bB.us (Ne.symm X.h2)).wset X.bB.us n0 l1, R1.hd.wset B'.us n0' l1, X.bB, B', X.ndf, R1.nd, fun i hi hf => ?_, by rw [List.getElem?_set_ne (Ne.symm X.ne)]; exact w1, wear_set l1, X.ne, X.h2, X.wl, by rw [List.length_set, List.length_set]; exact X.lwl, by rw [List.length_set]; exact X.el⟩, fun h2 hs2 Bs2 D2 b2 ne => (R1.oth _ _ _ D2 b2.us ne).wset b2.us (by have := b2.l1; omega) l1, fun n c fl h => obj_wset l1 (R1.obj _ _ _ h)⟩
  · have at1 : (S ++ [O.lst (pgT vs)])[lh]? = some (.lst (hs.map .ref)) := app_get X.E.at_
    have zi : ixN (hs.map T.ref).length (b : Int) = some b := ixN_nat (by rw [List.length_map, X.E.len]; exact hb)
    have zw : ixN (lws.map T.int).length (b : Int) = some b := ixN_nat (by rw [List.length_map, X.lwl]; omega)
    have aw := wat (ws := lws) (b := b) (by rw [X.lwl]; omega)
    have z := zl
    have ms : (lws.map T.int).set b (.int (wN lws b + 1)) = (lws.set b (wN lws b + 1)).map T.int := by rw [List.map_set]
    rw [← ms]
    have us : (S ++ [O.lst (pgT vs)]).set lh (.lst ((hs.map .ref).set b (.ref S.length))) = repS S lh hs b vs := rfl
    clear R1 X hb ms w1 ltf lth s1 B' n0 n0' hv
    generalize repS S lh hs b vs = S2 at *
    generalize lws.map T.int = W at *
    generalize hs.map T.ref = rs at *
    generalize wN lws b = w at *
    generalize pgT vs = pg at *
    generalize (b : Int) = bi at *
    unfold m__law_apply b__law_apply
    walk_at "ev*"
  · rcases mem_set_or hi with h2 | h2
    · exact X.dj i h2 hf
    · have := ltf i hf; omega
/-! ### what the law chooses -/
def elB (Bs : List (List T)) (b : Nat) (o : Int) : Prop := ∃ d us, d ≠ b ∧ Bs[d]? = some us ∧ recT o ∈ us
open Classical in
noncomputable def elW (Bs : List (List T)) (b : Nat) (o : Int) : Bool := decide (elB Bs b o)
theorem elW_iff {Bs : List (List T)} {b : Nat} {o : Int} : elW Bs b o = true ↔ elB Bs b o := by unfold elW; simp
theorem any_pg {us : List T} (u : Us us) {o : Int} : ((pgT us).any fun z => eqT z (recT o)) = true ↔ recT o ∈ us := by
  rw [List.any_eq_true]
  constructor
  · rintro ⟨z, hz, e⟩
    unfold pgT at hz
    rcases List.mem_append.mp hz with hz | hz
    · rcases u.up z hz with rfl | ⟨r, _, rfl⟩
      · unfold recT at e; rw [q_str_tup] at e; cases e
      · rw [eq_rec] at e
        have := of_decide_eq_true e
        subst this
        exact hz
    · rw [(List.mem_replicate.mp hz).2] at e
      unfold recT at e; rw [q_non_tup] at e; cases e
  · intro h
    exact ⟨_, List.mem_append_left _ h, (rec_dat o).2.2⟩
def ElI (Bs : List (List T)) (h b : Nat) (o : Int) (S : Sto) (k : Nat) (st : Slots) (S' : Sto) : Prop := S' = S ∧ ∃ o3, st = [some (.ref h), some (.int (b : Int)), some (recT o), o3] ∧ ∀ d us, d < k → d ≠ b → Bs[d]? = some us → recT o ∉ us
def ElQ (Bs : List (List T)) (b : Nat) (o : Int) (S : Sto) (t : T) (S' : Sto) : Prop := S' = S ∧ t = .bl true ∧ elB Bs b o
theorem law_elsewhere_ok {S : Sto} {h : Nat} {hs : List Nat} {Bs : List (List T)} (D : Hd S h hs Bs) (hB : Bl Bs) (b : Nat) (o : Int) : m__law_elsewhere [.ref h, .int (b : Int), recT o] S = .ok (.bl (elW Bs b o)) S := by
  have ln := D.ln
  have l2 := hB.l2
  obtain ⟨n, hn⟩ : ∃ n : Int, (Bs.length : Int) = n := ⟨_, rfl⟩
  have hb : -4611686018427387904 ≤ n ∧ n < 4611686018427387904 := by omega
  rw [hn] at ln
  unfold m__law_elsewhere b__law_elsewhere
  walk_at "ev*"
  clear hb
  refine use_rngR (C := fun r => defK (r.seq (mRet (mC (.bl false)))) = .ok (.bl (elW Bs b o)) S) (fun k => ElI Bs h b o S k) (ElQ Bs b o S) (fun _ _ => False) ?_ ?_ ?_ ?_
  · exact ⟨rfl, none, rfl, fun d us h => absurd h (Nat.not_lt_zero _)⟩
  · rintro k st S' hk ⟨rfl, o3, rfl, inv⟩
    have hu : Bs[k]? = some (Bs[k]'(by omega)) := List.getElem?_eq_getElem _
    generalize Bs[k]'(by omega) = us at *
    have u := hB.us us (List.mem_of_getElem? hu)
    obtain ⟨i, e1, e2, _⟩ := D.ix hu
    have e3 := in_pages e2 u o
    have lt1 : ∀ d, d < k + 1 → d = k ∨ d < k := fun b h => by omega
    rw [Int.zero_add]
    by_cases c1 : (k : Int) = (b : Int)
    · have f1 : ElI Bs h b o S' (k + 1) [some (.ref h), some (.int (b : Int)), some (recT o), some (.int (k : Int))] S' := ⟨rfl, _, rfl, fun d vs hd hne hv => by
        rcases lt1 d hd with rfl | hd
        · exact absurd (by omega) hne
        · exact inv d vs hd hne hv⟩
      have kb : k = b := by omega
      subst kb
      clear inv lt1 D hB u e2 e3 ln hn hk hu c1
      generalize (k : Int) = ki at *
      generalize recT o = r at *
      walk_at "ev"
      exact f1
    · cases c2 : ((pgT us).any fun z => eqT z (recT o))
      · rw [c2] at e3
        have f1 : ElI Bs h b o S' (k + 1) [some (.ref h), some (.int (b : Int)), some (recT o), some (.int (k : Int))] S' := ⟨rfl, _, rfl, fun d vs hd hne hv => by
          rcases lt1 d hd with rfl | hd
          · rw [hu] at hv; cases hv
            intro hm
            rw [(any_pg u).mpr hm] at c2
            cases c2
          · exact inv d vs hd hne hv⟩
        clear inv lt1 D hB u e2 ln hn hk hu c2
        generalize (k : Int) = ki at *
        generalize (b : Int) = bi at *
        generalize recT o = r at *
        revert f1
        walk_at "ev*"
        exact id
      · rw [c2] at e3
        have f1 : elB Bs b o := ⟨k, us, by omega, hu, (any_pg u).mp c2⟩
        have f2 : ElQ Bs b o S' (.bl true) S' := ⟨rfl, rfl, f1⟩
        clear inv lt1 D hB u e2 ln hn hk hu c2 f1
        generalize (k : Int) = ki at *
        generalize (b : Int) = bi at *
        generalize recT o = r at *
        revert f2
        walk_at "ev*"
        exact id
  · rintro st S' (⟨rfl, o3, rfl, inv⟩ | hf)
    · have : elW Bs b o = false := by
        cases q : elW Bs b o
        · rfl
        · obtain ⟨d, us, hne, hu, hm⟩ := elW_iff.mp q
          have := (List.getElem?_eq_some_iff.mp hu).1
          exact absurd hm (inv d us (by omega) hne hu)
      rw [this]
      clear inv this D hB ln hn
      walk_at "ev*"
    · exact hf.elim
  · rintro t S' ⟨rfl, rfl, hel⟩
    rw [elW_iff.mpr hel]
    clear hel D hB ln hn
    walk_at "ev*"
noncomputable def loneP (Bs : List (List T)) (b : Nat) : T → Bool
  | .tup (.int o :: _) => !elW Bs b o
  | _ => false
noncomputable def loneL (Bs : List (List T)) (b : Nat) (us : List T) : List T := (pgT us).filter (loneP Bs b)
theorem loneL_mem {Bs : List (List T)} {b : Nat} {us : List T} (u : Us us) {t : T} : t ∈ loneL Bs b us ↔ ∃ o, 1 ≤ o ∧ t = recT o ∧ recT o ∈ us ∧ ¬ elB Bs b o := by
  unfold loneL
  rw [List.mem_filter]
  constructor
  · rintro ⟨h1, h2⟩
    unfold pgT at h1
    rcases List.mem_append.mp h1 with h1 | h1
    · rcases u.up t h1 with rfl | ⟨r, hr, rfl⟩
      · cases h2
      · refine ⟨r, hr, rfl, h1, fun he => ?_⟩
        have h2' : (!elW Bs b r) = true := h2
        rw [elW_iff.mpr he] at h2'
        cases h2'
    · rw [(List.mem_replicate.mp h1).2] at h2; cases h2
  · rintro ⟨o, ho, rfl, h1, h2⟩
    refine ⟨List.mem_append_left _ h1, ?_⟩
    show (!elW Bs b o) = true
    cases q : elW Bs b o
    · rfl
    · exact absurd (elW_iff.mp q) h2
theorem loneL_dat {Bs : List (List T)} {b : Nat} {us : List T} (u : Us us) : dats (loneL Bs b us) = true ∧ deps (loneL Bs b us) ≤ 10 := by
  have h : ∀ t ∈ loneL Bs b us, Pge t := fun t ht => pgT_pge u t (List.mem_filter.mp ht).1
  exact ⟨pge_dats h, pge_deps h⟩
theorem loneL_len {Bs : List (List T)} {b : Nat} {us : List T} (u : Us us) : (loneL Bs b us).length ≤ 8 := by
  have : (loneL Bs b us).length ≤ (pgT us).length := List.length_filter_le _ _
  rw [pgT_len u] at this
  exact this
theorem comp_lone {S : Sto} {h : Nat} {hs : List Nat} {Bs : List (List T)} (D : Hd S h hs Bs) (hB : Bl Bs) {b : Nat} {us : List T} (u : Us us) {ck : Option (Nat × List T)} (hck : okC ck S) (st : Slots) (i j : Nat) (hi : ∀ t, (st.set i (some t))[i]? = some (some t)) (h0 : ∀ t, (st.set i (some t))[0]? = some (some (.ref h))) (hj : ∀ t, (st.set i (some t))[j]? = some (some (.int (b : Int)))) :
    lcL ck i (mTAnd (mB (mN opIsi (mCons (mV i) (mCons (mC (.ty "tuple")) mNil)))) (mTNot (mTru (mCall m__law_elsewhere (mCons (mV 0) (mCons (mV j) (mCons (mV i) mNil))))))) (mV i) st (pgT us) [] S = .ok (loneL Bs b us) S := by
  have v1 : ∀ t, mV i (st.set i (some t)) S = .ok t S := fun t => by unfold mV; rw [hi]
  have v2 : ∀ t, mV 0 (st.set i (some t)) S = .ok (.ref h) S := fun t => by unfold mV; rw [h0]
  have v3 : ∀ t, mV j (st.set i (some t)) S = .ok (.int (b : Int)) S := fun t => by unfold mV; rw [hj]
  have e := lcL_pure (ck := ck) (i := i) (c := mTAnd (mB (mN opIsi (mCons (mV i) (mCons (mC (.ty "tuple")) mNil)))) (mTNot (mTru (mCall m__law_elsewhere (mCons (mV 0) (mCons (mV j) (mCons (mV i) mNil))))))) (e := mV i) (st := st) (S := S) (p := loneP Bs b) (f := fun t => t) (l := pgT us) (acc := []) hck (fun t ht => ?_) (fun t ht _ => v1 t) (by rw [pgT_len u]; exact zl _ (by simp))
  · rw [e, List.nil_append, List.map_id']; rfl
  · have w1 := hi t
    have w2 := h0 t
    have w3 := hj t
    clear v1 v2 v3 hi h0 hj
    rcases pgT_pge u t ht with (rfl | ⟨r, _, rfl⟩) | rfl
    · have : loneP Bs b (.str "torn") = false := rfl
      rw [this]
      clear D hB u ht this
      generalize st.set i _ = st' at *
      walk_at "ev*"
    · have : loneP Bs b (recT r) = !elW Bs b r := rfl
      rw [this]
      have e1 := law_elsewhere_ok D hB b r
      have e2 := rec_tup r S
      clear D hB u ht this
      generalize recT r = x at *
      generalize st.set i _ = st' at *
      generalize elW Bs b r = q at *
      generalize (b : Int) = bi at *
      walk_at "ev*"
    · have : loneP Bs b .non = false := rfl
      rw [this]
      clear D hB u ht this
      generalize st.set i _ = st' at *
      walk_at "ev*"
/-- a block that can be erased -/
def SpB (Bs : List (List T)) (b : Nat) : Prop := ∃ us, Bs[b]? = some us ∧ stW us = "closed" ∧ ∀ o, recT o ∈ us → elB Bs b o
def SpR (Bs : List (List T)) (v : T) : Prop := v = .non ∨ ∃ b : Nat, v = .int (b : Int) ∧ SpB Bs b
def SpI (h : Nat) (S : Sto) (st : Slots) (S' : Sto) : Prop := S' = S ∧ ∃ o1 o2 o3, st = [some (.ref h), o1, o2, o3]
def SpQ (Bs : List (List T)) (S : Sto) (t : T) (S' : Sto) : Prop := S' = S ∧ ∃ b : Nat, t = .int (b : Int) ∧ SpB Bs b
theorem law_spare_ok {S : Sto} {h : Nat} {hs : List Nat} {Bs : List (List T)} (D : Hd S h hs Bs) (hB : Bl Bs) : ∃ v, m__law_spare [.ref h] S = .ok v S ∧ SpR Bs v := by
  have ln := D.ln
  have l2 := hB.l2
  obtain ⟨n, hn⟩ : ∃ n : Int, (Bs.length : Int) = n := ⟨_, rfl⟩
  have hb : -4611686018427387904 ≤ n ∧ n < 4611686018427387904 := by omega
  rw [hn] at ln
  unfold m__law_spare b__law_spare
  walk_at "ev*"
  clear hb
  refine use_rngR (C := fun r => ∃ v, defK (r.seq (mRet (mC .non))) = .ok v S ∧ SpR Bs v) (fun _ => SpI h S) (SpQ Bs S) (fun _ _ => False) ?_ ?_ ?_ ?_
  · exact ⟨rfl, none, none, none, rfl⟩
  · rintro k st S' hk ⟨rfl, o1, o2, o3, rfl⟩
    have hu : Bs[k]? = some (Bs[k]'(by omega)) := List.getElem?_eq_getElem _
    generalize Bs[k]'(by omega) = us at *
    have u := hB.us us (List.mem_of_getElem? hu)
    obtain ⟨i, e1, e2, _⟩ := D.ix hu
    have e3 := law_state_ok D hB hu
    have e4 := comp_lone D hB (b := k) u (ck := some (i, pgT us)) e2 [some (.ref h), some (.int (k : Int)), o2, o3] 3 1 (fun t => rfl) (fun t => rfl) (fun t => rfl)
    have it := e_itLKr e2
    rw [Int.zero_add]
    by_cases c1 : stW us = "closed"
    · have dd := loneL_dat (Bs := Bs) (b := k) u
      have eq0 : ∀ S, opEq (.lst (loneL Bs k us)) (.lst []) S = .ok (.bl (loneL Bs k us).isEmpty) S := fun S => by
        rw [opEq_lst_lst dd.1 rfl (Nat.zero_le _)]
        cases loneL Bs k us with
        | nil => rfl
        | cons x l => rw [q_consn]; rfl
      have f1 : ∀ o2 o3, SpI h S' [some (.ref h), some (.int (k : Int)), o2, o3] S' := fun o2 o3 => ⟨rfl, _, _, _, rfl⟩
      have f2 : (loneL Bs k us).isEmpty = true → SpQ Bs S' (.int (k : Int)) S' := fun he => ⟨rfl, k, rfl, us, hu, c1, fun o ho => by
        by_cases q : elB Bs k o
        · exact q
        · have hup : 1 ≤ o := by
            rcases u.up _ ho with h | ⟨r, hr, h⟩
            · cases h
            · injection h with h
              injection h with h
              injection h with h
              omega
          have hm := (loneL_mem (Bs := Bs) (b := k) u).mpr ⟨o, hup, rfl, ho, q⟩
          rw [List.isEmpty_iff.mp he] at hm
          cases hm⟩
      have sz : (loneL Bs k us).length ≤ sizeLine := zl _ (Nat.le_trans (loneL_len u) (by decide))
      rw [c1] at e3
      clear D hB u dd hu ln hn hk
      generalize pgT us = pg at *
      generalize loneL Bs k us = L at *
      generalize (k : Int) = ki at *
      cases q : L.isEmpty
      · rw [q] at eq0
        clear f2
        walk_at "ev*"
        exact f1 _ _
      · rw [q] at eq0
        have f2 := f2 q
        clear f1
        walk_at "ev*"
        exact f2
    · have f1 : ∀ o2 o3, SpI h S' [some (.ref h), some (.int (k : Int)), o2, o3] S' := fun o2 o3 => ⟨rfl, _, _, _, rfl⟩
      clear D hB u hu ln hn hk e4 e2 it
      generalize stW us = w at *
      generalize (k : Int) = ki at *
      walk_at "ev*"
      exact f1 _ _
  · rintro st S' (⟨rfl, o1, o2, o3, rfl⟩ | hf)
    · exact ⟨.non, by clear D hB ln hn; walk_at "ev*", .inl rfl⟩
    · exact hf.elim
  · rintro t S' ⟨rfl, b, rfl, hs⟩
    exact ⟨_, by clear D hB ln hn hs; generalize (b : Int) = bi at *; walk_at "ev*", .inr ⟨b, rfl, hs⟩⟩
noncomputable def ch0 : AS := (mIf (mTAnd (mB (m2 opEq (m2 opMod (mV 1) (mC (.int 8))) (mC (.int 7)))) (mB (m2 opIsnt (mCall m__law_spare (mCons (mV 0) mNil)) (mC .non)))) (mRet (mN opTup (mCons (mC (.str "erase")) (mCons (mCall m__law_spare (mCons (mV 0) mNil)) (mCons (mC (.bl false)) mNil))))) mPass)
noncomputable def ch1 : AS := (mIf (mTAnd (mB (m2 opGt (m2 opMod (mV 1) (mC (.int 8))) (mC (.int 3)))) (mTAnd (mB (m2 opGt (mN opLen (mCons (mCall m__law_found (mCons (mV 0) mNil)) mNil)) (mC (.int 0)))) (mB (m2 opGt (mCall m__law_room (mCons (mV 0) (mCons (mC (.bl true)) mNil))) (mC (.int 0)))))) (mSeq (mSet 5 (mLc true (itR1 (mCons (mN opLen (mCons (mV 0) mNil)) mNil)) 4 (mB (m2 opEq (mCall m__law_state (mCons (mV 0) (mCons (mV 4) mNil))) (mC (.str "closed")))) (mV 4))) (mIf (mB (m2 opGt (mN opLen (mCons (mV 5) mNil)) (mC (.int 0)))) (mSeq (mSet 4 (m2 opIx (mV 5) (m2 opMod (mV 2) (mN opLen (mCons (mV 5) mNil))))) (mSeq (mSet 6 (mLc true (itL (m2 opIx (mV 0) (mV 4))) 7 (mTAnd (mB (mN opIsi (mCons (mV 7) (mCons (mC (.ty "tuple")) mNil)))) (mTNot (mTru (mCall m__law_elsewhere (mCons (mV 0) (mCons (mV 4) (mCons (mV 7) mNil))))))) (mV 7))) (mIf (mB (m2 opGt (mN opLen (mCons (mV 6) mNil)) (mC (.int 0)))) (mRet (mN opTup (mCons (mC (.str "append")) (mCons (m2 opIx (mV 6) (mC (.int 0))) (mCons (mC (.bl true)) mNil))))) mPass))) mPass)) mPass)
noncomputable def ch2 : AS := (mIf (mB (m2 opGt (mCall m__law_room (mCons (mV 0) (mCons (mC (.bl false)) mNil))) (mC (.int 0)))) (mRet (mN opTup (mCons (mC (.str "append")) (mCons (mCall m__law_record (mCons (m2 opAdd (mV 3) (mC (.int 1))) mNil)) (mCons (mC (.bl false)) mNil))))) mPass)
noncomputable def ch3 : AS := (mRet (mC .non))
theorem ch_cut : b__law_choose = (mSeq ch0 (mSeq ch1 (mSeq ch2 ch3))) := rfl
def CpB (Bs : List (List T)) (o : Int) : Prop := 1 ≤ o ∧ ∃ us, us ∈ Bs ∧ recT o ∈ us
def ChR (Bs : List (List T)) (cur : Option Nat) (od : Int) (v : T) : Prop := v = .non ∨ (∃ b : Nat, v = .tup [.str "erase", .int (b : Int), .bl false] ∧ SpB Bs b) ∨ (∃ o, v = .tup [.str "append", recT o, .bl true] ∧ CpB Bs o ∧ roomV Bs cur true ≠ 0) ∨ (v = .tup [.str "append", recT (od + 1), .bl false] ∧ roomV Bs cur false ≠ 0)
def chS (h : Nat) (n pick od : Int) (a4 a5 a6 a7 : Option T) : Slots := [some (.ref h), some (.int n), some (.int pick), some (.int od), a4, a5, a6, a7]
theorem ch0_ok {S : Sto} {h : Nat} {hs : List Nat} {Bs : List (List T)} (D : Hd S h hs Bs) (hB : Bl Bs) (n pick od : Int) (a4 a5 a6 a7 : Option T) : ch0 (chS h n pick od a4 a5 a6 a7) S = .nx (chS h n pick od a4 a5 a6 a7) S ∨ ∃ b : Nat, SpB Bs b ∧ ch0 (chS h n pick od a4 a5 a6 a7) S = .rt (.tup [.str "erase", .int (b : Int), .bl false]) S := by
  obtain ⟨v, e, hv⟩ := law_spare_ok D hB
  clear D hB
  unfold ch0 chS
  have z := zl
  by_cases c : n % 8 = 7
  · rcases hv with rfl | ⟨b, rfl, hs⟩
    · left
      walk_at "ev*"
    · right
      refine ⟨b, hs, ?_⟩
      clear hs
      generalize (b : Int) = bi at *
      walk_at "ev*"
  · left
    clear hv e
    walk_at "ev*"
theorem cls_any {Bs : List (List T)} {t : T} (h : t ∈ frL Bs "closed") : ∃ (b : Nat) (us : List T), t = .int (b : Int) ∧ Bs[b]? = some us := by
  obtain ⟨b, us, e, hu, _⟩ := frL_mem.mp h
  exact ⟨b, us, e, hu⟩
theorem ch1_ok {S : Sto} {h : Nat} {hs : List Nat} {Bs : List (List T)} {cur : Option Nat} (D : Hd S h hs Bs) (hB : Bl Bs) (C : Cu Bs cur) (n pick od : Int) (a4 a5 a6 a7 : Option T) : ∃ J, (∃ b4 b5 b6 b7, ch1 (chS h n pick od a4 a5 a6 a7) S = .nx (chS h n pick od b4 b5 b6 b7) (S ++ J)) ∨ ∃ o, CpB Bs o ∧ roomV Bs cur true ≠ 0 ∧ ch1 (chS h n pick od a4 a5 a6 a7) S = .rt (.tup [.str "append", recT o, .bl true]) (S ++ J) := by
  have z := zl
  by_cases c : 3 < n % 8
  · have e1 := law_found_ok D hB
    have D1 := D.app [.lst ((ordA Bs).map recT)]
    have e2 := law_room_ok D1 hB C true
    have ln := D1.ln
    have e3 := comp_law D1 hB "closed" (chS h n pick od a4 a5 a6 a7) 4 0 (fun t => rfl) (fun t => rfl)
    obtain ⟨m, hm⟩ : ∃ m : Int, (Bs.length : Int) = m := ⟨_, rfl⟩
    have l2 := hB.l2
    have hb : -4611686018427387904 ≤ m ∧ m < 4611686018427387904 := by omega
    rw [hm] at ln e3
    obtain ⟨k0, hk0⟩ : ∃ k0 : Int, ∀ S, opLen [.lst ((sortI (ordA Bs)).map recT)] S = .ok (.int k0) S := ⟨_, fun S => by walk_at "ev"; rfl⟩
    refine ⟨[.lst ((ordA Bs).map recT)], ?_⟩
    generalize S ++ [O.lst ((ordA Bs).map recT)] = S1 at *
    generalize (sortI (ordA Bs)).map recT = rs at *
    by_cases c0 : 0 < k0
    · by_cases cr : 0 < roomV Bs cur true
      · obtain ⟨F, hF⟩ : ∃ F, frL Bs "closed" = F := ⟨_, rfl⟩
        have mem := @cls_any Bs
        rw [hF] at mem e3
        by_cases cF : 0 < (F.length : Int)
        · obtain ⟨v, av, hv⟩ := atm F pick F.length rfl cF
          obtain ⟨b, us, rfl, hu⟩ := mem hv
          have u := hB.us us (List.mem_of_getElem? hu)
          obtain ⟨i, e4, e5, _⟩ := D1.ix hu
          have e6 := comp_lone D1 hB (b := b) u (ck := some (i, pgT us)) e5 (chS h n pick od (some (.int (b : Int))) (some (.lst F)) a6 a7) 7 4 (fun t => rfl) (fun t => rfl) (fun t => rfl)
          have it := e_itLKr e5
          have lm := @loneL_mem Bs b us u
          generalize loneL Bs b us = L at *
          cases L with
          | nil =>
            left
            refine ⟨some (.int (b : Int)), some (.lst F), some (.lst []), a7, ?_⟩
            clear lm D D1 hB C u hu hv mem hF hm
            generalize roomV Bs cur true = rv at *
            generalize hfl : (F.length : Int) = fl at *
            generalize pgT us = pg at *
            generalize (b : Int) = bi at *
            unfold ch1
            unfold chS at *
            walk_at "ev*"
          | cons x L =>
            right
            obtain ⟨o, ho, rfl, hm, _⟩ := lm.mp List.mem_cons_self
            refine ⟨o, ⟨ho, us, List.mem_of_getElem? hu, hm⟩, by omega, ?_⟩
            have pos : (0 : Int) < ((recT o :: L).length : Int) := by rw [List.length_cons]; omega
            have a0 : (recT o :: L)[0]? = some (recT o) := rfl
            clear lm D D1 hB C u hu hv mem hF hm
            generalize recT o :: L = RL at *
            generalize recT o = r at *
            generalize roomV Bs cur true = rv at *
            generalize hfl : (F.length : Int) = fl at *
            generalize pgT us = pg at *
            generalize (b : Int) = bi at *
            unfold ch1
            unfold chS at *
            walk_at "ev*"
        · left
          refine ⟨a4, some (.lst F), a6, a7, ?_⟩
          clear D D1 hB C mem hF hm
          generalize roomV Bs cur true = rv at *
          generalize hfl : (F.length : Int) = fl at *
          unfold ch1
          unfold chS at *
          walk_at "ev*"
      · left
        refine ⟨a4, a5, a6, a7, ?_⟩
        clear D D1 hB C hm e3
        generalize roomV Bs cur true = rv at *
        unfold ch1 chS
        walk_at "ev*"
    · left
      refine ⟨a4, a5, a6, a7, ?_⟩
      clear D D1 hB C hm e3
      unfold ch1 chS
      walk_at "ev*"
  · refine ⟨[], .inl ⟨a4, a5, a6, a7, ?_⟩⟩
    rw [List.append_nil]
    clear D hB C
    unfold ch1 chS
    walk_at "ev*"
theorem choose_law_ok {S : Sto} {h : Nat} {hs : List Nat} {Bs : List (List T)} {cur : Option Nat} (D : Hd S h hs Bs) (hB : Bl Bs) (C : Cu Bs cur) (n pick od : Int) : ∃ v J, m__law_choose [.ref h, .int n, .int pick, .int od] S = .ok v (S ++ J) ∧ ChR Bs cur od v := by
  unfold m__law_choose
  rw [ch_cut]
  have st0 : ∀ D : AS, mDef 4 8 D [.ref h, .int n, .int pick, .int od] S = defK (D (chS h n pick od none none none none) S) := fun D => rfl
  rw [st0, e_seq]
  rcases ch0_ok D hB n pick od none none none none with e | ⟨b, hb, e⟩
  · rw [e, e_qnx, e_seq]
    obtain ⟨J, ⟨b4, b5, b6, b7, e1⟩ | ⟨o, ho, hr, e1⟩⟩ := ch1_ok D hB C n pick od none none none none
    · have e2 := law_room_ok (D.app J) hB C false
      have e3 := fun S => lrec_ok (od + 1) S
      rw [e1, e_qnx]
      by_cases cr : 0 < roomV Bs cur false
      · refine ⟨.tup [.str "append", recT (od + 1), .bl false], J, ?_, .inr (.inr (.inr ⟨rfl, by omega⟩))⟩
        clear D hB C e e1
        generalize S ++ J = S1 at *
        generalize recT (od + 1) = r at *
        generalize roomV Bs cur false = rv at *
        have z := zl
        unfold ch2 ch3 chS
        walk_at "ev*"
      · refine ⟨.non, J, ?_, .inl rfl⟩
        clear D hB C e e1 e3
        generalize S ++ J = S1 at *
        generalize roomV Bs cur false = rv at *
        unfold ch2 ch3 chS
        walk_at "ev*"
    · rw [e1]
      exact ⟨_, J, rfl, .inr (.inr (.inl ⟨o, rfl, ho, hr⟩))⟩
  · rw [e]
    exact ⟨_, [], by rw [List.append_nil]; rfl, .inr (.inl ⟨b, rfl, hb⟩)⟩

/-! ### the orders that are found -/
theorem addO_mem {l : List Int} {t : T} (ht : Pge t) {o : Int} : o ∈ addO l t ↔ o ∈ l ∨ t = recT o := by
  rcases ht with (rfl | ⟨r, hr, rfl⟩) | rfl
  · exact ⟨.inl, fun h => h.elim id fun e => by cases e⟩
  · rw [addO_rec]
    have inj : recT r = recT o ↔ r = o := ⟨fun h => by injection h with h; injection h with h; injection h, fun h => by rw [h]⟩
    rw [inj]
    by_cases c : r ∈ l
    · rw [if_pos c]
      exact ⟨.inl, fun h => h.elim id fun e => e ▸ c⟩
    · rw [if_neg c, List.mem_append, List.mem_singleton]
      exact ⟨fun h => h.imp id Eq.symm, fun h => h.imp id Eq.symm⟩
  · exact ⟨.inl, fun h => h.elim id fun e => by cases e⟩
theorem foldO_mem {o : Int} : ∀ (ts : List T) {l : List Int}, (∀ t ∈ ts, Pge t) → (o ∈ ts.foldl addO l ↔ o ∈ l ∨ recT o ∈ ts)
  | [], l, _ => by simp
  | t :: ts, l, h => by
    rw [List.foldl_cons, foldO_mem ts (fun u hu => h u (List.mem_cons_of_mem _ hu)), addO_mem (h t List.mem_cons_self), List.mem_cons, or_assoc]
    constructor
    · rintro (a | rfl | c)
      · exact .inl a
      · exact .inr (.inl rfl)
      · exact .inr (.inr c)
    · rintro (a | e | c)
      · exact .inl a
      · exact .inr (.inl e.symm)
      · exact .inr (.inr c)
theorem rec_in_pg {us : List T} {o : Int} : recT o ∈ pgT us ↔ recT o ∈ us := by
  unfold pgT
  rw [List.mem_append]
  constructor
  · rintro (h | h)
    · exact h
    · have := (List.mem_replicate.mp h).2
      cases this
  · exact .inl
theorem foldB_mem {o : Int} : ∀ (Bs : List (List T)) {l : List Int}, (∀ us ∈ Bs, Us us) → (o ∈ Bs.foldl ordB l ↔ o ∈ l ∨ ∃ us, us ∈ Bs ∧ recT o ∈ us)
  | [], l, _ => by simp
  | us :: Bs, l, h => by
    rw [List.foldl_cons, foldB_mem Bs (fun u hu => h u (List.mem_cons_of_mem _ hu))]
    unfold ordB
    rw [foldO_mem _ (pgT_pge (h us List.mem_cons_self)), rec_in_pg, or_assoc]
    constructor
    · rintro (a | b | ⟨vs, c, d⟩)
      · exact .inl a
      · exact .inr ⟨us, List.mem_cons_self, b⟩
      · exact .inr ⟨vs, List.mem_cons_of_mem _ c, d⟩
    · rintro (a | ⟨vs, c, d⟩)
      · exact .inl a
      · rcases List.mem_cons.mp c with rfl | c
        · exact .inr (.inl d)
        · exact .inr (.inr ⟨vs, c, d⟩)
theorem ordA_mem {Bs : List (List T)} (hB : ∀ us ∈ Bs, Us us) {o : Int} : o ∈ ordA Bs ↔ ∃ us, us ∈ Bs ∧ recT o ∈ us := by
  unfold ordA
  rw [foldB_mem Bs hB]
  simp
/-- the records that lie there are those of the orders 1 to od -/
def OrdI (Bs : List (List T)) (od : Int) : Prop := 0 ≤ od ∧ ∀ o, (∃ us, us ∈ Bs ∧ recT o ∈ us) ↔ (1 ≤ o ∧ o ≤ od)
def upTo (od : Int) : List Int := (List.range od.toNat).map fun (k : Nat) => 1 + (0 + (k : Int))
theorem upTo_mem {od o : Int} : o ∈ upTo od ↔ 1 ≤ o ∧ o ≤ od := by
  unfold upTo
  rw [List.mem_map]
  constructor
  · rintro ⟨k, hk, rfl⟩
    have := List.mem_range.mp hk
    omega
  · rintro ⟨a, b⟩
    exact ⟨(o - 1).toNat, List.mem_range.mpr (by omega), by omega⟩
theorem ord_upTo {Bs : List (List T)} (hB : Bl Bs) {od : Int} (h : OrdI Bs od) : sortI (ordA Bs) = upTo od ∧ od.toNat ≤ 300 := by
  obtain ⟨ok, len⟩ := foldB_ok Bs (l := []) ⟨List.nodup_nil, fun _ h => nomatch h⟩ hB.us
  have nd : (upTo od).Nodup := List.Pairwise.map _ (fun a b (h : a ≠ b) e => h (by omega)) List.nodup_range
  have so : (upTo od).Pairwise (· ≤ ·) := by
    unfold upTo
    refine List.Pairwise.map _ ?_ List.pairwise_lt_range
    intro a b h; omega
  have pm : (ordA Bs).Perm (upTo od) := (List.perm_ext_iff_of_nodup ok.1 nd).mpr fun o => by rw [upTo_mem]; exact (ordA_mem hB.us).trans (h.2 o)
  refine ⟨sorted_same ((sortI_perm _).trans pm) (sortI_sorted _) so, ?_⟩
  have l1 := pm.length_eq
  have l2 : (upTo od).length = od.toNat := by unfold upTo; simp
  have l3 : (ordA Bs).length ≤ ([] : List Int).length + 8 * Bs.length := len
  have := hB.l2
  simp only [List.length_nil] at l3
  omega
theorem law_orders_ok {S : Sto} {h : Nat} {hs : List Nat} {Bs : List (List T)} (D : Hd S h hs Bs) (hB : Bl Bs) : m__law_orders [.ref h] S = .ok (.lst ((sortI (ordA Bs)).map .int)) (S ++ [.lst ((ordA Bs).map recT)]) := by
  have e := law_found_ok D hB
  obtain ⟨ok, len⟩ := foldB_ok Bs (l := []) ⟨List.nodup_nil, fun _ h => nomatch h⟩ hB.us
  have ll : (ordA Bs).length ≤ 900 := by have : (ordA Bs).length ≤ ([] : List Int).length + 8 * Bs.length := len; have := hB.l2; simp only [List.length_nil] at *; omega
  have lc : lcL none 1 mYes (m2 opIx (mV 1) (mC (.int 0))) [some (.ref h), none] ((sortI (ordA Bs)).map recT) [] (S ++ [.lst ((ordA Bs).map recT)]) = .ok ((sortI (ordA Bs)).map .int) (S ++ [.lst ((ordA Bs).map recT)]) := by
    have q := lcL_map (ck := none) (i := 1) (e := m2 opIx (mV 1) (mC (.int 0))) (st := [some (.ref h), none]) (S := S ++ [.lst ((ordA Bs).map recT)]) (f := fun t => match t with
      | .tup (x :: _) => x
      | _ => .non) (l := (sortI (ordA Bs)).map recT) (acc := []) trivial (fun t ht => ?_) (by rw [List.length_map, (sortI_perm _).length_eq]; exact Nat.le_trans (by simp; omega : _ ≤ 900) (by decide))
    · rw [q, List.nil_append, List.map_map]; rfl
    · obtain ⟨o, ho, rfl⟩ := List.mem_map.mp ht
      clear ht ho
      unfold recT
      walk_at "ev"
  clear D hB ok len ll
  generalize (sortI (ordA Bs)).map T.int = si at *
  generalize (sortI (ordA Bs)).map recT = sr at *
  generalize S ++ [O.lst ((ordA Bs).map recT)] = S1 at *
  unfold m__law_orders b__law_orders
  walk_at "ev*"
theorem ref_inj : ∀ {l m : List Nat}, l.map T.ref = m.map T.ref → l = m
  | [], [], _ => rfl
  | [], _ :: _, h => by cases h
  | _ :: _, [], h => by cases h
  | a :: l, b :: m, h => by
    injection h with h1 h2
    injection h1 with h1
    rw [h1, ref_inj h2]
theorem heads_ne {S : Sto} {a b : Nat} {as bs : List Nat} {Bs : List (List T)} (A : Hd S a as Bs) (B : Hd S b bs Bs) (nl : 0 < Bs.length) (dj : ∀ i ∈ as, i ∉ bs) : a ≠ b := fun e => by
  subst e
  have h1 := A.at_
  rw [B.at_] at h1
  injection h1 with h1
  injection h1 with h1
  have h2 := ref_inj h1
  subst h2
  have hl : 0 < bs.length := by rw [B.len]; exact nl
  have hm : bs[0] ∈ bs := List.getElem_mem hl
  exact dj _ hm hm
/-! ### one deed of the law: the store -/
theorem tgt_ok {S : Sto} {g f fh gh wn lh lw : Nat} {fs gs hs : List Nat} {ws : List Int} {Bs : List (List T)} {cur lf : Option Nat} (X : Lz S g f fh gh wn lh lw fs gs hs ws ws Bs Bs cur lf) (cp : Bool) (r : roomV Bs cur cp ≠ 0) : ∃ (c : Nat) (us : List T), Bs[c]? = some us ∧ us.length < 8 ∧ (∀ d, cur = some d → d = c) ∧ (cur = none → m_Log_choose [.ref g] S = .ok (.int (c : Int)) S) ∧ m__law_target [.ref lh, .ref lw] S = .ok (.int (c : Int)) S := by
  have C : Cu Bs cur := ⟨X.L.cu, X.L.cl⟩
  cases cur with
  | none =>
    have hf : frL Bs "free" ≠ [] := fun e => by
      unfold roomV at r
      rw [e] at r
      cases cp with
      | true => simp [partV] at r
      | false => simp at r
    obtain ⟨c, h1, b1⟩ := choose_ok X.L X.B.ww X.B.wl hf
    obtain ⟨us, hu, hs'⟩ := b1.2.1
    obtain ⟨c', h2, b2⟩ := target_none X.B.E X.L.bl C X.B.lww X.B.wl hf
    have := b1.uniq b2
    subst this
    exact ⟨c, us, hu, by rw [stW_free] at hs'; omega, (fun d h => by cases h), fun _ => h1, h2⟩
  | some d =>
    have hd := List.getElem?_eq_getElem (C.cl d rfl)
    exact ⟨d, _, hd, ((C.cu d _ hd).mp rfl).2, (fun e h => by cases h; rfl), (fun h => by cases h), target_some X.B.E X.L.bl C X.B.lww X.B.wl⟩
theorem do_app {S S' : Sto} {g f gh : Nat} {cur : Option Nat} (lo : S[g]? = some (loO f gh cur)) {x : T} {cp : Bool} : (m_Log_append [.ref g, x, .bl cp] S = .ok .non S' → m__law_do [.ref g, .str "append", x, .bl cp] S = .ok (.bl true) S') ∧ (m_Log_append [.ref g, x, .bl cp] S = .exc "PowerOff" S' → m__law_do [.ref g, .str "append", x, .bl cp] S = .ok (.bl false) S') := by
  unfold loO at lo
  generalize curT cur = c at *
  constructor
  · intro e
    unfold m__law_do b__law_do
    walk_at "ev*"
  · intro e
    unfold m__law_do b__law_do
    walk_at "ev*"
theorem do_era {S S' : Sto} {g f gh : Nat} {cur : Option Nat} (lo : S[g]? = some (loO f gh cur)) {x y : T} : (m_Log_erase [.ref g, x] S = .ok .non S' → m__law_do [.ref g, .str "erase", x, y] S = .ok (.bl true) S') ∧ (m_Log_erase [.ref g, x] S = .exc "PowerOff" S' → m__law_do [.ref g, .str "erase", x, y] S = .ok (.bl false) S') := by
  unfold loO at lo
  generalize curT cur = c at *
  constructor
  · intro e
    unfold m__law_do b__law_do
    walk_at "ev*"
  · intro e
    unfold m__law_do b__law_do
    walk_at "ev*"
theorem snoc_us {us : List T} (u : Us us) (l : us.length < 8) {x : T} (hx : Up x) : Us (us ++ [x]) := ⟨fun t ht => by
  rcases List.mem_append.mp ht with ht | ht
  · exact u.up t ht
  · rw [List.mem_singleton.mp ht]; exact hx, by simp; omega⟩
/-- deed and law's lists after an append that is done -/
theorem app_done {S : Sto} {g f fh gh wn lh lw : Nat} {fs gs hs : List Nat} {ws : List Int} {Bs : List (List T)} {cur lf : Option Nat} (X : Lz S g f fh gh wn lh lw fs gs hs ws ws Bs Bs cur lf) (hlf : lf ≠ some 0) (cp : Bool) (r : roomV Bs cur cp ≠ 0) (o : Int) (ho : 1 ≤ o) :
    ∃ c us S1 S2 cur', Bs[c]? = some us ∧ m__law_target [.ref lh, .ref lw] S = .ok (.int ((c : Nat) : Int)) S ∧ m__law_do [.ref g, .str "append", recT o, .bl cp] S = .ok (.bl true) S1 ∧ m__law_apply [.ref lh, .ref lw, .str "append", .int (c : Int), recT o] S1 = .ok .non S2 ∧ Lz S2 g f fh gh wn lh lw fs gs hs ws ws (Bs.set c (us ++ [recT o])) (Bs.set c (us ++ [recT o])) cur' (decL lf) := by
  obtain ⟨c, us, hc, l, hcur, hch, htg⟩ := tgt_ok X cp r
  obtain ⟨S1, e1, X1⟩ := X.app_go hlf hc l hcur hch cp r o ho
  have u := X.B.bE.us us (List.mem_of_getElem? hc)
  obtain ⟨i, im, pi, e2, X2⟩ := apply_app X1.B hc l (snoc_us u l (.inr ⟨o, ho, rfl⟩))
  refine ⟨c, us, S1, _, nxC c us, hc, htg, (do_app X.L.o).1 e1, e2, X2, ⟨?_, ?_, X1.L.hd.oth (ne_pg pi u X1.L.hd.at_) (fun hg => (X1.d1 i hg).2 im), X1.L.bl, X1.L.cu, X1.L.cl⟩, X1.ndg, X1.d1, X1.h1, X1.h3⟩
  · rw [List.getElem?_set_ne (fun e => by rw [e, X1.L.o] at pi; cases pi)]; exact X1.L.o
  · exact X2.fo
theorem era_done {S : Sto} {g f fh gh wn lh lw : Nat} {fs gs hs : List Nat} {ws : List Int} {Bs : List (List T)} {cur lf : Option Nat} (X : Lz S g f fh gh wn lh lw fs gs hs ws ws Bs Bs cur lf) (hlf : lf ≠ some 0) {b : Nat} {us : List T} (hb : Bs[b]? = some us) (hc : stW us = "closed") (y : T) :
    ∃ S1 S2 fs' gs' hs' ws', m__law_do [.ref g, .str "erase", .int (b : Int), y] S = .ok (.bl true) S1 ∧ m__law_apply [.ref lh, .ref lw, .str "erase", .int (b : Int), .non] S1 = .ok .non S2 ∧ Lz S2 g f fh gh wn lh lw fs' gs' hs' ws' ws' (Bs.set b []) (Bs.set b []) cur (decL lf) := by
  obtain ⟨S1, fs', gs', e1, X1⟩ := X.era_go hlf hb hc
  have hbl := (List.getElem?_eq_some_iff.mp hb).1
  obtain ⟨S2, e2, X2, oth, ob⟩ := apply_era X1.B hbl nil_us none8
  have ltg := X1.L.hd.lt
  have o2 := ob _ _ _ X1.L.o
  refine ⟨S1, S2, fs', gs', _, _, (do_era X.L.o).1 e1, e2, X2, ⟨o2, X2.fo, oth _ _ _ X1.L.hd X1.L.bl (Ne.symm X1.h3), X1.L.bl, X1.L.cu, X1.L.cl⟩, X1.ndg, fun i hi => ⟨(X1.d1 i hi).1, fun hh => ?_⟩, X1.h1, X1.h3⟩
  rcases mem_set_or hh with h2 | h2
  · exact (X1.d1 i hi).2 h2
  · have := ltg i hi; omega
/-- the log that is opened anew -/
theorem reopen {S : Sto} {f fh wn lh lw : Nat} {fs hs : List Nat} {ws : List Int} {Bs : List (List T)} {cur : Option Nat} (X : Lf S f fh wn lh lw fs hs ws ws Bs Bs (fsO (Bs.length : Int) fh (.ref wn, .non))) (C : Cu Bs cur) : ∃ J gh gs, m_Log___init__ [.ref S.length, .ref f] (S ++ [.obj "Log" []]) = .ok .non (S ++ J) ∧ Lz (S ++ J) S.length f fh gh wn lh lw fs gs hs ws ws Bs Bs cur none := by
  obtain ⟨J, gh, gs, e, L, nd, ge⟩ := init_one X.fo X.D X.bB C
  have ltf := X.D.lt
  have lth := X.E.lt
  have nl : 0 < Bs.length := by have := X.bB.l1; omega
  have dfg : ∀ i ∈ fs, i ∉ gs := fun i hi hg => by have := ltf i hi; have := ge i hg; omega
  have dgh : ∀ i ∈ gs, i ∉ hs := fun i hi hg => by have := lth i hg; have := ge i hi; omega
  exact ⟨J, gh, gs, e, ⟨app_get X.fo, X.D.app J, X.E.app J, X.bB, X.bE, X.ndf, X.ndh, X.dj, app_get X.ww, app_get X.lww, X.ne, X.h2, X.wl, X.lwl, X.el⟩, L, nd, fun i hi => ⟨fun hf => dfg i hf hi, dgh i hi⟩, heads_ne (X.D.app J) L.hd nl dfg, heads_ne L.hd (X.E.app J) nl dgh⟩
theorem Lf.unf {S : Sto} {f fh wn lh lw : Nat} {fs hs : List Nat} {ws lws : List Int} {Bs Es : List (List T)} {n : Int} {br : T} (X : Lf S f fh wn lh lw fs hs ws lws Bs Es (fsX n fh (.ref wn) br)) (o' : O) : Lf (S.set f o') f fh wn lh lw fs hs ws lws Bs Es o' := X.objset o'
/-- the append in which the power failed, and its cut -/
theorem app_cut {S : Sto} {g f fh gh wn lh lw : Nat} {fs gs hs : List Nat} {ws : List Int} {Bs : List (List T)} {cur : Option Nat} (X : Lz S g f fh gh wn lh lw fs gs hs ws ws Bs Bs cur (some 0)) (cp : Bool) (r : roomV Bs cur cp ≠ 0) (o : Int) (ho : 1 ≤ o) :
    ∃ c us S1, Bs[c]? = some us ∧ m__law_target [.ref lh, .ref lw] S = .ok (.int ((c : Nat) : Int)) S ∧ m__law_do [.ref g, .str "append", recT o, .bl cp] S = .ok (.bl false) S1 ∧
      (∃ S2, m_Flash_cut [.ref f, .int 0] S1 = .ok .non S2 ∧ Lf S2 f fh wn lh lw fs hs ws ws Bs Bs (fsO (Bs.length : Int) fh (.ref wn, .non)) ∧ Cu Bs cur ∧ ∃ fo, S1[f]? = some (.obj "Flash" fo) ∧ fo.lookup "cut" = none) ∧
      (∀ (z : Int) (x : T), (z = 1 ∧ x = recT o) ∨ (z = 2 ∧ x = .str "torn") → ∃ S2 S3 cur', m__law_apply [.ref lh, .ref lw, .str "append", .int (c : Int), x] S1 = .ok .non S2 ∧ m_Flash_cut [.ref f, .int z] S2 = .ok .non S3 ∧ Lf S3 f fh wn lh lw fs hs ws ws (Bs.set c (us ++ [x])) (Bs.set c (us ++ [x])) (fsO ((Bs.set c (us ++ [x])).length : Int) fh (.ref wn, .non)) ∧ Cu (Bs.set c (us ++ [x])) cur' ∧ ∃ fo, S2[f]? = some (.obj "Flash" fo) ∧ fo.lookup "cut" = none) := by
  obtain ⟨c, us, hc, l, hcur, hch, htg⟩ := tgt_ok X cp r
  obtain ⟨S1, e1, X1⟩ := X.app_off hc l hcur hch cp r o
  have u := X.B.bE.us us (List.mem_of_getElem? hc)
  refine ⟨c, us, S1, hc, htg, (do_app X.L.o).2 e1, ?_, fun z x hz => ?_⟩
  · have X2 := X1.unf (fsO (Bs.length : Int) fh (.ref wn, .non))
    exact ⟨_, cut_none X1.fo _ rfl rfl, X2, ⟨X.L.cu, X.L.cl⟩, _, X1.fo, rfl⟩
  · have hx : Up x := by
      rcases hz with ⟨_, rfl⟩ | ⟨_, rfl⟩
      · exact .inr ⟨o, ho, rfl⟩
      · exact .inl rfl
    obtain ⟨i, im, pi, e2, X2⟩ := apply_app X1 hc l (snoc_us u l hx)
    obtain ⟨j, hj, pj⟩ := X2.D.get hc
    have jm := List.mem_of_getElem? hj
    have e3 := cut_app X2.fo X2.D hj hc u l hz
    have D3 := X2.D.own X2.ndf hj hc u (us' := us ++ [x])
    have E3 : Hd ((S1.set i (.lst (pgT (us ++ [x])))).set j (.lst (pgT (us ++ [x])))) lh hs (Bs.set c (us ++ [x])) := X2.E.oth (ne_pg pj u X2.E.at_) (fun h => X2.dj j h jm)
    have f3 : ((S1.set i (.lst (pgT (us ++ [x])))).set j (.lst (pgT (us ++ [x]))))[f]? = some (fsX (Bs.length : Int) fh (.ref wn) (.tup [.int (c : Int), .int (us.length : Int), recT o])) := by rw [List.getElem?_set_ne (fun e => by rw [e, X2.fo] at pj; cases pj)]; exact X2.fo
    have w3 : ((S1.set i (.lst (pgT (us ++ [x])))).set j (.lst (pgT (us ++ [x]))))[wn]? = some (.lst (ws.map .int)) := by rw [List.getElem?_set_ne (ne_int pj u X2.ww)]; exact X2.ww
    have l3 : ((S1.set i (.lst (pgT (us ++ [x])))).set j (.lst (pgT (us ++ [x]))))[lw]? = some (.lst (ws.map .int)) := by rw [List.getElem?_set_ne (ne_int pj u X2.lww)]; exact X2.lww
    have X3 : Lf ((S1.set i (.lst (pgT (us ++ [x])))).set j (.lst (pgT (us ++ [x])))) f fh wn lh lw fs hs ws ws (Bs.set c (us ++ [x])) (Bs.set c (us ++ [x])) (fsX (Bs.length : Int) fh (.ref wn) (.tup [.int (c : Int), .int (us.length : Int), recT o])) := ⟨f3, D3, E3, X2.bE, X2.bE, X2.ndf, X2.ndh, X2.dj, w3, l3, X2.ne, X2.h2, X2.lwl, X2.lwl, rfl⟩
    exact ⟨_, _, nxC c us, e2, e3, by rw [List.length_set]; exact X3.unf _, Cu.nxt ⟨X.L.cu, X.L.cl⟩ hc l hcur x, _, X2.fo, rfl⟩
theorem era_cut {S : Sto} {g f fh gh wn lh lw : Nat} {fs gs hs : List Nat} {ws : List Int} {Bs : List (List T)} {cur : Option Nat} (X : Lz S g f fh gh wn lh lw fs gs hs ws ws Bs Bs cur (some 0)) {b : Nat} {us : List T} (hb : Bs[b]? = some us) (hc : stW us = "closed") (y : T) :
    ∃ S1, m__law_do [.ref g, .str "erase", .int (b : Int), y] S = .ok (.bl false) S1 ∧
      (∃ S2, m_Flash_cut [.ref f, .int 0] S1 = .ok .non S2 ∧ Lf S2 f fh wn lh lw fs hs ws ws Bs Bs (fsO (Bs.length : Int) fh (.ref wn, .non)) ∧ Cu Bs cur ∧ ∃ fo, S1[f]? = some (.obj "Flash" fo) ∧ fo.lookup "cut" = none) ∧
      (∀ (z : Int) (x : T) (vs : List T), (z = 1 ∧ x = .non ∧ vs = []) ∨ (z = 2 ∧ x = .str "torn" ∧ vs = tornB) → ∃ S2 S3 fs' hs' ws', m__law_apply [.ref lh, .ref lw, .str "erase", .int (b : Int), x] S1 = .ok .non S2 ∧ m_Flash_cut [.ref f, .int z] S2 = .ok .non S3 ∧ Lf S3 f fh wn lh lw fs' hs' ws' ws' (Bs.set b vs) (Bs.set b vs) (fsO ((Bs.set b vs).length : Int) fh (.ref wn, .non)) ∧ Cu (Bs.set b vs) cur ∧ ∃ fo, S2[f]? = some (.obj "Flash" fo) ∧ fo.lookup "cut" = none) := by
  obtain ⟨S1, e1, X1⟩ := X.era_off hb hc
  have hbl := (List.getElem?_eq_some_iff.mp hb).1
  refine ⟨S1, (do_era X.L.o).2 e1, ?_, fun z x vs hz => ?_⟩
  · exact ⟨_, cut_none X1.fo _ rfl rfl, X1.unf _, ⟨X.L.cu, X.L.cl⟩, _, X1.fo, rfl⟩
  · have hv : Us vs ∧ (vs.length = 0 ∨ vs.length = 8) ∧ ([[x], [x], [x], [x], [x], [x], [x], [x]] : List (List T)).flatten = pgT vs ∧ ((z = 1 ∧ x = .non) ∨ (z = 2 ∧ x = .str "torn")) := by
      rcases hz with ⟨rfl, rfl, rfl⟩ | ⟨rfl, rfl, rfl⟩
      · exact ⟨nil_us, .inl rfl, none8, .inl ⟨rfl, rfl⟩⟩
      · exact ⟨torn_us, .inr rfl, torn8, .inr ⟨rfl, rfl⟩⟩
    obtain ⟨hv, hv2, rp, hz'⟩ := hv
    obtain ⟨S2, e2, X2, oth, ob⟩ := apply_era X1 hbl hv rp
    have e3 := cut_era X2.fo X2.D X2.ww X2.wl X2.bB.us X2.ndf hbl hz' rp
    obtain ⟨X3, _, _, _⟩ := X2.filled hbl hv
    exact ⟨S2, _, _, _, _, e2, e3, by rw [List.length_set]; exact X3.objset _, Cu.era ⟨X.L.cu, X.L.cl⟩ hb hc hv2, _, X2.fo, rfl⟩
/-! ### the orders -/
theorem ord_put {Bs : List (List T)} {c : Nat} {us us' : List T} (hc : Bs[c]? = some us) {o : Int} : (∃ vs, vs ∈ Bs.set c us' ∧ recT o ∈ vs) ↔ recT o ∈ us' ∨ ∃ d vs, d ≠ c ∧ Bs[d]? = some vs ∧ recT o ∈ vs := by
  have cl := (List.getElem?_eq_some_iff.mp hc).1
  constructor
  · rintro ⟨vs, hv, ho⟩
    obtain ⟨d, hd⟩ := List.mem_iff_getElem?.mp hv
    by_cases e : c = d
    · subst e
      rw [List.getElem?_set_self cl] at hd
      cases hd
      exact .inl ho
    · rw [List.getElem?_set_ne e] at hd
      exact .inr ⟨d, vs, Ne.symm e, hd, ho⟩
  · rintro (h | ⟨d, vs, hd, hv, ho⟩)
    · exact ⟨us', List.mem_iff_getElem?.mpr ⟨c, List.getElem?_set_self cl⟩, h⟩
    · exact ⟨vs, List.mem_iff_getElem?.mpr ⟨d, by rw [List.getElem?_set_ne (Ne.symm hd)]; exact hv⟩, ho⟩
theorem setB_same {Bs : List (List T)} {c : Nat} {us : List T} (hc : Bs[c]? = some us) : Bs.set c us = Bs := by
  apply List.ext_getElem?
  intro i
  by_cases e : c = i
  · subst e
    rw [List.getElem?_set_self (List.getElem?_eq_some_iff.mp hc).1, hc]
  · rw [List.getElem?_set_ne e]
theorem ord_all {Bs : List (List T)} {c : Nat} {us : List T} (hc : Bs[c]? = some us) {o : Int} : (∃ vs, vs ∈ Bs ∧ recT o ∈ vs) ↔ recT o ∈ us ∨ ∃ d vs, d ≠ c ∧ Bs[d]? = some vs ∧ recT o ∈ vs := by
  have := ord_put (us' := us) hc (o := o)
  rw [show Bs.set c us = Bs from setB_same hc] at this
  exact this
theorem rec_eq {a b : Int} : recT a = recT b ↔ a = b := ⟨fun h => by injection h with h; injection h with h; injection h, fun h => by rw [h]⟩
theorem ord_new {Bs : List (List T)} {c : Nat} {us : List T} (hc : Bs[c]? = some us) {od : Int} (h : OrdI Bs od) : OrdI (Bs.set c (us ++ [recT (od + 1)])) (od + 1) := by
  refine ⟨by have := h.1; omega, fun o => ?_⟩
  have h1 := h.2 o
  rw [ord_all hc] at h1
  rw [ord_put hc, List.mem_append, List.mem_singleton, rec_eq, or_right_comm, h1]
  have := h.1
  omega
theorem ord_copy {Bs : List (List T)} {c : Nat} {us : List T} (hc : Bs[c]? = some us) {od : Int} (h : OrdI Bs od) {r : Int} (hr : CpB Bs r) : OrdI (Bs.set c (us ++ [recT r])) od := by
  refine ⟨h.1, fun o => ?_⟩
  have h1 := h.2 o
  have h2 := (h.2 r).mp hr.2
  rw [ord_all hc] at h1
  rw [ord_put hc, List.mem_append, List.mem_singleton, rec_eq, or_right_comm, h1]
  omega
theorem ord_torn {Bs : List (List T)} {c : Nat} {us : List T} (hc : Bs[c]? = some us) {od : Int} (h : OrdI Bs od) : OrdI (Bs.set c (us ++ [.str "torn"])) od := by
  refine ⟨h.1, fun o => ?_⟩
  have h1 := h.2 o
  rw [ord_all hc] at h1
  rw [ord_put hc, List.mem_append, List.mem_singleton]
  have : ¬ recT o = .str "torn" := fun e => by cases e
  simp only [this, or_false]
  exact h1
theorem ord_era {Bs : List (List T)} {b : Nat} {us : List T} (hb : Bs[b]? = some us) (hs : ∀ o, recT o ∈ us → elB Bs b o) {od : Int} (h : OrdI Bs od) {vs : List T} (hv : ∀ o, recT o ∉ vs) : OrdI (Bs.set b vs) od := by
  refine ⟨h.1, fun o => ?_⟩
  have h1 := h.2 o
  rw [ord_all hb] at h1
  rw [ord_put hb, ← h1]
  constructor
  · rintro (a | a)
    · exact absurd a (hv o)
    · exact .inr a
  · rintro (a | a)
    · exact .inr (hs o a)
    · exact .inr a
noncomputable def lb0 : AS := (mSet 11 (mCall m__law_at (mCons (mV 1) (mCons (mV 10) mNil))))
noncomputable def lb1 : AS := (mSet 12 (mCall m__law_at (mCons (mV 1) (mCons (m2 opAdd (mV 10) (mC (.int 1))) mNil))))
noncomputable def lb2 : AS := (mIf (mTAnd (mB (m2 opIs (mV 8) (mC .non))) (mTAnd (mB (m2 opLt (mV 9) (mC (.int 6)))) (mB (m2 opEq (m2 opMod (mV 11) (mC (.int 9))) (mC (.int 4)))))) (mSeq (mSet 8 (m2 opMod (mV 12) (mC (.int 7)))) (mSeq (mSet 9 (m2 opAdd (mV 9) (mC (.int 1)))) (mExp (mMeth "Flash" "fail_after" m_Flash_fail_after (mV 2) (mCons (mV 8) mNil))))) mPass)
noncomputable def lb3 : AS := (mSet 13 (mCall m__law_choose (mCons (mV 5) (mCons (m2 opDiv (mV 11) (mC (.int 9))) (mCons (mV 12) (mCons (mV 7) mNil))))))
noncomputable def lb4 : AS := (mIf (mB (m2 opIsnt (mV 13) (mC .non))) (mSeq (mAsg (mV 13) (gT 3 (gsC (gN 14) (gsC (gN 15) (gsC (gN 16) gsN))))) (mSeq (mSet 4 (mV 15)) (mSeq (mSet 17 (mC .non)) (mSeq (mIf (mB (m2 opEq (mV 14) (mC (.str "append")))) (mSeq (mSet 4 (mCall m__law_target (mCons (mV 5) (mCons (mV 6) mNil)))) (mSet 17 (mV 15))) mPass) (mSeq (mSet 18 (mCall m__law_do (mCons (mV 3) (mCons (mV 14) (mCons (mV 15) (mCons (mV 16) mNil)))))) (mSeq (mIf (mB (m2 opNe (mV 18) (mOr (m2 opIs (mV 8) (mC .non)) (m2 opGt (mV 8) (mC (.int 0)))))) (mRet (mC (.bl false))) mPass) (mSeq (mIf (mTru (mV 18)) (mSeq (mExp (mCall m__law_apply (mCons (mV 5) (mCons (mV 6) (mCons (mV 14) (mCons (mV 4) (mCons (mV 17) mNil))))))) (mIf (mB (m2 opIsnt (mV 8) (mC .non))) (mSet 8 (m2 opSub (mV 8) (mC (.int 1)))) mPass)) (mSeq (mSet 19 (m2 opMod (mV 12) (mC (.int 3)))) (mSeq (mIf (mB (m2 opGt (mV 19) (mC (.int 0)))) (mExp (mCall m__law_apply (mCons (mV 5) (mCons (mV 6) (mCons (mV 14) (mCons (mV 4) (mCons (m2 opIx (mN (opLst true) (mCons (mV 17) (mCons (mC (.str "torn")) mNil))) (m2 opSub (mV 19) (mC (.int 1)))) mNil))))))) mPass) (mSeq (mExp (mMeth "Flash" "cut" m_Flash_cut (mV 2) (mCons (mV 19) mNil))) (mSeq (mSet 8 (mC .non)) (mSet 3 (mMake "Log" m_Log___init__ (mCons (mV 2) mNil)))))))) (mIf (mTAnd (mB (m2 opEq (mV 14) (mC (.str "append")))) (mTAnd (mTNot (mTru (mV 16))) (mTOr (mTru (mV 18)) (mB (m2 opEq (m2 opMod (mV 12) (mC (.int 3))) (mC (.int 1))))))) (mSet 7 (m2 opAdd (mV 7) (mC (.int 1)))) mPass)))))))) mPass)
noncomputable def lb5 : AS := (mIf (mTNot (mB (mCall m__law_same (mCons (mV 3) (mCons (mV 5) mNil))))) (mRet (mC (.bl false))) mPass)
noncomputable def lb6 : AS := (mIf (mB (m2 opNe (mCall m__law_orders (mCons (mV 5) mNil)) (mLc true (itR1 (mCons (mV 7) mNil)) 20 mYes (m2 opAdd (mC (.int 1)) (mV 20))))) (mRet (mC (.bl false))) mPass)
theorem lfT_none : lfT none = .non := rfl
theorem lfT_some {k : Nat} : lfT (some k) = .int (k : Int) := rfl
theorem w_none (y x : T) (f g lh lw : Nat) (od fz : Int) (a4 a10 a11 a12 a13 a14 a15 a16 a17 a18 a19 a20 a21 : Option T) (lf : T) (S : Sto) : lb4 [some y, some x, some (.ref f), some (.ref g), a4, some (.ref lh), some (.ref lw), some (.int od), some lf, some (.int fz), a10, a11, a12, some .non, a14, a15, a16, a17, a18, a19, a20, a21] S = .nx [some y, some x, some (.ref f), some (.ref g), a4, some (.ref lh), some (.ref lw), some (.int od), some lf, some (.int fz), a10, a11, a12, some .non, a14, a15, a16, a17, a18, a19, a20, a21] S := by
  unfold lb4
  walk_at "ev*"
theorem w_app_true (y x : T) (f g lh lw : Nat) (od fz : Int) (a4 a10 a11 a12 a13 a14 a15 a16 a17 a18 a19 a20 a21 : Option T) (lf : Option Nat) (hl : lf ≠ some 0) (p c : Int) (r : T) (S S1 S2 : Sto) (et : m__law_target [.ref lh, .ref lw] S = .ok (.int c) S) (ed : m__law_do [.ref g, .str "append", r, .bl true] S = .ok (.bl true) S1) (ea : m__law_apply [.ref lh, .ref lw, .str "append", .int c, r] S1 = .ok .non S2) : lb4 [some y, some x, some (.ref f), some (.ref g), a4, some (.ref lh), some (.ref lw), some (.int od), some (lfT lf), some (.int fz), a10, a11, some (.int p), some (.tup [.str "append", r, .bl true]), a14, a15, a16, a17, a18, a19, a20, a21] S = .nx [some y, some x, some (.ref f), some (.ref g), some (.int c), some (.ref lh), some (.ref lw), some (.int od), some (lfT (decL lf)), some (.int fz), a10, a11, some (.int p), some (.tup [.str "append", r, .bl true]), some (.str "append"), some r, some (.bl true), some r, some (.bl true), a19, a20, a21] S2 := by
  unfold lb4
  cases lf with
  | none =>
    simp only [decL, lfT_none]
    clear hl
    walk_at "ev*"
  | some k =>
    have k1 : (0 : Int) < (k : Int) := by
      have : k ≠ 0 := fun e => hl (by rw [e])
      omega
    have k2 : (k : Int) - 1 = ((k - 1 : Nat) : Int) := by omega
    simp only [decL, lfT_some]
    rw [← k2]
    clear hl k2
    generalize (k : Int) = z at *
    walk_at "ev*"
theorem w_app_false (y x : T) (f g lh lw : Nat) (od fz : Int) (a4 a10 a11 a12 a13 a14 a15 a16 a17 a18 a19 a20 a21 : Option T) (lf : Option Nat) (hl : lf ≠ some 0) (p c : Int) (r : T) (S S1 S2 : Sto) (et : m__law_target [.ref lh, .ref lw] S = .ok (.int c) S) (ed : m__law_do [.ref g, .str "append", r, .bl false] S = .ok (.bl true) S1) (ea : m__law_apply [.ref lh, .ref lw, .str "append", .int c, r] S1 = .ok .non S2) : lb4 [some y, some x, some (.ref f), some (.ref g), a4, some (.ref lh), some (.ref lw), some (.int od), some (lfT lf), some (.int fz), a10, a11, some (.int p), some (.tup [.str "append", r, .bl false]), a14, a15, a16, a17, a18, a19, a20, a21] S = .nx [some y, some x, some (.ref f), some (.ref g), some (.int c), some (.ref lh), some (.ref lw), some (.int (od + 1)), some (lfT (decL lf)), some (.int fz), a10, a11, some (.int p), some (.tup [.str "append", r, .bl false]), some (.str "append"), some r, some (.bl false), some r, some (.bl true), a19, a20, a21] S2 := by
  unfold lb4
  cases lf with
  | none =>
    simp only [decL, lfT_none]
    clear hl
    walk_at "ev*"
  | some k =>
    have k1 : (0 : Int) < (k : Int) := by
      have : k ≠ 0 := fun e => hl (by rw [e])
      omega
    have k2 : (k : Int) - 1 = ((k - 1 : Nat) : Int) := by omega
    simp only [decL, lfT_some]
    rw [← k2]
    clear hl k2
    generalize (k : Int) = z at *
    walk_at "ev*"
theorem w_era (y x : T) (f g lh lw : Nat) (od fz : Int) (a4 a10 a11 a12 a13 a14 a15 a16 a17 a18 a19 a20 a21 : Option T) (lf : Option Nat) (hl : lf ≠ some 0) (p c : Int) (S S1 S2 : Sto) (ed : m__law_do [.ref g, .str "erase", .int c, .bl false] S = .ok (.bl true) S1) (ea : m__law_apply [.ref lh, .ref lw, .str "erase", .int c, .non] S1 = .ok .non S2) : lb4 [some y, some x, some (.ref f), some (.ref g), a4, some (.ref lh), some (.ref lw), some (.int od), some (lfT lf), some (.int fz), a10, a11, some (.int p), some (.tup [.str "erase", .int c, .bl false]), a14, a15, a16, a17, a18, a19, a20, a21] S = .nx [some y, some x, some (.ref f), some (.ref g), some (.int c), some (.ref lh), some (.ref lw), some (.int od), some (lfT (decL lf)), some (.int fz), a10, a11, some (.int p), some (.tup [.str "erase", .int c, .bl false]), some (.str "erase"), some (.int c), some (.bl false), some .non, some (.bl true), a19, a20, a21] S2 := by
  unfold lb4
  cases lf with
  | none =>
    simp only [decL, lfT_none]
    clear hl
    walk_at "ev*"
  | some k =>
    have k1 : (0 : Int) < (k : Int) := by
      have : k ≠ 0 := fun e => hl (by rw [e])
      omega
    have k2 : (k : Int) - 1 = ((k - 1 : Nat) : Int) := by omega
    simp only [decL, lfT_some]
    rw [← k2]
    clear hl k2
    generalize (k : Int) = z at *
    walk_at "ev*"
theorem w_cut_append_true_0 (y x : T) (f g lh lw : Nat) (od fz : Int) (a4 a10 a11 a12 a13 a14 a15 a16 a17 a18 a19 a20 a21 : Option T) (p c : Int) (hp : p % 3 = 0) (r : T) (fl : List (String × T)) (S S1 S2 S3 S4 : Sto) (et : m__law_target [.ref lh, .ref lw] S = .ok (.int c) S) (ed : m__law_do [.ref g, .str "append", r, .bl true] S = .ok (.bl false) S1) (hS : S2 = S1) (fo : S1[f]? = some (.obj "Flash" fl)) (hm : fl.lookup "cut" = none) (ec : m_Flash_cut [.ref f, .int 0] S1 = .ok .non S3) (ei : m_Log___init__ [.ref S3.length, .ref f] (S3 ++ [.obj "Log" []]) = .ok .non S4) : lb4 [some y, some x, some (.ref f), some (.ref g), a4, some (.ref lh), some (.ref lw), some (.int od), some (lfT (some 0)), some (.int fz), a10, a11, some (.int p), some (.tup [.str "append", r, .bl true]), a14, a15, a16, a17, a18, a19, a20, a21] S = .nx [some y, some x, some (.ref f), some (.ref S3.length), some (.int c), some (.ref lh), some (.ref lw), some (.int od), some .non, some (.int fz), a10, a11, some (.int p), some (.tup [.str "append", r, .bl true]), some (.str "append"), some (r), some (.bl true), some (r), some (.bl false), some (.int 0), a20, a21] S4 := by
  unfold lb4
  have e0 : lfT (some 0) = .int 0 := rfl
  have z := zl
  rw [e0]
  walk_at "ev*"
theorem w_cut_append_true_1 (y x : T) (f g lh lw : Nat) (od fz : Int) (a4 a10 a11 a12 a13 a14 a15 a16 a17 a18 a19 a20 a21 : Option T) (p c : Int) (hp : p % 3 = 1) (r : T) (fl : List (String × T)) (S S1 S2 S3 S4 : Sto) (et : m__law_target [.ref lh, .ref lw] S = .ok (.int c) S) (ed : m__law_do [.ref g, .str "append", r, .bl true] S = .ok (.bl false) S1) (ea : m__law_apply [.ref lh, .ref lw, .str "append", .int c, r] S1 = .ok .non S2) (fo : S2[f]? = some (.obj "Flash" fl)) (hm : fl.lookup "cut" = none) (ec : m_Flash_cut [.ref f, .int 1] S2 = .ok .non S3) (ei : m_Log___init__ [.ref S3.length, .ref f] (S3 ++ [.obj "Log" []]) = .ok .non S4) : lb4 [some y, some x, some (.ref f), some (.ref g), a4, some (.ref lh), some (.ref lw), some (.int od), some (lfT (some 0)), some (.int fz), a10, a11, some (.int p), some (.tup [.str "append", r, .bl true]), a14, a15, a16, a17, a18, a19, a20, a21] S = .nx [some y, some x, some (.ref f), some (.ref S3.length), some (.int c), some (.ref lh), some (.ref lw), some (.int od), some .non, some (.int fz), a10, a11, some (.int p), some (.tup [.str "append", r, .bl true]), some (.str "append"), some (r), some (.bl true), some (r), some (.bl false), some (.int 1), a20, a21] S4 := by
  unfold lb4
  have e0 : lfT (some 0) = .int 0 := rfl
  have z := zl
  rw [e0]
  walk_at "ev*"
theorem w_cut_append_true_2 (y x : T) (f g lh lw : Nat) (od fz : Int) (a4 a10 a11 a12 a13 a14 a15 a16 a17 a18 a19 a20 a21 : Option T) (p c : Int) (hp : p % 3 = 2) (r : T) (fl : List (String × T)) (S S1 S2 S3 S4 : Sto) (et : m__law_target [.ref lh, .ref lw] S = .ok (.int c) S) (ed : m__law_do [.ref g, .str "append", r, .bl true] S = .ok (.bl false) S1) (ea : m__law_apply [.ref lh, .ref lw, .str "append", .int c, .str "torn"] S1 = .ok .non S2) (fo : S2[f]? = some (.obj "Flash" fl)) (hm : fl.lookup "cut" = none) (ec : m_Flash_cut [.ref f, .int 2] S2 = .ok .non S3) (ei : m_Log___init__ [.ref S3.length, .ref f] (S3 ++ [.obj "Log" []]) = .ok .non S4) : lb4 [some y, some x, some (.ref f), some (.ref g), a4, some (.ref lh), some (.ref lw), some (.int od), some (lfT (some 0)), some (.int fz), a10, a11, some (.int p), some (.tup [.str "append", r, .bl true]), a14, a15, a16, a17, a18, a19, a20, a21] S = .nx [some y, some x, some (.ref f), some (.ref S3.length), some (.int c), some (.ref lh), some (.ref lw), some (.int od), some .non, some (.int fz), a10, a11, some (.int p), some (.tup [.str "append", r, .bl true]), some (.str "append"), some (r), some (.bl true), some (r), some (.bl false), some (.int 2), a20, a21] S4 := by
  unfold lb4
  have e0 : lfT (some 0) = .int 0 := rfl
  have z := zl
  rw [e0]
  walk_at "ev*"
theorem w_cut_append_false_0 (y x : T) (f g lh lw : Nat) (od fz : Int) (a4 a10 a11 a12 a13 a14 a15 a16 a17 a18 a19 a20 a21 : Option T) (p c : Int) (hp : p % 3 = 0) (r : T) (fl : List (String × T)) (S S1 S2 S3 S4 : Sto) (et : m__law_target [.ref lh, .ref lw] S = .ok (.int c) S) (ed : m__law_do [.ref g, .str "append", r, .bl false] S = .ok (.bl false) S1) (hS : S2 = S1) (fo : S1[f]? = some (.obj "Flash" fl)) (hm : fl.lookup "cut" = none) (ec : m_Flash_cut [.ref f, .int 0] S1 = .ok .non S3) (ei : m_Log___init__ [.ref S3.length, .ref f] (S3 ++ [.obj "Log" []]) = .ok .non S4) : lb4 [some y, some x, some (.ref f), some (.ref g), a4, some (.ref lh), some (.ref lw), some (.int od), some (lfT (some 0)), some (.int fz), a10, a11, some (.int p), some (.tup [.str "append", r, .bl false]), a14, a15, a16, a17, a18, a19, a20, a21] S = .nx [some y, some x, some (.ref f), some (.ref S3.length), some (.int c), some (.ref lh), some (.ref lw), some (.int od), some .non, some (.int fz), a10, a11, some (.int p), some (.tup [.str "append", r, .bl false]), some (.str "append"), some (r), some (.bl false), some (r), some (.bl false), some (.int 0), a20, a21] S4 := by
  unfold lb4
  have e0 : lfT (some 0) = .int 0 := rfl
  have z := zl
  rw [e0]
  walk_at "ev*"
theorem w_cut_append_false_1 (y x : T) (f g lh lw : Nat) (od fz : Int) (a4 a10 a11 a12 a13 a14 a15 a16 a17 a18 a19 a20 a21 : Option T) (p c : Int) (hp : p % 3 = 1) (r : T) (fl : List (String × T)) (S S1 S2 S3 S4 : Sto) (et : m__law_target [.ref lh, .ref lw] S = .ok (.int c) S) (ed : m__law_do [.ref g, .str "append", r, .bl false] S = .ok (.bl false) S1) (ea : m__law_apply [.ref lh, .ref lw, .str "append", .int c, r] S1 = .ok .non S2) (fo : S2[f]? = some (.obj "Flash" fl)) (hm : fl.lookup "cut" = none) (ec : m_Flash_cut [.ref f, .int 1] S2 = .ok .non S3) (ei : m_Log___init__ [.ref S3.length, .ref f] (S3 ++ [.obj "Log" []]) = .ok .non S4) : lb4 [some y, some x, some (.ref f), some (.ref g), a4, some (.ref lh), some (.ref lw), some (.int od), some (lfT (some 0)), some (.int fz), a10, a11, some (.int p), some (.tup [.str "append", r, .bl false]), a14, a15, a16, a17, a18, a19, a20, a21] S = .nx [some y, some x, some (.ref f), some (.ref S3.length), some (.int c), some (.ref lh), some (.ref lw), some (.int (od + 1)), some .non, some (.int fz), a10, a11, some (.int p), some (.tup [.str "append", r, .bl false]), some (.str "append"), some (r), some (.bl false), some (r), some (.bl false), some (.int 1), a20, a21] S4 := by
  unfold lb4
  have e0 : lfT (some 0) = .int 0 := rfl
  have z := zl
  rw [e0]
  walk_at "ev*"
theorem w_cut_append_false_2 (y x : T) (f g lh lw : Nat) (od fz : Int) (a4 a10 a11 a12 a13 a14 a15 a16 a17 a18 a19 a20 a21 : Option T) (p c : Int) (hp : p % 3 = 2) (r : T) (fl : List (String × T)) (S S1 S2 S3 S4 : Sto) (et : m__law_target [.ref lh, .ref lw] S = .ok (.int c) S) (ed : m__law_do [.ref g, .str "append", r, .bl false] S = .ok (.bl false) S1) (ea : m__law_apply [.ref lh, .ref lw, .str "append", .int c, .str "torn"] S1 = .ok .non S2) (fo : S2[f]? = some (.obj "Flash" fl)) (hm : fl.lookup "cut" = none) (ec : m_Flash_cut [.ref f, .int 2] S2 = .ok .non S3) (ei : m_Log___init__ [.ref S3.length, .ref f] (S3 ++ [.obj "Log" []]) = .ok .non S4) : lb4 [some y, some x, some (.ref f), some (.ref g), a4, some (.ref lh), some (.ref lw), some (.int od), some (lfT (some 0)), some (.int fz), a10, a11, some (.int p), some (.tup [.str "append", r, .bl false]), a14, a15, a16, a17, a18, a19, a20, a21] S = .nx [some y, some x, some (.ref f), some (.ref S3.length), some (.int c), some (.ref lh), some (.ref lw), some (.int od), some .non, some (.int fz), a10, a11, some (.int p), some (.tup [.str "append", r, .bl false]), some (.str "append"), some (r), some (.bl false), some (r), some (.bl false), some (.int 2), a20, a21] S4 := by
  unfold lb4
  have e0 : lfT (some 0) = .int 0 := rfl
  have z := zl
  rw [e0]
  walk_at "ev*"
theorem w_cut_erase_false_0 (y x : T) (f g lh lw : Nat) (od fz : Int) (a4 a10 a11 a12 a13 a14 a15 a16 a17 a18 a19 a20 a21 : Option T) (p c : Int) (hp : p % 3 = 0) (r : T) (fl : List (String × T)) (S S1 S2 S3 S4 : Sto) (ed : m__law_do [.ref g, .str "erase", .int c, .bl false] S = .ok (.bl false) S1) (hS : S2 = S1) (fo : S1[f]? = some (.obj "Flash" fl)) (hm : fl.lookup "cut" = none) (ec : m_Flash_cut [.ref f, .int 0] S1 = .ok .non S3) (ei : m_Log___init__ [.ref S3.length, .ref f] (S3 ++ [.obj "Log" []]) = .ok .non S4) : lb4 [some y, some x, some (.ref f), some (.ref g), a4, some (.ref lh), some (.ref lw), some (.int od), some (lfT (some 0)), some (.int fz), a10, a11, some (.int p), some (.tup [.str "erase", .int c, .bl false]), a14, a15, a16, a17, a18, a19, a20, a21] S = .nx [some y, some x, some (.ref f), some (.ref S3.length), some (.int c), some (.ref lh), some (.ref lw), some (.int od), some .non, some (.int fz), a10, a11, some (.int p), some (.tup [.str "erase", .int c, .bl false]), some (.str "erase"), some (.int c), some (.bl false), some (.non), some (.bl false), some (.int 0), a20, a21] S4 := by
  unfold lb4
  have e0 : lfT (some 0) = .int 0 := rfl
  have z := zl
  rw [e0]
  walk_at "ev*"
theorem w_cut_erase_false_1 (y x : T) (f g lh lw : Nat) (od fz : Int) (a4 a10 a11 a12 a13 a14 a15 a16 a17 a18 a19 a20 a21 : Option T) (p c : Int) (hp : p % 3 = 1) (r : T) (fl : List (String × T)) (S S1 S2 S3 S4 : Sto) (ed : m__law_do [.ref g, .str "erase", .int c, .bl false] S = .ok (.bl false) S1) (ea : m__law_apply [.ref lh, .ref lw, .str "erase", .int c, .non] S1 = .ok .non S2) (fo : S2[f]? = some (.obj "Flash" fl)) (hm : fl.lookup "cut" = none) (ec : m_Flash_cut [.ref f, .int 1] S2 = .ok .non S3) (ei : m_Log___init__ [.ref S3.length, .ref f] (S3 ++ [.obj "Log" []]) = .ok .non S4) : lb4 [some y, some x, some (.ref f), some (.ref g), a4, some (.ref lh), some (.ref lw), some (.int od), some (lfT (some 0)), some (.int fz), a10, a11, some (.int p), some (.tup [.str "erase", .int c, .bl false]), a14, a15, a16, a17, a18, a19, a20, a21] S = .nx [some y, some x, some (.ref f), some (.ref S3.length), some (.int c), some (.ref lh), some (.ref lw), some (.int od), some .non, some (.int fz), a10, a11, some (.int p), some (.tup [.str "erase", .int c, .bl false]), some (.str "erase"), some (.int c), some (.bl false), some (.non), some (.bl false), some (.int 1), a20, a21] S4 := by
  unfold lb4
  have e0 : lfT (some 0) = .int 0 := rfl
  have z := zl
  rw [e0]
  walk_at "ev*"
theorem w_cut_erase_false_2 (y x : T) (f g lh lw : Nat) (od fz : Int) (a4 a10 a11 a12 a13 a14 a15 a16 a17 a18 a19 a20 a21 : Option T) (p c : Int) (hp : p % 3 = 2) (r : T) (fl : List (String × T)) (S S1 S2 S3 S4 : Sto) (ed : m__law_do [.ref g, .str "erase", .int c, .bl false] S = .ok (.bl false) S1) (ea : m__law_apply [.ref lh, .ref lw, .str "erase", .int c, .str "torn"] S1 = .ok .non S2) (fo : S2[f]? = some (.obj "Flash" fl)) (hm : fl.lookup "cut" = none) (ec : m_Flash_cut [.ref f, .int 2] S2 = .ok .non S3) (ei : m_Log___init__ [.ref S3.length, .ref f] (S3 ++ [.obj "Log" []]) = .ok .non S4) : lb4 [some y, some x, some (.ref f), some (.ref g), a4, some (.ref lh), some (.ref lw), some (.int od), some (lfT (some 0)), some (.int fz), a10, a11, some (.int p), some (.tup [.str "erase", .int c, .bl false]), a14, a15, a16, a17, a18, a19, a20, a21] S = .nx [some y, some x, some (.ref f), some (.ref S3.length), some (.int c), some (.ref lh), some (.ref lw), some (.int od), some .non, some (.int fz), a10, a11, some (.int p), some (.tup [.str "erase", .int c, .bl false]), some (.str "erase"), some (.int c), some (.bl false), some (.non), some (.bl false), some (.int 2), a20, a21] S4 := by
  unfold lb4
  have e0 : lfT (some 0) = .int 0 := rfl
  have z := zl
  rw [e0]
  walk_at "ev*"
def Cl (S : Sto) (g f lh lw : Nat) (od : Int) (lf : Option Nat) : Prop := ∃ fh gh wn fs gs hs ws Bs cur, Lz S g f fh gh wn lh lw fs gs hs ws ws Bs Bs cur lf ∧ Bs.length = 8 ∧ OrdI Bs od
theorem Lf.app {S : Sto} {f fh wn lh lw : Nat} {fs hs : List Nat} {ws lws : List Int} {Bs Es : List (List T)} {o : O} (X : Lf S f fh wn lh lw fs hs ws lws Bs Es o) (J : Sto) : Lf (S ++ J) f fh wn lh lw fs hs ws lws Bs Es o :=
  ⟨app_get X.fo, X.D.app J, X.E.app J, X.bB, X.bE, X.ndf, X.ndh, X.dj, app_get X.ww, app_get X.lww, X.ne, X.h2, X.wl, X.lwl, X.el⟩
theorem Lz.app {S : Sto} {g f fh gh wn lh lw : Nat} {fs gs hs : List Nat} {ws lws : List Int} {Bs Es : List (List T)} {cur lf : Option Nat} (X : Lz S g f fh gh wn lh lw fs gs hs ws lws Bs Es cur lf) (J : Sto) : Lz (S ++ J) g f fh gh wn lh lw fs gs hs ws lws Bs Es cur lf :=
  ⟨X.B.app J, X.L.app J, X.ndg, X.d1, X.h1, X.h3⟩
theorem Cl.app {S : Sto} {g f lh lw : Nat} {od : Int} {lf : Option Nat} (X : Cl S g f lh lw od lf) (J : Sto) : Cl (S ++ J) g f lh lw od lf := by
  obtain ⟨fh, gh, wn, fs, gs, hs, ws, Bs, cur, X, h8, hO⟩ := X
  exact ⟨fh, gh, wn, fs, gs, hs, ws, Bs, cur, X.app J, h8, hO⟩
theorem p3 (p : Int) : p % 3 = 0 ∨ p % 3 = 1 ∨ p % 3 = 2 := by omega
theorem no_nil (o : Int) : recT o ∉ ([] : List T) := fun h => by cases h
theorem no_torn (o : Int) : recT o ∉ tornB := fun h => by have := (List.mem_replicate.mp h).2; cases this
theorem lb4_ok (y x : T) (f g lh lw : Nat) (od fz : Int) (a4 a10 a11 a12 a13 a14 a15 a16 a17 a18 a19 a20 a21 : Option T) (lf : Option Nat) (p : Int) {S : Sto} {fh gh wn : Nat} {fs gs hs : List Nat} {ws : List Int} {Bs : List (List T)} {cur : Option Nat} (X : Lz S g f fh gh wn lh lw fs gs hs ws ws Bs Bs cur lf) (h8 : Bs.length = 8) (hO : OrdI Bs od) {v : T} (hv : ChR Bs cur od v) : ∃ (g' : Nat) (od' : Int) (lf' : Option Nat) (S' : Sto) (b4 b14 b15 b16 b17 b18 b19 : Option T), lb4 [some y, some x, some (.ref f), some (.ref g), a4, some (.ref lh), some (.ref lw), some (.int od), some (lfT lf), some (.int fz), a10, a11, some (.int p), some v, a14, a15, a16, a17, a18, a19, a20, a21] S = .nx [some y, some x, some (.ref f), some (.ref g'), b4, some (.ref lh), some (.ref lw), some (.int od'), some (lfT lf'), some (.int fz), a10, a11, some (.int p), some v, b14, b15, b16, b17, b18, b19, a20, a21] S' ∧ Cl S' g' f lh lw od' lf' := by
  have l8 : ∀ (c : Nat) (us : List T), (Bs.set c us).length = 8 := fun c us => by rw [List.length_set]; exact h8
  have od0 := hO.1
  rcases hv with rfl | ⟨b, rfl, us, hb, hc, hel⟩ | ⟨o, rfl, ho, hr⟩ | ⟨rfl, hr⟩
  · exact ⟨g, od, lf, S, a4, a14, a15, a16, a17, a18, a19, w_none y x f g lh lw od fz a4 a10 a11 (some (.int p)) a13 a14 a15 a16 a17 a18 a19 a20 a21 (lfT lf) S, _, _, _, _, _, _, _, _, _, X, h8, hO⟩
  · by_cases hl : lf = some 0
    · subst hl
      obtain ⟨S1, ed, ⟨S2, ec, X2, C2, fo, hf, hm⟩, hz⟩ := era_cut X hb hc (.bl false)
      rcases p3 p with h | h | h
      · obtain ⟨J, gh', gs', ei, X3⟩ := reopen X2 C2
        exact ⟨S2.length, od, none, S2 ++ J, _, _, _, _, _, _, _, w_cut_erase_false_0 y x f g lh lw od fz a4 a10 a11 a12 a13 a14 a15 a16 a17 a18 a19 a20 a21 p b h .non fo S S1 S1 S2 _ ed rfl hf hm ec ei, _, _, _, _, _, _, _, _, _, X3, h8, hO⟩
      · obtain ⟨S2, S3, fs', hs', ws', ea, ec, X3, C3, fo, hf, hm⟩ := hz 1 .non [] (.inl ⟨rfl, rfl, rfl⟩)
        obtain ⟨J, gh', gs', ei, X4⟩ := reopen X3 C3
        exact ⟨S3.length, od, none, S3 ++ J, _, _, _, _, _, _, _, w_cut_erase_false_1 y x f g lh lw od fz a4 a10 a11 a12 a13 a14 a15 a16 a17 a18 a19 a20 a21 p b h .non fo S S1 S2 S3 _ ed ea hf hm ec ei, _, _, _, _, _, _, _, _, _, X4, l8 _ _, ord_era hb hel hO no_nil⟩
      · obtain ⟨S2, S3, fs', hs', ws', ea, ec, X3, C3, fo, hf, hm⟩ := hz 2 (.str "torn") tornB (.inr ⟨rfl, rfl, rfl⟩)
        obtain ⟨J, gh', gs', ei, X4⟩ := reopen X3 C3
        exact ⟨S3.length, od, none, S3 ++ J, _, _, _, _, _, _, _, w_cut_erase_false_2 y x f g lh lw od fz a4 a10 a11 a12 a13 a14 a15 a16 a17 a18 a19 a20 a21 p b h .non fo S S1 S2 S3 _ ed ea hf hm ec ei, _, _, _, _, _, _, _, _, _, X4, l8 _ _, ord_era hb hel hO no_torn⟩
    · obtain ⟨S1, S2, fs', gs', hs', ws', ed, ea, X2⟩ := era_done X hl hb hc (.bl false)
      exact ⟨g, od, decL lf, S2, _, _, _, _, _, _, _, w_era y x f g lh lw od fz a4 a10 a11 a12 a13 a14 a15 a16 a17 a18 a19 a20 a21 lf hl p b S S1 S2 ed ea, _, _, _, _, _, _, _, _, _, X2, l8 _ _, ord_era hb hel hO no_nil⟩
  · by_cases hl : lf = some 0
    · subst hl
      obtain ⟨c, us, S1, hc, et, ed, ⟨S2, ec, X2, C2, fo, hf, hm⟩, hz⟩ := app_cut X true hr o ho.1
      rcases p3 p with h | h | h
      · obtain ⟨J, gh', gs', ei, X3⟩ := reopen X2 C2
        exact ⟨S2.length, od, none, S2 ++ J, _, _, _, _, _, _, _, w_cut_append_true_0 y x f g lh lw od fz a4 a10 a11 a12 a13 a14 a15 a16 a17 a18 a19 a20 a21 p c h (recT o) fo S S1 S1 S2 _ et ed rfl hf hm ec ei, _, _, _, _, _, _, _, _, _, X3, h8, hO⟩
      · obtain ⟨S2, S3, cur', ea, ec, X3, C3, fo, hf, hm⟩ := hz 1 (recT o) (.inl ⟨rfl, rfl⟩)
        obtain ⟨J, gh', gs', ei, X4⟩ := reopen X3 C3
        exact ⟨S3.length, od, none, S3 ++ J, _, _, _, _, _, _, _, w_cut_append_true_1 y x f g lh lw od fz a4 a10 a11 a12 a13 a14 a15 a16 a17 a18 a19 a20 a21 p c h (recT o) fo S S1 S2 S3 _ et ed ea hf hm ec ei, _, _, _, _, _, _, _, _, _, X4, l8 _ _, ord_copy hc hO ho⟩
      · obtain ⟨S2, S3, cur', ea, ec, X3, C3, fo, hf, hm⟩ := hz 2 (.str "torn") (.inr ⟨rfl, rfl⟩)
        obtain ⟨J, gh', gs', ei, X4⟩ := reopen X3 C3
        exact ⟨S3.length, od, none, S3 ++ J, _, _, _, _, _, _, _, w_cut_append_true_2 y x f g lh lw od fz a4 a10 a11 a12 a13 a14 a15 a16 a17 a18 a19 a20 a21 p c h (recT o) fo S S1 S2 S3 _ et ed ea hf hm ec ei, _, _, _, _, _, _, _, _, _, X4, l8 _ _, ord_torn hc hO⟩
    · obtain ⟨c, us, S1, S2, cur', hc, et, ed, ea, X2⟩ := app_done X hl true hr o ho.1
      exact ⟨g, od, decL lf, S2, _, _, _, _, _, _, _, w_app_true y x f g lh lw od fz a4 a10 a11 a12 a13 a14 a15 a16 a17 a18 a19 a20 a21 lf hl p c (recT o) S S1 S2 et ed ea, _, _, _, _, _, _, _, _, _, X2, l8 _ _, ord_copy hc hO ho⟩
  · by_cases hl : lf = some 0
    · subst hl
      obtain ⟨c, us, S1, hc, et, ed, ⟨S2, ec, X2, C2, fo, hf, hm⟩, hz⟩ := app_cut X false hr (od + 1) (by omega)
      rcases p3 p with h | h | h
      · obtain ⟨J, gh', gs', ei, X3⟩ := reopen X2 C2
        exact ⟨S2.length, od, none, S2 ++ J, _, _, _, _, _, _, _, w_cut_append_false_0 y x f g lh lw od fz a4 a10 a11 a12 a13 a14 a15 a16 a17 a18 a19 a20 a21 p c h (recT (od + 1)) fo S S1 S1 S2 _ et ed rfl hf hm ec ei, _, _, _, _, _, _, _, _, _, X3, h8, hO⟩
      · obtain ⟨S2, S3, cur', ea, ec, X3, C3, fo, hf, hm⟩ := hz 1 (recT (od + 1)) (.inl ⟨rfl, rfl⟩)
        obtain ⟨J, gh', gs', ei, X4⟩ := reopen X3 C3
        exact ⟨S3.length, (od + 1), none, S3 ++ J, _, _, _, _, _, _, _, w_cut_append_false_1 y x f g lh lw od fz a4 a10 a11 a12 a13 a14 a15 a16 a17 a18 a19 a20 a21 p c h (recT (od + 1)) fo S S1 S2 S3 _ et ed ea hf hm ec ei, _, _, _, _, _, _, _, _, _, X4, l8 _ _, ord_new hc hO⟩
      · obtain ⟨S2, S3, cur', ea, ec, X3, C3, fo, hf, hm⟩ := hz 2 (.str "torn") (.inr ⟨rfl, rfl⟩)
        obtain ⟨J, gh', gs', ei, X4⟩ := reopen X3 C3
        exact ⟨S3.length, od, none, S3 ++ J, _, _, _, _, _, _, _, w_cut_append_false_2 y x f g lh lw od fz a4 a10 a11 a12 a13 a14 a15 a16 a17 a18 a19 a20 a21 p c h (recT (od + 1)) fo S S1 S2 S3 _ et ed ea hf hm ec ei, _, _, _, _, _, _, _, _, _, X4, l8 _ _, ord_torn hc hO⟩
    · obtain ⟨c, us, S1, S2, cur', hc, et, ed, ea, X2⟩ := app_done X hl false hr (od + 1) (by omega)
      exact ⟨g, (od + 1), decL lf, S2, _, _, _, _, _, _, _, w_app_false y x f g lh lw od fz a4 a10 a11 a12 a13 a14 a15 a16 a17 a18 a19 a20 a21 lf hl p c (recT (od + 1)) S S1 S2 et ed ea, _, _, _, _, _, _, _, _, _, X2, l8 _ _, ord_new hc hO⟩
theorem Lz.fuse {S : Sto} {g f fh gh wn lh lw : Nat} {fs gs hs : List Nat} {ws lws : List Int} {Bs Es : List (List T)} {cur lf : Option Nat} (X : Lz S g f fh gh wn lh lw fs gs hs ws lws Bs Es cur lf) (lf' : Option Nat) : Lz (S.set f (fsO (Bs.length : Int) fh (.ref wn, lfT lf'))) g f fh gh wn lh lw fs gs hs ws lws Bs Es cur lf' :=
  ⟨X.B.objset _, X.L.fuse _, X.ndg, X.d1, X.h1, X.h3⟩
theorem fail_ok {S : Sto} {f fh : Nat} {n : Int} {wv : T × T} (fo : S[f]? = some (fsO n fh wv)) {z : Int} (a : 0 ≤ z) (b : z ≤ 100000) : m_Flash_fail_after [.ref f, .int z] S = .ok .non (S.set f (fsO n fh (wv.1, .int z))) := by
  have e := between_yes a b S
  unfold fsO at *
  unfold m_Flash_fail_after b_Flash_fail_after
  clear a b
  walk_at "ev*"
theorem lb2_ok (y x : T) (f g lh lw : Nat) (od fz : Int) (a4 a10 a11 a12 a13 a14 a15 a16 a17 a18 a19 a20 a21 : Option T) (lf : Option Nat) (d p : Int) {S : Sto} (X : Cl S g f lh lw od lf) : ∃ (lf' : Option Nat) (fz' : Int) (S' : Sto), lb2 [some y, some x, some (.ref f), some (.ref g), a4, some (.ref lh), some (.ref lw), some (.int od), some (lfT lf), some (.int fz), a10, some (.int d), some (.int p), a13, a14, a15, a16, a17, a18, a19, a20, a21] S = .nx [some y, some x, some (.ref f), some (.ref g), a4, some (.ref lh), some (.ref lw), some (.int od), some (lfT lf'), some (.int fz'), a10, some (.int d), some (.int p), a13, a14, a15, a16, a17, a18, a19, a20, a21] S' ∧ Cl S' g f lh lw od lf' := by
  obtain ⟨fh, gh, wn, fs, gs, hs, ws, Bs, cur, X, h8, hO⟩ := X
  by_cases c : lf = none ∧ fz < 6 ∧ d % 9 = 4
  · obtain ⟨rfl, c1, c2⟩ := c
    obtain ⟨q, hq⟩ : ∃ q : Int, p % 7 = q := ⟨_, rfl⟩
    have q0 : 0 ≤ q := by omega
    have q1 : q ≤ 100000 := by omega
    have ef := fail_ok X.B.fo q0 q1
    have X' := X.fuse (some q.toNat)
    have fo := X.B.fo
    have eq : lfT (some q.toNat) = .int q := by show T.int ((q.toNat : Nat) : Int) = _; rw [show ((q.toNat : Nat) : Int) = q by omega]
    rw [eq] at X'
    refine ⟨some q.toNat, fz + 1, _, ?_, fh, gh, wn, fs, gs, hs, ws, Bs, cur, X', h8, hO⟩
    rw [eq, lfT_none] at *
    clear X X' hO h8 q0 q1 eq
    unfold fsO at *
    generalize (Bs.length : Int) = n at *
    unfold lb2
    walk_at "ev*"
  · refine ⟨lf, fz, S, ?_, fh, gh, wn, fs, gs, hs, ws, Bs, cur, X, h8, hO⟩
    clear X hO h8
    unfold lb2
    cases lf with
    | none =>
      rw [lfT_none]
      by_cases c1 : fz < 6
      · have c2 : ¬ d % 9 = 4 := fun h => c ⟨rfl, c1, h⟩
        clear c
        walk_at "ev*"
      · clear c
        walk_at "ev*"
    | some k =>
      rw [lfT_some]
      clear c
      walk_at "ev*"
theorem lb5_ok (y x : T) (f g lh lw : Nat) (od fz : Int) (a4 a10 a11 a12 a13 a14 a15 a16 a17 a18 a19 a20 a21 : Option T) (lf : Option Nat) {S : Sto} (X : Cl S g f lh lw od lf) : ∃ J, lb5 [some y, some x, some (.ref f), some (.ref g), a4, some (.ref lh), some (.ref lw), some (.int od), some (lfT lf), some (.int fz), a10, a11, a12, a13, a14, a15, a16, a17, a18, a19, a20, a21] S = .nx [some y, some x, some (.ref f), some (.ref g), a4, some (.ref lh), some (.ref lw), some (.int od), some (lfT lf), some (.int fz), a10, a11, a12, a13, a14, a15, a16, a17, a18, a19, a20, a21] (S ++ J) := by
  obtain ⟨fh, gh, wn, fs, gs, hs, ws, Bs, cur, X, h8, hO⟩ := X
  obtain ⟨J, e⟩ := same_ok X.L X.B.E
  refine ⟨J, ?_⟩
  clear X hO h8
  generalize lfT lf = l at *
  unfold lb5
  walk_at "ev*"
theorem lb6_ok (y x : T) (f g lh lw : Nat) (od fz : Int) (a4 a10 a11 a12 a13 a14 a15 a16 a17 a18 a19 a20 a21 : Option T) (lf : Option Nat) {S : Sto} (X : Cl S g f lh lw od lf) : ∃ J, lb6 [some y, some x, some (.ref f), some (.ref g), a4, some (.ref lh), some (.ref lw), some (.int od), some (lfT lf), some (.int fz), a10, a11, a12, a13, a14, a15, a16, a17, a18, a19, a20, a21] S = .nx [some y, some x, some (.ref f), some (.ref g), a4, some (.ref lh), some (.ref lw), some (.int od), some (lfT lf), some (.int fz), a10, a11, a12, a13, a14, a15, a16, a17, a18, a19, a20, a21] (S ++ J) := by
  obtain ⟨fh, gh, wn, fs, gs, hs, ws, Bs, cur, X, h8, hO⟩ := X
  have e := law_orders_ok X.B.E X.B.bE
  obtain ⟨e2, le⟩ := ord_upTo X.B.bE hO
  rw [e2] at e
  refine ⟨[.lst ((ordA Bs).map recT)], ?_⟩
  have od0 := hO.1
  have hb : -4611686018427387904 ≤ od ∧ od < 4611686018427387904 := by omega
  have hq := lcL_map (ck := none) (i := 20) (e := m2 opAdd (mC (.int 1)) (mV 20)) (st := [some y, some x, some (.ref f), some (.ref g), a4, some (.ref lh), some (.ref lw), some (.int od), some (lfT lf), some (.int fz), a10, a11, a12, a13, a14, a15, a16, a17, a18, a19, a20, a21]) (S := S ++ [.lst ((ordA Bs).map recT)]) (f := fun t => match t with
    | .int i => .int (1 + i)
    | _ => .non) (l := rngT 0 od) (acc := []) trivial (fun t ht => by
      unfold rngT at ht
      obtain ⟨k, _, rfl⟩ := List.mem_map.mp ht
      generalize lfT lf = l at *
      walk_at "ev") (by rw [rngT_len]; exact Nat.le_trans (by simp; omega : _ ≤ 900) (by decide))
  have mm : ((rngT 0 od).map fun t => match t with
    | .int i => .int (1 + i)
    | _ => .non) = (upTo od).map T.int := by
    unfold rngT upTo
    rw [List.map_map, List.map_map, Int.sub_zero]; rfl
  rw [List.nil_append, mm] at hq
  have ne := fun S => ne_ints (l := (upTo od).map T.int) (fun t ht => by obtain ⟨i, _, rfl⟩ := List.mem_map.mp ht; exact ⟨i, rfl⟩) S
  clear X hO h8 e2 le od0 mm
  generalize S ++ [O.lst ((ordA Bs).map recT)] = S1 at *
  generalize (upTo od).map T.int = U at *
  generalize lfT lf = l at *
  unfold lb6
  walk_at "ev*"
noncomputable def lbB : AS := (mSeq (mSet 11 (mCall m__law_at (mCons (mV 1) (mCons (mV 10) mNil)))) (mSeq (mSet 12 (mCall m__law_at (mCons (mV 1) (mCons (m2 opAdd (mV 10) (mC (.int 1))) mNil)))) (mSeq (mIf (mTAnd (mB (m2 opIs (mV 8) (mC .non))) (mTAnd (mB (m2 opLt (mV 9) (mC (.int 6)))) (mB (m2 opEq (m2 opMod (mV 11) (mC (.int 9))) (mC (.int 4)))))) (mSeq (mSet 8 (m2 opMod (mV 12) (mC (.int 7)))) (mSeq (mSet 9 (m2 opAdd (mV 9) (mC (.int 1)))) (mExp (mMeth "Flash" "fail_after" m_Flash_fail_after (mV 2) (mCons (mV 8) mNil))))) mPass) (mSeq (mSet 13 (mCall m__law_choose (mCons (mV 5) (mCons (m2 opDiv (mV 11) (mC (.int 9))) (mCons (mV 12) (mCons (mV 7) mNil)))))) (mSeq (mIf (mB (m2 opIsnt (mV 13) (mC .non))) (mSeq (mAsg (mV 13) (gT 3 (gsC (gN 14) (gsC (gN 15) (gsC (gN 16) gsN))))) (mSeq (mSet 4 (mV 15)) (mSeq (mSet 17 (mC .non)) (mSeq (mIf (mB (m2 opEq (mV 14) (mC (.str "append")))) (mSeq (mSet 4 (mCall m__law_target (mCons (mV 5) (mCons (mV 6) mNil)))) (mSet 17 (mV 15))) mPass) (mSeq (mSet 18 (mCall m__law_do (mCons (mV 3) (mCons (mV 14) (mCons (mV 15) (mCons (mV 16) mNil)))))) (mSeq (mIf (mB (m2 opNe (mV 18) (mOr (m2 opIs (mV 8) (mC .non)) (m2 opGt (mV 8) (mC (.int 0)))))) (mRet (mC (.bl false))) mPass) (mSeq (mIf (mTru (mV 18)) (mSeq (mExp (mCall m__law_apply (mCons (mV 5) (mCons (mV 6) (mCons (mV 14) (mCons (mV 4) (mCons (mV 17) mNil))))))) (mIf (mB (m2 opIsnt (mV 8) (mC .non))) (mSet 8 (m2 opSub (mV 8) (mC (.int 1)))) mPass)) (mSeq (mSet 19 (m2 opMod (mV 12) (mC (.int 3)))) (mSeq (mIf (mB (m2 opGt (mV 19) (mC (.int 0)))) (mExp (mCall m__law_apply (mCons (mV 5) (mCons (mV 6) (mCons (mV 14) (mCons (mV 4) (mCons (m2 opIx (mN (opLst true) (mCons (mV 17) (mCons (mC (.str "torn")) mNil))) (m2 opSub (mV 19) (mC (.int 1)))) mNil))))))) mPass) (mSeq (mExp (mMeth "Flash" "cut" m_Flash_cut (mV 2) (mCons (mV 19) mNil))) (mSeq (mSet 8 (mC .non)) (mSet 3 (mMake "Log" m_Log___init__ (mCons (mV 2) mNil)))))))) (mIf (mTAnd (mB (m2 opEq (mV 14) (mC (.str "append")))) (mTAnd (mTNot (mTru (mV 16))) (mTOr (mTru (mV 18)) (mB (m2 opEq (m2 opMod (mV 12) (mC (.int 3))) (mC (.int 1))))))) (mSet 7 (m2 opAdd (mV 7) (mC (.int 1)))) mPass)))))))) mPass) (mSeq (mIf (mTNot (mB (mCall m__law_same (mCons (mV 3) (mCons (mV 5) mNil))))) (mRet (mC (.bl false))) mPass) (mIf (mB (m2 opNe (mCall m__law_orders (mCons (mV 5) mNil)) (mLc true (itR1 (mCons (mV 7) mNil)) 20 mYes (m2 opAdd (mC (.int 1)) (mV 20))))) (mRet (mC (.bl false))) mPass)))))))
theorem lbB_cut : lbB = (mSeq lb0 (mSeq lb1 (mSeq lb2 (mSeq lb3 (mSeq lb4 (mSeq lb5 lb6)))))) := rfl
def I8 (y x : T) (f lh lw : Nat) (st : Slots) (S : Sto) : Prop := ∃ (g : Nat) (od fz : Int) (lf : Option Nat) (a4 a10 a11 a12 a13 a14 a15 a16 a17 a18 a19 a20 a21 : Option T), st = [some y, some x, some (.ref f), some (.ref g), a4, some (.ref lh), some (.ref lw), some (.int od), some (lfT lf), some (.int fz), a10, a11, a12, a13, a14, a15, a16, a17, a18, a19, a20, a21] ∧ Cl S g f lh lw od lf
theorem body_ok (y x : T) (f lh lw : Nat) (at_ : ∀ i : Int, 0 ≤ i → ∃ d, (∀ S, m__law_at [x, .int i] S = .ok (.int d) S) ∧ 0 ≤ d ∧ d < 1000) {st : Slots} {S : Sto} (i : Int) (hi : 0 ≤ i) (h : I8 y x f lh lw st S) : ∃ st' S', lbB (st.set 10 (some (.int i))) S = .nx st' S' ∧ I8 y x f lh lw st' S' := by
  obtain ⟨g, od, fz, lf, a4, a10, a11, a12, a13, a14, a15, a16, a17, a18, a19, a20, a21, rfl, X⟩ := h
  obtain ⟨d, h11, _, _⟩ := at_ i hi
  obtain ⟨p, h12, _, _⟩ := at_ (i + 1) (by omega)
  have e0 : lb0 [some y, some x, some (.ref f), some (.ref g), a4, some (.ref lh), some (.ref lw), some (.int od), some (lfT lf), some (.int fz), some (.int i), a11, a12, a13, a14, a15, a16, a17, a18, a19, a20, a21] S = .nx [some y, some x, some (.ref f), some (.ref g), a4, some (.ref lh), some (.ref lw), some (.int od), some (lfT lf), some (.int fz), some (.int i), some (.int d), a12, a13, a14, a15, a16, a17, a18, a19, a20, a21] S := by
    clear X at_ h12
    generalize lfT lf = l at *
    unfold lb0
    walk_at "ev*"
  have e1 : lb1 [some y, some x, some (.ref f), some (.ref g), a4, some (.ref lh), some (.ref lw), some (.int od), some (lfT lf), some (.int fz), some (.int i), some (.int d), a12, a13, a14, a15, a16, a17, a18, a19, a20, a21] S = .nx [some y, some x, some (.ref f), some (.ref g), a4, some (.ref lh), some (.ref lw), some (.int od), some (lfT lf), some (.int fz), some (.int i), some (.int d), some (.int p), a13, a14, a15, a16, a17, a18, a19, a20, a21] S := by
    clear X at_ h11 e0
    generalize lfT lf = l at *
    unfold lb1
    walk_at "ev*"
  obtain ⟨lf2, fz2, S2, e2, X2⟩ := lb2_ok y x f g lh lw od fz a4 (some (.int i)) (some (.int d)) (some (.int p)) a13 a14 a15 a16 a17 a18 a19 a20 a21 lf d p X
  obtain ⟨fh, gh, wn, fs, gs, hs, ws, Bs, cur, X2, h8, hO⟩ := X2
  obtain ⟨v, J, ec, hv⟩ := choose_law_ok X2.B.E X2.B.bE ⟨X2.L.cu, X2.L.cl⟩ (d / 9) p od
  have e3 : lb3 [some y, some x, some (.ref f), some (.ref g), a4, some (.ref lh), some (.ref lw), some (.int od), some (lfT lf2), some (.int fz2), some (.int i), some (.int d), some (.int p), a13, a14, a15, a16, a17, a18, a19, a20, a21] S2 = .nx [some y, some x, some (.ref f), some (.ref g), a4, some (.ref lh), some (.ref lw), some (.int od), some (lfT lf2), some (.int fz2), some (.int i), some (.int d), some (.int p), some v, a14, a15, a16, a17, a18, a19, a20, a21] (S2 ++ J) := by
    clear X X2 at_ h11 h12 e0 e1 e2 hO hv
    generalize lfT lf2 = l at *
    unfold lb3
    walk_at "ev*"
  obtain ⟨g', od', lf', S4, b4, b14, b15, b16, b17, b18, b19, e4, X4⟩ := lb4_ok y x f g lh lw od fz2 a4 (some (.int i)) (some (.int d)) a12 a13 a14 a15 a16 a17 a18 a19 a20 a21 lf2 p (X2.app J) h8 hO hv
  obtain ⟨J5, e5⟩ := lb5_ok y x f g' lh lw od' fz2 b4 (some (.int i)) (some (.int d)) (some (.int p)) (some v) b14 b15 b16 b17 b18 b19 a20 a21 lf' X4
  obtain ⟨J6, e6⟩ := lb6_ok y x f g' lh lw od' fz2 b4 (some (.int i)) (some (.int d)) (some (.int p)) (some v) b14 b15 b16 b17 b18 b19 a20 a21 lf' (X4.app J5)
  have es : [some y, some x, some (.ref f), some (.ref g), a4, some (.ref lh), some (.ref lw), some (.int od), some (lfT lf), some (.int fz), a10, a11, a12, a13, a14, a15, a16, a17, a18, a19, a20, a21].set 10 (some (.int i)) = [some y, some x, some (.ref f), some (.ref g), a4, some (.ref lh), some (.ref lw), some (.int od), some (lfT lf), some (.int fz), some (.int i), a11, a12, a13, a14, a15, a16, a17, a18, a19, a20, a21] := rfl
  refine ⟨_, _, ?_, g', od', fz2, lf', b4, some (.int i), some (.int d), some (.int p), some v, b14, b15, b16, b17, b18, b19, a20, a21, rfl, (X4.app J5).app J6⟩
  rw [es, lbB_cut, e_seq, e0, e_qnx, e_seq, e1, e_qnx, e_seq, e2, e_qnx, e_seq, e3, e_qnx, e_seq, e4, e_qnx, e_seq, e5, e_qnx, e6]
/-! ### rows of an image, by wears and blocks -/
def rowsOf (ws : List Int) (Bs : List (List T)) : List T := (ws.zip Bs).map rowP
theorem zip_fst {ws : List Int} {Bs : List (List T)} (h : ws.length = Bs.length) : (ws.zip Bs).map (fun p => T.int p.1) = ws.map T.int := by
  show (ws.zip Bs).map (T.int ∘ Prod.fst) = _
  rw [← List.map_map, List.map_fst_zip (by omega)]
theorem zip_snd {ws : List Int} {Bs : List (List T)} (h : ws.length = Bs.length) : (ws.zip Bs).map (fun p => p.2) = Bs := List.map_snd_zip (by omega)
theorem zip_len {ws : List Int} {Bs : List (List T)} (h : ws.length = Bs.length) : (ws.zip Bs).length = Bs.length := by rw [List.length_zip]; omega
theorem image_rows {S : Sto} {f fh wn : Nat} {lf : T} {fs : List Nat} {ws : List Int} {Bs : List (List T)} (h : ws.length = Bs.length) (hB : Bl Bs) (fo : S[f]? = some (fsO (Bs.length : Int) fh (.ref wn, lf))) (ww : S[wn]? = some (.lst (ws.map .int))) (D : Hd S fh fs Bs) : m_Flash_image [.ref f] S = .ok (.lst (rowsOf ws Bs)) S := by
  have zl := zip_len h
  refine fl_image (fh := fh) (lf := lf) (wn := wn) (fs := fs) ?_ ?_ ?_ (by rw [zl]; exact hB.l2)
  · rw [zl]; exact fo
  · rw [zip_fst h]; exact ww
  · rw [zip_snd h]; exact D
theorem row_dat {p : Int × List T} (h : Us p.2) : dat (rowP p) = true ∧ dep (rowP p) ≤ 20 ∧ eqT (rowP p) (rowP p) = true := by
  have h1 := pge_dats (pgT_pge h)
  have h2 := pge_deps (pgT_pge h)
  have h3 := pge_refl (pgT_pge h)
  unfold rowP
  generalize pgT p.2 = l at *
  refine ⟨?_, ?_, ?_⟩
  · rw [dt_tup, dt_cons, dt_cons, dt_lst]; exact ⟨rfl, h1, rfl⟩
  · rw [dp_tup, dp_cons, dp_cons, dp_lst]; exact ⟨Nat.zero_le _, Nat.le_trans h2 (by decide), Nat.zero_le _⟩
  · rw [q_tup_tup, q_cons, q_cons, q_nil, q_int_int, q_lst_lst, h3]; simp
theorem rows_dat {ws : List Int} {Bs : List (List T)} (hB : Bl Bs) : dats (rowsOf ws Bs) = true ∧ deps (rowsOf ws Bs) ≤ 20 ∧ eqTs (rowsOf ws Bs) (rowsOf ws Bs) = true := by
  have h : ∀ t ∈ rowsOf ws Bs, dat t = true ∧ dep t ≤ 20 ∧ eqT t t = true := fun t ht => by
    obtain ⟨p, hp, rfl⟩ := List.mem_map.mp ht
    exact row_dat (hB.us _ (List.of_mem_zip hp).2)
  generalize rowsOf ws Bs = l at *
  refine ⟨?_, ?_, eqTs_refl fun t ht => (h t ht).2.2⟩
  · rw [dats_all, List.all_eq_true]; exact fun t ht => (h t ht).1
  · induction l with
    | nil => exact Nat.zero_le _
    | cons t l ih => rw [dp_cons]; exact ⟨(h t List.mem_cons_self).2.1, ih fun u hu => h u (List.mem_cons_of_mem _ hu)⟩
theorem rows_ne {ws : List Int} {Bs : List (List T)} (hB : Bl Bs) (S : Sto) : opNe (.lst (rowsOf ws Bs)) (.lst (rowsOf ws Bs)) S = .ok (.bl false) S := by
  obtain ⟨h1, h2, h3⟩ := rows_dat (ws := ws) hB
  rw [opNe_lst_lst h1 h1 (Nat.le_trans h2 (by decide)), h3]; rfl
theorem rows_eq {ws : List Int} {Bs : List (List T)} (hB : Bl Bs) (S : Sto) : opEq (.lst (rowsOf ws Bs)) (.lst (rowsOf ws Bs)) S = .ok (.bl true) S := by
  obtain ⟨h1, h2, h3⟩ := rows_dat (ws := ws) hB
  rw [opEq_lst_lst h1 h1 (Nat.le_trans h2 (by decide)), h3]
def colOf (Bs : List (List T)) : List T := Bs.map fun us => .lst (pgT us)
theorem col_dat {Bs : List (List T)} (hB : Bl Bs) : dats (colOf Bs) = true ∧ deps (colOf Bs) ≤ 20 ∧ eqTs (colOf Bs) (colOf Bs) = true := by
  have h : ∀ t ∈ colOf Bs, dat t = true ∧ dep t ≤ 20 ∧ eqT t t = true := fun t ht => by
    obtain ⟨us, hu, rfl⟩ := List.mem_map.mp ht
    have u := hB.us us hu
    have h1 := pge_dats (pgT_pge u)
    have h2 := pge_deps (pgT_pge u)
    have h3 := pge_refl (pgT_pge u)
    generalize pgT us = l at *
    refine ⟨?_, ?_, ?_⟩
    · rw [dt_lst]; exact h1
    · rw [dp_lst]; exact Nat.le_trans h2 (by decide)
    · rw [q_lst_lst, h3]
  generalize colOf Bs = l at *
  refine ⟨?_, ?_, eqTs_refl fun t ht => (h t ht).2.2⟩
  · rw [dats_all, List.all_eq_true]; exact fun t ht => (h t ht).1
  · induction l with
    | nil => exact Nat.zero_le _
    | cons t l ih => rw [dp_cons]; exact ⟨(h t List.mem_cons_self).2.1, ih fun u hu => h u (List.mem_cons_of_mem _ hu)⟩
theorem vw_hd {S : Sto} {h : Nat} {hs : List Nat} {Bs : List (List T)} (D : Hd S h hs Bs) (hB : Bl Bs) : vw S (.ref h) = .lst (colOf Bs) := by
  have e : vw S (.ref h) = rsA (rs 3 S) S (.ref h) := if_neg Bool.false_ne_true
  rw [e]
  unfold rsA
  simp only [D.at_]
  congr 1
  unfold colOf
  rw [List.map_map]
  apply List.ext_getElem?
  intro b
  rw [List.getElem?_map, List.getElem?_map]
  by_cases c : b < Bs.length
  · have hb : Bs[b]? = some Bs[b] := List.getElem?_eq_getElem c
    obtain ⟨i, hi, pi⟩ := D.get hb
    rw [hi, hb]
    show some (rsA (rs 2 S) S (.ref i)) = some _
    unfold rsA
    simp only [pi]
    congr 2
    conv => rhs; rw [← List.map_id (pgT Bs[b])]
    exact List.map_congr_left fun t ht => rs_dat 2 S t (pge_dat (pgT_pge (hB.us _ (List.mem_of_getElem? hb)) t ht)).1
  · rw [List.getElem?_eq_none (by have := D.len; omega), List.getElem?_eq_none (by omega)]; rfl
theorem col_eq {S : Sto} {h : Nat} {hs : List Nat} {Bs : List (List T)} (D : Hd S h hs Bs) (hB : Bl Bs) : opEq (.lst (colOf Bs)) (.ref h) S = .ok (.bl true) S := by
  obtain ⟨h1, h2, h3⟩ := col_dat hB
  rw [opEq_vw (vw_dat (by rw [dt_lst]; exact h1)) (vw_hd D hB) (by rw [dt_lst]; exact h1) (by rw [dt_lst]; exact h1) (.inl (by rw [dp_lst]; exact Nat.le_trans h2 (by decide))), q_lst_lst, h3]
theorem col_comp {S : Sto} {ws : List Int} {Bs : List (List T)} (h : ws.length = Bs.length) (hB : Bl Bs) (st : Slots) (hst : ∀ t, (st.set 21 (some t))[21]? = some (some t)) : lcL none 21 mYes (m2 opIx (mV 21) (mC (.int 1))) st (rowsOf ws Bs) [] S = .ok (colOf Bs) S := by
  have v1 : ∀ t, mV 21 (st.set 21 (some t)) S = .ok t S := fun t => by unfold mV; rw [hst]
  have q := lcL_map (ck := none) (i := 21) (e := m2 opIx (mV 21) (mC (.int 1))) (st := st) (S := S) (f := fun t => match t with
    | .tup [_, x] => x
    | _ => .non) (l := rowsOf ws Bs) (acc := []) trivial (fun t ht => ?_) (by unfold rowsOf; rw [List.length_map, zip_len h]; have := hB.l2; exact zl _ (by simp; omega))
  · rw [q, List.nil_append]
    unfold rowsOf colOf
    rw [List.map_map]
    congr 1
    conv => rhs; rw [← zip_snd h]
    rw [List.map_map]; rfl
  · obtain ⟨p, hp, rfl⟩ := List.mem_map.mp ht
    have w := hst (rowP p)
    clear v1
    unfold rowP at w ⊢
    generalize st.set 21 _ = st' at *
    walk_at "ev*"
theorem flat_rep {x : T} : ∀ k : Nat, (List.replicate k [x]).flatten = List.replicate k x
  | 0 => rfl
  | k + 1 => by rw [List.replicate_succ, List.replicate_succ, List.flatten_cons, flat_rep k]; rfl
theorem rep_ints (k : Nat) : (List.replicate k [T.int 0]).flatten = (List.replicate k (0 : Int)).map T.int := by rw [flat_rep, List.map_replicate]
def nilB (n : Int) : List (List T) := List.replicate n.toNat []
theorem nilB_at {n : Int} {b : Nat} {us : List T} (h : (nilB n)[b]? = some us) : us = [] ∧ b < n.toNat := by
  unfold nilB at h
  rw [List.getElem?_replicate] at h
  by_cases c : b < n.toNat
  · rw [if_pos c] at h; cases h; exact ⟨rfl, c⟩
  · rw [if_neg c] at h; cases h
theorem nilB_bl {n : Int} (n1 : 8 ≤ n) (n2 : n ≤ 10) : Bl (nilB n) := ⟨fun us h => by unfold nilB at h; rw [(List.mem_replicate.mp h).2]; exact nil_us, by unfold nilB; simp; omega, by unfold nilB; simp; omega⟩
theorem nilB_cu {n : Int} : Cu (nilB n) none := ⟨fun b us h => ⟨(fun h => by cases h), fun h2 => by rw [(nilB_at h).1] at h2; exact absurd h2.1 (Nat.lt_irrefl _)⟩, fun c h => by cases h⟩
theorem nilB_len {n : Int} : (nilB n).length = n.toNat := List.length_replicate
noncomputable def q0 : AS := (mSet 1 (mCall m__law_tape (mCons (mV 0) mNil)))
noncomputable def q1 : AS := (mSet 2 (mMake "Flash" m_Flash___init__ (mCons (mC (.int 8)) mNil)))
noncomputable def q2 : AS := (mSet 3 (mMake "Log" m_Log___init__ (mCons (mV 2) mNil)))
noncomputable def q3 : AS := (mSet 5 (mLc false (itR1 (mCons (mC (.int 8)) mNil)) 4 mYes (m2 (opRep false) (mN (opLst true) (mCons (mC .non) mNil)) (mC (.int 8)))))
noncomputable def q4 : AS := (mSet 6 (m2 (opRep false) (mN (opLst true) (mCons (mC (.int 0)) mNil)) (mC (.int 8))))
noncomputable def q5 : AS := (mSet 7 (mC (.int 0)))
noncomputable def q6 : AS := (mSet 8 (mC .non))
noncomputable def q7 : AS := (mSet 9 (mC (.int 0)))
noncomputable def q8 : AS := (mFor (itR1 (mCons (mN opMin2 (mCons (mC (.int 90)) (mCons (mN opMax2 (mCons (mC (.int 0)) (mCons (m2 opSub (mN opLen (mCons (mV 1) mNil)) (mC (.int 2))) mNil))) mNil))) mNil)) (gN 10) lbB)
noncomputable def q9 : AS := (mRet (mAnd (mCall m__law_reads (mCons (mV 3) (mCons (mV 5) mNil))) (m2 opEq (mLc true (itL (mMeth "Flash" "image" m_Flash_image (mV 2) mNil)) 21 mYes (m2 opIx (mV 21) (mC (.int 1)))) (mV 5))))
theorem law_cut : b_law = (mSeq q0 (mSeq q1 (mSeq q2 (mSeq q3 (mSeq q4 (mSeq q5 (mSeq q6 (mSeq q7 (mSeq q8 q9))))))))) := rfl
def nat8 : List Nat := [2, 3, 4, 5, 6, 7, 8, 9]
def F8 : Sto := [.dead] ++ [fsO 8 10 (.ref 11, .non)] ++ List.replicate 8 (O.lst (List.replicate 8 .non)) ++ [.lst (refs 2 8)] ++ [.lst (List.replicate 8 [T.int 0]).flatten]
theorem nil8 : nilB 8 = List.replicate 8 [] := rfl
theorem f8_hd : Hd F8 10 nat8 (nilB 8) := by
  refine ⟨rfl, rfl, fun b i us h1 h2 => ?_⟩
  obtain ⟨rfl, hb⟩ := nilB_at h2
  have hb : b < 8 := hb
  match b, hb with
  | 0, _ => cases h1; rfl
  | 1, _ => cases h1; rfl
  | 2, _ => cases h1; rfl
  | 3, _ => cases h1; rfl
  | 4, _ => cases h1; rfl
  | 5, _ => cases h1; rfl
  | 6, _ => cases h1; rfl
  | 7, _ => cases h1; rfl
theorem q01_ok (y x : T) (e0 : m__law_tape [y] [] = R.ok x [O.dead]) : ∀ D : AS, mDef 1 22 (mSeq q0 (mSeq q1 D)) [y] [] = defK (D [some y, some x, some (.ref 1), none, none, none, none, none, none, none, none, none, none, none, none, none, none, none, none, none, none, none] F8) := by
  have e1 := init_ok [O.dead] 8 (by decide) (by decide)
  have e2 : m_Flash___init__ [.ref 1, .int 8] [.dead, .obj "Flash" []] = .ok .non F8 := e1
  generalize F8 = S1 at *
  clear e1
  intro D
  unfold q0 q1
  walk_at "ev*"
theorem q2_ok (y x : T) {S S' : Sto} {f : Nat} (e : m_Log___init__ [.ref S.length, .ref f] (S ++ [.obj "Log" []]) = .ok .non S') : q2 [some y, some x, some (.ref f), none, none, none, none, none, none, none, none, none, none, none, none, none, none, none, none, none, none, none] S = .nx [some y, some x, some (.ref f), some (.ref S.length), none, none, none, none, none, none, none, none, none, none, none, none, none, none, none, none, none, none] S' := by
  unfold q2
  walk_at "ev*"
theorem q3_ok (y x : T) (f g : Nat) (S : Sto) : ∃ lh hs J, q3 [some y, some x, some (.ref f), some (.ref g), none, none, none, none, none, none, none, none, none, none, none, none, none, none, none, none, none, none] S = .nx [some y, some x, some (.ref f), some (.ref g), none, some (.ref lh), none, none, none, none, none, none, none, none, none, none, none, none, none, none, none, none] (S ++ J) ∧ Hd (S ++ J) lh hs (nilB 8) ∧ hs.Nodup ∧ (∀ i ∈ hs, S.length ≤ i) := by
  have rp := none8
  have q := lc_grow (i := 4) (e := m2 (opRep false) (mN (opLst true) (mCons (mC .non) mNil)) (mC (.int 8))) (st := [some y, some x, some (.ref f), some (.ref g), none, none, none, none, none, none, none, none, none, none, none, none, none, none, none, none, none, none]) (f := fun _ => pgT []) (rngT 0 8) [] S (fun t _ S' => by
    have z := zl
    generalize pgT [] = pg at *
    walk_at "ev*") (by rw [rngT_len]; simp)
  rw [List.nil_append, rngT_len, show ((8 : Int) - 0).toNat = 8 by omega] at q
  have ml : ((rngT 0 8).map fun _ => O.lst (pgT [])).length = 8 := by rw [List.length_map, rngT_len]; simp
  have kl : ((rngT 0 8).map fun _ => O.lst (pgT [])) = List.replicate 8 (O.lst (pgT [])) := List.eq_replicate_iff.mpr ⟨ml, fun o ho => by obtain ⟨_, _, rfl⟩ := List.mem_map.mp ho; rfl⟩
  rw [kl] at q
  refine ⟨S.length + 8, (List.range 8).map fun j => S.length + j, List.replicate 8 (O.lst (pgT [])) ++ [.lst (refs S.length 8)], ?_, ⟨?_, by rw [nilB_len]; simp, fun b i us h1 h2 => ?_⟩, List.Pairwise.map _ (fun a b (h : a ≠ b) e => h (by omega)) List.nodup_range, fun i hi => ?_⟩
  · have rl : (refs S.length 8).length ≤ sizeLine := by unfold refs; rw [List.length_map, List.length_range]; exact zl _ (by omega)
    have sl : (S ++ List.replicate 8 (O.lst (pgT []))).length = S.length + 8 := by simp
    rw [← List.append_assoc]
    clear kl ml rp
    generalize refs S.length 8 = rf at *
    generalize S ++ List.replicate 8 (O.lst (pgT [])) = S1 at *
    unfold q3
    walk_at "ev*"
  · have : refs S.length 8 = ((List.range 8).map fun j => S.length + j).map T.ref := by unfold refs; rw [List.map_map]; rfl
    rw [← this, ← List.append_assoc, List.getElem?_append_right (by simp)]
    simp
  · obtain ⟨rfl, hb⟩ := nilB_at h2
    have hb : b < 8 := hb
    rw [List.getElem?_map, List.getElem?_range hb] at h1
    have h1' : S.length + b = i := by injection h1
    subst h1'
    rw [List.getElem?_append_right (by omega), List.getElem?_append_left (by simp; omega), List.getElem?_replicate, if_pos (by omega)]
  · obtain ⟨j, _, rfl⟩ := List.mem_map.mp hi
    omega
theorem q47_ok (y x : T) (f g lh : Nat) (S : Sto) (D : AS) : (mSeq q4 (mSeq q5 (mSeq q6 (mSeq q7 D)))) [some y, some x, some (.ref f), some (.ref g), none, some (.ref lh), none, none, none, none, none, none, none, none, none, none, none, none, none, none, none, none] S = D [some y, some x, some (.ref f), some (.ref g), none, some (.ref lh), some (.ref S.length), some (.int 0), some .non, some (.int 0), none, none, none, none, none, none, none, none, none, none, none, none] (S ++ [.lst ((List.replicate 8 (0 : Int)).map .int)]) := by
  have ri : ([[T.int 0], [T.int 0], [T.int 0], [T.int 0], [T.int 0], [T.int 0], [T.int 0], [T.int 0]] : List (List T)).flatten = (List.replicate 8 (0 : Int)).map T.int := rfl
  have z := zl
  generalize (List.replicate 8 (0 : Int)).map T.int = W at *
  unfold q4 q5 q6 q7
  walk_at "ev*"
theorem q8_ok (y x : T) (m : Int) (f lh lw : Nat) (lx : ∀ S, opLen [x] S = .ok (.int m) S) (at_ : ∀ i : Int, 0 ≤ i → ∃ d, (∀ S, m__law_at [x, .int i] S = .ok (.int d) S) ∧ 0 ≤ d ∧ d < 1000) {S : Sto} {g : Nat} (X : Cl S g f lh lw 0 none) : ∃ st S', q8 [some y, some x, some (.ref f), some (.ref g), none, some (.ref lh), some (.ref lw), some (.int 0), some .non, some (.int 0), none, none, none, none, none, none, none, none, none, none, none, none] S = .nx st S' ∧ I8 y x f lh lw st S' := by
  obtain ⟨r, hr, hb⟩ : ∃ r : Int, (if (if m - 2 > 0 then m - 2 else 0) < 90 then (if m - 2 > 0 then m - 2 else 0) else 90) = r ∧ (-4611686018427387904 ≤ r ∧ r < 4611686018427387904) := by
    refine ⟨_, rfl, ?_⟩
    by_cases a : m - 2 > 0
    · rw [if_pos a]
      by_cases b : m - 2 < 90
      · rw [if_pos b]; omega
      · rw [if_neg b]; omega
    · rw [if_neg a, if_pos (by omega)]; omega
  have it : itR1 (mCons (mN opMin2 (mCons (mC (.int 90)) (mCons (mN opMax2 (mCons (mC (.int 0)) (mCons (m2 opSub (mN opLen (mCons (mV 1) mNil)) (mC (.int 2))) mNil))) mNil))) mNil) [some y, some x, some (.ref f), some (.ref g), none, some (.ref lh), some (.ref lw), some (.int 0), some .non, some (.int 0), none, none, none, none, none, none, none, none, none, none, none, none] S = .ok ⟨rngT 0 r, none⟩ S := by
    clear X at_
    have lx' := lx S
    rw [e_len] at lx'
    walk_at "ev"
    rw [lx']
    walk_at "ev"
    rw [hr, if_pos hb]
  unfold q8
  rw [e_For, it]
  show ∃ st S', forL none _ _ (rngT 0 r) _ S = .nx st S' ∧ _
  refine use_rng (C := fun z => ∃ st S', z = .nx st S' ∧ I8 y x f lh lw st S') (fun _ st S' => I8 y x f lh lw st S') ?_ ?_ ?_
  · exact ⟨g, 0, 0, none, none, none, none, none, none, none, none, none, none, none, none, none, none, rfl, X⟩
  · intro k st S hk h
    obtain ⟨st', S', e, h'⟩ := body_ok y x f lh lw at_ (0 + (k : Int)) (by omega) h
    show Goes _ (lbB (st.set 10 (some (.int (0 + (k : Int))))) S)
    rw [e]
    exact h'
  · intro st S p
    exact ⟨st, S, rfl, p⟩
theorem q9_ok (y x : T) {f lh lw : Nat} {st : Slots} {S : Sto} (h : I8 y x f lh lw st S) : ∃ S', q9 st S = .rt (.bl true) S' := by
  obtain ⟨g, od, fz, lf, a4, a10, a11, a12, a13, a14, a15, a16, a17, a18, a19, a20, a21, rfl, fh, gh, wn, fs, gs, hs, ws, Bs, cur, X, h8, hO⟩ := h
  obtain ⟨J2, e2⟩ := reads_ok X.L X.B.E
  have X2 := X.app J2
  have e3 := image_rows X.B.wl X.B.bB X2.L.fo X2.B.ww X2.B.D
  have e4 := col_comp (S := S ++ J2) X.B.wl X.B.bB [some y, some x, some (.ref f), some (.ref g), a4, some (.ref lh), some (.ref lw), some (.int od), some (lfT lf), some (.int fz), a10, a11, a12, a13, a14, a15, a16, a17, a18, a19, a20, a21] (fun t => rfl)
  have e5 := col_eq X2.B.E X.B.bB
  have fo := X2.L.fo
  unfold fsO at fo
  refine ⟨S ++ J2, ?_⟩
  clear X X2 h8 hO
  generalize rowsOf ws Bs = rows at *
  generalize colOf Bs = col at *
  generalize S ++ J2 = S2 at *
  generalize lfT lf = l at *
  unfold q9
  walk_at "ev*"
theorem law_true (ns : List Int) (h : ns.length ≤ 63) : ∃ S, m_law [.scr (ns.map .int)] [] = .ok (.bl true) S := by
  obtain ⟨l, e0, dg⟩ := tape_ok ns h
  have at_ := fun i hi => at_okI dg i hi
  have lx : ∀ S, opLen [T.lst (l.map .int)] S = .ok (.int (l.length : Int)) S := fun S => by
    have : (l.map T.int).length = l.length := List.length_map ..
    rw [← this]
    generalize l.map T.int = L at *
    walk_at "ev"
  obtain ⟨x, hx⟩ : ∃ x : T, x = .lst (l.map .int) := ⟨_, rfl⟩
  obtain ⟨y, hy⟩ : ∃ y : T, y = .scr (ns.map .int) := ⟨_, rfl⟩
  unfold m_law
  rw [← hx] at e0 at_ lx
  rw [← hy] at e0 ⊢
  rw [law_cut, q01_ok y x e0]
  clear hx hy dg h e0
  have fo8 : F8[1]? = some (fsO ((nilB 8).length : Int) 10 (.ref 11, .non)) := rfl
  have ww8 : F8[11]? = some (.lst ((List.replicate 8 (0 : Int)).map .int)) := rfl
  have l8 : F8.length = 12 := rfl
  have D8 := f8_hd
  have ltf := D8.lt
  generalize F8 = S1 at *
  obtain ⟨J6, gh, gs, e6, L6, ndg, geg⟩ := init_one fo8 D8 (nilB_bl (by decide) (by decide)) nilB_cu
  rw [e_seq, q2_ok y x e6, e_qnx]
  obtain ⟨lh, hs, J5, e5, E5, ndh, geh⟩ := q3_ok y x 1 S1.length (S1 ++ J6)
  rw [e_seq, e5, e_qnx, q47_ok]
  have ltg := L6.hd.lt
  have lth := E5.lt
  have nl : 0 < (nilB 8).length := by decide
  have D7 := ((D8.app J6).app J5).app [.lst ((List.replicate 8 (0 : Int)).map .int)]
  have E7 := E5.app [.lst ((List.replicate 8 (0 : Int)).map .int)]
  have L7 := (L6.app J5).app [.lst ((List.replicate 8 (0 : Int)).map .int)]
  have dfg : ∀ i ∈ nat8, i ∉ gs := fun i hi hg => by have := ltf i hi; have := geg i hg; omega
  have dfh : ∀ i ∈ nat8, i ∉ hs := fun i hi hg => by have := ltf i hi; have := geh i hg; rw [List.length_append] at this; omega
  have dgh : ∀ i ∈ gs, i ∉ hs := fun i hi hg => by have := ltg i hi; have := geh i hg; omega
  have X : Cl (S1 ++ J6 ++ J5 ++ [.lst ((List.replicate 8 (0 : Int)).map .int)]) S1.length 1 lh (S1 ++ J6 ++ J5).length 0 none := ⟨10, gh, 11, nat8, gs, hs, List.replicate 8 0, nilB 8, none, ⟨⟨L7.fo, D7, E7, L7.bl, L7.bl, by decide, ndh, fun i hi hf => dfh i hf hi, app_get (app_get (app_get ww8)), e_gsnoc, by simp only [List.length_append]; omega, heads_ne D7 E7 nl dfh, rfl, rfl, rfl⟩, L7, ndg, fun i hi => ⟨fun hf => dfg i hf hi, dgh i hi⟩, heads_ne D7 L7.hd nl dfg, heads_ne L7.hd E7 nl dgh⟩, rfl, by decide, fun o => ⟨(fun ⟨us, hu, ho⟩ => absurd ho (by rw [(List.mem_replicate.mp hu).2]; exact List.not_mem_nil)), (fun h => by omega)⟩⟩
  obtain ⟨st8, S8, e8, h8⟩ := q8_ok y x l.length 1 lh _ lx at_ X
  rw [e_seq, e8, e_qnx]
  obtain ⟨S9, e9⟩ := q9_ok y x h8
  rw [e9]
  exact ⟨_, rfl⟩

abbrev R : PySem.W.OpenRow := PySem.W.OpenLaw.row PySem.Challenge.rw_spindlegate_k07_log_after_cuts
abbrev hk : PySem.W.Hook := He.hookX 5 fa fn ts [] exA
def ob (s : PySem.W.SharedT) : He.AlX := He.obsX 5 fa fn ts [] exA (HandSHeadRun.getT s)
theorem ob_eq (s : PySem.W.SharedT) : ob s = hk.obs s.abs := He.obsX_eq (HandSHeadRun.getT_eq s)
theorem run (w : World) : HandSHeadRun.RunEq R (PySem.W.view R.prog [34]) hk ob 6000 ["SpindleError", "NotValid", "PowerOff", "BadFlash", "NoRoom", "PAGES", "MIN_BLOCKS", "MAX_BLOCKS", "MAX_COUNT", "TORN", "is_between", "next_page", "Flash", "Log", "_law_tape", "_law_at", "_law_used", "_law_record", "_law_state", "_law_room", "_law_target", "_law_found", "_law_same", "_law_reads", "_law_do", "_law_apply", "_law_spare", "_law_elsewhere", "_law_choose", "_law_orders"] w := by
  intro os
  kernel_rfl
theorem facts {P : Program} {w : World} {K : PySem.W.Frag} {h : Heap} {mg : Str → Option Value} {f : Addr} (X : K.In h) (G : h.Ns mainGlobals mg) (hfa : mg ("law" : Str) = some (.ref f)) (c : He.SaysX fa fn ts [] exA w h K) :
    ∃ fd : FuncData, (∀ (s : Shared) (v : Value), BindsTo s fd ⟨[v], []⟩ [("_law_script", v)]) ∧ ∀ base : Heap, K.In base → base.Ns mainGlobals mg → FnOk P w K mg base (L2.CX P w) 8 f fd ["_law_script"] (sp_law K) := by
  obtain ⟨fd, F⟩ := c.t.d.def_ 43 (d := d_law) rfl
  have e := hfa.symm.trans (He.glo_ok X G (c.t.d.fact 81 (f := .glo "law") rfl))
  cases e
  have b := FunD.bindsA (ps := ["_law_script"]) F fun _ _ _ _ _ _ us hl => match us, hl with | [_], _ => rfl
  exact ⟨fd, fun s v => b s [v] rfl, fun base _ _ => ok_law ⟨⟨h, X, G⟩, c.t, c.more⟩ F law_true⟩
end K07
open PySem PySem.W PySem.Calls PyProof.Rows
set_option maxRecDepth 100000 in
set_option maxHeartbeats 0 in
theorem PySem.Challenge.cw_spindlegate_k07_log_after_cuts_holds : PySem.Challenge.rw_spindlegate_k07_log_after_cuts.Holds := by
  w_on; o_law
  refine HandSHeadRun.head_any (r := OpenLaw.row PySem.Challenge.rw_spindlegate_k07_log_after_cuts) (q := view (OpenLaw.row PySem.Challenge.rw_spindlegate_k07_log_after_cuts).prog [34]) (H := K07.hk) (ob := K07.ob) (M := 6000) (loose := ["SpindleError", "NotValid", "PowerOff", "BadFlash", "NoRoom", "PAGES", "MIN_BLOCKS", "MAX_BLOCKS", "MAX_COUNT", "TORN", "is_between", "next_page", "Flash", "Log", "_law_tape", "_law_at", "_law_used", "_law_record", "_law_state", "_law_room", "_law_target", "_law_found", "_law_same", "_law_reads", "_law_do", "_law_apply", "_law_spare", "_law_elsewhere", "_law_choose", "_law_orders"]) (d := HandSHeadRun.topDef (OpenLaw.row PySem.Challenge.rw_spindlegate_k07_log_after_cuts).prog 34) (kwd := []) K07.ob_eq
    (by kernel_rfl) (fun s => by kernel_rfl) K07.run (by kernel_rfl) (by kernel_rfl) (by kernel_rfl) (by rfl) (by first | assumption | decide +kernel) (by decide +kernel) ⟨rfl, rfl, rfl, rfl, rfl, by decide +kernel⟩ ?hw ?hc
  case hw => w_witness2
  case hc =>
    refine Sp.walk_ofW (l := PySem.Challenge.rw_spindlegate_k07_log_after_cuts) (n := 63) (k := 8) (x := "_law_script") rfl (by decide) (by kernel_rfl) ⟨rfl, by decide, by decide⟩ ?F
    intro w mg fa h Y G hmg0
    obtain ⟨K, KX, c⟩ := Y
    have hmg : mg ("law" : PySem.Str) = some (.ref fa) := by
      have e : (HandSHeadRun.topDef (OpenLaw.row PySem.Challenge.rw_spindlegate_k07_log_after_cuts).prog 34).name = ("law" : PySem.Str) := by kernel_rfl
      rw [← e]
      exact hmg0
    obtain ⟨fd, hb, hF⟩ := K07.facts (P := (PySem.Challenge.rw_spindlegate_k07_log_after_cuts).prog) (w := w) KX G hmg c
    exact ⟨K, fd, Ab.sp_law K, KX, hb, fun H a ns hl _ hS => ⟨a, ns, rfl, hS, hl, fun _ => rfl⟩, hF⟩
