import PyProof.Rows.All
import Wide.All
import OpenK.AllK
import Wide.FinOn
import PyProof.EqAt
import PyProof.EqKinds
import PyProof.TupleCall
import PyProof.P3Eq
import HandS.ForMost
import HandS.Exc
import HandS.TryOnly
import HandS.ExcOwn
import HandS.WordsExc
import HandS.ExcIs
import HandS.IsInst
import HandS.Codes
import HandS.DeepEq
import HandS.More
import HandS.Dict
import HandS.Conv
import HandS.Small
import HandS.Flow
import HandS.Style
import HandS.Zip
import HandS.TupAny
import HandS.SortInts
import HandS.Defaults
import HandS.HeadEnd
import HandS.HeadHook1
import HandS.HeadHook2
import HandS.HeadHook3
import HandS.HeadHook4
import HandS.Head0
import HandS.Head1
import HandS.Head2
import HandS.TupLen
import HandS.Strs
import HandS.SortRule
import KE.DatumOrd
import HandS.SortKw
import HandS.DictComp
import HandS.DictEq
import PyProof.ReprRoads
import KE.KDictKeyed
import HandS.DictTup
import HandS.Sort
import HandS.SetKeys
import KE.DataFind
import KE.SortData
import KE.DataMinMax
import HandS.HotCalls
import PySem.Challenge.RW_spindlegate_k02_flash_power
set_option Elab.async false
set_option linter.all false
set_option maxRecDepth 100000
set_option maxHeartbeats 4000000
namespace Sp
open PySem PySem.Spec PyProof.Rows L2

/-! ### the head's facts in use -/
structure Tx (fa : List He.Fa) (fn : List He.DefD) (ts : List He.Tab) (exs : List (PySem.W.Frag → Bool)) (w : World) (K : PySem.W.Frag) (mg : Str → Option Value) : Prop where
  hp : ∃ h : Heap, K.In h ∧ h.Ns mainGlobals mg
  says : He.SaysT fa fn ts w K
  more : (exs.all fun f => f K) = true
section
variable {fa : List He.Fa} {fn : List He.DefD} {ts : List He.Tab} {exs : List (PySem.W.Frag → Bool)} {w : World} {K : PySem.W.Frag} {mg : Str → Option Value}
theorem Tx.glo (T : Tx fa fn ts exs w K mg) (i : Nat) {x : Str} (e : fa[i]? = some (.glo x) := by rfl) : mg x = some (.ref (He.ga K x)) :=
  let ⟨_, X, G⟩ := T.hp; He.glo_ok X G (T.says.d.fact i e)
theorem Tx.free (T : Tx fa fn ts exs w K mg) (i : Nat) {x : Str} (e : fa[i]? = some (.free x) := by rfl) : mg x = none :=
  let ⟨_, X, G⟩ := T.hp; He.free_ok X G (T.says.d.fact i e)
theorem Tx.int (T : Tx fa fn ts exs w K mg) (i : Nat) {x : Str} {n : Int} (e : fa[i]? = some (.int x n) := by rfl) : ∃ t, mg x = some (.int n t) :=
  let ⟨_, X, G⟩ := T.hp; He.int_ok X G (T.says.d.fact i e)
theorem Tx.str (T : Tx fa fn ts exs w K mg) (i : Nat) {x z : Str} (e : fa[i]? = some (.str x z) := by rfl) : ∃ t, mg x = some (.str z t) :=
  let ⟨_, X, G⟩ := T.hp; He.str_ok X G (T.says.d.fact i e)
theorem Tx.cls (T : Tx fa fn ts exs w K mg) (i : Nat) {x : Str} (e : fa[i]? = some (.cls x) := by rfl) : Cls K (He.ga K x) := He.cls_ok (T.says.d.fact i e)
theorem Tx.noat (T : Tx fa fn ts exs w K mg) (i : Nat) {x f : Str} (e : fa[i]? = some (.noat x f) := by rfl) : NoAttr K (He.ga K x) f := He.noat_ok (T.says.d.fact i e)
theorem Tx.meth (T : Tx fa fn ts exs w K mg) (i : Nat) {x m : Str} (e : fa[i]? = some (.meth x m) := by rfl) : Meth K (He.ga K x) m (He.ma K (He.ga K x) m) := He.meth_ok (T.says.d.fact i e)
theorem Tx.mkr (T : Tx fa fn ts exs w K mg) (i : Nat) {x : Str} (e : fa[i]? = some (.mkr x) := by rfl) : Mk K (He.ga K x) (He.ma K (He.ga K x) "__init__") := He.mkr_ok (T.says.d.fact i e)
theorem Tx.exc (T : Tx fa fn ts exs w K mg) (i : Nat) {x : Str} (e : fa[i]? = some (.exc x) := by rfl) : PySem.W.excIn K (He.ga K x) He.veBase "ValueError.__new__" = true ∧ PySem.W.keepIn K (.ref (He.ga K x)) = true ∧ PySem.W.subIn K (.ref (He.ga K x)) (.type "BaseException") = some true ∧
    PySem.W.typeIn K (.ref (He.ga K x)) = some (.type "type") := He.exc_ok (T.says.d.fact i e)
theorem Tx.exm (T : Tx fa fn ts exs w K mg) (i : Nat) {x y : Str} {b : Bool} (e : fa[i]? = some (.exm x y b) := by rfl) : PySem.W.exmOne K (.ref (He.ga K x)) (.ref (He.ga K y)) = some b := He.exm_ok (T.says.d.fact i e)
theorem Tx.ex (T : Tx fa fn ts exs w K mg) (i : Nat) {f : PySem.W.Frag → Bool} (e : exs[i]? = some f := by rfl) : f K = true := List.all_eq_true.mp T.more f (List.mem_of_getElem? e)
end
/-! an empty tuple within a written tuple, as a look -/
def fstA (x : Str) (K : PySem.W.Frag) : Addr := match K.lookup (He.ga K x) with
  | some ⟨_, _, .seq its _, _⟩ => (match its.toList with
    | .ref a :: _ => a
    | _ => 0)
  | _ => 0
def emptyB (p : PySem.W.Frag → Addr) (K : PySem.W.Frag) : Bool := match K.lookup (p K) with
  | some ⟨.type c, _, .seq its _, _⟩ => decide (c = "tuple") && its.isEmpty
  | _ => false
theorem emptyB_ok {p : PySem.W.Frag → Addr} {K : PySem.W.Frag} (h : emptyB p K = true) (H : Hp) : SqT K H (p K) [] := by
  unfold emptyB at h
  cases q : K.lookup (p K) with
  | none => rw [q] at h; cases h
  | some o =>
    obtain ⟨oc, od, dt, osl⟩ := o
    rw [q] at h
    cases oc with
    | type c =>
      cases dt with
      | seq its n =>
        obtain ⟨h1, h2⟩ := He.ba (show (decide (c = "tuple") && its.isEmpty) = true from h)
        have e : its = #[] := Array.isEmpty_iff.mp h2
        subst e
        exact .inr ⟨_, #[], n, q, congrArg Value.type (of_decide_eq_true h1), rfl, Nat.zero_le _, .nil⟩
      | _ => cases h
    | _ => cases dt <;> cases h
/-! what the class of an own error says, as a look -/
def excB (x : Str) (K : PySem.W.Frag) : Bool :=
  He.eqO (PySem.W.findIn K (.ref (He.ga K x)) "__getattribute__") (some (some (.builtin "BaseException.__getattribute__"))) && (He.eqO (PySem.W.findIn K (.ref (He.ga K x)) "__getattr__") (some none) && (decide (PySem.W.subIn K (.ref (He.ga K x)) (.type "BaseException") = some true) &&
  (PySem.W.hasDictIn K (He.ga K x) && (He.eqO (PySem.W.findIn K (.ref (He.ga K x)) "__class__") (some (some (.builtin "object.__class__"))) && (He.eqO (PySem.W.specialIn K (.builtin "object.__class__") "__get__") (some (some (.builtin "getset_descriptor.__get__"))) &&
  (decide (PySem.W.takesIn K (.builtin "object.__class__") = some true) && decide (PySem.W.mroIn K (He.ga K x) (.type "object") = some true)))))))
theorem excB_ok {x : Str} {K : PySem.W.Frag} (h : excB x K = true) : ExcC K (He.ga K x) := by
  obtain ⟨h1, h⟩ := He.ba h
  obtain ⟨h2, h⟩ := He.ba h
  obtain ⟨h3, h⟩ := He.ba h
  obtain ⟨h4, h⟩ := He.ba h
  obtain ⟨h5, h⟩ := He.ba h
  obtain ⟨h6, h⟩ := He.ba h
  obtain ⟨h7, h8⟩ := He.ba h
  exact ⟨He.eqO_ok h1, He.eqO_ok h2, of_decide_eq_true h3, h4, He.eqO_ok h5, He.eqO_ok h6, of_decide_eq_true h7, of_decide_eq_true h8⟩
/-- isinstance of an error of the class x and a class y -/
def kitB2 (x y : Str) (b : Bool) (K : PySem.W.Frag) : Bool := decide (PySem.W.kitOne K (.ref (He.ga K x)) (.ref (He.ga K y)) = some b)
theorem kitB2_ok {x y : Str} {b : Bool} {K : PySem.W.Frag} (h : kitB2 x y b K = true) : PySem.W.kitOne K (.ref (He.ga K x)) (.ref (He.ga K y)) = some b := of_decide_eq_true h
/-- isinstance(e, C) within a suite, whatever error it holds -/
def rIsG (K : PySem.W.Frag) (a : Addr) (cls : Value) (d : Option Addr) : List V → Hp → VK → Prop := fun xs H Q => ∃ D c b, cls = .ref D ∧ d = none ∧ ExcC K D ∧ xs = [.ref a, .ref c] ∧ PySem.W.kitOne K (.ref D) (.ref c) = some b ∧ Q (.bl b) H
theorem call_isG {X : Cx} {a : Addr} {cls : Value} {d : Option Addr} {oe : Obj} {pn : List (Addr × Obj)} (hz : Zc cls d oe) (hf : ∃ vs, oe.data = .fields vs) : CallR (X.suite a ((a, oe) :: pn)) (.builtin "isinstance") (rIsG X.K a cls d) := by
  intro pins s σ H xs us Q I r h
  obtain ⟨D, c, b, rfl, rfl, C, rfl, e, q⟩ := h
  exact call_isE C hz hf pins s σ H _ us Q I r ⟨.ref c, .ref c, b, rfl, fun u ru => ru, e, q⟩
theorem w_isG {K : PySem.W.Frag} {a D c : Addr} {b : Bool} {H : Hp} {Q : VK} (C : ExcC K D) (e : PySem.W.kitOne K (.ref D) (.ref c) = some b) (k : Q (.bl b) H) : rIsG K a (.ref D) none [.ref a, .ref c] H Q := ⟨D, c, b, rfl, rfl, C, rfl, e, k⟩

/-! ### a def that holds its promise -/
def Okd (P : Program) (w : World) (K : PySem.W.Frag) (mg : Str → Option Value) (base : Heap) (p : Str × Option Str) (k : Nat) (ps : List Str) (sp : Sp) : Prop :=
  ∃ fd, Binds K fd ps [] ∧ PySem.W.keepIn K (.ref (He.fAd K p)) = true ∧ FnOk P w K mg base (L2.CX P w) k (He.fAd K p) fd ps sp
section
variable {P : Program} {w : World} {K : PySem.W.Frag} {mg : Str → Option Value} {base : Heap} {fa : List He.Fa} {fn : List He.DefD} {ts : List He.Tab} {exs : List (PySem.W.Frag → Bool)}
theorem okd (T : Tx fa fn ts exs w K mg) (i : Nat) {at_ : Str × Option Str} {name qual : Str} {params : Arguments} {body : List Stmt} {scope : Scope} {N ps : List Str} {k : Nat} {sp : Sp}
    (e : fn[i]? = some ⟨at_, name, qual, params, body, scope, [], []⟩) (S : FnScope N ps scope)
    (hb : ∀ (kV doc pm : Value) (an : Option Addr) (cdv ct : Value) (us : List Value), us.length = ps.length → bindArgs (PySem.W.fnOf name qual params body scope .none kV doc pm an cdv ct) ⟨us, []⟩ = pure (ps.zip us))
    (len : ∀ vs H Q E, sp vs H Q E → vs.length = ps.length)
    (hbody : ∀ (f : Addr) (cdv : Value) (A : Around) (outer : List Env) (s : Shared) (H : Hp) (vs : List V) (Q : VK) (E : XK), Room k (A.deeper (envOfC qual scope s.heap.objs.size f cdv)) → sp vs H Q E →
      ∃ t, PSs (cxOf (L2.CX P w) P w K mg base N qual scope f cdv A outer s H E) body t ∧ t { nx := fun _ H' => Q .non H', rt := Q } (start N vs) H) :
    Okd P w K mg base at_ (k + 1) ps sp := by
  obtain ⟨fd, F⟩ := T.says.d.def_ i e
  exact ⟨fd, F.bindsN hb, F.kp, FunD.ok F S len (hbody _)⟩
end
section
variable {X : Cx} {k : Nat} {ps : List Str} {sp : Sp} {E : XK} {x m C : Str} {p pos apos : Pos} {e o : Expr} {es : List Expr} {ta : TE} {t : TA}
theorem pe_callO (O : Okd X.prog X.w X.K X.mg X.base (x, none) k ps sp) (hr : Room k X.A) (hg : Gl X x) (hm : X.mg x = some (.ref (He.ga X.K x))) (hx : Passes (L2.CX X.prog X.w) X E) (ha : PA X (e :: es) t) (hdb : (x == ("__debug__" : Str)) = false := by decide)
    (he : starEach (e :: es) X.env = (false, eval e X.env) :: starEach es X.env := by rfl) (hpl : (backTo pos (starEach es X.env)).any (·.1) = false := by rfl) : PE X (.Call (.Name x p) (e :: es) [] pos) (tCall sp [] E t) :=
  let ⟨_, hb, hk, F⟩ := O; pe_call F hr hg hm hk hb .nil hx ha hdb he hpl
theorem pe_callO0 (O : Okd X.prog X.w X.K X.mg X.base (x, none) k ps sp) (hr : Room k X.A) (hg : Gl X x) (hm : X.mg x = some (.ref (He.ga X.K x))) (hx : Passes (L2.CX X.prog X.w) X E) (hdb : (x == ("__debug__" : Str)) = false := by decide) :
    PE X (.Call (.Name x p) [] [] pos) (tCall sp [] E tNil) :=
  let ⟨_, hb, hk, F⟩ := O; pe_call0 F hr hg hm hk hb .nil hx hdb
theorem pe_callOS {E : L2.St → XK} (O : Okd X.prog X.w X.K X.mg X.base (x, none) k ps sp) (hr : Room k X.A) (hg : Gl X x) (hm : X.mg x = some (.ref (He.ga X.K x))) (hx : ∀ σ, PassesAt (L2.CX X.prog X.w) X σ (E σ)) (ha : PA X (e :: es) t) (hdb : (x == ("__debug__" : Str)) = false := by decide)
    (he : starEach (e :: es) X.env = (false, eval e X.env) :: starEach es X.env := by rfl) (hpl : (backTo pos (starEach es X.env)).any (·.1) = false := by rfl) : PE X (.Call (.Name x p) (e :: es) [] pos) (tCallS sp E t) :=
  let ⟨_, hb, hk, F⟩ := O; pe_callS F hr hg hm hk hb hx ha hdb he hpl
theorem pe_methO {pl : Sem Bool} (he : PE X o ta) (c : Cls X.K (He.ga X.K C)) (hm : Meth X.K (He.ga X.K C) m (He.ma X.K (He.ga X.K C) m)) (O : Okd X.prog X.w X.K X.mg X.base (C, some m) k ps sp) (hr : Room k X.A) (hx : Passes (L2.CX X.prog X.w) X E) (ha : PA X (e :: es) t)
    (hst : starEach (e :: es) X.env = (false, eval e X.env) :: starEach es X.env := by rfl) (hpl : (backTo pos (starEach es X.env)).any (·.1) = false := by rfl)
    (ht : eval (.Call (.Attribute o m apos) (e :: es) [] pos) X.env = (do
      let ov ← eval o X.env
      standAt apos.atName
      let (f, first) ← holding [ov] (getMethod ov m pl)
      callWith pos f first (backTo pos (starEach (e :: es) X.env)) (backToKw pos (keywordEach [] X.env))) := by rfl) :
    PE X (.Call (.Attribute o m apos) (e :: es) [] pos) (tMeth (He.ga X.K C) m sp [] E ta t) :=
  let ⟨_, hb, _, F⟩ := O; pe_meth he c hm F hr hb .nil hx ha hst hpl ht
theorem pe_methO0 {pl : Sem Bool} (he : PE X o ta) (c : Cls X.K (He.ga X.K C)) (hm : Meth X.K (He.ga X.K C) m (He.ma X.K (He.ga X.K C) m)) (O : Okd X.prog X.w X.K X.mg X.base (C, some m) k ps sp) (hr : Room k X.A) (hx : Passes (L2.CX X.prog X.w) X E)
    (ht : eval (.Call (.Attribute o m apos) [] [] pos) X.env = (do
      let ov ← eval o X.env
      standAt apos.atName
      let (f, first) ← holding [ov] (getMethod ov m pl)
      callWith pos f first (backTo pos (starEach [] X.env)) (backToKw pos (keywordEach [] X.env))) := by rfl) :
    PE X (.Call (.Attribute o m apos) [] [] pos) (tMeth (He.ga X.K C) m sp [] E ta tNil) :=
  let ⟨_, hb, _, F⟩ := O; pe_meth0 he c hm F hr hb .nil hx ht
theorem pe_makeO (M : Mk X.K (He.ga X.K C) (He.ma X.K (He.ga X.K C) "__init__")) (O : Okd X.prog X.w X.K X.mg X.base (C, some "__init__") k ps sp) (hr : Room (k + 1) X.A) (hg : Gl X C) (hm : X.mg C = some (.ref (He.ga X.K C))) (hx : Passes (L2.CX X.prog X.w) X E)
    (ha : PA X (e :: es) t) (hdb : (C == ("__debug__" : Str)) = false := by decide) (he : starEach (e :: es) X.env = (false, eval e X.env) :: starEach es X.env := by rfl) (hpl : (backTo pos (starEach es X.env)).any (·.1) = false := by rfl) :
    PE X (.Call (.Name C p) (e :: es) [] pos) (tMake (He.ga X.K C) sp [] E t) :=
  let ⟨_, hb, _, F⟩ := O; pe_make M F hr hg hm hb .nil hx ha hdb he hpl
theorem pe_makeO0 (M : Mk X.K (He.ga X.K C) (He.ma X.K (He.ga X.K C) "__init__")) (O : Okd X.prog X.w X.K X.mg X.base (C, some "__init__") k ps sp) (hr : Room (k + 1) X.A) (hg : Gl X C) (hm : X.mg C = some (.ref (He.ga X.K C))) (hx : Passes (L2.CX X.prog X.w) X E)
    (hdb : (C == ("__debug__" : Str)) = false := by decide) : PE X (.Call (.Name C p) [] [] pos) (tMake (He.ga X.K C) sp [] E tNil) :=
  let ⟨_, hb, _, F⟩ := O; pe_make0 M F hr hg hm hb .nil hx hdb
/-! ### a module's names as values -/
theorem pe_globI {n : Int} (hg : Gl X x) (hm : ∃ t, X.mg x = some (.int n t)) (hd : (x == ("__debug__" : Str)) = false := by decide) : PE X (.Name x pos) (tC (.int n)) :=
  let ⟨_, h⟩ := hm; pe_glob hg h ⟨_, rfl⟩ hd
theorem pe_globS {z : Str} (hg : Gl X x) (hm : ∃ t, X.mg x = some (.str z t)) (hd : (x == ("__debug__" : Str)) = false := by decide) : PE X (.Name x pos) (tC (.str z)) :=
  let ⟨_, h⟩ := hm; pe_glob hg h ⟨_, rfl⟩ hd
theorem pe_globR {a : Addr} (hg : Gl X x) (hm : X.mg x = some (.ref a)) (hd : (x == ("__debug__" : Str)) = false := by decide) : PE X (.Name x pos) (tC (.ref a)) := pe_glob hg hm rfl hd
/-! ### raise C() -/
theorem pmk_own0 {a : Addr} {B newId initId : String} {bmB : List Value} (F : ExcBaseFacts B newId initId bmB)
    (q : PySem.W.excIn X.K a bmB newId = true ∧ PySem.W.keepIn X.K (.ref a) = true ∧ PySem.W.subIn X.K (.ref a) (.type "BaseException") = some true ∧ PySem.W.typeIn X.K (.ref a) = some (.type "type")) (gC : X.mg x = some (.ref a)) (hg : Gl X x)
    (hdb : (x == ("__debug__" : Str)) = false := by decide) : PMk X (.Call (.Name x p) [] [] pos) (fun _ H Q => Q (.ref a) none H) := by
  obtain ⟨q1, q2, q3, q4⟩ := q
  intro pins s σ H Q I h
  refine wpAny_Call_Name_kw (ld_glob I hg gC ?_ hdb)
  refine PySem.W.callWith_K0 I.kIn q2 ?_
  show wpAny _ _ (call (.ref a) []) _ _ _
  obtain ⟨bm, N, nm, qn, bs, hdct, sn, sub, ab, col, dd, k0, k1, k2, k3, k5, mN, hC, hN, hni, T⟩ := exc_obj I.kIn q1
  refine wpAny_call_exc_subT F T hC hN hni (fun h' e hm => ?_) (by show 0 ≤ sizeLine; rw [sizeLine_eq]; omega)
  exact mk_of I hm (raises_own q3 q4) h (I.hok.gone hm.new)
end

/-! ### readings, step by step: each with a head of its own -/
abbrev TSt := L2.St
def rBl (QB : Bool → Hp → Prop) (x : V) (H : Hp) : Prop := ∃ k, x = .bl k ∧ QB k H
def rIf (b : Bool) (A B : Prop) : Prop := if b = true then A else B
def rNewT (xs : List V) (H : Hp) (Q : VK) : Prop := xs.length ≤ sizeLine ∧ ∀ p, H p = none → Q (.ref p) (upd H p (.tup xs))
def rNewL (xs : List V) (H : Hp) (Q : VK) : Prop := xs.length ≤ sizeLine ∧ ∀ p, H p = none → Q (.ref p) (upd H p (.lst xs))
theorem putF_le {f : Str} {y : V} {n : Nat} : ∀ {fs : List (Str × V)}, fs.length ≤ n → (putF f y fs).length ≤ n + 1
  | [], _ => by show 1 ≤ n + 1; omega
  | (g, x) :: r, h => by
    unfold putF
    have h2 : r.length + 1 ≤ n := h
    split
    · show r.length + 1 ≤ n + 1; omega
    · have := putF_le (f := f) (y := y) (n := n - 1) (fs := r) (by omega)
      show (putF f y r).length + 1 ≤ n + 1; omega
theorem putF_lt {f : Str} {y : V} {n : Nat} {fs : List (Str × V)} (h : fs.length < n) : (putF f y fs).length < n + 1 := Nat.lt_of_le_of_lt (putF_le (Nat.le_refl _)) (Nat.succ_lt_succ h)
def rFldG (K : PySem.W.Frag) (f : Str) (x : V) (H : Hp) (Q : VK) : Prop := ∃ a C dx fs v, x = .ref a ∧ H a = some (.ins C dx fs) ∧ Cls K C ∧ NoAttr K C f ∧ fs.lookup f = some v ∧ Q v H
def rFldS (K : PySem.W.Frag) (f : Str) (y x : V) (H : Hp) (R : Hp → Prop) : Prop := ∃ a C dx fs, x = .ref a ∧ H a = some (.ins C dx fs) ∧ Cls K C ∧ NoAttr K C f ∧ fs.length < 1000 ∧ R (upd H a (.ins C dx (putF f y fs)))
def rMethA (C : Addr) (m : Str) (x : V) (H : Hp) (R : Prop) : Prop := ∃ a dx fs, x = .ref a ∧ H a = some (.ins C dx fs) ∧ fs.lookup m = none ∧ R
def rLenA (K : PySem.W.Frag) : List V → Hp → VK → Prop := fun xs H Q => ∃ x n, xs = [x] ∧ LenV K x H n ∧ Q (.int (n : Nat)) H
def rIntA : List V → Hp → VK → Prop := fun xs H Q => (∃ i, xs = [.int i] ∧ Q (.int i) H) ∨ ∃ k, xs = [.bl k] ∧ Q (.int (if k then 1 else 0)) H
def rAbsA : List V → Hp → VK → Prop := fun xs H Q => ∃ i, xs = [.int i] ∧ Q (.int (if i < 0 then -i else i)) H
def rMinA : List V → Hp → VK → Prop := fun xs H Q => ∃ i j, xs = [.int i, .int j] ∧ Q (.int (if j < i then j else i)) H
def rMaxA : List V → Hp → VK → Prop := fun xs H Q => ∃ i j, xs = [.int i, .int j] ∧ Q (.int (if j > i then j else i)) H
def rListA (K : PySem.W.Frag) : List V → Hp → VK → Prop := fun xs H Q => ∃ p ys, xs = [.ref p] ∧ (SqL K H p ys ∨ SqT K H p ys) ∧ ∀ l, H l = none → Q (.ref l) (upd H l (.lst ys))
def rIsNA : R2 := fun x y H Q => y = .non ∧ Q (.bl (decide (x = .non))) H
def rNotNA : R2 := fun x y H Q => y = .non ∧ Q (.bl (!decide (x = .non))) H
def rTru (K : PySem.W.Frag) (x : V) (H : Hp) (QB : Bool → Hp → Prop) : Prop := ∃ k, TruV K x H k ∧ QB k H
def tTruA (K : PySem.W.Frag) (te : TE) : TT := fun σ H Q => te σ H fun x H' => rTru K x H' Q
def rItL (K : PySem.W.Frag) (x : V) (H : Hp) (R : It → Hp → Prop) : Prop := ∃ a, x = .ref a ∧ (∃ xs, SqL K H a xs) ∧ R (Itl K a) H
def rItT (K : PySem.W.Frag) (x : V) (H : Hp) (R : It → Hp → Prop) : Prop := ∃ a, x = .ref a ∧ (∃ xs, SqT K H a xs) ∧ R (Itt K a) H
def rItR1 (vs : List V) (H : Hp) (R : It → Hp → Prop) : Prop := ∃ j : Int, vs = [.int j] ∧ -(2 ^ 62) ≤ j ∧ j < 2 ^ 62 ∧ R (Itr 0 j.toNat) H
def rItR2 (vs : List V) (H : Hp) (R : It → Hp → Prop) : Prop := ∃ i j : Int, vs = [.int i, .int j] ∧ (-(2 ^ 62) ≤ i ∧ i < 2 ^ 62 ∧ -(2 ^ 62) ≤ j ∧ j < 2 ^ 62) ∧ R (Itr i (j - i).toNat) H
def Loop (g : TG) (tb : TS) (D : Ends) (σ : TSt) (J : It) (H1 : Hp) : Prop := ∃ W : Nat → Nat → TSt → Hp → Prop, (∃ m, W 0 m σ H1) ∧ ∀ i m σ H, W i m σ H →
  (J.stop i H ∧ D.nx σ H) ∨ (J.go i H ∧ ∃ N : TSt → Hp → Prop, (∀ σ' H', N σ' H' → ∃ m', m' < m ∧ W (i + 1) m' σ' H') ∧ ∀ x H', J.yld i H x H' → g x σ H' fun σ2 H2 => tb { D with nx := N, ct := N, bk := D.nx } σ2 H2)
section
variable {X : Cx}
theorem pt_truthA {e : Expr} {te : TE} (h : PE X e te) (hs : ∀ whole, isTrue e X.env whole = (do let v ← whole; standAt e.pos; holding [v] (truthy v)) := by intro _; rfl) : PT X e (tTruA X.K te) := pt_truth h hs
theorem c_len : CallR X (.builtin "len") (rLenA X.K) := call_len
theorem c_int : CallR X (.type "int") rIntA := call_int1
theorem c_abs : CallR X (.builtin "abs") rAbsA := call_abs
theorem c_min2 (hc : X.calm = true) : CallR X (.builtin "min") rMinA := call_min2 hc
theorem c_max2 (hc : X.calm = true) : CallR X (.builtin "max") rMaxA := call_max2 hc
theorem c_list : CallR X (.type "list") (rListA X.K) := call_list_of
theorem o_isN : OpR X (compareOp .Is) rIsNA := op_isN
theorem o_notN : OpR X (compareOp .IsNot) rNotNA := op_notN
end
section
variable {nx bk ct : TSt → Hp → Prop} {rt : VK} {K : PySem.W.Frag} {σ : TSt} {H : Hp} {Q : VK} {QB : Bool → Hp → Prop} {QA : List V → Hp → Prop} {D : Ends} {v x y : V} {i j : Int} {b c : Bool} {p a : Addr} {xs ys : List V} {ta tb te tc : TE} {tt tu : TT} {tA : TA} {r : R2} {s u : TS} {A B R : Prop}
theorem w_start {t : TS} {σ' : TSt} (e : σ = σ') (k : t D σ' H) : t D σ H := by rw [e]; exact k
theorem w_var {n : Nat} (h : σ[n]? = some (some v)) (k : Q v H) : tVar n σ H Q := ⟨v, h, k⟩
theorem w_c (k : Q v H) : tC v σ H Q := k
theorem w_op (k : ta σ H fun x H1 => tb σ H1 fun y H2 => r x y H2 Q) : tOp r ta tb σ H Q := k
theorem w_un {r : V → Hp → VK → Prop} (k : ta σ H fun x H1 => r x H1 Q) : tUn r ta σ H Q := k
theorem w_I0 {g : Int → Int → V} (k : Q (g i j) H) : rI0 g (.int i) (.int j) H Q := ⟨i, j, rfl, rfl, k⟩
theorem w_I {C : Int → Int → Prop} {g : Int → Int → V} (hc : C i j) (k : Q (g i j) H) : rI C g (.int i) (.int j) H Q := ⟨i, j, rfl, rfl, hc, k⟩
theorem w_U {g : Int → V} (k : Q (g i) H) : rU g (.int i) H Q := ⟨i, rfl, k⟩
theorem w_eq (h : scal x y = true) (k : Q (.bl (decide (x = y))) H) : rEq x y H Q := ⟨h, k⟩
theorem w_ne (h : scal x y = true) (k : Q (.bl (!decide (x = y))) H) : rNe x y H Q := ⟨h, k⟩
theorem w_eqI (k : Q (.bl (decide (i = j))) H) : rEq (.int i) (.int j) H Q := ⟨rfl, by rw [show decide (V.int i = V.int j) = decide (i = j) from by simp]; exact k⟩
theorem w_neI (k : Q (.bl (!decide (i = j))) H) : rNe (.int i) (.int j) H Q := ⟨rfl, by rw [show decide (V.int i = V.int j) = decide (i = j) from by simp]; exact k⟩
theorem w_eqB (k : Q (.bl (b == c)) H) : rEq (.bl b) (.bl c) H Q := ⟨rfl, by rw [dec_bl]; exact k⟩
theorem w_neB (k : Q (.bl (!(b == c))) H) : rNe (.bl b) (.bl c) H Q := ⟨rfl, by rw [dec_bl]; exact k⟩
theorem w_eqS {i j : Str} (k : Q (.bl (decide (i = j))) H) : rEq (.str i) (.str j) H Q := ⟨rfl, by rw [show decide (V.str i = V.str j) = decide (i = j) from by simp]; exact k⟩
theorem w_neS {i j : Str} (k : Q (.bl (!decide (i = j))) H) : rNe (.str i) (.str j) H Q := ⟨rfl, by rw [show decide (V.str i = V.str j) = decide (i = j) from by simp]; exact k⟩
theorem w_test (k : te σ H fun x H' => rBl QB x H') : tTest te σ H QB := k
theorem w_B (k : te σ H fun x H' => rBl QB x H') : tB te σ H QB := k
theorem w_bl (k : QB b H) : rBl QB (.bl b) H := ⟨b, rfl, k⟩
theorem w_and (k : tt σ H fun c H1 => rIf c (tu σ H1 QB) (QB false H1)) : tAnd tt tu σ H QB := k
theorem w_or (k : tt σ H fun c H1 => rIf c (QB true H1) (tu σ H1 QB)) : tOr tt tu σ H QB := k
theorem w_not (k : tt σ H fun c H1 => QB (!c) H1) : tNot tt σ H QB := k
theorem w_andV (k : ta σ H fun x H1 => rBl (fun c H1 => rIf c (tb σ H1 Q) (Q (.bl false) H1)) x H1) : tAndV ta tb σ H Q := k
theorem w_orV (k : ta σ H fun x H1 => rBl (fun c H1 => rIf c (Q (.bl true) H1) (tb σ H1 Q)) x H1) : tOrV ta tb σ H Q := k
theorem w_notV (k : ta σ H fun x H1 => rBl (fun c H1 => Q (.bl (!c)) H1) x H1) : tNotV ta σ H Q := k
theorem w_ifE (k : tt σ H fun c H1 => rIf c (ta σ H1 Q) (tb σ H1 Q)) : tIf tt ta tb σ H Q := k
theorem w_tru (k : te σ H fun x H' => rTru K x H' QB) : tTruA K te σ H QB := k
theorem w_nil (k : QA [] H) : tNil σ H QA := k
theorem w_cons (k : ta σ H fun x H1 => tA σ H1 fun xs H2 => QA (x :: xs) H2) : tCons ta tA σ H QA := k
theorem w_tup (k : tA σ H fun xs H1 => rNewT xs H1 Q) : tTup tA σ H Q := k
theorem w_lst (k : tA σ H fun xs H1 => rNewL xs H1 Q) : tLst tA σ H Q := k
theorem w_newT (h : xs.length ≤ sizeLine) (k : ∀ p, H p = none → Q (.ref p) (upd H p (.tup xs))) : rNewT xs H Q := ⟨h, k⟩
theorem w_newL (h : xs.length ≤ sizeLine) (k : ∀ p, H p = none → Q (.ref p) (upd H p (.lst xs))) : rNewL xs H Q := ⟨h, k⟩
theorem w_call {sp : Sp} {dvs : List V} {E : XK} (k : tA σ H fun vs H1 => sp (vs ++ dvs) H1 Q E) : tCall sp dvs E tA σ H Q := k
theorem w_callS {sp : Sp} {E : TSt → XK} (k : tA σ H fun vs H1 => sp vs H1 Q (E σ)) : tCallS sp E tA σ H Q := k
theorem w_meth {C : Addr} {m : Str} {sp : Sp} {dvs : List V} {E : XK} (k : ta σ H fun x H1 => rMethA C m x H1 (tA σ H1 fun vs H2 => sp (x :: (vs ++ dvs)) H2 Q E)) : tMeth C m sp dvs E ta tA σ H Q := k
theorem w_m {C dx : Addr} {m : Str} {fs : List (Str × V)} (h : H a = some (.ins C dx fs)) (hl : fs.lookup m = none) (k : R) : rMethA C m (.ref a) H R := ⟨a, dx, fs, rfl, h, hl, k⟩
theorem w_methP {C dx : Addr} {m : Str} {sp : Sp} {dvs : List V} {E : XK} {fs : List (Str × V)} {n : Nat} (e : σ[n]? = some (some (.ref a))) (h : H a = some (.ins C dx fs)) (hl : fs.lookup m = none) (k : tA σ H fun vs H2 => sp (.ref a :: (vs ++ dvs)) H2 Q E) :
    tMeth C m sp dvs E (tVar n) tA σ H Q := ⟨.ref a, e, a, dx, fs, rfl, h, hl, k⟩
theorem w_make {C : Addr} {sp : Sp} {dvs : List V} {E : XK} (k : tA σ H fun vs H1 => ∀ x dx, H1 x = none → H1 dx = none → dx ≠ x → sp (.ref x :: (vs ++ dvs)) (upd (upd H1 dx (.own x)) x (.ins C dx [])) (fun v H2 => v = .non ∧ Q (.ref x) H2) E) : tMake C sp dvs E tA σ H Q := k
theorem w_CB {r : List V → Hp → VK → Prop} (k : tA σ H fun vs H1 => r vs H1 Q) : tCB r tA σ H Q := k
def rBMA (K : PySem.W.Frag) (T : String) (r : V → List V → Hp → VK → Prop) (tA : TA) (σ : TSt) (Q : VK) (x : V) (H : Hp) : Prop := tyV K T x H ∧ tA σ H fun xs H2 => r x xs H2 Q
theorem w_BM0 {T : String} {r : V → List V → Hp → VK → Prop} (k : ta σ H fun x H1 => rBMA K T r tNil σ Q x H1) : tBM0 K T r ta σ H Q := k
theorem w_BM {T : String} {r : V → List V → Hp → VK → Prop} (k : ta σ H fun x H1 => rBMA K T r tA σ Q x H1) : tBM K T r ta tA σ H Q := k
theorem w_BMl {r : V → List V → Hp → VK → Prop} (h : H p = some (.lst xs)) (k : tA σ H fun ys H2 => r (.ref p) ys H2 Q) : rBMA K "list" r tA σ Q (.ref p) H := ⟨.inl ⟨rfl, _, SqL.of h⟩, k⟩
theorem w_append (h : H p = some (.lst xs)) (hz : xs.length < sizeLine) (k : Q .non (upd H p (.lst (xs ++ [y])))) : rAppend (.ref p) [y] H Q := ⟨p, xs, y, rfl, rfl, h, hz, k⟩
theorem w_fld {f : Str} (k : ta σ H fun x H1 => rFldG K f x H1 Q) : tFld K ta f σ H Q := k
theorem w_f {C dx : Addr} {f : Str} {fs : List (Str × V)} (h : H a = some (.ins C dx fs)) (hc : Cls K C) (hn : NoAttr K C f) (hl : fs.lookup f = some v) (k : Q v H) : rFldG K f (.ref a) H Q := ⟨a, C, dx, fs, v, rfl, h, hc, hn, hl, k⟩
theorem w_seq (k : s ⟨u ⟨nx, rt, bk, ct⟩, rt, bk, ct⟩ σ H) : tSeq s u ⟨nx, rt, bk, ct⟩ σ H := k
theorem w_cut (Mid : TSt → Hp → Prop) (h : s ⟨Mid, rt, bk, ct⟩ σ H) (k : ∀ σ' H', Mid σ' H' → u ⟨nx, rt, bk, ct⟩ σ' H') : C8.tCut s u ⟨nx, rt, bk, ct⟩ σ H := ⟨Mid, h, k⟩
theorem w_next (k : nx σ H) : tNext ⟨nx, rt, bk, ct⟩ σ H := k
theorem w_brk (k : bk σ H) : tBreak ⟨nx, rt, bk, ct⟩ σ H := k
theorem w_cont (k : ct σ H) : tCont ⟨nx, rt, bk, ct⟩ σ H := k
theorem w_asg {g : TG} (k : te σ H fun x H1 => g x σ H1 nx) : tAsg te g ⟨nx, rt, bk, ct⟩ σ H := k
theorem w_name {n : Nat} {R : TSt → Hp → Prop} (k : R (σ.set n (some v)) H) : gName n v σ H R := k
theorem w_drop (k : te σ H fun _ H1 => nx σ H1) : tDrop te ⟨nx, rt, bk, ct⟩ σ H := k
theorem w_ret (k : te σ H rt) : tRet te ⟨nx, rt, bk, ct⟩ σ H := k
theorem w_retN (k : rt .non H) : tRetN ⟨nx, rt, bk, ct⟩ σ H := k
theorem w_if (k : tt σ H fun b H1 => rIf b (s D σ H1) (u D σ H1)) : tIfS tt s u D σ H := k
theorem w_aug {n : Nat} {ti : TIp} (h : σ[n]? = some (some x)) (k : te σ H fun y H1 => ti x y H1 fun z H2 => nx (σ.set n (some z)) H2) : tAug n te ti ⟨nx, rt, bk, ct⟩ σ H := ⟨x, h, k⟩
theorem w_sfld {f : Str} (k : te σ H fun y H1 => ta σ H1 fun x H2 => rFldS K f y x H2 (nx σ)) : sFld K ta te f ⟨nx, rt, bk, ct⟩ σ H := k
theorem w_sf {C dx : Addr} {f : Str} {fs : List (Str × V)} {R : Hp → Prop} (h : H a = some (.ins C dx fs)) (hc : Cls K C) (hn : NoAttr K C f) (hl : fs.length < 1000) (k : R (upd H a (.ins C dx (putF f y fs)))) : rFldS K f y (.ref a) H R := ⟨a, C, dx, fs, rfl, h, hc, hn, hl, k⟩
theorem w_ixL (h : H p = some (.lst xs)) (e : atI xs i = some v) (k : Q v H) : rIxL K (.ref p) (.int i) H Q := ⟨p, xs, i, v, rfl, rfl, SqL.of h, e, k⟩
theorem w_ixT (h : H p = some (.tup xs)) (e : atI xs i = some v) (k : Q v H) : rIxT K (.ref p) (.int i) H Q := ⟨p, xs, i, v, rfl, rfl, SqT.of h, e, k⟩
theorem w_ixK (h : SqL K H p xs) (e : atI xs i = some v) (k : Q v H) : rIxL K (.ref p) (.int i) H Q := ⟨p, xs, i, v, rfl, rfl, h, e, k⟩
theorem w_lenL (h : H p = some (.lst xs)) (k : Q (.int xs.length) H) : rLenA K [.ref p] H Q := ⟨_, _, rfl, .inl ⟨xs, SqL.of h, rfl⟩, k⟩
theorem w_lenK (h : SqL K H p xs) (k : Q (.int xs.length) H) : rLenA K [.ref p] H Q := ⟨_, _, rfl, .inl ⟨xs, h, rfl⟩, k⟩
theorem w_lenT (h : H p = some (.tup xs)) (k : Q (.int xs.length) H) : rLenA K [.ref p] H Q := ⟨_, _, rfl, .inr ⟨xs, SqT.of h, rfl⟩, k⟩
theorem w_int (k : Q (.int i) H) : rIntA [.int i] H Q := .inl ⟨i, rfl, k⟩
theorem w_intB (k : Q (.int (if b then 1 else 0)) H) : rIntA [.bl b] H Q := .inr ⟨b, rfl, k⟩
theorem w_abs (k : Q (.int (if i < 0 then -i else i)) H) : rAbsA [.int i] H Q := ⟨i, rfl, k⟩
theorem w_min2 (k : Q (.int (if j < i then j else i)) H) : rMinA [.int i, .int j] H Q := ⟨i, j, rfl, k⟩
theorem w_max2 (k : Q (.int (if j > i then j else i)) H) : rMaxA [.int i, .int j] H Q := ⟨i, j, rfl, k⟩
theorem w_isN (k : Q (.bl (decide (x = .non))) H) : rIsNA x .non H Q := ⟨rfl, k⟩
theorem w_notN (k : Q (.bl (!decide (x = .non))) H) : rNotNA x .non H Q := ⟨rfl, k⟩
theorem w_listL (h : H p = some (.lst ys)) (k : ∀ l, H l = none → Q (.ref l) (upd H l (.lst ys))) : rListA K [.ref p] H Q := ⟨p, ys, rfl, .inl (SqL.of h), k⟩
theorem w_eqD {d e : PyData} (h1 : Dp K H x d) (h2 : Dp K H y e) (s1 : SeqAt.shaped d = true) (s2 : SeqAt.shaped e = true) (k : Q (.bl (PyData.eqv d e)) H) : rEqD K x y H Q := ⟨d, e, h1, h2, s1, s2, k⟩
theorem w_neD {d e : PyData} (h1 : Dp K H x d) (h2 : Dp K H y e) (s1 : SeqAt.shaped d = true) (s2 : SeqAt.shaped e = true) (k : Q (.bl (!PyData.eqv d e)) H) : rNeD K x y H Q := ⟨d, e, h1, h2, s1, s2, k⟩
theorem w_isi {t u : Value} {z : V} (hc : ClsV z u) (ht : TyX K H x t) (e : PySem.W.kitOne K t u = some b) (k : Q (.bl b) H) : rIsi K [x, z] H Q := ⟨x, z, t, u, b, rfl, hc, ht, e, k⟩
theorem w_truL (h : H p = some (.lst xs)) (k : QB (!xs.isEmpty) H) : rTru K (.ref p) H QB := ⟨_, .inl ⟨xs, SqL.of h, rfl⟩, k⟩
theorem w_truB (k : QB b H) : rTru K (.bl b) H QB := ⟨b, rfl, k⟩
theorem w_popAt {n : Nat} (h : H p = some (.lst xs)) (h1 : -(2 ^ 63) ≤ i) (h2 : i < 2 ^ 63) (e : seqIndex? i xs.length = some n) (e2 : xs[n]? = some y) (k : Q y (upd H p (.lst (xs.eraseIdx n)))) : rPopAt (.ref p) [.int i] H Q := ⟨p, xs, i, n, y, rfl, rfl, h, h1, h2, e, e2, k⟩
theorem w_iRng1 {R : It → Hp → Prop} (k : tA σ H fun vs H1 => rItR1 vs H1 R) : iRng1 tA σ H R := k
theorem w_iRng2 {R : It → Hp → Prop} (k : tA σ H fun vs H1 => rItR2 vs H1 R) : iRng2 tA σ H R := k
theorem w_rng1 {R : It → Hp → Prop} (h1 : -(2 ^ 62) ≤ j) (h2 : j < 2 ^ 62) (k : R (Itr 0 j.toNat) H) : rItR1 [.int j] H R := ⟨j, rfl, h1, h2, k⟩
theorem w_rng2 {R : It → Hp → Prop} (h : -(2 ^ 62) ≤ i ∧ i < 2 ^ 62 ∧ -(2 ^ 62) ≤ j ∧ j < 2 ^ 62) (k : R (Itr i (j - i).toNat) H) : rItR2 [.int i, .int j] H R := ⟨i, j, rfl, h, k⟩
theorem w_iList {R : It → Hp → Prop} (k : te σ H fun x H1 => rItL K x H1 R) : iList K te σ H R := k
theorem w_iTup {R : It → Hp → Prop} (k : te σ H fun x H1 => rItT K x H1 R) : iTup K te σ H R := k
theorem w_itL {R : It → Hp → Prop} (h : H a = some (.lst xs)) (k : R (Itl K a) H) : rItL K (.ref a) H R := ⟨a, rfl, ⟨xs, SqL.of h⟩, k⟩
theorem w_itK {R : It → Hp → Prop} (h : SqL K H a xs) (k : R (Itl K a) H) : rItL K (.ref a) H R := ⟨a, rfl, ⟨xs, h⟩, k⟩
theorem w_itT {R : It → Hp → Prop} (h : H a = some (.tup xs)) (k : R (Itt K a) H) : rItT K (.ref a) H R := ⟨a, rfl, ⟨xs, SqT.of h⟩, k⟩
theorem w_for {wi : TI} {g : TG} {tb : TS} (k : wi σ H fun J H1 => Loop g tb D σ J H1) : tFor wi g tb D σ H := k
/-- over a list that the body leaves as it is; over a range -/
theorem loop_list {g : TG} {tb : TS} (Pv : Nat → TSt → Hp → Prop) (h0 : Pv 0 σ H) (hl : ∀ i σ H, i ≤ xs.length → Pv i σ H → SqL K H a xs)
    (hs : ∀ i x σ H, xs[i]? = some x → Pv i σ H → g x σ H fun σ2 H2 => tb ⟨Pv (i + 1), rt, nx, Pv (i + 1)⟩ σ2 H2) (hd : ∀ σ H, Pv xs.length σ H → nx σ H) : Loop g tb ⟨nx, rt, bk, ct⟩ σ (Itl K a) H := for_list (D := ⟨nx, rt, bk, ct⟩) Pv h0 hl hs hd
theorem loop_tup {g : TG} {tb : TS} (Pv : Nat → TSt → Hp → Prop) (h0 : Pv 0 σ H) (hl : ∀ i σ H, i ≤ xs.length → Pv i σ H → SqT K H a xs)
    (hs : ∀ i x σ H, xs[i]? = some x → Pv i σ H → g x σ H fun σ2 H2 => tb ⟨Pv (i + 1), rt, nx, Pv (i + 1)⟩ σ2 H2) (hd : ∀ σ H, Pv xs.length σ H → nx σ H) : Loop g tb ⟨nx, rt, bk, ct⟩ σ (Itt K a) H := for_tup (D := ⟨nx, rt, bk, ct⟩) Pv h0 hl hs hd
theorem loop_range {lo : Int} {n : Nat} {g : TG} {tb : TS} (Pv : Nat → TSt → Hp → Prop) (h0 : Pv 0 σ H)
    (hs : ∀ i σ H, i < n → Pv i σ H → g (.int (lo + i)) σ H fun σ2 H2 => tb ⟨Pv (i + 1), rt, nx, Pv (i + 1)⟩ σ2 H2) (hd : ∀ σ H, Pv n σ H → nx σ H) : Loop g tb ⟨nx, rt, bk, ct⟩ σ (Itr lo n) H := for_range (D := ⟨nx, rt, bk, ct⟩) Pv h0 hs hd
theorem w_ite {c A B : Prop} [Decidable c] (h1 : c → A) (h2 : ¬ c → B) : rIf (decide c) A B := by
  unfold rIf
  by_cases h : c
  · rw [decide_eq_true h, if_pos rfl]; exact h1 h
  · rw [decide_eq_false h, if_neg Bool.false_ne_true]; exact h2 h
theorem w_iteN {c A B : Prop} [Decidable c] (h1 : ¬ c → A) (h2 : c → B) : rIf (!decide c) A B := by
  unfold rIf
  by_cases h : c
  · rw [decide_eq_true h]; exact h2 h
  · rw [decide_eq_false h]; exact h1 h
theorem w_iteB (h1 : b = true → A) (h2 : b = false → B) : rIf b A B := by
  cases b
  · exact h2 rfl
  · exact h1 rfl
theorem w_iteNB (h1 : b = false → A) (h2 : b = true → B) : rIf (!b) A B := by
  cases b
  · exact h1 rfl
  · exact h2 rfl
theorem w_ifT (h : b = true) (k : A) : rIf b A B := by rw [h]; exact k
theorem w_ifF (h : b = false) (k : B) : rIf b A B := by rw [h]; exact k
theorem w_iteT (k : A) : rIf true A B := k
theorem w_iteF (k : B) : rIf false A B := k
theorem w_iteNT (k : B) : rIf (!true) A B := k
theorem w_iteNF (k : A) : rIf (!false) A B := k
theorem w_iteNNT (k : A) : rIf (!!true) A B := k
theorem w_iteNNF (k : B) : rIf (!!false) A B := k
end
section
variable {K : PySem.W.Frag} {H : Hp} {Q : VK} {b : Bool} {i : Int} {z : Str} {p : Addr} {xs : List V} {kvs : List (Key × V)} {kts : List (List Key × V)}
theorem isi_non_int (k : Q (.bl false) H) : rIsi K [.non, .ty "int"] H Q := w_isi (b := false) (.ty _) (.base .non) (kit_ty (by decide +kernel)) k
theorem isi_non_bool (k : Q (.bl false) H) : rIsi K [.non, .ty "bool"] H Q := w_isi (b := false) (.ty _) (.base .non) (kit_ty (by decide +kernel)) k
theorem isi_non_str (k : Q (.bl false) H) : rIsi K [.non, .ty "str"] H Q := w_isi (b := false) (.ty _) (.base .non) (kit_ty (by decide +kernel)) k
theorem isi_non_tuple (k : Q (.bl false) H) : rIsi K [.non, .ty "tuple"] H Q := w_isi (b := false) (.ty _) (.base .non) (kit_ty (by decide +kernel)) k
theorem isi_non_list (k : Q (.bl false) H) : rIsi K [.non, .ty "list"] H Q := w_isi (b := false) (.ty _) (.base .non) (kit_ty (by decide +kernel)) k
theorem isi_non_dict (k : Q (.bl false) H) : rIsi K [.non, .ty "dict"] H Q := w_isi (b := false) (.ty _) (.base .non) (kit_ty (by decide +kernel)) k
theorem isi_bl_int (k : Q (.bl true) H) : rIsi K [.bl b, .ty "int"] H Q := w_isi (b := true) (.ty _) (.base (.bl _)) (kit_ty (by decide +kernel)) k
theorem isi_bl_bool (k : Q (.bl true) H) : rIsi K [.bl b, .ty "bool"] H Q := w_isi (b := true) (.ty _) (.base (.bl _)) (kit_ty (by decide +kernel)) k
theorem isi_bl_str (k : Q (.bl false) H) : rIsi K [.bl b, .ty "str"] H Q := w_isi (b := false) (.ty _) (.base (.bl _)) (kit_ty (by decide +kernel)) k
theorem isi_bl_tuple (k : Q (.bl false) H) : rIsi K [.bl b, .ty "tuple"] H Q := w_isi (b := false) (.ty _) (.base (.bl _)) (kit_ty (by decide +kernel)) k
theorem isi_bl_list (k : Q (.bl false) H) : rIsi K [.bl b, .ty "list"] H Q := w_isi (b := false) (.ty _) (.base (.bl _)) (kit_ty (by decide +kernel)) k
theorem isi_bl_dict (k : Q (.bl false) H) : rIsi K [.bl b, .ty "dict"] H Q := w_isi (b := false) (.ty _) (.base (.bl _)) (kit_ty (by decide +kernel)) k
theorem isi_int_int (k : Q (.bl true) H) : rIsi K [.int i, .ty "int"] H Q := w_isi (b := true) (.ty _) (.base (.int _)) (kit_ty (by decide +kernel)) k
theorem isi_int_bool (k : Q (.bl false) H) : rIsi K [.int i, .ty "bool"] H Q := w_isi (b := false) (.ty _) (.base (.int _)) (kit_ty (by decide +kernel)) k
theorem isi_int_str (k : Q (.bl false) H) : rIsi K [.int i, .ty "str"] H Q := w_isi (b := false) (.ty _) (.base (.int _)) (kit_ty (by decide +kernel)) k
theorem isi_int_tuple (k : Q (.bl false) H) : rIsi K [.int i, .ty "tuple"] H Q := w_isi (b := false) (.ty _) (.base (.int _)) (kit_ty (by decide +kernel)) k
theorem isi_int_list (k : Q (.bl false) H) : rIsi K [.int i, .ty "list"] H Q := w_isi (b := false) (.ty _) (.base (.int _)) (kit_ty (by decide +kernel)) k
theorem isi_int_dict (k : Q (.bl false) H) : rIsi K [.int i, .ty "dict"] H Q := w_isi (b := false) (.ty _) (.base (.int _)) (kit_ty (by decide +kernel)) k
theorem isi_str_int (k : Q (.bl false) H) : rIsi K [.str z, .ty "int"] H Q := w_isi (b := false) (.ty _) (.base (.str _)) (kit_ty (by decide +kernel)) k
theorem isi_str_bool (k : Q (.bl false) H) : rIsi K [.str z, .ty "bool"] H Q := w_isi (b := false) (.ty _) (.base (.str _)) (kit_ty (by decide +kernel)) k
theorem isi_str_str (k : Q (.bl true) H) : rIsi K [.str z, .ty "str"] H Q := w_isi (b := true) (.ty _) (.base (.str _)) (kit_ty (by decide +kernel)) k
theorem isi_str_tuple (k : Q (.bl false) H) : rIsi K [.str z, .ty "tuple"] H Q := w_isi (b := false) (.ty _) (.base (.str _)) (kit_ty (by decide +kernel)) k
theorem isi_str_list (k : Q (.bl false) H) : rIsi K [.str z, .ty "list"] H Q := w_isi (b := false) (.ty _) (.base (.str _)) (kit_ty (by decide +kernel)) k
theorem isi_str_dict (k : Q (.bl false) H) : rIsi K [.str z, .ty "dict"] H Q := w_isi (b := false) (.ty _) (.base (.str _)) (kit_ty (by decide +kernel)) k
theorem isi_lst_int (h : H p = some (.lst xs)) (k : Q (.bl false) H) : rIsi K [.ref p, .ty "int"] H Q := w_isi (b := false) (.ty _) (.base (.lst h)) (kit_ty (by decide +kernel)) k
theorem isi_lst_bool (h : H p = some (.lst xs)) (k : Q (.bl false) H) : rIsi K [.ref p, .ty "bool"] H Q := w_isi (b := false) (.ty _) (.base (.lst h)) (kit_ty (by decide +kernel)) k
theorem isi_lst_str (h : H p = some (.lst xs)) (k : Q (.bl false) H) : rIsi K [.ref p, .ty "str"] H Q := w_isi (b := false) (.ty _) (.base (.lst h)) (kit_ty (by decide +kernel)) k
theorem isi_lst_tuple (h : H p = some (.lst xs)) (k : Q (.bl false) H) : rIsi K [.ref p, .ty "tuple"] H Q := w_isi (b := false) (.ty _) (.base (.lst h)) (kit_ty (by decide +kernel)) k
theorem isi_lst_list (h : H p = some (.lst xs)) (k : Q (.bl true) H) : rIsi K [.ref p, .ty "list"] H Q := w_isi (b := true) (.ty _) (.base (.lst h)) (kit_ty (by decide +kernel)) k
theorem isi_lst_dict (h : H p = some (.lst xs)) (k : Q (.bl false) H) : rIsi K [.ref p, .ty "dict"] H Q := w_isi (b := false) (.ty _) (.base (.lst h)) (kit_ty (by decide +kernel)) k
theorem isi_tup_int (h : H p = some (.tup xs)) (k : Q (.bl false) H) : rIsi K [.ref p, .ty "int"] H Q := w_isi (b := false) (.ty _) (.base (.tup h)) (kit_ty (by decide +kernel)) k
theorem isi_tup_bool (h : H p = some (.tup xs)) (k : Q (.bl false) H) : rIsi K [.ref p, .ty "bool"] H Q := w_isi (b := false) (.ty _) (.base (.tup h)) (kit_ty (by decide +kernel)) k
theorem isi_tup_str (h : H p = some (.tup xs)) (k : Q (.bl false) H) : rIsi K [.ref p, .ty "str"] H Q := w_isi (b := false) (.ty _) (.base (.tup h)) (kit_ty (by decide +kernel)) k
theorem isi_tup_tuple (h : H p = some (.tup xs)) (k : Q (.bl true) H) : rIsi K [.ref p, .ty "tuple"] H Q := w_isi (b := true) (.ty _) (.base (.tup h)) (kit_ty (by decide +kernel)) k
theorem isi_tup_list (h : H p = some (.tup xs)) (k : Q (.bl false) H) : rIsi K [.ref p, .ty "list"] H Q := w_isi (b := false) (.ty _) (.base (.tup h)) (kit_ty (by decide +kernel)) k
theorem isi_tup_dict (h : H p = some (.tup xs)) (k : Q (.bl false) H) : rIsi K [.ref p, .ty "dict"] H Q := w_isi (b := false) (.ty _) (.base (.tup h)) (kit_ty (by decide +kernel)) k
theorem isi_dK_int (h : H p = some (.dK kvs)) (k : Q (.bl false) H) : rIsi K [.ref p, .ty "int"] H Q := w_isi (b := false) (.ty _) (.base (.dK h)) (kit_ty (by decide +kernel)) k
theorem isi_dK_bool (h : H p = some (.dK kvs)) (k : Q (.bl false) H) : rIsi K [.ref p, .ty "bool"] H Q := w_isi (b := false) (.ty _) (.base (.dK h)) (kit_ty (by decide +kernel)) k
theorem isi_dK_str (h : H p = some (.dK kvs)) (k : Q (.bl false) H) : rIsi K [.ref p, .ty "str"] H Q := w_isi (b := false) (.ty _) (.base (.dK h)) (kit_ty (by decide +kernel)) k
theorem isi_dK_tuple (h : H p = some (.dK kvs)) (k : Q (.bl false) H) : rIsi K [.ref p, .ty "tuple"] H Q := w_isi (b := false) (.ty _) (.base (.dK h)) (kit_ty (by decide +kernel)) k
theorem isi_dK_list (h : H p = some (.dK kvs)) (k : Q (.bl false) H) : rIsi K [.ref p, .ty "list"] H Q := w_isi (b := false) (.ty _) (.base (.dK h)) (kit_ty (by decide +kernel)) k
theorem isi_dK_dict (h : H p = some (.dK kvs)) (k : Q (.bl true) H) : rIsi K [.ref p, .ty "dict"] H Q := w_isi (b := true) (.ty _) (.base (.dK h)) (kit_ty (by decide +kernel)) k
theorem isi_dT_int (h : H p = some (.dT kts)) (k : Q (.bl false) H) : rIsi K [.ref p, .ty "int"] H Q := w_isi (b := false) (.ty _) (.base (.dT h)) (kit_ty (by decide +kernel)) k
theorem isi_dT_bool (h : H p = some (.dT kts)) (k : Q (.bl false) H) : rIsi K [.ref p, .ty "bool"] H Q := w_isi (b := false) (.ty _) (.base (.dT h)) (kit_ty (by decide +kernel)) k
theorem isi_dT_str (h : H p = some (.dT kts)) (k : Q (.bl false) H) : rIsi K [.ref p, .ty "str"] H Q := w_isi (b := false) (.ty _) (.base (.dT h)) (kit_ty (by decide +kernel)) k
theorem isi_dT_tuple (h : H p = some (.dT kts)) (k : Q (.bl false) H) : rIsi K [.ref p, .ty "tuple"] H Q := w_isi (b := false) (.ty _) (.base (.dT h)) (kit_ty (by decide +kernel)) k
theorem isi_dT_list (h : H p = some (.dT kts)) (k : Q (.bl false) H) : rIsi K [.ref p, .ty "list"] H Q := w_isi (b := false) (.ty _) (.base (.dT h)) (kit_ty (by decide +kernel)) k
theorem isi_dT_dict (h : H p = some (.dT kts)) (k : Q (.bl true) H) : rIsi K [.ref p, .ty "dict"] H Q := w_isi (b := true) (.ty _) (.base (.dT h)) (kit_ty (by decide +kernel)) k
end
/-! ### comparisons in a chain; xs[i] op= v; comprehensions -/
section
variable {K : PySem.W.Frag} {σ : TSt} {H : Hp} {Q : VK} {ta tb tc te : TE} {r r' : R2} {X : Cx} {nx bk ct : TSt → Hp → Prop} {rt : VK}
theorem w_chain (k : ta σ H fun x H1 => tb σ H1 fun y H2 => r x y H2 fun z H3 => rBl (fun c H3 => rIf c (tc σ H3 fun w H4 => r' y w H4 Q) (Q (.bl false) H3)) z H3) : tChain r r' ta tb tc σ H Q := k
theorem get_list : PGet X (rIxL X.K) := by
  intro pins s σ H x y v u Q I rx ry h
  obtain ⟨p, xs, i, z, rfl, rfl, hq, he, q⟩ := h
  cases rx
  obtain ⟨t, rfl⟩ := ry
  obtain ⟨its, r, pl, hz⟩ := I.list hq
  obtain ⟨j, h1, h2, h3, h4, h5⟩ := atI_get he
  obtain ⟨w, ew, rw'⟩ := r.get h2
  have hl := r.length
  have hn := line63
  have fin : EP X pins σ Q w s := ⟨z, H, I, rw', q⟩
  by_cases h0 : 0 ≤ i
  · have hj : i.toNat = j := by
      rw [seqIndex_of h0 h5] at h1
      exact Option.some.inj h1
    exact wpAny_getItem_list pl.isList h0 (by omega) (by rw [hj]; simpa using ew) fin
  · have hj : (i + xs.length).toNat = j := by
      rw [seqIndex_neg (by omega) h4] at h1
      exact Option.some.inj h1
    exact wpAny_getItem_list_neg pl.isList (by omega) (by simp; omega) (by omega) (by simpa [← hl, hj] using ew) fin
def rIpAdd : V → V → Hp → VK → Prop := fun x y H Q => ∃ i j, x = .int i ∧ y = .int j ∧ Q (.int (i + j)) H
theorem i_add : PIp X .Add rIpAdd := ip_add
def rIpSub : V → V → Hp → VK → Prop := fun x y H Q => ∃ i j, x = .int i ∧ y = .int j ∧ Q (.int (i - j)) H
theorem i_sub : PIp X .Sub rIpSub := ip_sub
theorem n_add : InOp X .Add rIpAdd := in_add
theorem n_sub : InOp X .Sub rIpSub := in_sub
theorem w_ipAdd {i j : Int} (k : Q (.int (i + j)) H) : rIpAdd (.int i) (.int j) H Q := ⟨i, j, rfl, rfl, k⟩
theorem w_ipSub {i j : Int} (k : Q (.int (i - j)) H) : rIpSub (.int i) (.int j) H Q := ⟨i, j, rfl, rfl, k⟩
theorem w_augS {to ti : TE} {tget : V → V → Hp → VK → Prop} {tip : TIp} {tset : TSet}
    (k : to σ H fun o H1 => ti σ H1 fun i H2 => tget o i H2 fun x H3 => te σ H3 fun y H4 => tip x y H4 fun z H5 => tset o i z H5 fun H6 => nx σ H6) : tAugS to ti te tget tip tset ⟨nx, rt, bk, ct⟩ σ H := k
theorem w_setL {p : Addr} {xs : List V} {i : Int} {j : Nat} {v : V} {R : Hp → Prop} (h : H p = some (.lst xs)) (e : ixN xs.length i = some j) (k : R (upd H p (.lst (xs.set j v)))) : rSetL (.ref p) (.int i) v H R := ⟨p, xs, i, j, rfl, rfl, h, e, k⟩
theorem w_gsub {to ti : TE} {t : TSet} {v : V} {R : TSt → Hp → Prop} (k : to σ H fun o H1 => ti σ H1 fun i H2 => t o i v H2 fun H3 => R σ H3) : gSub to ti t v σ H R := k
def rFldA (K : PySem.W.Frag) (te : TE) (rd : V → V → Hp → VK → Prop) (f : Str) (nx : TSt → Hp → Prop) (σ : TSt) (x : V) (H1 : Hp) : Prop := ∃ a C dx fs v, x = .ref a ∧ H1 a = some (.ins C dx fs) ∧ Cls K C ∧ NoAttr K C f ∧ fs.lookup f = some v ∧
  te σ H1 fun y H2 => rd v y H2 fun z H3 => ∃ dx' fs', H3 a = some (.ins C dx' fs') ∧ fs'.length < 1000 ∧ nx σ (upd H3 a (.ins C dx' (putF f z fs')))
theorem w_fldaug {rd : V → V → Hp → VK → Prop} {f : Str} (k : ta σ H fun x H1 => rFldA K te rd f nx σ x H1) : sFldAug K ta te rd f ⟨nx, rt, bk, ct⟩ σ H := k
theorem w_fa {a C dx : Addr} {f : Str} {fs : List (Str × V)} {v : V} {rd : V → V → Hp → VK → Prop} (h : H a = some (.ins C dx fs)) (hc : Cls K C) (hn : NoAttr K C f) (hl : fs.lookup f = some v)
    (k : te σ H fun y H2 => rd v y H2 fun z H3 => ∃ dx' fs', H3 a = some (.ins C dx' fs') ∧ fs'.length < 1000 ∧ nx σ (upd H3 a (.ins C dx' (putF f z fs')))) : rFldA K te rd f nx σ (.ref a) H := ⟨a, C, dx, fs, v, rfl, h, hc, hn, hl, k⟩
/-- a list comprehension: D the new list -/
def Comp (g : TG) (tt : TT) (te : TE) (vs : List Nat) (σ : TSt) (Q : VK) (J : It) (H1 : Hp) : Prop := ∀ D, H1 D = none → ∃ W : Nat → Nat → Hp → Prop, (∃ m, W 0 m (upd H1 D (.lst []))) ∧ ∀ i m H, W i m H →
  (J.stop i H ∧ Q (.ref D) H) ∨ (J.go i H ∧ ∃ Nx : Hp → Prop, (∀ H', Nx H' → ∃ m', m' < m ∧ W (i + 1) m' H') ∧ ∀ x H', J.yld i H x H' → g x (wipe σ vs) H' fun σ2 H2 => wipe σ2 vs = wipe σ vs ∧ tt σ2 H2 fun b H3 =>
    if b = true then te σ2 H3 fun y H4 => ∃ acc, H4 D = some (.lst acc) ∧ acc.length < sizeLine ∧ Nx (upd H4 D (.lst (acc ++ [y]))) else Nx H3)
theorem w_lc {wi : TI} {g : TG} {tt : TT} {vs : List Nat} (k : wi σ H fun J H1 => Comp g tt te vs σ Q J H1) : tLc wi g tt te vs σ H Q := k
def rPut (D : Addr) (R : Hp → Prop) (y : V) (H : Hp) : Prop := ∃ acc, H D = some (.lst acc) ∧ acc.length < sizeLine ∧ R (upd H D (.lst (acc ++ [y])))
theorem w_put {D : Addr} {acc : List V} {y : V} {R : Hp → Prop} (h : H D = some (.lst acc)) (hz : acc.length < sizeLine) (k : R (upd H D (.lst (acc ++ [y])))) : rPut D R y H := ⟨acc, h, hz, k⟩
def rWipe (σ2 : TSt) (vs : List Nat) (σ : TSt) (R : Prop) : Prop := wipe σ2 vs = wipe σ vs ∧ R
theorem w_wipe {σ2 : TSt} {vs : List Nat} {R : Prop} (h : wipe σ2 vs = wipe σ vs) (k : R) : rWipe σ2 vs σ R := ⟨h, k⟩
theorem w_yes {QB : Bool → Hp → Prop} (k : QB true H) : tYes σ H QB := k
/-- over a list, a range, a tuple -/
theorem comp_list {a : Addr} {xs : List V} {g : TG} {tt : TT} {vs : List Nat} (Pv : Addr → Nat → Hp → Prop) (h0 : ∀ D, H D = none → Pv D 0 (upd H D (.lst []))) (hl : ∀ D i H', H D = none → i ≤ xs.length → Pv D i H' → SqL K H' a xs)
    (hs : ∀ D i x H', H D = none → xs[i]? = some x → Pv D i H' → g x (wipe σ vs) H' fun σ2 H2 => rWipe σ2 vs σ (tt σ2 H2 fun b H3 => rIf b (te σ2 H3 fun y H4 => rPut D (Pv D (i + 1)) y H4) (Pv D (i + 1) H3)))
    (hd : ∀ D H', H D = none → Pv D xs.length H' → Q (.ref D) H') : Comp g tt te vs σ Q (Itl K a) H := fun D hD => lc_list (Pv D) (h0 D hD) (fun i H' h p => hl D i H' hD h p) (fun i x H' h p => hs D i x H' hD h p) (fun H' p => hd D H' hD p)
theorem comp_range {lo : Int} {n : Nat} {g : TG} {tt : TT} {vs : List Nat} (Pv : Addr → Nat → Hp → Prop) (h0 : ∀ D, H D = none → Pv D 0 (upd H D (.lst [])))
    (hs : ∀ D i H', H D = none → i < n → Pv D i H' → g (.int (lo + i)) (wipe σ vs) H' fun σ2 H2 => rWipe σ2 vs σ (tt σ2 H2 fun b H3 => rIf b (te σ2 H3 fun y H4 => rPut D (Pv D (i + 1)) y H4) (Pv D (i + 1) H3)))
    (hd : ∀ D H', H D = none → Pv D n H' → Q (.ref D) H') : Comp g tt te vs σ Q (Itr lo n) H := fun D hD => lc_range (Pv D) (h0 D hD) (fun i H' h p => hs D i H' hD h p) (fun H' p => hd D H' hD p)
theorem w_rep {p : Addr} {xs : List V} {n : Int} (h : H p = some (.lst xs)) (h1 : -(2 ^ 63) ≤ n) (h2 : n < 2 ^ 63) (hz : xs.length * n.toNat ≤ sizeLine) (k : ∀ q, H q = none → Q (.ref q) (upd H q (.lst (List.replicate n.toNat xs).flatten))) : rRep (.ref p) (.int n) H Q := ⟨p, n, xs, rfl, rfl, h, h1, h2, hz, k⟩
end
/-! the same with the fragment named (within a comprehension's own scope) -/
section
variable {X : Cx}
theorem pe_fldK (K : PySem.W.Frag) {e : Expr} {ta : TE} {f : Str} {pos : Pos} (he : PE X e ta) (hb : attributeBase e f X.env (eval e X.env) = eval e X.env) (h : X.K = K := by rfl) : PE X (.Attribute e f pos) (tFld K ta f) := by subst h; exact pe_fld he hb
theorem pt_truthAK (K : PySem.W.Frag) {e : Expr} {te : TE} (h : PE X e te) (hs : ∀ whole, isTrue e X.env whole = (do let v ← whole; standAt e.pos; holding [v] (truthy v)) := by intro _; rfl) (hK : X.K = K := by rfl) : PT X e (tTruA K te) := by subst hK; exact pt_truthA h hs
theorem c_listK (K : PySem.W.Frag) (h : X.K = K := by rfl) : CallR X (.type "list") (rListA K) := by subst h; exact c_list
theorem c_lenK (K : PySem.W.Frag) (h : X.K = K := by rfl) : CallR X (.builtin "len") (rLenA K) := by subst h; exact c_len
theorem ix_listK (K : PySem.W.Frag) (h : X.K = K := by rfl) : IxR X (rIxL K) := by subst h; exact ix_list
theorem ix_tupK (K : PySem.W.Frag) (h : X.K = K := by rfl) : IxR X (rIxT K) := by subst h; exact ix_tup
theorem ix_seqK (K : PySem.W.Frag) (h : X.K = K := by rfl) : IxR X (rIx K) := by subst h; exact ix_seq
theorem call_isiK (K : PySem.W.Frag) (h : X.K = K := by rfl) : CallR X (.builtin "isinstance") (rIsi K) := by subst h; exact call_isi
theorem call_isGK (K : PySem.W.Frag) {X : Cx} {a : Addr} {cls : Value} {d : Option Addr} {oe : Obj} {pn : List (Addr × Obj)} (hz : Zc cls d oe) (hf : ∃ vs, oe.data = .fields vs) (h : X.K = K := by rfl) : CallR (X.suite a ((a, oe) :: pn)) (.builtin "isinstance") (rIsG K a cls d) := by subst h; exact call_isG hz hf
theorem op_catAK (K : PySem.W.Frag) (h : X.K = K := by rfl) : OpR X (binaryOp .Add) (rCatA K) := by subst h; exact op_catA
end
/-! ### heaps -/
theorem at_new {H : Hp} {a p : Addr} {o o' : HO} (n : H p = none) (h : H a = some o) : upd H p o' a = some o := by rw [upd_ne (ne_of_none h n)]; exact h
theorem at_ne {H : Hp} {a p : Addr} {o o' : HO} (n : a ≠ p) (h : H a = some o) : upd H p o' a = some o := by rw [upd_ne n]; exact h
theorem no_new {H : Hp} {q p : Addr} {o' : HO} (n : q ≠ p) (h : H q = none) : upd H p o' q = none := by rw [upd_ne n]; exact h
theorem none1 {H : Hp} {q a : Addr} {o : HO} (h : upd H a o q = none) : q ≠ a ∧ H q = none := by
  have e : q ≠ a := fun e => by rw [e, upd_same] at h; cases h
  exact ⟨e, by rwa [upd_ne e] at h⟩
theorem none2 {H : Hp} {q a b : Addr} {o o' : HO} (h : upd (upd H a o) b o' q = none) : q ≠ a ∧ q ≠ b ∧ H q = none :=
  let ⟨e, h⟩ := none1 h; let ⟨e', h⟩ := none1 h; ⟨e', e, h⟩
theorem none3 {H : Hp} {q a b c : Addr} {o o' o2 : HO} (h : upd (upd (upd H a o) b o') c o2 q = none) : q ≠ a ∧ q ≠ b ∧ q ≠ c ∧ H q = none :=
  let ⟨e, h⟩ := none1 h; let ⟨e1, e2, h⟩ := none2 h; ⟨e1, e2, e, h⟩
theorem none4 {H : Hp} {q a b c d : Addr} {o o' o2 o3 : HO} (h : upd (upd (upd (upd H a o) b o') c o2) d o3 q = none) : q ≠ a ∧ q ≠ b ∧ q ≠ c ∧ q ≠ d ∧ H q = none :=
  let ⟨e, h⟩ := none1 h; let ⟨e1, e2, e3, h⟩ := none3 h; ⟨e1, e2, e3, e, h⟩
theorem same_new0 {H : Hp} {p : Addr} {o : HO} (h : H p = none) : Same H (upd H p o) := fun b u e => by rw [upd_ne (ne_of_none e h)]; exact e
theorem lt_line {n : Nat} (h : n ≤ 100000) : n < sizeLine := Nat.lt_of_le_of_lt h (by decide)
theorem le_line {n : Nat} (h : n ≤ 100000) : n ≤ sizeLine := Nat.le_trans h (by decide)

/-! ### o.m(..) within a suite: what it lets out may name the slots -/
def tMethX (C : Addr) (m : Str) (sp : Sp) (E : TSt → XK) (ta : TE) (t : TA) : TE := fun σ H Q => ta σ H fun x H1 => rMethA C m x H1 (t σ H1 fun vs H2 => sp (x :: vs) H2 Q (E σ))
section
variable {X : Cx} {k : Nat} {ps : List Str} {sp : Sp} {E : TSt → XK} {m C : Str} {pos apos : Pos} {e o : Expr} {es : List Expr} {ta : TE} {t : TA}
theorem pe_methOS (K : PySem.W.Frag) {pl : Sem Bool} (he : PE X o ta) (c : Cls K (He.ga K C)) (hm : Meth K (He.ga K C) m (He.ma K (He.ga K C) m)) (O : Okd X.prog X.w K X.mg X.base (C, some m) k ps sp) (hr : Room k X.A) (hx : ∀ σ, PassesAt (L2.CX X.prog X.w) X σ (E σ)) (ha : PA X (e :: es) t)
    (hst : starEach (e :: es) X.env = (false, eval e X.env) :: starEach es X.env := by rfl) (hpl : (backTo pos (starEach es X.env)).any (·.1) = false := by rfl)
    (ht : eval (.Call (.Attribute o m apos) (e :: es) [] pos) X.env = (do
      let ov ← eval o X.env
      standAt apos.atName
      let (f, first) ← holding [ov] (getMethod ov m pl)
      callWith pos f first (backTo pos (starEach (e :: es) X.env)) (backToKw pos (keywordEach [] X.env))) := by rfl) (hK : X.K = K := by rfl) :
    PE X (.Call (.Attribute o m apos) (e :: es) [] pos) (tMethX (He.ga K C) m sp E ta t) := by
  subst hK
  obtain ⟨_, hb, _, F⟩ := O
  refine ⟨fun pins s σ H Q I h => ?_⟩
  refine PySem.W.methodCall_KW (pl := pl) (thn (he.run pins s σ H _ I h) fun u s1 ⟨x, H1, I1, rx, a, dx, fs, ex, ea, l, q⟩ => ?_) ht
  subst ex
  cases rx
  refine getmeth_ok I1 ea c hm l ?_
  refine PySem.W.callWith_K (first := [.ref a]) (h₀ := X.base) I.ok.mod.kin hm.kp (thn (ha.run pos pins s1 σ H1 _ I1 q) fun us s2 ⟨vs, H2, I2, r, q2⟩ => ⟨I2.kIn, ?_⟩) hst hpl
  exact run_fnS (us := .ref a :: us) (vs := .ref a :: vs) F hr hb (hx σ) I2 (.cons rfl r) q2
theorem pe_methOS0 (K : PySem.W.Frag) {pl : Sem Bool} (he : PE X o ta) (c : Cls K (He.ga K C)) (hm : Meth K (He.ga K C) m (He.ma K (He.ga K C) m)) (O : Okd X.prog X.w K X.mg X.base (C, some m) k ps sp) (hr : Room k X.A) (hx : ∀ σ, PassesAt (L2.CX X.prog X.w) X σ (E σ))
    (ht : eval (.Call (.Attribute o m apos) [] [] pos) X.env = (do
      let ov ← eval o X.env
      standAt apos.atName
      let (f, first) ← holding [ov] (getMethod ov m pl)
      callWith pos f first (backTo pos (starEach [] X.env)) (backToKw pos (keywordEach [] X.env))) := by rfl) (hK : X.K = K := by rfl) :
    PE X (.Call (.Attribute o m apos) [] [] pos) (tMethX (He.ga K C) m sp E ta tNil) := by
  subst hK
  obtain ⟨_, hb, _, F⟩ := O
  refine ⟨fun pins s σ H Q I h => ?_⟩
  refine PySem.W.methodCall_KW (pl := pl) (thn (he.run pins s σ H _ I h) fun u s1 ⟨x, H1, I1, rx, a, dx, fs, ex, ea, l, q⟩ => ?_) ht
  subst ex
  cases rx
  refine getmeth_ok I1 ea c hm l ?_
  exact PySem.W.callWith_K0 (first := [.ref a]) I1.kIn hm.kp (run_fnS (us := [.ref a]) (vs := [.ref a]) F hr hb (hx σ) I1 (.cons rfl .nil) q)
theorem w_methX {σ : TSt} {H : Hp} {Q : VK} {C : Addr} (k : ta σ H fun x H1 => rMethA C m x H1 (t σ H1 fun vs H2 => sp (x :: vs) H2 Q (E σ))) : tMethX C m sp E ta t σ H Q := k
end
/-! ### data -/
/-- v stands for d, a datum of small depth -/
def Rep (K : PySem.W.Frag) (H : Hp) (n : Nat) (v : V) (d : PyData) : Prop := Dp K H v d ∧ d.canLay0 = true ∧ d.depth ≤ n
section
variable {K : PySem.W.Frag} {H H' : Hp} {v x y : V} {xs ys : List V} {d e : PyData} {n m : Nat} {Q : VK} {p : Addr}
theorem Rep.non : Rep K H n .non .none := ⟨.non, by simp [PyData.canLay0], by simp [PyData.depth]⟩
theorem Rep.bl {b : Bool} : Rep K H n (.bl b) (.bool b) := ⟨.bl b, by simp [PyData.canLay0], by simp [PyData.depth]⟩
theorem Rep.int {i : Int} : Rep K H n (.int i) (.int i) := ⟨.int i, by simp [PyData.canLay0], by simp [PyData.depth]⟩
theorem Rep.str {s : Str} (h : PyData.canLay0 (.str s) = true) : Rep K H n (.str s) (.str s) := ⟨.str s, h, by simp [PyData.depth]⟩
theorem Rep.mono (h : Rep K H n v d) (k : n ≤ m) : Rep K H m v d := ⟨h.1, h.2.1, Nat.le_trans h.2.2 k⟩
inductive Reps (K : PySem.W.Frag) (H : Hp) (n : Nat) : List V → List PyData → Prop
  | nil : Reps K H n [] []
  | cons {v : V} {d : PyData} {vs : List V} {ds : List PyData} : Rep K H n v d → Reps K H n vs ds → Reps K H n (v :: vs) (d :: ds)
theorem Reps.all {ds : List PyData} (h : Reps K H n xs ds) : DpAll K H xs ds ∧ PyData.canLayAll0 ds = true ∧ PyData.depthAll ds ≤ n := by
  induction h with
  | nil => exact ⟨.nil, by simp [PyData.canLayAll0], by simp [PyData.depthAll]⟩
  | cons a b ih => exact ⟨.cons a.1 ih.1, by simp [PyData.canLayAll0, a.2.1, ih.2.1], by simp only [PyData.depthAll]; exact Nat.max_le.mpr ⟨a.2.2, ih.2.2⟩⟩
theorem Rep.tup {ds : List PyData} (h : H p = some (.tup xs)) (r : Reps K H n xs ds) : Rep K H (n + 1) (.ref p) (.tuple ds) := by
  obtain ⟨a, b, c⟩ := r.all
  exact ⟨.tup (SqT.of h) a, by simp only [PyData.canLay0]; exact b, by simp only [PyData.depth]; omega⟩
theorem Rep.lst {ds : List PyData} (h : H p = some (.lst xs)) (r : Reps K H n xs ds) : Rep K H (n + 1) (.ref p) (.list ds) := by
  obtain ⟨a, b, c⟩ := r.all
  exact ⟨.lst (SqL.of h) a, by simp only [PyData.canLay0]; exact b, by simp only [PyData.depth]; omega⟩
theorem Rep.shaped (h : Rep K H n v d) (k : n ≤ 64) : SeqAt.shaped d = true := by
  unfold SeqAt.shaped
  rw [h.2.1, decide_eq_true (Nat.le_trans h.2.2 k)]; rfl
theorem Reps.of (h : ∀ x ∈ xs, ∃ d, Rep K H n x d) : ∃ ds, Reps K H n xs ds := by
  induction xs with
  | nil => exact ⟨[], .nil⟩
  | cons a r ih =>
    obtain ⟨d, hd⟩ := h a (List.mem_cons_self ..)
    obtain ⟨ds, hs⟩ := ih fun x hx => h x (List.mem_cons_of_mem _ hx)
    exact ⟨d :: ds, .cons hd hs⟩
theorem Rep.refl (h : Rep K H n v d) : PyData.eqv d d = true := PySem.SeqAt.eqv_refl d h.2.1
theorem w_eqR (h1 : Rep K H n x d) (h2 : Rep K H m y e) (k1 : n ≤ 64) (k2 : m ≤ 64) (k : Q (.bl (PyData.eqv d e)) H) : rEqD K x y H Q := ⟨d, e, h1.1, h2.1, h1.shaped k1, h2.shaped k2, k⟩
theorem w_neR (h1 : Rep K H n x d) (h2 : Rep K H m y e) (k1 : n ≤ 64) (k2 : m ≤ 64) (k : Q (.bl (!PyData.eqv d e)) H) : rNeD K x y H Q := ⟨d, e, h1.1, h2.1, h1.shaped k1, h2.shaped k2, k⟩
/-- the same datum on both sides -/
theorem w_eqS' (h1 : Rep K H n x d) (h2 : Rep K H m y d) (k1 : n ≤ 64) (k2 : m ≤ 64) (k : Q (.bl true) H) : rEqD K x y H Q := w_eqR h1 h2 k1 k2 (by rw [h1.refl]; exact k)
theorem w_neS' (h1 : Rep K H n x d) (h2 : Rep K H m y d) (k1 : n ≤ 64) (k2 : m ≤ 64) (k : Q (.bl false) H) : rNeD K x y H Q := w_neR h1 h2 k1 k2 (by rw [h1.refl]; exact k)
end
theorem Reps.len {K : PySem.W.Frag} {H : Hp} {n : Nat} {xs : List V} {ds : List PyData} (h : Reps K H n xs ds) : ds.isEmpty = xs.isEmpty := by cases h <;> rfl
theorem eqv_nil {ds : List PyData} : PyData.eqv (.list ds) (.list []) = ds.isEmpty := by cases ds <;> simp [PyData.eqv, PyData.eqvAll]
theorem eqv_bool {a b : Bool} : PyData.eqv (.bool a) (.bool b) = (a == b) := by simp [PyData.eqv]
theorem w_eqBB {K : PySem.W.Frag} {H : Hp} {Q : VK} {a b : Bool} (h : a = b) (k : Q (.bl true) H) : rEqD K (.bl a) (.bl b) H Q := by
  subst h
  exact w_eqS' (Rep.bl (n := 0)) (Rep.bl (n := 0)) (by decide) (by decide) k
/-! ### data that never changes -/
mutual
inductive Im (H : Hp) : V → PyData → Prop
  | non : Im H .non .none
  | bl (b : Bool) : Im H (.bl b) (.bool b)
  | int (i : Int) : Im H (.int i) (.int i)
  | str (s : Str) (h : PyData.canLay0 (.str s) = true) : Im H (.str s) (.str s)
  | tup {a : Addr} {xs : List V} {ds : List PyData} : H a = some (.tup xs) → Ims H xs ds → Im H (.ref a) (.tuple ds)
inductive Ims (H : Hp) : List V → List PyData → Prop
  | nil : Ims H [] []
  | cons {v : V} {vs : List V} {d : PyData} {ds : List PyData} : Im H v d → Ims H vs ds → Ims H (v :: vs) (d :: ds)
end
/-- tuples stay -/
def TK (H H' : Hp) : Prop := ∀ a xs, H a = some (.tup xs) → H' a = some (.tup xs)
theorem TK.refl (H : Hp) : TK H H := fun _ _ h => h
theorem TK.trans {H H1 H2 : Hp} (h : TK H H1) (k : TK H1 H2) : TK H H2 := fun a xs e => k a xs (h a xs e)
theorem _root_.L2.Same.tk {H H' : Hp} (h : Same H H') : TK H H' := fun a xs e => h a _ e
theorem tk_new {H : Hp} {p : Addr} {o : HO} (n : H p = none) : TK H (upd H p o) := (same_new0 n).tk
theorem tk_lst {H : Hp} {p : Addr} {o : HO} {ys : List V} (n : H p = some (.lst ys)) : TK H (upd H p o) := fun a xs e => by rw [upd_ne (ne_of e n (by intro z; cases z))]; exact e
theorem tk_ins {H : Hp} {p C dx : Addr} {fs : List (Str × V)} {o : HO} (n : H p = some (.ins C dx fs)) : TK H (upd H p o) := fun a xs e => by rw [upd_ne (ne_of e n (by intro z; cases z))]; exact e
section
variable {K : PySem.W.Frag} {H H' : Hp}
mutual
theorem Im.mono (k : TK H H') : ∀ {v : V} {d : PyData}, Im H v d → Im H' v d
  | _, _, .non => .non
  | _, _, .bl b => .bl b
  | _, _, .int i => .int i
  | _, _, .str s h => .str s h
  | _, _, .tup h r => .tup (k _ _ h) (Ims.mono k r)
theorem Ims.mono (k : TK H H') : ∀ {vs : List V} {ds : List PyData}, Ims H vs ds → Ims H' vs ds
  | _, _, .nil => .nil
  | _, _, .cons h r => .cons (Im.mono k h) (Ims.mono k r)
end
mutual
theorem Im.dp : ∀ {v : V} {d : PyData}, Im H v d → Dp K H v d ∧ d.canLay0 = true
  | _, _, .non => ⟨.non, by simp [PyData.canLay0]⟩
  | _, _, .bl b => ⟨.bl b, by simp [PyData.canLay0]⟩
  | _, _, .int i => ⟨.int i, by simp [PyData.canLay0]⟩
  | _, _, .str s h => ⟨.str s, h⟩
  | _, _, .tup h r => ⟨.tup (SqT.of h) (Ims.dp r).1, by simp only [PyData.canLay0]; exact (Ims.dp r).2⟩
theorem Ims.dp : ∀ {vs : List V} {ds : List PyData}, Ims H vs ds → DpAll K H vs ds ∧ PyData.canLayAll0 ds = true
  | _, _, .nil => ⟨.nil, by simp [PyData.canLayAll0]⟩
  | _, _, .cons h r => ⟨.cons (Im.dp h).1 (Ims.dp r).1, by simp only [PyData.canLayAll0, Bool.and_eq_true]; exact ⟨(Im.dp h).2, (Ims.dp r).2⟩⟩
end
theorem Im.rep {v : V} {d : PyData} {n : Nat} (h : Im H v d) (k : d.depth ≤ n) : Rep K H n v d := ⟨(Im.dp h).1, (Im.dp (K := K) h).2, k⟩
end
/-! ### what changed: the objects of one owner alone, or new ones -/
structure Chg (own own' : Addr → Prop) (H H' : Hp) : Prop where
  keep : ∀ b o, H b = some o → ¬ own b → H' b = some o
  new : ∀ b, own' b → own b ∨ H b = none
  tk : TK H H'
theorem Chg.refl {own : Addr → Prop} {H : Hp} : Chg own own H H := ⟨fun _ _ e _ => e, fun _ h => .inl h, TK.refl H⟩
theorem w_inT {K : PySem.W.Frag} {H : Hp} {Q : VK} {x : V} {xs : List V} {p : Addr} {b : Bool} (h : H p = some (.tup xs)) (hx : flatV x = true) (ha : xs.all flatV = true) (e : inV x xs = b) (k : Q (.bl b) H) : rIn K false x (.ref p) H Q := ⟨p, xs, rfl, .inr (SqT.of h), hx, ha, by rw [if_neg (by decide), e]; exact k⟩
theorem w_iaL {K : PySem.W.Frag} {H : Hp} {Q : VK} {p : Addr} {xs : List V} {i : Int} {v : V} (h : H p = some (.lst xs)) (e : atI xs i = some v) (k : Q v H) : rIx K (.ref p) (.int i) H Q := .inl (w_ixL h e k)
theorem w_iaT {K : PySem.W.Frag} {H : Hp} {Q : VK} {p : Addr} {xs : List V} {i : Int} {v : V} (h : H p = some (.tup xs)) (e : atI xs i = some v) (k : Q v H) : rIx K (.ref p) (.int i) H Q := .inr (.inl (w_ixT h e k))
theorem w_ninT {K : PySem.W.Frag} {H : Hp} {Q : VK} {x : V} {xs : List V} {p : Addr} {b : Bool} (h : H p = some (.tup xs)) (hx : flatV x = true) (ha : xs.all flatV = true) (e : inV x xs = b) (k : Q (.bl !b) H) : rIn K true x (.ref p) H Q := ⟨p, xs, rfl, .inr (SqT.of h), hx, ha, by rw [if_pos rfl, e]; exact k⟩
theorem Chg.same {own : Addr → Prop} {H H' : Hp} (s : Same H H') : Chg own own H H' := ⟨fun b o e _ => s b o e, fun _ h => .inl h, s.tk⟩
theorem Chg.pre {own own' : Addr → Prop} {H H1 H' : Hp} (s : Same H H1) (c : Chg own own' H1 H') : Chg own own' H H' := ⟨fun b o e n => c.keep b o (s b o e) n, fun b h => (c.new b h).imp id s.free, s.tk.trans c.tk⟩
theorem Chg.trans {own own1 own2 : Addr → Prop} {H H1 H' : Hp} (c : Chg own own1 H H1) (d : Chg own1 own2 H1 H') (g : ∀ b, H1 b = none → H b = none) : Chg own own2 H H' :=
  ⟨fun b o e n => d.keep b o (c.keep b o e n) fun h => (c.new b h).elim n fun z => (by rw [e] at z; cases z), fun b h => (d.new b h).elim (c.new b) fun z => .inr (g b z), c.tk.trans d.tk⟩
section
variable {K : PySem.W.Frag} {H : Hp} {Q : VK} {i j : Int} {a b : Bool}
theorem eqD_non_non (k : Q (.bl true) H) : rEqD K (.non) (.non) H Q := w_eqR (Rep.non (n := 0)) (Rep.non (n := 0)) (by decide) (by decide) (by rw [show PyData.eqv (.none) (.none) = true from by simp [PyData.eqv]]; exact k)
theorem neD_non_non (k : Q (.bl false) H) : rNeD K (.non) (.non) H Q := w_neR (Rep.non (n := 0)) (Rep.non (n := 0)) (by decide) (by decide) (by rw [show PyData.eqv (.none) (.none) = true from by simp [PyData.eqv]]; exact k)
theorem eqD_int_int (k : Q (.bl (decide (i = j))) H) : rEqD K (.int i) (.int j) H Q := w_eqR (Rep.int (n := 0)) (Rep.int (n := 0)) (by decide) (by decide) (by rw [show PyData.eqv (.int i) (.int j) = decide (i = j) from by rw [Bool.eq_iff_iff]; simp [PyData.eqv]]; exact k)
theorem neD_int_int (k : Q (.bl (!decide (i = j))) H) : rNeD K (.int i) (.int j) H Q := w_neR (Rep.int (n := 0)) (Rep.int (n := 0)) (by decide) (by decide) (by rw [show PyData.eqv (.int i) (.int j) = decide (i = j) from by rw [Bool.eq_iff_iff]; simp [PyData.eqv]]; exact k)
theorem eqD_bl_bl (k : Q (.bl ((a == b))) H) : rEqD K (.bl a) (.bl b) H Q := w_eqR (Rep.bl (n := 0)) (Rep.bl (n := 0)) (by decide) (by decide) (by rw [show PyData.eqv (.bool a) (.bool b) = (a == b) from by simp [PyData.eqv]]; exact k)
theorem neD_bl_bl (k : Q (.bl (!(a == b))) H) : rNeD K (.bl a) (.bl b) H Q := w_neR (Rep.bl (n := 0)) (Rep.bl (n := 0)) (by decide) (by decide) (by rw [show PyData.eqv (.bool a) (.bool b) = (a == b) from by simp [PyData.eqv]]; exact k)
theorem eqD_non_int (k : Q (.bl false) H) : rEqD K (.non) (.int j) H Q := w_eqR (Rep.non (n := 0)) (Rep.int (n := 0)) (by decide) (by decide) (by rw [show PyData.eqv (.none) (.int j) = false from by simp [PyData.eqv]]; exact k)
theorem neD_non_int (k : Q (.bl true) H) : rNeD K (.non) (.int j) H Q := w_neR (Rep.non (n := 0)) (Rep.int (n := 0)) (by decide) (by decide) (by rw [show PyData.eqv (.none) (.int j) = false from by simp [PyData.eqv]]; exact k)
theorem eqD_int_non (k : Q (.bl false) H) : rEqD K (.int i) (.non) H Q := w_eqR (Rep.int (n := 0)) (Rep.non (n := 0)) (by decide) (by decide) (by rw [show PyData.eqv (.int i) (.none) = false from by simp [PyData.eqv]]; exact k)
theorem neD_int_non (k : Q (.bl true) H) : rNeD K (.int i) (.non) H Q := w_neR (Rep.int (n := 0)) (Rep.non (n := 0)) (by decide) (by decide) (by rw [show PyData.eqv (.int i) (.none) = false from by simp [PyData.eqv]]; exact k)
theorem eqD_non_bl (k : Q (.bl false) H) : rEqD K (.non) (.bl b) H Q := w_eqR (Rep.non (n := 0)) (Rep.bl (n := 0)) (by decide) (by decide) (by rw [show PyData.eqv (.none) (.bool b) = false from by simp [PyData.eqv]]; exact k)
theorem neD_non_bl (k : Q (.bl true) H) : rNeD K (.non) (.bl b) H Q := w_neR (Rep.non (n := 0)) (Rep.bl (n := 0)) (by decide) (by decide) (by rw [show PyData.eqv (.none) (.bool b) = false from by simp [PyData.eqv]]; exact k)
theorem eqD_bl_non (k : Q (.bl false) H) : rEqD K (.bl a) (.non) H Q := w_eqR (Rep.bl (n := 0)) (Rep.non (n := 0)) (by decide) (by decide) (by rw [show PyData.eqv (.bool a) (.none) = false from by simp [PyData.eqv]]; exact k)
theorem neD_bl_non (k : Q (.bl true) H) : rNeD K (.bl a) (.non) H Q := w_neR (Rep.bl (n := 0)) (Rep.non (n := 0)) (by decide) (by decide) (by rw [show PyData.eqv (.bool a) (.none) = false from by simp [PyData.eqv]]; exact k)
end
section
variable {K : PySem.W.Frag} {H : Hp} {Q : VK} {a : Addr} {i : Int} {b : Bool} {z : Str}
theorem w_isN0 (k : Q (.bl true) H) : rIsNA .non .non H Q := ⟨rfl, by rw [decide_eq_true rfl]; exact k⟩
theorem w_isNr (k : Q (.bl false) H) : rIsNA (.ref a) .non H Q := ⟨rfl, by rw [decide_eq_false (by intro z; cases z)]; exact k⟩
theorem w_isNi (k : Q (.bl false) H) : rIsNA (.int i) .non H Q := ⟨rfl, by rw [decide_eq_false (by intro z; cases z)]; exact k⟩
theorem w_isNb (k : Q (.bl false) H) : rIsNA (.bl b) .non H Q := ⟨rfl, by rw [decide_eq_false (by intro z; cases z)]; exact k⟩
theorem w_isNs (k : Q (.bl false) H) : rIsNA (.str z) .non H Q := ⟨rfl, by rw [decide_eq_false (by intro z; cases z)]; exact k⟩
theorem w_noN0 (k : Q (.bl false) H) : rNotNA .non .non H Q := ⟨rfl, by rw [decide_eq_true rfl]; exact k⟩
theorem w_noNr (k : Q (.bl true) H) : rNotNA (.ref a) .non H Q := ⟨rfl, by rw [decide_eq_false (by intro z; cases z)]; exact k⟩
theorem w_noNi (k : Q (.bl true) H) : rNotNA (.int i) .non H Q := ⟨rfl, by rw [decide_eq_false (by intro z; cases z)]; exact k⟩
theorem w_noNs (k : Q (.bl true) H) : rNotNA (.str z) .non H Q := ⟨rfl, by rw [decide_eq_false (by intro z; cases z)]; exact k⟩
end
/-! ### dicts -/
section
variable {K : PySem.W.Frag} {σ : TSt} {H : Hp} {Q : VK} {td ty tv : TE} {a : Addr} {kvs ks ls : List (Key × V)} {i j : Int} {v x y : V} {nx bk ct : TSt → Hp → Prop} {rt : VK} {z : Str} {xs : List V} {X : Cx}
theorem putK_le {κ : Type} [DecidableEq κ] {c : List (κ × V)} {k : κ} {x : V} : (putK c k x).length ≤ c.length + 1 := by
  unfold putK
  split <;> simp
def rDG (x y : V) (H : Hp) (Q : VK) : Prop := ∃ a v, x = .ref a ∧ DGet H a y (some v) ∧ Q v H
def rDI (x y : V) (H : Hp) (Q : VK) : Prop := ∃ a o, x = .ref a ∧ DGet H a y o ∧ Q (.bl o.isSome) H
def rDN (x y : V) (H : Hp) (Q : VK) : Prop := ∃ a o, x = .ref a ∧ DGet H a y o ∧ Q (.bl (!o.isSome)) H
def rDO (a : Addr) (z y : V) (H : Hp) (Q : VK) : Prop := ∃ o, DGet H a y o ∧ Q (o.getD z) H
def rD1 (ty : TE) (σ : TSt) (Q : VK) (x : V) (H : Hp) : Prop := ∃ a, x = .ref a ∧ IsD H a ∧ ty σ H fun y H2 => rDO a .non y H2 Q
def rD2 (ty tv : TE) (σ : TSt) (Q : VK) (x : V) (H : Hp) : Prop := ∃ a, x = .ref a ∧ IsD H a ∧ ty σ H fun y H2 => tv σ H2 fun z H3 => rDO a z y H3 Q
def rDP (v x y : V) (R : Hp → Prop) (H : Hp) : Prop := ∃ a H4, x = .ref a ∧ DPut H a y v H4 ∧ R H4
def rDCopy : List V → Hp → VK → Prop := fun xs H Q => ∃ (a : Addr) (kvs : List (Key × V)), xs = [.ref a] ∧ Rd H a (.dK kvs) ∧ ∀ p, H p = none → Q (.ref p) (upd H p (.dK kvs))
theorem c_dict : CallR X (.type "dict") rDCopy := call_dictD
theorem w_dget (k : td σ H fun x H1 => ty σ H1 fun y H2 => rDG x y H2 Q) : tDGet td ty σ H Q := k
theorem w_din (k : ty σ H fun y H1 => td σ H1 fun x H2 => rDI x y H2 Q) : tDIn ty td σ H Q := k
theorem w_dnin (k : ty σ H fun y H1 => td σ H1 fun x H2 => rDN x y H2 Q) : tDNotIn ty td σ H Q := k
theorem w_dget1 (k : td σ H fun x H1 => rD1 ty σ Q x H1) : tDGet1 td ty σ H Q := k
theorem w_dget2 (k : td σ H fun x H1 => rD2 ty tv σ Q x H1) : tDGet2 td ty tv σ H Q := k
theorem w_dputS (k : tv σ H fun v H1 => td σ H1 fun x H2 => ty σ H2 fun y H3 => rDP v x y (fun H4 => nx σ H4) H3) : sDPut td ty tv ⟨nx, rt, bk, ct⟩ σ H := k
theorem w_dnewK (k : ∀ p, H p = none → Q (.ref p) (upd H p (.dK []))) : tDNewK σ H Q := k
theorem isd_of (h : H a = some (.dK kvs)) : IsD H a := .inl ⟨kvs, .inl h⟩
theorem w_d1 (h : H a = some (.dK kvs)) (k : ty σ H fun y H2 => rDO a .non y H2 Q) : rD1 ty σ Q (.ref a) H := ⟨a, rfl, isd_of h, k⟩
theorem w_d2 (h : H a = some (.dK kvs)) (k : ty σ H fun y H2 => tv σ H2 fun z H3 => rDO a z y H3 Q) : rD2 ty tv σ Q (.ref a) H := ⟨a, rfl, isd_of h, k⟩
theorem w_dg (h : H a = some (.dK kvs)) (e : valV kvs (.inl i) = some v) (k : Q v H) : rDG (.ref a) (.int i) H Q := ⟨a, v, rfl, by rw [← e]; exact DGet.k (k := .inl i) h, k⟩
theorem w_di (h : H a = some (.dK kvs)) (k : Q (.bl (valV kvs (.inl i)).isSome) H) : rDI (.ref a) (.int i) H Q := ⟨a, _, rfl, DGet.k (k := .inl i) h, k⟩
theorem w_dn (h : H a = some (.dK kvs)) (k : Q (.bl (!(valV kvs (.inl i)).isSome)) H) : rDN (.ref a) (.int i) H Q := ⟨a, _, rfl, DGet.k (k := .inl i) h, k⟩
theorem w_do {z : V} (h : H a = some (.dK kvs)) (k : Q ((valV kvs (.inl i)).getD z) H) : rDO a z (.int i) H Q := ⟨_, DGet.k (k := .inl i) h, k⟩
theorem w_dp {R : Hp → Prop} (h : H a = some (.dK kvs)) (hz : kvs.length < sizeLine) (k : R (upd H a (.dK (putK kvs (.inl i) v)))) : rDP v (.ref a) (.int i) R H := ⟨a, _, rfl, .inl ⟨kvs, .inl i, h, rfl, hz, rfl⟩, k⟩
theorem w_dgs (h : H a = some (.dK kvs)) (e : valV kvs (.inr z) = some v) (k : Q v H) : rDG (.ref a) (.str z) H Q := ⟨a, v, rfl, by rw [← e]; exact DGet.k (k := .inr z) h, k⟩
theorem w_dis (h : H a = some (.dK kvs)) (k : Q (.bl (valV kvs (.inr z)).isSome) H) : rDI (.ref a) (.str z) H Q := ⟨a, _, rfl, DGet.k (k := .inr z) h, k⟩
theorem w_dns (h : H a = some (.dK kvs)) (k : Q (.bl (!(valV kvs (.inr z)).isSome)) H) : rDN (.ref a) (.str z) H Q := ⟨a, _, rfl, DGet.k (k := .inr z) h, k⟩
theorem w_dps {R : Hp → Prop} (h : H a = some (.dK kvs)) (hz : kvs.length < sizeLine) (k : R (upd H a (.dK (putK kvs (.inr z) v)))) : rDP v (.ref a) (.str z) R H := ⟨a, _, rfl, .inl ⟨kvs, .inr z, h, rfl, hz, rfl⟩, k⟩
theorem w_dcopy (h : H a = some (.dK kvs)) (k : ∀ p, H p = none → Q (.ref p) (upd H p (.dK kvs))) : rDCopy [.ref a] H Q := ⟨a, kvs, rfl, .inl h, k⟩
/-- t, u, .. = a tuple -/
theorem w_gt {n : Nat} {t : TGs} {R : TSt → Hp → Prop} (h : H a = some (.tup xs)) (hl : xs.length = n) (k : t xs σ H R) : gTup K n t (.ref a) σ H R := ⟨a, xs, rfl, SqT.of h, hl, k⟩
theorem w_gc {t : TG} {u : TGs} {R : TSt → Hp → Prop} (k : t v σ H fun σ' H' => u xs σ' H' R) : gCons t u (v :: xs) σ H R := ⟨v, xs, rfl, k⟩
theorem w_gn {R : TSt → Hp → Prop} (k : R σ H) : gNil [] σ H R := ⟨rfl, k⟩
/-- slices -/
def rPart (Q : Option Int → Hp → Prop) (x : V) (H : Hp) : Prop := ∃ i, x = .int i ∧ Q (some i) H
theorem w_sl {r : V → Option Int → Option Int → Hp → VK → Prop} {tl th : TO} (k : td σ H fun x H1 => tl σ H1 fun l H2 => th σ H2 fun u H3 => r x l u H3 Q) : tSl r td tl th σ H Q := k
theorem w_noPart {R : Option Int → Hp → Prop} (k : R none H) : tNoPart σ H R := k
theorem w_part {R : Option Int → Hp → Prop} (k : td σ H fun x H1 => rPart R x H1) : tPart td σ H R := k
theorem w_partI {R : Option Int → Hp → Prop} (k : R (some i) H) : rPart R (.int i) H := ⟨i, rfl, k⟩
theorem w_slL {lo hi : Option Int} (h : H a = some (.lst xs)) (k : ∀ p, H p = none → Q (.ref p) (upd H p (.lst (cutV xs lo hi)))) : rSlL K (.ref a) lo hi H Q := ⟨a, xs, rfl, SqL.of h, k⟩
theorem w_slA {lo hi : Option Int} (h : H a = some (.tup xs)) (k1 : HT.sIx xs.length 0 lo = 0 ∧ HT.sIx xs.length xs.length hi = xs.length → Q (.ref a) H) (k2 : ¬ (HT.sIx xs.length 0 lo = 0 ∧ HT.sIx xs.length xs.length hi = xs.length) → ∀ p, H p = none → Q (.ref p) (upd H p (.tup (cutV xs lo hi)))) :
    rSlA K (.ref a) lo hi H Q := ⟨a, xs, rfl, SqT.of h, k1, k2⟩
theorem w_isB {b c : Bool} (k : Q (.bl (decide (b = c))) H) : rIsB (.bl b) (.bl c) H Q := ⟨b, c, rfl, rfl, k⟩
/-- == of dicts of the same entries, whatever they hold -/
theorem w_eqDs {b : Addr} (ha : H a = some (.dK kvs)) (hb : H b = some (.dK kvs)) (nd : (kvs.map (·.1)).Nodup) (hv : ∀ p ∈ kvs, ∃ c, p.2 = .ref c) (k : Q (.bl true) H) : rEqV K (.ref a) (.ref b) H Q :=
  ⟨1, by decide, .inr ⟨a, b, kvs, kvs, rfl, rfl, ha, hb, rfl, fun p hp => ⟨p.2, val_nodup nd p hp, .inr (.inl (let ⟨c, e⟩ := hv p hp; ⟨c, e, e⟩))⟩⟩, k⟩
theorem TK.dK {H : Hp} {p : Addr} {o : HO} (n : H p = some (.dK kvs)) : TK H (upd H p o) := fun a xs e => by rw [upd_ne (ne_of e n (by intro z; cases z))]; exact e
end
/-! ### tables of the module, tuple(..), list(a dict), sorted(ints), a dict against {} -/
section
variable {K : PySem.W.Frag} {H : Hp} {Q : VK} {a p : Addr} {xs : List V} {i : Int} {v x : V} {kvs : List (Key × V)} {X : Cx} {b : Bool} {n : Nat} {ds : List PyData}
def rTupA (K : PySem.W.Frag) : List V → Hp → VK → Prop := fun xs H Q => ∃ p ys, xs = [.ref p] ∧ ((SqL K H p ys ∧ ∀ l, H l = none → Q (.ref l) (upd H l (.tup ys))) ∨ (SqT K H p ys ∧ Q (.ref p) H))
theorem c_tuple : CallR X (.type "tuple") (rTupA X.K) := call_tuple_of
theorem c_tupleK (K : PySem.W.Frag) (h : X.K = K := by rfl) : CallR X (.type "tuple") (rTupA K) := by subst h; exact c_tuple
theorem w_tupL (h : H p = some (.lst xs)) (k : ∀ l, H l = none → Q (.ref l) (upd H l (.tup xs))) : rTupA K [.ref p] H Q := ⟨p, xs, rfl, .inl ⟨SqL.of h, k⟩⟩
theorem w_tupT (h : H p = some (.tup xs)) (k : Q (.ref p) H) : rTupA K [.ref p] H Q := ⟨p, xs, rfl, .inr ⟨SqT.of h, k⟩⟩
theorem w_listD (h : H p = some (.dK kvs)) (k : ∀ q, H q = none → Q (.ref q) (upd H q (.lst (kvs.map fun kv => kV kv.1)))) : rListD [.ref p] H Q := ⟨p, kvs, rfl, h, k⟩
theorem w_sortI {ns : List Int} (h : H a = some (.lst (ns.map V.int))) (k : ∀ (ns' : List Int) (p : Addr), ns'.Perm ns → ns'.Pairwise (· ≤ ·) → H p = none → Q (.ref p) (upd H p (.lst (ns'.map V.int)))) : rSortedI K [.ref a] H Q := ⟨a, ns, rfl, SqL.of h, k⟩
theorem w_ixTK (h : SqT K H p xs) (e : atI xs i = some v) (k : Q v H) : rIxT K (.ref p) (.int i) H Q := ⟨p, xs, i, v, rfl, rfl, h, e, k⟩
theorem w_inK (h : SqT K H p xs) (hx : flatV x = true) (ha : xs.all flatV = true) (k : Q (.bl (inV x xs)) H) : rIn K false x (.ref p) H Q := ⟨p, xs, rfl, .inr h, hx, ha, by rw [if_neg (by decide)]; exact k⟩
theorem w_inKb (h : SqT K H p xs) (hx : flatV x = true) (ha : xs.all flatV = true) (e : inV x xs = b) (k : Q (.bl b) H) : rIn K false x (.ref p) H Q := w_inK h hx ha (by rw [e]; exact k)
theorem w_ninK (h : SqT K H p xs) (hx : flatV x = true) (ha : xs.all flatV = true) (k : Q (.bl (!inV x xs)) H) : rIn K true x (.ref p) H Q := ⟨p, xs, rfl, .inr h, hx, ha, by rw [if_pos rfl]; exact k⟩
theorem Rep.tupK (h : SqT K H p xs) (r : Reps K H n xs ds) : Rep K H (n + 1) (.ref p) (.tuple ds) := by
  obtain ⟨z, y, c⟩ := r.all
  exact ⟨.tup h z, by simp only [PyData.canLay0]; exact y, by simp only [PyData.depth]; omega⟩
def rNeE : R2 := fun x y H Q => ∃ a b ks, x = .ref a ∧ y = .ref b ∧ H a = some (.dK ks) ∧ H b = some (.dK []) ∧ Q (.bl (!ks.isEmpty)) H
theorem op_neE (hu : X.A.units < cLine) : OpR X (compareOp .NotEq) rNeE := by
  rintro pins s σ H x y v u Q I rx ry ⟨a, b, ks, rfl, rfl, ea, eb, q⟩
  cases (show v = Value.ref a from rx)
  cases (show u = Value.ref b from ry)
  obtain ⟨_, ya, va, ra, da⟩ := (show ObjOk X.prog X.w H s.heap a (.dK ks) from I.hok a _ ea)
  obtain ⟨_, yb, vb, rb, db⟩ := (show ObjOk X.prog X.w H s.heap b (.dK []) from I.hok b _ eb)
  have la := ra.length
  have lb := rb.length
  refine PySem.W.keq_ne (knd := mixKind X.prog X.w) (r := true) ya yb da db hu (fun hl => ?_) (fin_bl I q ?_)
  · have e : va = [] := List.eq_nil_of_length_eq_zero (by rw [hl, ← lb]; rfl)
    rw [e]; exact .nil
  · rw [← la, ← lb]
    cases ks <;> simp
theorem w_neE {b : Addr} (h1 : H a = some (.dK kvs)) (h2 : H b = some (.dK [])) (k : Q (.bl (!kvs.isEmpty)) H) : rNeE (.ref a) (.ref b) H Q := ⟨a, b, kvs, rfl, rfl, h1, h2, k⟩
end
/-! ### indices -/
theorem atI_mod {α : Type} {xs : List α} {i : Int} {v : α} (h : xs[(i % (xs.length : Int)).toNat]? = some v) : atI xs (i % (xs.length : Int)) = some v := by
  have h1 := (List.getElem?_eq_some_iff.mp h).1
  have h0 : 0 ≤ i % (xs.length : Int) := Int.emod_nonneg _ (by omega)
  have e := atI_nat h
  rwa [Int.toNat_of_nonneg h0] at e
theorem atI_of {α : Type} {xs : List α} {i : Int} {v : α} (h0 : 0 ≤ i) (h : xs[i.toNat]? = some v) : atI xs i = some v := by
  have e := atI_nat h
  rwa [Int.toNat_of_nonneg h0] at e
theorem seq_mod {n : Nat} {i : Int} (h : 0 < n) : seqIndex? (i % (n : Int)) n = some (i % (n : Int)).toNat := by
  have h0 : 0 ≤ i % (n : Int) := Int.emod_nonneg _ (by omega)
  have h1 : i % (n : Int) < n := Int.emod_lt_of_pos _ (by omega)
  exact seqIndex_of h0 h1
theorem ints_mod {xs : List Int} {m : Int} (z : Int) (hm : m = xs.length) (h : 0 < xs.length) : ∃ b, atI (xs.map V.int) (z % m) = some (.int b) ∧ b ∈ xs := by
  subst hm
  have h0 : 0 ≤ z % (xs.length : Int) := Int.emod_nonneg _ (by omega)
  have h1 : z % (xs.length : Int) < xs.length := Int.emod_lt_of_pos _ (by omega)
  have hl : (z % (xs.length : Int)).toNat < xs.length := by omega
  exact ⟨_, atI_of h0 (by rw [List.getElem?_map, List.getElem?_eq_getElem hl]; rfl), List.getElem_mem hl⟩
theorem get_map {α β : Type} {f : α → β} {xs : List α} {i : Nat} {y : β} (h : (xs.map f)[i]? = some y) : ∃ x, xs[i]? = some x ∧ y = f x := by
  rw [List.getElem?_map] at h
  cases e : xs[i]? with
  | none => rw [e] at h; cases h
  | some x => rw [e] at h; exact ⟨x, rfl, (Option.some.inj h).symm⟩
theorem get_some {α : Type} {xs : List α} {i : Nat} (h : i < xs.length) : ∃ x, xs[i]? = some x := ⟨xs[i], List.getElem?_eq_getElem h⟩
theorem take_next {α : Type} {xs : List α} {i : Nat} {x : α} (h : xs[i]? = some x) : xs.take (i + 1) = xs.take i ++ [x] := by
  obtain ⟨hl, e⟩ := List.getElem?_eq_some_iff.mp h
  rw [List.take_add_one, h]; rfl
/-- all but what M names is as it was -/
def Kept (M : Addr → Prop) (H H' : Hp) : Prop := ∀ b o, H b = some o → ¬ M b → H' b = some o
theorem _root_.L2.Same.kept {M : Addr → Prop} {H H' : Hp} (h : Same H H') : Kept M H H' := fun b o e _ => h b o e
theorem Kept.trans {M : Addr → Prop} {H H1 H2 : Hp} (h : Kept M H H1) (k : Kept M H1 H2) : Kept M H H2 := fun b o e n => k b o (h b o e n) n
theorem same_new {H : Hp} {p : Addr} {o : HO} (h : H p = none) : Same H (upd H p o) := fun b u e => by rw [upd_ne (ne_of_none e h)]; exact e
theorem _root_.L2.Same.upd_new {H H' : Hp} {p : Addr} {o : HO} (s : Same H H') (h : H p = none) : Same H (upd H' p o) := fun b u e => by rw [upd_ne (ne_of_none e h)]; exact s b u e
theorem kept_upd {M : Addr → Prop} {H : Hp} {p : Addr} {o : HO} (h : M p) : Kept M H (upd H p o) := fun b u e n => by rw [upd_ne (fun q => n (by rw [q]; exact h))]; exact e
/-! ### the end: what a def lets out depends on the world -/
theorem noX {w : World} {P : Program} (H : Hp) (s : Shared) (e : Value) (s' : Shared) (h : L2.CX P w [] H s (fun _ _ _ => False) e s') : False := by
  obtain ⟨_, _, _, _, _, _, _, _, _, _, _, _, z⟩ := h
  exact z
theorem walk_ofW {l : PySem.W.OpenLaw} {n k : Nat} {q : Program} {loose : List Str} {XP : (Str → Option Value) → Heap → Prop} {YP : World → Heap → Prop} {d : DefRec} {x : Str}
    (hn : l.most = some n) (hn2 : n ≤ sizeLine) (hdf : d.params.defaults = []) (hr : Room k callerA)
    (F : ∀ (w : World) (mg : Str → Option Value) (fa : Addr) (h : Heap), YP w h → h.Ns mainGlobals mg → mg d.name = some (.ref fa) →
      ∃ (K : PySem.W.Frag) (fd : FuncData) (sp : Sp), K.In h ∧ (∀ (s : Shared) (u : Value), BindsTo s fd ⟨[u], []⟩ [(x, u)]) ∧
        (∀ (H : Hp) (a : Addr) (ns : List Int), ns.length ≤ n → Only H → SqL K H a (ns.map V.int) → sp [.ref a] H (fun v _ => v = .bl true) fun _ _ _ => False) ∧
        ∀ base : Heap, K.In base → base.Ns mainGlobals mg → FnOk l.prog w K mg base (L2.CX l.prog w) k fa fd [x] sp) :
    PySem.W.WalkO q loose XP YP l.row.toRowW d [] (fun f vs => PySem.call f vs) := by
  refine Att.attach_call hn hdf fun w s₀ s₁ mg mb fa o pm cd doc a vs ns G Y ho hd hcd hmg hobj hints hlen hg => ?_
  obtain ⟨K, fd, sp, KX, hb, hsp, hF⟩ := F w mg fa _ Y G.T.g hmg
  exact law_call KX G.T.g G.T.b G.T.builtins G.T.nolimit hg hobj hints (Nat.le_trans hlen hn2) hr hF hb (fun H hO hS => hsp H a ns hlen hO hS) fun H e s' h => noX H s₁ e s' h
end Sp

namespace Ab
open PySem PySem.Spec PyProof.Rows L2 Sp

/-! ## values as trees, a store of what changes -/
inductive T where
  | non | bl (b : Bool) | int (i : Int) | str (s : String) | tup (l : List T) | lst (l : List T) | dct (b : Bool) (l : List (T × T)) | tupk (l : List T) | scr (l : List T) | ref (n : Nat) | ty (n : String) | con (x : String)
inductive O where
  | lst (l : List T) | dct (b : Bool) (l : List (T × T)) | lck (b : Bool) (l : List (T × T)) | obj (c : String) (fs : List (String × T)) | dead
abbrev Sto := List O
inductive R (α : Type) where
  | ok (a : α) (S : Sto) | exc (c : String) (S : Sto) | bad
def R.bind {α β : Type} (r : R α) (f : α → Sto → R β) : R β := match r with
  | .ok a S => f a S
  | .exc c S => .exc c S
  | .bad => .bad
/-- the ghost: where the handles stand, what is frozen -/
structure G where
  mu : List Addr
  F : Hp
def isKey : T → Bool
  | .int _ => true
  | .str _ => true
  | _ => false
def keyb (ts : List T) : Bool := !ts.isEmpty && ts.all isKey
def KR : T → Key → Prop
  | .int i, k => k = .inl i
  | .str s, k => k = .inr (.ofString s)
  | _, _ => False
abbrev KRs : List T → List Key → Prop := Paired KR
mutual
inductive Rp (K : PySem.W.Frag) (g : G) : T → V → Prop
  | non : Rp K g .non .non
  | bl (b : Bool) : Rp K g (.bl b) (.bl b)
  | int (i : Int) : Rp K g (.int i) (.int i)
  | str (s : String) : Rp K g (.str s) (.str (.ofString s))
  | ty (n : String) : Rp K g (.ty n) (.ty n)
  | con (x : String) : Rp K g (.con x) (.ref (He.ga K (.ofString x)))
  | ref {n : Nat} {a : Addr} : g.mu[n]? = some a → Rp K g (.ref n) (.ref a)
  | tup {ts : List T} {a : Addr} {vs : List V} : SqT K g.F a vs → (keyb ts = true → g.F a = some (.tup vs)) → Rps K g ts vs → Rp K g (.tup ts) (.ref a)
  | tupk {ts : List T} {a : Addr} {vs : List V} : SqT K g.F a vs → Rps K g ts vs → Rp K g (.tupk ts) (.ref a)
  | lst {ts : List T} {a : Addr} {vs : List V} : g.F a = some (.lst vs) → Rps K g ts vs → Rp K g (.lst ts) (.ref a)
  | scr {ts : List T} {a : Addr} {vs : List V} : SqL K g.F a vs → Rps K g ts vs → Rp K g (.scr ts) (.ref a)
  | dct {ps : List (T × T)} {a : Addr} {od : Obj} {kvs : List (Key × V)} : g.F a = some (.frz od (.dK kvs)) → Rpk K g ps kvs → Rp K g (.dct false ps) (.ref a)
  | dctT {ps : List (T × T)} {a : Addr} {od : Obj} {kvs : List (List Key × V)} : g.F a = some (.frz od (.dT kvs)) → Rpt K g ps kvs → Rp K g (.dct true ps) (.ref a)
inductive Rps (K : PySem.W.Frag) (g : G) : List T → List V → Prop
  | nil : Rps K g [] []
  | cons {t : T} {ts : List T} {v : V} {vs : List V} : Rp K g t v → Rps K g ts vs → Rps K g (t :: ts) (v :: vs)
inductive Rpk (K : PySem.W.Frag) (g : G) : List (T × T) → List (Key × V) → Prop
  | nil : Rpk K g [] []
  | cons {k x : T} {kk : Key} {v : V} {ps : List (T × T)} {kvs : List (Key × V)} : KR k kk → Rp K g x v → Rpk K g ps kvs → Rpk K g ((k, x) :: ps) ((kk, v) :: kvs)
inductive Rpt (K : PySem.W.Frag) (g : G) : List (T × T) → List (List Key × V) → Prop
  | nil : Rpt K g [] []
  | cons {ks : List T} {x : T} {kk : List Key} {v : V} {ps : List (T × T)} {kvs : List (List Key × V)} : KRs ks kk → Rp K g x v → Rpt K g ps kvs → Rpt K g ((.tup ks, x) :: ps) ((kk, v) :: kvs)
end
/-- the ghost has grown -/
structure GLe (g g' : G) : Prop where
  mu : ∀ (n : Nat) (a : Addr), g.mu[n]? = some a → g'.mu[n]? = some a
  F : ∀ a o, g.F a = some o → g'.F a = some o
theorem GLe.refl (g : G) : GLe g g := ⟨fun _ _ e => e, fun _ _ e => e⟩
theorem GLe.trans {g g1 g2 : G} (h : GLe g g1) (k : GLe g1 g2) : GLe g g2 := ⟨fun n a e => k.mu n a (h.mu n a e), fun a o e => k.F a o (h.F a o e)⟩
theorem SqT.sub {K : PySem.W.Frag} {H H' : Hp} {a : Addr} {vs : List V} (h : SqT K H a vs) (k : ∀ a o, H a = some o → H' a = some o) : SqT K H' a vs := by
  rcases h with (h | ⟨o, h⟩) | h
  · exact .inl (.inl (k _ _ h))
  · exact .inl (.inr ⟨o, k _ _ h⟩)
  · exact .inr h
theorem SqL.sub {K : PySem.W.Frag} {H H' : Hp} {a : Addr} {vs : List V} (h : SqL K H a vs) (k : ∀ a o, H a = some o → H' a = some o) : SqL K H' a vs := by
  rcases h with (h | ⟨o, h⟩) | h
  · exact .inl (.inl (k _ _ h))
  · exact .inl (.inr ⟨o, k _ _ h⟩)
  · exact .inr h
section
variable {K : PySem.W.Frag} {g g' : G}
mutual
theorem Rp.mono (l : GLe g g') : ∀ {t : T} {v : V}, Rp K g t v → Rp K g' t v
  | _, _, .non => .non
  | _, _, .bl b => .bl b
  | _, _, .int i => .int i
  | _, _, .str s => .str s
  | _, _, .ty n => .ty n
  | _, _, .con x => .con x
  | _, _, .ref h => .ref (l.mu _ _ h)
  | _, _, .tup h k r => .tup (SqT.sub h l.F) (fun e => l.F _ _ (k e)) (Rps.mono l r)
  | _, _, .tupk h r => .tupk (SqT.sub h l.F) (Rps.mono l r)
  | _, _, .lst h r => .lst (l.F _ _ h) (Rps.mono l r)
  | _, _, .scr h r => .scr (SqL.sub h l.F) (Rps.mono l r)
  | _, _, .dct h r => .dct (l.F _ _ h) (Rpk.mono l r)
  | _, _, .dctT h r => .dctT (l.F _ _ h) (Rpt.mono l r)
theorem Rps.mono (l : GLe g g') : ∀ {t : List T} {v : List V}, Rps K g t v → Rps K g' t v
  | _, _, .nil => .nil
  | _, _, .cons h r => .cons (Rp.mono l h) (Rps.mono l r)
theorem Rpk.mono (l : GLe g g') : ∀ {t : List (T × T)} {v : List (Key × V)}, Rpk K g t v → Rpk K g' t v
  | _, _, .nil => .nil
  | _, _, .cons k h r => .cons k (Rp.mono l h) (Rpk.mono l r)
theorem Rpt.mono (l : GLe g g') : ∀ {t : List (T × T)} {v : List (List Key × V)}, Rpt K g t v → Rpt K g' t v
  | _, _, .nil => .nil
  | _, _, .cons k h r => .cons k (Rp.mono l h) (Rpt.mono l r)
end
theorem Rps.length : ∀ {ts : List T} {vs : List V}, Rps K g ts vs → ts.length = vs.length
  | _, _, .nil => rfl
  | _, _, .cons _ r => congrArg (· + 1) (Rps.length r)
theorem Rps.get : ∀ {ts : List T} {vs : List V} {i : Nat} {t : T}, Rps K g ts vs → ts[i]? = some t → ∃ v, vs[i]? = some v ∧ Rp K g t v
  | _, _, 0, _, .cons h _, e => ⟨_, rfl, by cases e; exact h⟩
  | _, _, i + 1, _, .cons _ r, e => Rps.get (i := i) r (by simpa using e)
  | _, _, _, _, .nil, e => by simp at e
theorem Rps.get' : ∀ {ts : List T} {vs : List V} {i : Nat} {v : V}, Rps K g ts vs → vs[i]? = some v → ∃ t, ts[i]? = some t ∧ Rp K g t v
  | _, _, 0, _, .cons h _, e => ⟨_, rfl, by cases e; exact h⟩
  | _, _, i + 1, _, .cons _ r, e => Rps.get' (i := i) r (by simpa using e)
  | _, _, _, _, .nil, e => by simp at e
theorem Rps.append : ∀ {ts us : List T} {vs ws : List V}, Rps K g ts vs → Rps K g us ws → Rps K g (ts ++ us) (vs ++ ws)
  | _, _, _, _, .nil, h => h
  | _, _, _, _, .cons a r, h => .cons a (Rps.append r h)
theorem Rps.set : ∀ {ts : List T} {vs : List V} {t : T} {v : V} (i : Nat), Rps K g ts vs → Rp K g t v → Rps K g (ts.set i t) (vs.set i v)
  | _, _, _, _, _, .nil, _ => .nil
  | _, _, _, _, 0, .cons _ r, h => .cons h r
  | _, _, _, _, i + 1, .cons a r, h => .cons a (Rps.set i r h)
theorem Rps.erase : ∀ {ts : List T} {vs : List V} (i : Nat), Rps K g ts vs → Rps K g (ts.eraseIdx i) (vs.eraseIdx i)
  | _, _, _, .nil => .nil
  | _, _, 0, .cons _ r => r
  | _, _, i + 1, .cons a r => .cons a (Rps.erase i r)
theorem Rps.take : ∀ {ts : List T} {vs : List V} (n : Nat), Rps K g ts vs → Rps K g (ts.take n) (vs.take n)
  | _, _, _, .nil => by simp; exact .nil
  | _, _, 0, .cons _ _ => .nil
  | _, _, n + 1, .cons a r => .cons a (Rps.take n r)
theorem Rps.drop : ∀ {ts : List T} {vs : List V} (n : Nat), Rps K g ts vs → Rps K g (ts.drop n) (vs.drop n)
  | _, _, _, .nil => by simp; exact .nil
  | _, _, 0, .cons a r => .cons a r
  | _, _, n + 1, .cons _ r => Rps.drop n r
theorem Rps.repl {ts : List T} {vs : List V} (h : Rps K g ts vs) : ∀ n : Nat, Rps K g (List.replicate n ts).flatten (List.replicate n vs).flatten
  | 0 => .nil
  | n + 1 => by
    rw [List.replicate_succ, List.replicate_succ, List.flatten_cons, List.flatten_cons]
    exact h.append (Rps.repl h n)
end
/-- fields of an instance -/
inductive Rpf (K : PySem.W.Frag) (g : G) : List (String × T) → List (Str × V) → Prop
  | nil : Rpf K g [] []
  | cons {f : String} {t : T} {v : V} {fs : List (String × T)} {vs : List (Str × V)} : Rp K g t v → Rpf K g fs vs → Rpf K g ((f, t) :: fs) ((.ofString f, v) :: vs)
theorem Rpf.mono {K : PySem.W.Frag} {g g' : G} (l : GLe g g') : ∀ {fs : List (String × T)} {vs : List (Str × V)}, Rpf K g fs vs → Rpf K g' fs vs
  | _, _, .nil => .nil
  | _, _, .cons h r => .cons (h.mono l) (Rpf.mono l r)
theorem ofString_inj {s t : String} (h : Str.ofString s = Str.ofString t) : s = t := by
  rw [Str.ofString_eq_toList, Str.ofString_eq_toList] at h
  have e : s.toList.map Char.toNat = t.toList.map Char.toNat := by simpa using h
  have inj : ∀ {a b : List Char}, a.map Char.toNat = b.map Char.toNat → a = b := by
    intro a
    induction a with
    | nil => intro b h; cases b with
      | nil => rfl
      | cons => simp at h
    | cons c a ih => intro b h; cases b with
      | nil => simp at h
      | cons d b =>
        simp only [List.map_cons, List.cons.injEq] at h
        rw [ih h.2, Char.ext (UInt32.toNat_inj.mp h.1)]
  exact String.ext (inj e)
theorem ofString_iff {s t : String} : Str.ofString s = Str.ofString t ↔ s = t := ⟨ofString_inj, fun e => by rw [e]⟩
theorem strOk_of (s : String) : PySem.PyData.strOk (.ofString s) = true := by
  rw [Str.ofString_eq_toList]
  unfold PySem.PyData.strOk
  simp only [List.all_toArray, List.all_map, List.all_eq_true, Function.comp, decide_eq_true_eq]
  intro c _
  have h := c.valid
  simp only [UInt32.isValidChar, Nat.isValidChar] at h
  have : c.toNat = c.val.toNat := rfl
  omega
/-! ## the relation of a store to a heap -/
def OR (K : PySem.W.Frag) (g : G) (H : Hp) (a : Addr) : O → Prop
  | .lst ts => ∃ vs, H a = some (.lst vs) ∧ Rps K g ts vs
  | .dct false ps => ∃ kvs, H a = some (.dK kvs) ∧ Rpk K g ps kvs
  | .dct true ps => ∃ kvs, H a = some (.dT kvs) ∧ Rpt K g ps kvs
  | .lck false ps => ∃ od kvs, H a = some (.frz od (.dK kvs)) ∧ Rpk K g ps kvs
  | .lck true ps => ∃ od kvs, H a = some (.frz od (.dT kvs)) ∧ Rpt K g ps kvs
  | .obj c fs => ∃ dx vs, H a = some (.ins (He.ga K (.ofString c)) dx vs) ∧ Rpf K g fs vs
  | .dead => True
def lv (g : G) (S : Sto) (a : Addr) : Prop := ∃ (n : Nat) (o : O), S[n]? = some o ∧ o ≠ .dead ∧ g.mu[n]? = some a
structure Wd (K : PySem.W.Frag) (S : Sto) (H : Hp) (g : G) : Prop where
  len : g.mu.length = S.length
  sub : ∀ a o, g.F a = some o → H a = some o
  cell : ∀ (n : Nat) (o : O) (a : Addr), S[n]? = some o → o ≠ .dead → g.mu[n]? = some a → OR K g H a o
  off : ∀ a, lv g S a → g.F a = none
  inj : ∀ (i j : Nat) (o o' : O) (a : Addr), S[i]? = some o → o ≠ .dead → S[j]? = some o' → o' ≠ .dead → g.mu[i]? = some a → g.mu[j]? = some a → i = j
structure Ext (S : Sto) (H : Hp) (g : G) (S' : Sto) (H' : Hp) (g' : G) : Prop where
  le : GLe g g'
  fz : ∀ a o, g.F a = some o → H' a = H a
  fr : ∀ a o, H a = some o → (∀ vs, o ≠ .tup vs) → g.F a = none → ¬ lv g S a → H' a = some o ∧ g'.F a = none ∧ ¬ lv g' S' a
  lk : ∀ (n : Nat) b ps a, S[n]? = some (.lck b ps) → g.mu[n]? = some a → H' a = H a ∧ S'[n]? = some (.lck b ps)
theorem Ext.refl (S : Sto) (H : Hp) (g : G) : Ext S H g S H g := ⟨.refl g, fun _ _ _ => rfl, fun _ _ h _ f l => ⟨h, f, l⟩, fun _ _ _ _ e _ => ⟨rfl, e⟩⟩
theorem Ext.trans {S S1 S2 : Sto} {H H1 H2 : Hp} {g g1 g2 : G} (h : Ext S H g S1 H1 g1) (k : Ext S1 H1 g1 S2 H2 g2) : Ext S H g S2 H2 g2 :=
  ⟨h.le.trans k.le, fun a o e => (k.fz a o (h.le.F a o e)).trans (h.fz a o e), fun a o e nt f l => let ⟨e1, f1, l1⟩ := h.fr a o e nt f l; k.fr a o e1 nt f1 l1, fun n b ps a e m => let ⟨e1, s1⟩ := h.lk n b ps a e m; let ⟨e2, s2⟩ := k.lk n b ps a s1 (h.le.mu _ _ m); ⟨e2.trans e1, s2⟩⟩
theorem OR.mono {K : PySem.W.Frag} {g g' : G} {H H' : Hp} {a : Addr} (l : GLe g g') (e : H' a = H a) : ∀ {o : O}, OR K g H a o → OR K g' H' a o
  | .lst _, ⟨vs, h, r⟩ => ⟨vs, e.trans h, r.mono l⟩
  | .dct false _, ⟨vs, h, r⟩ => ⟨vs, e.trans h, r.mono l⟩
  | .dct true _, ⟨vs, h, r⟩ => ⟨vs, e.trans h, r.mono l⟩
  | .lck false _, ⟨od, vs, h, r⟩ => ⟨od, vs, e.trans h, r.mono l⟩
  | .lck true _, ⟨od, vs, h, r⟩ => ⟨od, vs, e.trans h, r.mono l⟩
  | .obj _ _, ⟨dx, vs, h, r⟩ => ⟨dx, vs, e.trans h, r.mono l⟩
  | .dead, _ => trivial
theorem OR.there {K : PySem.W.Frag} {g : G} {H : Hp} {a : Addr} {o : O} (h : OR K g H a o) (n : o ≠ .dead) : ∃ u, H a = some u := by
  cases o with
  | lst => obtain ⟨_, h, _⟩ := h; exact ⟨_, h⟩
  | dct b => cases b <;> (obtain ⟨_, h, _⟩ := h; exact ⟨_, h⟩)
  | lck b => cases b <;> (obtain ⟨_, _, h, _⟩ := h; exact ⟨_, h⟩)
  | obj => obtain ⟨_, _, h, _⟩ := h; exact ⟨_, h⟩
  | dead => exact absurd rfl n
section
variable {K : PySem.W.Frag} {S : Sto} {H : Hp} {g : G} {p a : Addr} {ho : HO} {n : Nat} {o o' : O}
theorem Wd.lvH (W : Wd K S H g) (h : lv g S a) : ∃ u, H a = some u := let ⟨n, o, e, d, m⟩ := h; (W.cell n o a e d m).there d
theorem Wd.FH (W : Wd K S H g) {u : HO} (h : g.F a = some u) : ∃ u, H a = some u := ⟨_, W.sub a u h⟩
def G.put (g : G) (p : Addr) (o : HO) : G := ⟨g.mu, upd g.F p o⟩
def G.snoc (g : G) (p : Addr) : G := ⟨g.mu ++ [p], g.F⟩
theorem G.le_put (h : g.F p = none) : GLe g (g.put p ho) := ⟨fun _ _ e => e, fun a o e => by show upd _ _ _ _ = _; rw [upd_ne (ne_of_none e h)]; exact e⟩
theorem G.le_snoc : GLe g (g.snoc p) := ⟨fun n a e => by show (g.mu ++ [p])[n]? = some a; rw [List.getElem?_append_left (List.getElem?_eq_some_iff.mp e).1]; exact e, fun _ _ e => e⟩
/-- a new frozen thing -/
theorem Wd.frozen (W : Wd K S H g) (hp : H p = none) : Wd K S (upd H p ho) (g.put p ho) ∧ Ext S H g S (upd H p ho) (g.put p ho) := by
  have hF : g.F p = none := by
    cases q : g.F p with
    | none => rfl
    | some u => obtain ⟨_, e⟩ := W.FH q; rw [hp] at e; cases e
  have le := G.le_put (ho := ho) hF
  have ne : ∀ {b u}, H b = some u → b ≠ p := fun e => ne_of_none e hp
  have lvn : ∀ b, lv g S b → b ≠ p := fun b h => let ⟨_, e⟩ := W.lvH h; ne e
  refine ⟨⟨W.len, fun b u e => ?_, fun n o b e d m => (W.cell n o b e d m).mono le ?_, fun b h => ?_, W.inj⟩, le, fun b u e => ?_, fun b u e _ f l => ⟨?_, ?_, l⟩, fun n b ps a e m => ⟨by obtain ⟨_, z⟩ := (W.cell n _ a e (fun z => nomatch z) m).there (fun z => nomatch z); rw [upd_ne (ne z)], e⟩⟩
  · have e' : upd g.F p ho b = some u := e
    by_cases hb : b = p
    · subst hb; rw [upd_same] at e'; cases e'; exact upd_same
    · rw [upd_ne hb] at e'; rw [upd_ne hb]; exact W.sub b u e'
  · obtain ⟨_, e⟩ := (W.cell n o b e d m).there d
    rw [upd_ne (ne e)]
  · show upd _ _ _ _ = _
    rw [upd_ne (lvn b h)]; exact W.off b h
  · obtain ⟨_, e⟩ := W.FH e
    rw [upd_ne (ne e)]
  · rw [upd_ne (ne e)]; exact e
  · show upd _ _ _ _ = _
    rw [upd_ne (ne e)]; exact f
theorem get_snoc {α : Type} {l : List α} {x y : α} {n : Nat} (h : (l ++ [x])[n]? = some y) : l[n]? = some y ∨ (n = l.length ∧ y = x) := by
  by_cases e : n < l.length
  · rw [List.getElem?_append_left e] at h; exact .inl h
  · rw [List.getElem?_append_right (by omega)] at h
    have : n - l.length = 0 := by
      cases q : n - l.length with
      | zero => rfl
      | succ k => rw [q] at h; simp at h
    rw [this] at h
    exact .inr ⟨by omega, by simpa using h.symm⟩
/-- a new handle -/
theorem Wd.alloc (W : Wd K S H g) (hp : H p = none) (hd : o ≠ .dead) (ok : OR K (g.snoc p) (upd H p ho) p o) : Wd K (S ++ [o]) (upd H p ho) (g.snoc p) ∧ Ext S H g (S ++ [o]) (upd H p ho) (g.snoc p) ∧ (g.snoc p).mu[S.length]? = some p := by
  have hF : g.F p = none := by
    cases q : g.F p with
    | none => rfl
    | some u => obtain ⟨_, e⟩ := W.FH q; rw [hp] at e; cases e
  have le := G.le_snoc (g := g) (p := p)
  have ne : ∀ {b u}, H b = some u → b ≠ p := fun e => ne_of_none e hp
  have mu_eq : ∀ {n b}, (g.snoc p).mu[n]? = some b → g.mu[n]? = some b ∨ (n = S.length ∧ b = p) := fun {n b} h => by
    rcases get_snoc h with h | ⟨h, h'⟩
    · exact .inl h
    · exact .inr ⟨by rw [← W.len]; exact h, h'⟩
  have lt : ∀ {n b}, g.mu[n]? = some b → n < S.length := fun {n b} h => by rw [← W.len]; exact (List.getElem?_eq_some_iff.mp h).1
  have ltS : ∀ {n u}, S[n]? = some u → n < S.length := fun h => (List.getElem?_eq_some_iff.mp h).1
  have case : ∀ {n u b}, (S ++ [o])[n]? = some u → (g.snoc p).mu[n]? = some b → (S[n]? = some u ∧ g.mu[n]? = some b) ∨ (n = S.length ∧ u = o ∧ b = p) := fun {n u b} h k => by
    rcases get_snoc h with h | ⟨rfl, rfl⟩
    · rcases mu_eq k with k | ⟨k, _⟩
      · exact .inl ⟨h, k⟩
      · exact absurd (ltS h) (by omega)
    · rcases mu_eq k with k | ⟨_, k⟩
      · exact absurd (lt k) (by omega)
      · exact .inr ⟨rfl, rfl, k⟩
  refine ⟨⟨by show (g.mu ++ [p]).length = _; simp [W.len], fun b u e => ?_, fun n u b e d m => ?_, fun b h => ?_, fun i j u u' b e1 d1 e2 d2 m1 m2 => ?_⟩, ⟨le, fun b u e => ?_, fun b u e _ f l => ⟨?_, f, fun ⟨n, u', e1, d1, m1⟩ => ?_⟩, fun n b ps a e m => ⟨by obtain ⟨_, z⟩ := (W.cell n _ a e (fun z => nomatch z) m).there (fun z => nomatch z); rw [upd_ne (ne z)], by rw [List.getElem?_append_left (ltS e)]; exact e⟩⟩, ?_⟩
  · obtain ⟨_, e'⟩ := W.FH e
    rw [upd_ne (ne e')]; exact W.sub b u e
  · rcases case e m with ⟨e, m⟩ | ⟨rfl, rfl, rfl⟩
    · refine (W.cell n u b e d m).mono le ?_
      obtain ⟨_, e⟩ := (W.cell n u b e d m).there d
      rw [upd_ne (ne e)]
    · exact ok
  · obtain ⟨n, u, e, d, m⟩ := h
    rcases case e m with ⟨e, m⟩ | ⟨rfl, rfl, rfl⟩
    · exact W.off b ⟨n, u, e, d, m⟩
    · exact hF
  · have fresh : ∀ {n : Nat} {u : O}, S[n]? = some u → u ≠ .dead → g.mu[n]? = some p → False := fun e d m => by
      obtain ⟨_, e⟩ := (W.cell _ _ _ e d m).there d
      rw [hp] at e; cases e
    rcases case e1 m1 with ⟨f1, n1⟩ | ⟨q1, _, r1⟩ <;> rcases case e2 m2 with ⟨f2, n2⟩ | ⟨q2, _, r2⟩
    · exact W.inj i j u u' b f1 d1 f2 d2 n1 n2
    · rw [r2] at n1; exact (fresh f1 d1 n1).elim
    · rw [r1] at n2; exact (fresh f2 d2 n2).elim
    · rw [q1, q2]
  · obtain ⟨_, e⟩ := W.FH e
    rw [upd_ne (ne e)]
  · rw [upd_ne (ne e)]; exact e
  · rcases case e1 m1 with ⟨e1, m1⟩ | ⟨rfl, rfl, rfl⟩
    · exact l ⟨n, u', e1, d1, m1⟩
    · rw [hp] at e; cases e
  · show (g.mu ++ [p])[S.length]? = some p
    rw [← W.len]; simp
theorem get_set' {S : Sto} {n m : Nat} {o u : O} (h : (S.set n o)[m]? = some u) (hn : n < S.length) : (m = n ∧ u = o) ∨ (m ≠ n ∧ S[m]? = some u) := by
  by_cases e : m = n
  · subst e
    rw [List.getElem?_set_self hn] at h
    exact .inl ⟨rfl, (Option.some.inj h).symm⟩
  · rw [List.getElem?_set_ne (Ne.symm e)] at h
    exact .inr ⟨e, h⟩
theorem Wd.wr (W : Wd K S H g) (hn : S[n]? = some o) (hd : o ≠ .dead) (hm : g.mu[n]? = some a) (hd' : o' ≠ .dead) (ok : OR K g (upd H a ho) a o') : Wd K (S.set n o') (upd H a ho) g := by
  have hl := (List.getElem?_eq_some_iff.mp hn).1
  have la : lv g S a := ⟨n, o, hn, hd, hm⟩
  have lvs : ∀ b, lv g (S.set n o') b ↔ lv g S b := fun b => by
    constructor
    · rintro ⟨m, u, e, d, mm⟩
      rcases get_set' e hl with ⟨rfl, rfl⟩ | ⟨_, e⟩
      · rw [hm] at mm; cases mm; exact la
      · exact ⟨m, u, e, d, mm⟩
    · rintro ⟨m, u, e, d, mm⟩
      by_cases q : m = n
      · subst q
        exact ⟨m, o', List.getElem?_set_self hl, hd', mm⟩
      · exact ⟨m, u, by rw [List.getElem?_set_ne (Ne.symm q)]; exact e, d, mm⟩
  have neF : ∀ {b u}, g.F b = some u → b ≠ a := fun {b u} e q => by subst q; rw [W.off b la] at e; cases e
  refine ⟨by simp [W.len], fun b u e => ?_, fun m u b e d mm => ?_, fun b h => W.off b ((lvs b).mp h), fun i j u u' b e1 d1 e2 d2 m1 m2 => ?_⟩
  · rw [upd_ne (neF e)]; exact W.sub b u e
  · rcases get_set' e hl with ⟨rfl, rfl⟩ | ⟨q, e⟩
    · rw [hm] at mm; cases mm; exact ok
    · refine (W.cell m u b e d mm).mono (.refl g) ?_
      rw [upd_ne]
      rintro rfl
      exact q (W.inj m n u o b e d hn hd mm hm)
  · rcases get_set' e1 hl with ⟨q1, _⟩ | ⟨_, f1⟩ <;> rcases get_set' e2 hl with ⟨q2, _⟩ | ⟨_, f2⟩
    · rw [q1, q2]
    · rw [q1] at m1 ⊢; exact W.inj n j o u' b hn hd f2 d2 m1 m2
    · rw [q2] at m2 ⊢; exact W.inj i n u o b f1 d1 hn hd m1 m2
    · exact W.inj i j u u' b f1 d1 f2 d2 m1 m2
/-- a handle's object is changed -/
theorem Wd.write (W : Wd K S H g) (hn : S[n]? = some o) (hd : o ≠ .dead) (hm : g.mu[n]? = some a) (hd' : o' ≠ .dead) (ok : OR K g (upd H a ho) a o') (hk : ∀ b ps, o ≠ .lck b ps := by exact fun _ _ z => nomatch z) : Wd K (S.set n o') (upd H a ho) g ∧ Ext S H g (S.set n o') (upd H a ho) g := by
  have hl := (List.getElem?_eq_some_iff.mp hn).1
  have la : lv g S a := ⟨n, o, hn, hd, hm⟩
  have lvs : ∀ b, lv g (S.set n o') b ↔ lv g S b := fun b => by
    constructor
    · rintro ⟨m, u, e, d, mm⟩
      rcases get_set' e hl with ⟨rfl, rfl⟩ | ⟨_, e⟩
      · rw [hm] at mm; cases mm; exact la
      · exact ⟨m, u, e, d, mm⟩
    · rintro ⟨m, u, e, d, mm⟩
      by_cases q : m = n
      · subst q
        exact ⟨m, o', List.getElem?_set_self hl, hd', mm⟩
      · exact ⟨m, u, by rw [List.getElem?_set_ne (Ne.symm q)]; exact e, d, mm⟩
  have neF : ∀ {b u}, g.F b = some u → b ≠ a := fun {b u} e q => by subst q; rw [W.off b la] at e; cases e
  refine ⟨⟨by simp [W.len], fun b u e => ?_, fun m u b e d mm => ?_, fun b h => W.off b ((lvs b).mp h), fun i j u u' b e1 d1 e2 d2 m1 m2 => ?_⟩, .refl g, fun b u e => ?_, fun b u e _ f l => ⟨?_, f, fun h => l ((lvs b).mp h)⟩, fun m b ps c e mm => ⟨by rw [upd_ne (fun z => by subst z; have := W.inj m n _ o c e (fun z => nomatch z) hn hd mm hm; subst this; rw [hn] at e; cases e; exact hk _ _ rfl)], by rw [List.getElem?_set_ne (fun z => by subst z; rw [hn] at e; cases e; exact hk _ _ rfl)]; exact e⟩⟩
  · rw [upd_ne (neF e)]; exact W.sub b u e
  · rcases get_set' e hl with ⟨rfl, rfl⟩ | ⟨q, e⟩
    · rw [hm] at mm; cases mm; exact ok
    · refine (W.cell m u b e d mm).mono (.refl g) ?_
      rw [upd_ne]
      rintro rfl
      exact q (W.inj m n u o b e d hn hd mm hm)
  · rcases get_set' e1 hl with ⟨q1, _⟩ | ⟨_, f1⟩ <;> rcases get_set' e2 hl with ⟨q2, _⟩ | ⟨_, f2⟩
    · rw [q1, q2]
    · rw [q1] at m1 ⊢; exact W.inj n j o u' b hn hd f2 d2 m1 m2
    · rw [q2] at m2 ⊢; exact W.inj i n u o b f1 d1 hn hd m1 m2
    · exact W.inj i j u u' b f1 d1 f2 d2 m1 m2
  · rw [upd_ne (neF e)]
  · rw [upd_ne (fun q => l (by subst q; exact la))]; exact e
/-- a handle is frozen: its object (as ho) is a value from now on -/
theorem Wd.freeze (W : Wd K S H g) (hn : S[n]? = some o) (hd : o ≠ .dead) (hm : g.mu[n]? = some a) (hk : ∀ b ps, o ≠ .lck b ps := by exact fun _ _ z => nomatch z) : Wd K (S.set n .dead) (upd H a ho) (g.put a ho) ∧ Ext S H g (S.set n .dead) (upd H a ho) (g.put a ho) := by
  have hl := (List.getElem?_eq_some_iff.mp hn).1
  have la : lv g S a := ⟨n, o, hn, hd, hm⟩
  have hF : g.F a = none := W.off a la
  have le := G.le_put (ho := ho) hF
  have case : ∀ {m : Nat} {u : O}, (S.set n .dead)[m]? = some u → u ≠ .dead → m ≠ n ∧ S[m]? = some u := fun {m u} e d => by
    rcases get_set' e hl with ⟨_, rfl⟩ | h
    · exact absurd rfl d
    · exact h
  have nea : ∀ {m : Nat} {u : O} {b : Addr}, m ≠ n → S[m]? = some u → u ≠ .dead → g.mu[m]? = some b → b ≠ a := fun {m u b} q e d mm z => by
    subst z
    exact q (W.inj m n u o b e d hn hd mm hm)
  have neF : ∀ {b u}, g.F b = some u → b ≠ a := fun {b u} e q => by subst q; rw [hF] at e; cases e
  refine ⟨⟨by show g.mu.length = _; simp [W.len], fun b u e => ?_, fun m u b e d mm => ?_, fun b h => ?_, fun i j u u' b e1 d1 e2 d2 m1 m2 => ?_⟩, le, fun b u e => ?_, fun b u e _ f l => ⟨?_, ?_, fun h => ?_⟩, fun m b ps c e mm => ⟨by rw [upd_ne (fun z => by subst z; have := W.inj m n _ o c e (fun z => nomatch z) hn hd mm hm; subst this; rw [hn] at e; cases e; exact hk _ _ rfl)], by rw [List.getElem?_set_ne (fun z => by subst z; rw [hn] at e; cases e; exact hk _ _ rfl)]; exact e⟩⟩
  · have e' : upd g.F a ho b = some u := e
    by_cases hb : b = a
    · subst hb; rw [upd_same] at e'; cases e'; exact upd_same
    · rw [upd_ne hb] at e'; rw [upd_ne hb]; exact W.sub b u e'
  · obtain ⟨q, e⟩ := case e d
    exact (W.cell m u b e d mm).mono le (by rw [upd_ne (nea q e d mm)])
  · obtain ⟨m, u, e, d, mm⟩ := h
    obtain ⟨q, e⟩ := case e d
    show upd _ _ _ _ = _
    rw [upd_ne (nea q e d mm)]
    exact W.off b ⟨m, u, e, d, mm⟩
  · obtain ⟨_, e1⟩ := case e1 d1
    obtain ⟨_, e2⟩ := case e2 d2
    exact W.inj i j u u' b e1 d1 e2 d2 m1 m2
  · rw [upd_ne (neF e)]
  · rw [upd_ne (fun q => l (by subst q; exact la))]; exact e
  · show upd _ _ _ _ = _
    rw [upd_ne (fun q => l (by subst q; exact la))]; exact f
  · obtain ⟨m, u, e, d, mm⟩ := h
    obtain ⟨_, e⟩ := case e d
    exact l ⟨m, u, e, d, mm⟩
end
end Ab

namespace Ab
open PySem PySem.Spec PyProof.Rows L2 Sp
/-! ## readings over stores -/
abbrev Slots := List (Option T)
def Sl (K : PySem.W.Frag) (g : G) (st : Slots) (σ : TSt) : Prop := st.length = σ.length ∧ ∀ (i : Nat) (t : T), st[i]? = some (some t) → ∃ v, σ[i]? = some (some v) ∧ Rp K g t v
theorem Sl.mono {K : PySem.W.Frag} {g g' : G} {st : Slots} {σ : TSt} (h : Sl K g st σ) (l : GLe g g') : Sl K g' st σ := ⟨h.1, fun i t e => let ⟨v, e1, r⟩ := h.2 i t e; ⟨v, e1, r.mono l⟩⟩
theorem Sl.set {K : PySem.W.Frag} {g : G} {st : Slots} {σ : TSt} {t : T} {v : V} (h : Sl K g st σ) (i : Nat) (r : Rp K g t v) : Sl K g (st.set i (some t)) (σ.set i (some v)) := by
  refine ⟨by simp [h.1], fun j u e => ?_⟩
  by_cases q : j = i
  · subst q
    have hl : j < st.length := by
      have := (List.getElem?_eq_some_iff.mp e).1
      simpa using this
    rw [List.getElem?_set_self hl] at e
    cases e
    exact ⟨v, List.getElem?_set_self (by rw [← h.1]; exact hl), r⟩
  · rw [List.getElem?_set_ne (Ne.symm q)] at e
    rw [List.getElem?_set_ne (Ne.symm q)]
    exact h.2 j u e
theorem Sl.unset {K : PySem.W.Frag} {g : G} {st : Slots} {σ : TSt} (h : Sl K g st σ) (i : Nat) (x : Option V) : Sl K g (st.set i none) (σ.set i x) := by
  refine ⟨by simp [h.1], fun j u e => ?_⟩
  by_cases q : j = i
  · subst q
    have hl : j < st.length := by
      have := (List.getElem?_eq_some_iff.mp e).1
      simpa using this
    rw [List.getElem?_set_self hl] at e
    cases e
  · rw [List.getElem?_set_ne (Ne.symm q)] at e
    rw [List.getElem?_set_ne (Ne.symm q)]
    exact h.2 j u e
abbrev XS := TSt → XK
def cR (K : PySem.W.Frag) (c : String) : Value := .ref (He.ga K (.ofString c))
def Post {α β : Type} (K : PySem.W.Frag) (E : XK) (S : Sto) (H : Hp) (g : G) (rel : G → α → β → Prop) (r : R α) (Q : β → Hp → Prop) : Prop := match r with
  | .ok t S' => ∀ v H' g', Wd K S' H' g' → Ext S H g S' H' g' → rel g' t v → Q v H'
  | .exc c S' => ∀ H' g', Wd K S' H' g' → Ext S H g S' H' g' → E (cR K c) none H'
  | .bad => False
abbrev bRel : G → Bool → Bool → Prop := fun _ a b => a = b
abbrev AE := Slots → Sto → R T
abbrev AT := Slots → Sto → R Bool
abbrev AA := Slots → Sto → R (List T)
def LE (K : PySem.W.Frag) (E : XS) (a : AE) : TE := fun σ H Q => ∃ st S g, Wd K S H g ∧ Sl K g st σ ∧ Post K (E σ) S H g (Rp K) (a st S) Q
def LT (K : PySem.W.Frag) (E : XS) (a : AT) : TT := fun σ H Q => ∃ st S g, Wd K S H g ∧ Sl K g st σ ∧ Post K (E σ) S H g bRel (a st S) Q
def LA (K : PySem.W.Frag) (E : XS) (a : AA) : TA := fun σ H Q => ∃ st S g, Wd K S H g ∧ Sl K g st σ ∧ Post K (E σ) S H g (Rps K) (a st S) Q
section
variable {K : PySem.W.Frag} {E : XK} {S S1 : Sto} {H H1 : Hp} {g g1 : G} {α β γ δ : Type} {rel : G → α → β → Prop} {rel1 : G → γ → δ → Prop} {Q : β → Hp → Prop} {Q1 : δ → Hp → Prop}
theorem Post.trans {r : R α} (h : Post K E S H g rel r Q) (x : Ext S H g S1 H1 g1) : Post K E S1 H1 g1 rel r Q := by
  cases r with
  | ok t S' => exact fun v H' g' w e r => h v H' g' w (x.trans e) r
  | exc c S' => exact fun H' g' w e => h H' g' w (x.trans e)
  | bad => exact h
theorem Post.bind {r : R γ} {f : γ → Sto → R α} (h : Post K E S H g rel (r.bind f) Q) (k : ∀ t S1 v H1 g1, Wd K S1 H1 g1 → Ext S H g S1 H1 g1 → rel1 g1 t v → Post K E S1 H1 g1 rel (f t S1) Q → Q1 v H1) : Post K E S H g rel1 r Q1 := by
  cases r with
  | ok t S' =>
    intro v H' g' w e r
    have h' : Post K E S H g rel (f t S') Q := h
    exact k t S' v H' g' w e r (h'.trans e)
  | exc c S' => exact h
  | bad => exact h
theorem Post.val {t : α} {v : β} (h : Post K E S H g rel (.ok t S) Q) (w : Wd K S H g) (r : rel g t v) : Q v H := h v H g w (.refl S H g) r
end
def m1 (f : T → Sto → R T) (a : AE) : AE := fun st S => (a st S).bind f
def m2 (f : T → T → Sto → R T) (a b : AE) : AE := fun st S => (a st S).bind fun x S => (b st S).bind fun y S => f x y S
def mN (f : List T → Sto → R T) (a : AA) : AE := fun st S => (a st S).bind f
def mNil : AA := fun _ S => .ok [] S
def mCons (a : AE) (r : AA) : AA := fun st S => (a st S).bind fun x S => (r st S).bind fun xs S => .ok (x :: xs) S
def mV (i : Nat) : AE := fun st S => match st[i]? with
  | some (some t) => .ok t S
  | _ => .bad
def mC (t : T) : AE := fun _ S => .ok t S
def Up1 (K : PySem.W.Frag) (f : T → Sto → R T) (r : V → Hp → VK → Prop) : Prop := ∀ {E S H g x v Q}, Wd K S H g → Rp K g x v → Post K E S H g (Rp K) (f x S) Q → r v H Q
def Up2 (K : PySem.W.Frag) (f : T → T → Sto → R T) (r : R2) : Prop := ∀ {E S H g x y v w Q}, Wd K S H g → Rp K g x v → Rp K g y w → Post K E S H g (Rp K) (f x y S) Q → r v w H Q
def UpN (K : PySem.W.Frag) (f : List T → Sto → R T) (r : List V → Hp → VK → Prop) : Prop := ∀ {E S H g xs vs Q}, Wd K S H g → Rps K g xs vs → Post K E S H g (Rp K) (f xs S) Q → r vs H Q
section
variable {X : Cx} {K : PySem.W.Frag} {E : XS} {e a b : Expr} {es : List Expr} {pos : Pos} {ea eb : AE} {ra : AA} {r : R2}
theorem PE.weak {t t' : TE} (h : PE X e t) (k : ∀ σ H Q, t' σ H Q → t σ H Q) : PE X e t' := ⟨fun pins s σ H Q I q => h.run pins s σ H Q I (k σ H Q q)⟩
theorem PT.weak {t t' : TT} (h : PT X e t) (k : ∀ σ H Q, t' σ H Q → t σ H Q) : PT X e t' := ⟨fun pins s σ H Q I q => h.run pins s σ H Q I (k σ H Q q)⟩
theorem PW.weak {t t' : TT} (h : PW X e t) (k : ∀ σ H Q, t' σ H Q → t σ H Q) : PW X e t' := ⟨fun wh pins s σ H Q I q => h.run wh pins s σ H Q I (k σ H Q q)⟩
theorem PA.weak {t t' : TA} (h : PA X es t) (k : ∀ σ H Q, t' σ H Q → t σ H Q) : PA X es t' := ⟨fun po pins s σ H Q I q => h.run po pins s σ H Q I (k σ H Q q)⟩
theorem LE.bind {α β : Type} {rel : G → α → β → Prop} {Q : β → Hp → Prop} {Q1 : VK} {f : T → Slots → Sto → R α} {σ : TSt} {H : Hp} {st : Slots} {S : Sto} {g : G} (w : Wd K S H g) (sl : Sl K g st σ) (h : Post K (E σ) S H g rel ((ea st S).bind fun t S => f t st S) Q)
    (k : ∀ t S1 v H1 g1, Wd K S1 H1 g1 → Sl K g1 st σ → Ext S H g S1 H1 g1 → Rp K g1 t v → Post K (E σ) S1 H1 g1 rel (f t st S1) Q → Q1 v H1) : LE K E ea σ H Q1 :=
  ⟨st, S, g, w, sl, h.bind (rel1 := Rp K) fun t S1 v H1 g1 w1 x r p => k t S1 v H1 g1 w1 (sl.mono x.le) x r p⟩
theorem LT.bind {α β : Type} {rel : G → α → β → Prop} {Q : β → Hp → Prop} {Q1 : Bool → Hp → Prop} {ea : AT} {f : Bool → Slots → Sto → R α} {σ : TSt} {H : Hp} {st : Slots} {S : Sto} {g : G} (w : Wd K S H g) (sl : Sl K g st σ) (h : Post K (E σ) S H g rel ((ea st S).bind fun t S => f t st S) Q)
    (k : ∀ t S1 H1 g1, Wd K S1 H1 g1 → Sl K g1 st σ → Ext S H g S1 H1 g1 → Post K (E σ) S1 H1 g1 rel (f t st S1) Q → Q1 t H1) : LT K E ea σ H Q1 :=
  ⟨st, S, g, w, sl, h.bind (rel1 := bRel) fun t S1 v H1 g1 w1 x r p => by cases (show t = v from r); exact k t S1 H1 g1 w1 (sl.mono x.le) x p⟩
theorem LA.bind {α β : Type} {rel : G → α → β → Prop} {Q : β → Hp → Prop} {Q1 : List V → Hp → Prop} {f : List T → Slots → Sto → R α} {σ : TSt} {H : Hp} {st : Slots} {S : Sto} {g : G} (w : Wd K S H g) (sl : Sl K g st σ) (h : Post K (E σ) S H g rel ((ra st S).bind fun t S => f t st S) Q)
    (k : ∀ t S1 v H1 g1, Wd K S1 H1 g1 → Sl K g1 st σ → Ext S H g S1 H1 g1 → Rps K g1 t v → Post K (E σ) S1 H1 g1 rel (f t st S1) Q → Q1 v H1) : LA K E ra σ H Q1 :=
  ⟨st, S, g, w, sl, h.bind (rel1 := Rps K) fun t S1 v H1 g1 w1 x r p => k t S1 v H1 g1 w1 (sl.mono x.le) x r p⟩
/-! names, constants, arguments -/
theorem aV (i : Nat) {x : Str} {pos : Pos} (hN : X.N[i]? = some x := by rfl) (hv : Vis X.env.scope x := by first | exact .inl rfl | exact .inr (.inl rfl) | exact .inr (.inr rfl)) (hd : (x == ("__debug__" : Str)) = false := by decide) (hcd : (x == ("__classdict__" : Str)) = false := by decide) : PE X (.Name x pos) (LE K E (mV i)) :=
  PE.weak (pe_var hN hv hd hcd) fun σ H Q ⟨st, S, g, w, sl, p⟩ => by
    unfold mV at p
    split at p
    · rename_i t e
      obtain ⟨v, e1, r⟩ := sl.2 i t e
      exact ⟨v, e1, p.val w r⟩
    · exact p.elim
theorem aC {t : T} {v : V} (h : PE X e (tC v)) (r : ∀ g, Rp K g t v) : PE X e (LE K E (mC t)) := PE.weak h fun σ H Q ⟨st, S, g, w, sl, p⟩ => p.val w (r g)
theorem aInt {i j} : PE X (.Constant (.int i) j pos) (LE K E (mC (.int i))) := aC pe_int fun _ => .int i
theorem aBl {i j} : PE X (.Constant (.bool i) j pos) (LE K E (mC (.bl i))) := aC pe_bl fun _ => .bl i
theorem aNon {j} : PE X (.Constant .none j pos) (LE K E (mC .non)) := aC pe_non fun _ => .non
theorem aStr {x j} {s : String} (h : x = Str.ofString s := by rfl) : PE X (.Constant (.str x) j pos) (LE K E (mC (.str s))) := by subst h; exact aC pe_str fun _ => .str s
theorem aGlob {x : Str} {t : T} {v : V} (h : PE X (.Name x pos) (tC v)) (r : ∀ g, Rp K g t v) : PE X (.Name x pos) (LE K E (mC t)) := aC h r
theorem aNil : PA X [] (LA K E mNil) := PA.weak pa_nil fun σ H Q ⟨st, S, g, w, sl, p⟩ => p.val (v := []) w .nil
theorem aCons (ha : PE X e (LE K E ea)) (hr : PA X es (LA K E ra)) (hs : starEach (e :: es) X.env = (false, eval e X.env) :: starEach es X.env := by rfl) : PA X (e :: es) (LA K E (mCons ea ra)) :=
  PA.weak (pa_cons ha hr hs) fun σ H Q ⟨st, S, g, w, sl, p⟩ => LE.bind (f := fun x st S => (ra st S).bind fun xs S => .ok (x :: xs) S) w sl p fun t S1 v H1 g1 w1 sl1 x1 r1 p1 =>
    LA.bind (f := fun xs _ S => .ok (t :: xs) S) w1 sl1 p1 fun ts S2 vs H2 g2 w2 sl2 x2 r2 p2 => p2.val (v := v :: vs) w2 (.cons (r1.mono x2.le) r2)
/-! operators -/
theorem LE.op1 {f : T → Sto → R T} {r : V → Hp → VK → Prop} (u : Up1 K f r) {σ H Q} (h : LE K E (m1 f ea) σ H Q) : LE K E ea σ H fun x H1 => r x H1 Q :=
  let ⟨st, S, g, w, sl, p⟩ := h
  LE.bind (f := fun x _ S => f x S) w sl p fun t S1 v H1 g1 w1 sl1 x1 r1 p1 => u w1 r1 p1
theorem LE.op2 {f : T → T → Sto → R T} (u : Up2 K f r) {σ H Q} (h : LE K E (m2 f ea eb) σ H Q) : LE K E ea σ H fun x H1 => LE K E eb σ H1 fun y H2 => r x y H2 Q :=
  let ⟨st, S, g, w, sl, p⟩ := h
  LE.bind (f := fun x st S => (eb st S).bind fun y S => f x y S) w sl p fun t S1 v H1 g1 w1 sl1 x1 r1 p1 =>
    LE.bind (f := fun y _ S => f t y S) w1 sl1 p1 fun t2 S2 v2 H2 g2 w2 sl2 x2 r2 p2 => u w2 (r1.mono x2.le) r2 p2
theorem LA.opN {f : List T → Sto → R T} {r : List V → Hp → VK → Prop} (u : UpN K f r) {σ H Q} (h : LE K E (mN f ra) σ H Q) : LA K E ra σ H fun x H1 => r x H1 Q :=
  let ⟨st, S, g, w, sl, p⟩ := h
  LA.bind (f := fun x _ S => f x S) w sl p fun t S1 v H1 g1 w1 sl1 x1 r1 p1 => u w1 r1 p1
theorem aOp {op : Operator} {f : T → T → Sto → R T} (u : Up2 K f r) (ho : OpR X (binaryOp op) r) (ha : PE X a (LE K E ea)) (hb : PE X b (LE K E eb)) : PE X (.BinOp a op b pos) (LE K E (m2 f ea eb)) :=
  PE.weak (pe_op ho ha hb) fun _ _ _ h => LE.op2 u h
theorem aUn {op : UnaryOp} {f : T → Sto → R T} {r : V → Hp → VK → Prop} (u : Up1 K f r) (ho : UnR X (unaryOp op) r) (ha : PE X a (LE K E ea)) : PE X (.UnaryOp op a pos) (LE K E (m1 f ea)) :=
  PE.weak (pe_un ho ha) fun _ _ _ h => LE.op1 u h
theorem aCmp {op : CmpOp} {f : T → T → Sto → R T} (u : Up2 K f r) (ho : OpR X (compareOp op) r) (ha : PE X a (LE K E ea)) (hb : PE X b (LE K E eb)) (hm : behindInMarks op b = false) : PE X (.Compare a [op] [b] pos) (LE K E (m2 f ea eb)) :=
  PE.weak (pe_cmpR ho ha hb hm) fun _ _ _ h => LE.op2 u h
theorem or_op {X : Cx} {f : Value → Value → Sem Value} {r r' : R2} (h : OpR X f r) (h' : OpR X f r') : OpR X f fun x y H Q => r x y H Q ∨ r' x y H Q :=
  fun pins s σ H x y v u Q I rx ry k => k.elim (h pins s σ H x y v u Q I rx ry) (h' pins s σ H x y v u Q I rx ry)
end
/-! what the operators do -/
def opAdd : T → T → Sto → R T
  | .int i, .int j, S => .ok (.int (i + j)) S
  | .tup a, .tup b, S => if a.length + b.length ≤ sizeLine then .ok (.tup (a ++ b)) S else .bad
  | .lst a, .lst b, S => if a.length + b.length ≤ sizeLine then .ok (.lst (a ++ b)) S else .bad
  | .ref n, .lst b, S => match S[n]? with
    | some (.lst a) => if a.length + b.length ≤ sizeLine then .ok (.lst (a ++ b)) S else .bad
    | _ => .bad
  | .lst a, .ref n, S => match S[n]? with
    | some (.lst b) => if a.length + b.length ≤ sizeLine then .ok (.lst (a ++ b)) S else .bad
    | _ => .bad
  | _, _, _ => .bad
def opSub : T → T → Sto → R T
  | .int i, .int j, S => .ok (.int (i - j)) S
  | _, _, _ => .bad
open Classical in
noncomputable def opMul : T → T → Sto → R T
  | .int i, .int j, S => if CMul i j then .ok (.int (i * j)) S else .bad
  | .lst a, .int k, S => if -(2 ^ 63) ≤ k ∧ k < 2 ^ 63 ∧ a.length * k.toNat ≤ sizeLine then .ok (.lst (List.replicate k.toNat a).flatten) S else .bad
  | _, _, _ => .bad
open Classical in
noncomputable def opDiv : T → T → Sto → R T
  | .int i, .int j, S => if CDiv i j then .ok (.int (i / j)) S else .bad
  | _, _, _ => .bad
def opMod : T → T → Sto → R T
  | .int i, .int j, S => if 0 < j then .ok (.int (i % j)) S else .bad
  | _, _, _ => .bad
open Classical in
noncomputable def opPow : T → T → Sto → R T
  | .int i, .int j, S => if CPow i j then .ok (.int (i ^ j.toNat)) S else .bad
  | _, _, _ => .bad
def opNeg : T → Sto → R T
  | .int i, S => .ok (.int (-i)) S
  | _, _ => .bad
def opLt : T → T → Sto → R T
  | .int i, .int j, S => .ok (.bl (decide (i < j))) S
  | _, _, _ => .bad
def opLe : T → T → Sto → R T
  | .int i, .int j, S => .ok (.bl (decide (i ≤ j))) S
  | _, _, _ => .bad
def opGt : T → T → Sto → R T
  | .int i, .int j, S => .ok (.bl (decide (j < i))) S
  | _, _, _ => .bad
def opGe : T → T → Sto → R T
  | .int i, .int j, S => .ok (.bl (decide (j ≤ i))) S
  | _, _, _ => .bad
section
variable {K : PySem.W.Frag} {X : Cx}
theorem Rp.lstH {g : G} {S : Sto} {H : Hp} {ts : List T} {v : V} (r : Rp K g (.lst ts) v) (w : Wd K S H g) : ∃ a vs, v = .ref a ∧ H a = some (.lst vs) ∧ Rps K g ts vs := by
  cases r with
  | lst h r =>
    exact ⟨_, _, rfl, w.sub _ _ h, r⟩
theorem Rp.tupH {g : G} {S : Sto} {H : Hp} {ts : List T} {v : V} (r : Rp K g (.tup ts) v) (w : Wd K S H g) : ∃ a vs, v = .ref a ∧ SqT K H a vs ∧ Rps K g ts vs := by
  cases r with
  | tup h k r =>
    refine ⟨_, _, rfl, ?_, r⟩
    exact SqT.sub h w.sub
theorem Rp.tupkH {g : G} {S : Sto} {H : Hp} {ts : List T} {v : V} (r : Rp K g (.tupk ts) v) (w : Wd K S H g) : ∃ a vs, v = .ref a ∧ SqT K H a vs ∧ Rps K g ts vs := by
  cases r with
  | tupk h r =>
    refine ⟨_, _, rfl, ?_, r⟩
    exact SqT.sub h w.sub
theorem Rp.scrH {g : G} {S : Sto} {H : Hp} {ts : List T} {v : V} (r : Rp K g (.scr ts) v) (w : Wd K S H g) : ∃ a vs, v = .ref a ∧ SqL K H a vs ∧ Rps K g ts vs := by
  cases r with
  | scr h r =>
    refine ⟨_, _, rfl, ?_, r⟩
    exact SqL.sub h w.sub
theorem Rp.refH {g : G} {S : Sto} {H : Hp} {n : Nat} {o : O} {v : V} (r : Rp K g (.ref n) v) (w : Wd K S H g) (e : S[n]? = some o) (d : o ≠ .dead) : ∃ a, v = .ref a ∧ g.mu[n]? = some a ∧ OR K g H a o := by
  cases r with
  | ref m => exact ⟨_, rfl, m, w.cell n o _ e d m⟩
/-- a frozen value is made -/
theorem Post.newL {E : XK} {S : Sto} {H : Hp} {g : G} {ts : List T} {vs : List V} {Q : VK} (h : Post K E S H g (Rp K) (.ok (.lst ts) S) Q) (w : Wd K S H g) (r : Rps K g ts vs) : ∀ p, H p = none → Q (.ref p) (upd H p (.lst vs)) := fun p hp =>
  let ⟨w', x⟩ := w.frozen (ho := .lst vs) hp
  h _ _ _ w' x (.lst (by show upd _ _ _ _ = _; rw [upd_same]) (r.mono x.le))
theorem Post.newT {E : XK} {S : Sto} {H : Hp} {g : G} {ts : List T} {vs : List V} {Q : VK} (h : Post K E S H g (Rp K) (.ok (.tup ts) S) Q) (w : Wd K S H g) (r : Rps K g ts vs) : ∀ p, H p = none → Q (.ref p) (upd H p (.tup vs)) := fun p hp =>
  let ⟨w', x⟩ := w.frozen (ho := .tup vs) hp
  have e : upd g.F p (.tup vs) p = some (.tup vs) := upd_same
  h _ _ _ w' x (.tup (.inl (.inl e)) (fun _ => e) (r.mono x.le))
def rAddU (K : PySem.W.Frag) : R2 := fun x y H Q => (rI0 (fun i j => .int (i + j)) x y H Q ∨ rCatA K x y H Q) ∨ rCat x y H Q
theorem op_addU : OpR X (binaryOp .Add) (rAddU X.K) := or_op (or_op L2.op_add op_catA) op_cat
theorem op_addUK (hK : X.K = K := by rfl) : OpR X (binaryOp .Add) (rAddU K) := by subst hK; exact op_addU
theorem up_add : Up2 K opAdd (rAddU K) := by
  intro E S H g x y v w Q W rx ry p
  unfold opAdd at p
  split at p
  · cases rx; cases ry; exact .inl (.inl ⟨_, _, rfl, rfl, p.val W (.int _)⟩)
  · split at p
    · rename_i hl
      have rx0 := rx
      have ry0 := ry
      obtain ⟨a, vs, rfl, h1, r1⟩ := rx.tupH W
      obtain ⟨b, ws, rfl, h2, r2⟩ := ry.tupH W
      refine .inl (.inr ⟨a, b, vs, ws, rfl, rfl, h1, h2, by rw [← r1.length, ← r2.length]; exact hl, fun e => ?_, fun _ e => ?_, fun _ _ => p.newT W (r1.append r2)⟩)
      · subst e
        cases r1
        exact p.val W ry0
      · subst e
        cases r2
        rw [List.append_nil] at p
        exact p.val W rx0
    · exact p.elim
  · split at p
    · rename_i hl
      obtain ⟨a, vs, rfl, h1, r1⟩ := rx.lstH W
      obtain ⟨b, ws, rfl, h2, r2⟩ := ry.lstH W
      exact .inr ⟨a, b, vs, ws, rfl, rfl, h1, h2, by rw [← r1.length, ← r2.length]; exact hl, p.newL W (r1.append r2)⟩
    · exact p.elim
  · split at p
    · rename_i e
      split at p
      · rename_i hl
        obtain ⟨a, rfl, m, vs, h1, r1⟩ := rx.refH W e (fun z => nomatch z)
        obtain ⟨b, ws, rfl, h2, r2⟩ := ry.lstH W
        exact .inr ⟨a, b, vs, ws, rfl, rfl, h1, h2, by rw [← r1.length, ← r2.length]; exact hl, p.newL W (r1.append r2)⟩
      · exact p.elim
    · exact p.elim
  · split at p
    · rename_i e
      split at p
      · rename_i hl
        obtain ⟨a, vs, rfl, h1, r1⟩ := rx.lstH W
        obtain ⟨b, rfl, m, ws, h2, r2⟩ := ry.refH W e (fun z => nomatch z)
        exact .inr ⟨a, b, vs, ws, rfl, rfl, h1, h2, by rw [← r1.length, ← r2.length]; exact hl, p.newL W (r1.append r2)⟩
      · exact p.elim
    · exact p.elim
  · exact p.elim
theorem up_sub : Up2 K opSub (rI0 fun i j => .int (i - j)) := by
  intro E S H g x y v w Q W rx ry p
  unfold opSub at p
  split at p
  · cases rx; cases ry; exact ⟨_, _, rfl, rfl, p.val W (.int _)⟩
  · exact p.elim
theorem up_div : Up2 K opDiv (rI CDiv fun i j => .int (i / j)) := by
  intro E S H g x y v w Q W rx ry p
  unfold opDiv at p
  split at p
  · split at p
    · rename_i c; cases rx; cases ry; exact ⟨_, _, rfl, rfl, c, p.val W (.int _)⟩
    · exact p.elim
  · exact p.elim
theorem up_mod : Up2 K opMod (rI (fun _ j => 0 < j) fun i j => .int (i % j)) := by
  intro E S H g x y v w Q W rx ry p
  unfold opMod at p
  split at p
  · split at p
    · rename_i c; cases rx; cases ry; exact ⟨_, _, rfl, rfl, c, p.val W (.int _)⟩
    · exact p.elim
  · exact p.elim
theorem up_pow : Up2 K opPow (rI CPow fun i j => .int (i ^ j.toNat)) := by
  intro E S H g x y v w Q W rx ry p
  unfold opPow at p
  split at p
  · split at p
    · rename_i c; cases rx; cases ry; exact ⟨_, _, rfl, rfl, c, p.val W (.int _)⟩
    · exact p.elim
  · exact p.elim
def rMulU : R2 := fun x y H Q => rI CMul (fun i j => .int (i * j)) x y H Q ∨ rRep x y H Q
theorem op_mulU : OpR X (binaryOp .Mult) rMulU := or_op L2.op_mul op_rep
theorem up_mul : Up2 K opMul rMulU := by
  intro E S H g x y v w Q W rx ry p
  unfold opMul at p
  split at p
  · split at p
    · rename_i c; cases rx; cases ry; exact .inl ⟨_, _, rfl, rfl, c, p.val W (.int _)⟩
    · exact p.elim
  · split at p
    · rename_i c
      obtain ⟨a, vs, rfl, h1, r1⟩ := rx.lstH W
      cases ry
      exact .inr ⟨a, _, vs, rfl, rfl, h1, c.1, c.2.1, by rw [← r1.length]; exact c.2.2, p.newL W (r1.repl _)⟩
    · exact p.elim
  · exact p.elim
theorem up_neg : Up1 K opNeg (rU fun i => .int (-i)) := by
  intro E S H g x v Q W rx p
  unfold opNeg at p
  split at p
  · cases rx; exact ⟨_, rfl, p.val W (.int _)⟩
  · exact p.elim
theorem up_lt : Up2 K opLt (rI0 fun i j => .bl (decide (i < j))) := by
  intro E S H g x y v w Q W rx ry p
  unfold opLt at p
  split at p
  · cases rx; cases ry; exact ⟨_, _, rfl, rfl, p.val W (.bl _)⟩
  · exact p.elim
theorem up_le : Up2 K opLe (rI0 fun i j => .bl (decide (i ≤ j))) := by
  intro E S H g x y v w Q W rx ry p
  unfold opLe at p
  split at p
  · cases rx; cases ry; exact ⟨_, _, rfl, rfl, p.val W (.bl _)⟩
  · exact p.elim
theorem up_gt : Up2 K opGt (rI0 fun i j => .bl (decide (j < i))) := by
  intro E S H g x y v w Q W rx ry p
  unfold opGt at p
  split at p
  · cases rx; cases ry; exact ⟨_, _, rfl, rfl, p.val W (.bl _)⟩
  · exact p.elim
theorem up_ge : Up2 K opGe (rI0 fun i j => .bl (decide (j ≤ i))) := by
  intro E S H g x y v w Q W rx ry p
  unfold opGe at p
  split at p
  · cases rx; cases ry; exact ⟨_, _, rfl, rfl, p.val W (.bl _)⟩
  · exact p.elim
end
end Ab

namespace Ab
open PySem PySem.Spec PyProof.Rows L2 Sp
/-! ## data: ==, in -/
mutual
def toD : T → PyData
  | .non => .none
  | .bl b => .bool b
  | .int i => .int i
  | .str s => .str (.ofString s)
  | .tup l => .tuple (toDs l)
  | .tupk l => .tuple (toDs l)
  | .lst l => .list (toDs l)
  | .scr l => .list (toDs l)
  | .dct _ _ => .none
  | .ref _ => .none
  | .ty _ => .none
  | .con _ => .none
def toDs : List T → List PyData
  | [] => []
  | t :: ts => toD t :: toDs ts
end
mutual
/-- data: no dict, no handle -/
def dat : T → Bool
  | .non => true
  | .bl _ => true
  | .int _ => true
  | .str _ => true
  | .tup l => dats l
  | .tupk l => dats l
  | .lst l => dats l
  | .scr l => dats l
  | .dct _ _ => false
  | .ref _ => false
  | .ty _ => false
  | .con _ => false
def dats : List T → Bool
  | [] => true
  | t :: ts => dat t && dats ts
end
def eqT (t u : T) : Bool := PyData.eqv (toD t) (toD u)
def dep (t : T) : Nat := (toD t).depth
def deps (ts : List T) : Nat := PyData.depthAll (toDs ts)
theorem toDs_map : ∀ ts : List T, toDs ts = ts.map toD
  | [] => rfl
  | t :: ts => by rw [toDs, toDs_map ts]; rfl
theorem dats_all : ∀ ts : List T, dats ts = ts.all dat
  | [] => rfl
  | t :: ts => by rw [dats, dats_all ts]; rfl
mutual
theorem canLay_toD : ∀ t : T, (toD t).canLay0 = true
  | .non => rfl
  | .bl _ => rfl
  | .int _ => rfl
  | .str s => strOk_of s
  | .tup l => by simp only [toD, PyData.canLay0]; exact canLay_toDs l
  | .tupk l => by simp only [toD, PyData.canLay0]; exact canLay_toDs l
  | .lst l => by simp only [toD, PyData.canLay0]; exact canLay_toDs l
  | .scr l => by simp only [toD, PyData.canLay0]; exact canLay_toDs l
  | .dct _ _ => rfl
  | .ref _ => rfl
  | .ty _ => rfl
  | .con _ => rfl
theorem canLay_toDs : ∀ ts : List T, PyData.canLayAll0 (toDs ts) = true
  | [] => rfl
  | t :: ts => by simp only [toDs, PyData.canLayAll0, canLay_toD t, canLay_toDs ts, Bool.and_self]
end
section
variable {K : PySem.W.Frag} {S : Sto} {H : Hp} {g : G}
/-! a handle's value, looked through -/
def rsA (f : T → T) (S : Sto) : T → T
  | .ref n => match S[n]? with
    | some (.lst l) => .lst (l.map f)
    | _ => .ref n
  | .tup l => .tup (l.map f)
  | .lst l => .lst (l.map f)
  | t => t
def rs : Nat → Sto → T → T
  | 0, _, t => t
  | k + 1, S, t => rsA (rs k S) S t
def vw (S : Sto) (t : T) : T := if dat t = true then t else rs 4 S t
mutual
inductive Rh (K : PySem.W.Frag) (H : Hp) : T → V → Prop
  | non : Rh K H .non .non
  | bl (b : Bool) : Rh K H (.bl b) (.bl b)
  | int (i : Int) : Rh K H (.int i) (.int i)
  | str (s : String) : Rh K H (.str s) (.str (.ofString s))
  | tup {ts : List T} {a : Addr} {vs : List V} : SqT K H a vs → Rhs K H ts vs → Rh K H (.tup ts) (.ref a)
  | tupk {ts : List T} {a : Addr} {vs : List V} : SqT K H a vs → Rhs K H ts vs → Rh K H (.tupk ts) (.ref a)
  | lst {ts : List T} {a : Addr} {vs : List V} : SqL K H a vs → Rhs K H ts vs → Rh K H (.lst ts) (.ref a)
  | scr {ts : List T} {a : Addr} {vs : List V} : SqL K H a vs → Rhs K H ts vs → Rh K H (.scr ts) (.ref a)
  | oth {t : T} {v : V} : dat t = false → Rh K H t v
inductive Rhs (K : PySem.W.Frag) (H : Hp) : List T → List V → Prop
  | nil : Rhs K H [] []
  | cons {t : T} {ts : List T} {v : V} {vs : List V} : Rh K H t v → Rhs K H ts vs → Rhs K H (t :: ts) (v :: vs)
end
mutual
theorem Rh.dp : ∀ {t : T} {v : V}, Rh K H t v → dat t = true → Dp K H v (toD t)
  | _, _, .non, _ => .non
  | _, _, .bl b, _ => .bl b
  | _, _, .int i, _ => .int i
  | _, _, .str s, _ => .str _
  | _, _, .tup h r, d => by rw [toD]; exact .tup h (Rhs.dp r (by simpa [dat] using d))
  | _, _, .tupk h r, d => by rw [toD]; exact .tup h (Rhs.dp r (by simpa [dat] using d))
  | _, _, .lst h r, d => by rw [toD]; exact .lst h (Rhs.dp r (by simpa [dat] using d))
  | _, _, .scr h r, d => by rw [toD]; exact .lst h (Rhs.dp r (by simpa [dat] using d))
  | _, _, .oth h, d => by rw [h] at d; cases d
theorem Rhs.dp : ∀ {ts : List T} {vs : List V}, Rhs K H ts vs → dats ts = true → DpAll K H vs (toDs ts)
  | _, _, .nil, _ => .nil
  | t :: ts, _, .cons h r, d => by
    have d' : dat t = true ∧ dats ts = true := by simpa [dats] using d
    exact .cons (Rh.dp h d'.1) (Rhs.dp r d'.2)
end
theorem SqT.wd (w : Wd K S H g) {a : Addr} {vs : List V} (h : SqT K g.F a vs) : SqT K H a vs := SqT.sub h w.sub
theorem SqL.wd (w : Wd K S H g) {a : Addr} {vs : List V} (h : SqL K g.F a vs) : SqL K H a vs := SqL.sub h w.sub
theorem lst_wd (w : Wd K S H g) {a : Addr} {vs : List V} (h : g.F a = some (.lst vs)) : H a = some (.lst vs) := w.sub _ _ h
theorem tup_wd (w : Wd K S H g) {a : Addr} {vs : List V} (h : g.F a = some (.tup vs)) : H a = some (.tup vs) := w.sub _ _ h
mutual
theorem Rp.rh0 (w : Wd K S H g) : ∀ {t : T} {v : V}, Rp K g t v → Rh K H t v
  | _, _, .non => .non
  | _, _, .bl b => .bl b
  | _, _, .int i => .int i
  | _, _, .str s => .str _
  | _, _, .tup h k r => .tup (SqT.wd w h) (Rps.rh0 w r)
  | _, _, .tupk h r => .tupk (SqT.wd w h) (Rps.rh0 w r)
  | _, _, .lst h r => .lst (SqL.of (lst_wd w h)) (Rps.rh0 w r)
  | _, _, .scr h r => .scr (SqL.wd w h) (Rps.rh0 w r)
  | _, _, .ty _ => .oth rfl
  | _, _, .con _ => .oth rfl
  | _, _, .ref _ => .oth rfl
  | _, _, .dct _ _ => .oth rfl
  | _, _, .dctT _ _ => .oth rfl
theorem Rps.rh0 (w : Wd K S H g) : ∀ {ts : List T} {vs : List V}, Rps K g ts vs → Rhs K H ts vs
  | _, _, .nil => .nil
  | _, _, .cons h r => .cons (Rp.rh0 w h) (Rps.rh0 w r)
end
theorem Rps.mapR {f : T → T} (hf : ∀ {t v}, Rp K g t v → Rh K H (f t) v) : ∀ {ts : List T} {vs : List V}, Rps K g ts vs → Rhs K H (ts.map f) vs
  | _, _, .nil => .nil
  | _, _, .cons h r => .cons (hf h) (Rps.mapR hf r)
theorem Rp.rs (w : Wd K S H g) : ∀ (k : Nat) {t : T} {v : V}, Rp K g t v → Rh K H (rs k S t) v
  | 0, _, _, h => h.rh0 w
  | k + 1, t, v, h => by
    have ih := fun {t v} (h : Rp K g t v) => Rp.rs w k h
    cases h with
    | ref m =>
      rename_i n a
      show Rh K H (match S[n]? with
        | some (.lst l) => .lst (l.map (Ab.rs k S))
        | _ => .ref n) _
      split
      · rename_i l e
        obtain ⟨vs, h1, r1⟩ := w.cell n _ _ e (fun z => nomatch z) m
        exact .lst (SqL.of h1) (r1.mapR ih)
      · exact .oth rfl
    | tup h k r => exact .tup (SqT.wd w h) (r.mapR ih)
    | lst h r => exact .lst (SqL.of (lst_wd w h)) (r.mapR ih)
    | non => exact .non
    | bl b => exact .bl b
    | int i => exact .int i
    | str s => exact .str s
    | tupk h r => exact .tupk (SqT.wd w h) (r.rh0 w)
    | scr h r => exact .scr (SqL.wd w h) (r.rh0 w)
    | ty _ => exact .oth rfl
    | con _ => exact .oth rfl
    | dct _ _ => exact .oth rfl
    | dctT _ _ => exact .oth rfl
theorem Rp.vw (w : Wd K S H g) {t : T} {v : V} (h : Rp K g t v) (d : dat (vw S t) = true) : Dp K H v (toD (vw S t)) := by
  unfold Ab.vw at d ⊢
  split
  · exact (h.rh0 w).dp (by assumption)
  · rename_i c
    rw [if_neg c] at d
    exact (h.rs w 4).dp d
end
def opEq (x y : T) (S : Sto) : R T := if dat (vw S x) = true ∧ dat (vw S y) = true ∧ (dep (vw S x) ≤ 60 ∨ dep (vw S y) ≤ 60) then .ok (.bl (eqT (vw S x) (vw S y))) S else .bad
def opNe (x y : T) (S : Sto) : R T := if dat (vw S x) = true ∧ dat (vw S y) = true ∧ (dep (vw S x) ≤ 60 ∨ dep (vw S y) ≤ 60) then .ok (.bl (!eqT (vw S x) (vw S y))) S else .bad
def itemsOf : T → Option (List T)
  | .tup l => some l
  | .tupk l => some l
  | .lst l => some l
  | .scr l => some l
  | _ => none
def opIn (x y : T) (S : Sto) : R T := match itemsOf (vw S y) with
  | some l => if dat (vw S x) = true ∧ dats l = true ∧ (dep (vw S x) ≤ 60 ∨ deps l ≤ 60) then .ok (.bl (l.any fun z => eqT z (vw S x))) S else .bad
  | none => .bad
def opNin (x y : T) (S : Sto) : R T := match itemsOf (vw S y) with
  | some l => if dat (vw S x) = true ∧ dats l = true ∧ (dep (vw S x) ≤ 60 ∨ deps l ≤ 60) then .ok (.bl (!l.any fun z => eqT z (vw S x))) S else .bad
  | none => .bad
def rEqM (K : PySem.W.Frag) (ng : Bool) : R2 := fun x y H Q => ∃ d e, Dp K H x d ∧ Dp K H y e ∧ d.canLay0 = true ∧ e.canLay0 = true ∧ min d.depth e.depth ≤ 60 ∧ Q (.bl (if ng then !PyData.eqv d e else PyData.eqv d e)) H
def rInM (K : PySem.W.Frag) (ng : Bool) : R2 := fun x y H Q => ∃ d ds, Dp K H x d ∧ (Dp K H y (.list ds) ∨ Dp K H y (.tuple ds)) ∧ d.canLay0 = true ∧ PyData.canLayAll0 ds = true ∧ min (PyData.depthAll ds) d.depth ≤ 60 ∧ Q (.bl (if ng then !ds.any fun z => PyData.eqv z d else ds.any fun z => PyData.eqv z d)) H
section
variable {X : Cx} {K : PySem.W.Frag}
theorem op_eqM (hu : X.A.units + 64 < cLine) (hK : X.K = K := by rfl) : OpR X (compareOp .Eq) (rEqM K false) := by
  subst hK
  intro pins s σ H x y v u Q I rx ry h
  obtain ⟨d, e, hd, he, sd, se, m, q⟩ := h
  obtain ⟨as, r1⟩ := Dp.reads I d x v hd rx
  obtain ⟨bs, r2⟩ := Dp.reads I e y u he ry
  exact SeqAt.compareEq_reads r1 r2 sd se (by omega) ⟨.bl _, H, I, rfl, q⟩
theorem op_neM (hu : X.A.units + 64 < cLine) (hK : X.K = K := by rfl) : OpR X (compareOp .NotEq) (rEqM K true) := by
  subst hK
  intro pins s σ H x y v u Q I rx ry h
  obtain ⟨d, e, hd, he, sd, se, m, q⟩ := h
  obtain ⟨as, r1⟩ := Dp.reads I d x v hd rx
  obtain ⟨bs, r2⟩ := Dp.reads I e y u he ry
  exact SeqAt.compareNe_reads r1 r2 sd se (by omega) ⟨.bl _, H, I, rfl, q⟩
theorem op_inM (hu : X.A.units + 64 < cLine) (hK : X.K = K := by rfl) : OpR X (compareOp .In) (rInM K false) := by
  subst hK
  intro pins s σ H x y v u Q I rx ry h
  obtain ⟨d, ds, hd, he, sd, se, m, q⟩ := h
  obtain ⟨as, r1⟩ := Dp.reads I d x v hd rx
  rcases he with he | he
  · obtain ⟨bs, r2⟩ := Dp.reads I (.list ds) y u he ry
    exact SeqAt.in_list_reads r2 r1 se sd (by omega) ⟨.bl _, H, I, rfl, q⟩
  · obtain ⟨bs, r2⟩ := Dp.reads I (.tuple ds) y u he ry
    exact SeqAt.in_tuple_reads r2 r1 se sd (by omega) ⟨.bl _, H, I, rfl, q⟩
theorem op_ninM (hu : X.A.units + 64 < cLine) (hK : X.K = K := by rfl) : OpR X (compareOp .NotIn) (rInM K true) := by
  subst hK
  intro pins s σ H x y v u Q I rx ry h
  obtain ⟨d, ds, hd, he, sd, se, m, q⟩ := h
  obtain ⟨as, r1⟩ := Dp.reads I d x v hd rx
  rcases he with he | he
  · obtain ⟨bs, r2⟩ := Dp.reads I (.list ds) y u he ry
    exact SeqAt.notIn_list_reads r2 r1 se sd (by omega) ⟨.bl _, H, I, rfl, q⟩
  · obtain ⟨bs, r2⟩ := Dp.reads I (.tuple ds) y u he ry
    exact SeqAt.notIn_tuple_reads r2 r1 se sd (by omega) ⟨.bl _, H, I, rfl, q⟩
theorem up_eq : Up2 K opEq (rEqM K false) := by
  intro E S H g x y v w Q W rx ry p
  unfold opEq at p
  split at p
  · rename_i c
    exact ⟨_, _, rx.vw W c.1, ry.vw W c.2.1, canLay_toD _, canLay_toD _, by rcases c.2.2 with z | z <;> (unfold dep at z; omega), p.val W (.bl _)⟩
  · exact p.elim
theorem up_ne : Up2 K opNe (rEqM K true) := by
  intro E S H g x y v w Q W rx ry p
  unfold opNe at p
  split at p
  · rename_i c
    exact ⟨_, _, rx.vw W c.1, ry.vw W c.2.1, canLay_toD _, canLay_toD _, by rcases c.2.2 with z | z <;> (unfold dep at z; omega), p.val W (.bl _)⟩
  · exact p.elim
theorem items_dp {H : Hp} {S : Sto} {g : G} (W : Wd K S H g) {y : T} {w : V} (ry : Rp K g y w) {l : List T} (e : itemsOf (vw S y) = some l) (d : dats l = true) : Dp K H w (.list (toDs l)) ∨ Dp K H w (.tuple (toDs l)) := by
  have dd : dat (vw S y) = true := by
    cases q : vw S y <;> rw [q] at e <;> simp [itemsOf] at e <;> subst e <;> simpa [dat] using d
  have k := ry.vw W dd
  cases q : vw S y <;> rw [q] at e k <;> simp [itemsOf] at e <;> subst e <;> rw [toD] at k <;> first | exact .inl k | exact .inr k
theorem any_toDs {x : T} : ∀ l : List T, ((toDs l).any fun z => PyData.eqv z (toD x)) = l.any fun z => eqT z x
  | [] => rfl
  | t :: l => by rw [toDs, List.any_cons, List.any_cons, any_toDs l]; rfl
theorem up_in : Up2 K opIn (rInM K false) := by
  intro E S H g x y v w Q W rx ry p
  unfold opIn at p
  split at p
  · rename_i l e
    split at p
    · rename_i c
      exact ⟨_, _, rx.vw W c.1, items_dp W ry e c.2.1, canLay_toD _, canLay_toDs _, by rcases c.2.2 with z | z <;> (try unfold dep at z) <;> (try unfold deps at z) <;> omega, by rw [any_toDs]; exact p.val W (.bl _)⟩
    · exact p.elim
  · exact p.elim
theorem up_nin : Up2 K opNin (rInM K true) := by
  intro E S H g x y v w Q W rx ry p
  unfold opNin at p
  split at p
  · rename_i l e
    split at p
    · rename_i c
      exact ⟨_, _, rx.vw W c.1, items_dp W ry e c.2.1, canLay_toD _, canLay_toDs _, by rcases c.2.2 with z | z <;> (try unfold dep at z) <;> (try unfold deps at z) <;> omega, by rw [any_toDs]; exact p.val W (.bl _)⟩
    · exact p.elim
  · exact p.elim
end
end Ab

namespace Ab
open PySem PySem.Spec PyProof.Rows L2 Sp
/-! ## is, isinstance, truth, tests -/
def isNon : T → Bool
  | .non => true
  | _ => false
def opIs (x y : T) (S : Sto) : R T := if isNon y = true then .ok (.bl (isNon x)) S else .bad
def opIsnt (x y : T) (S : Sto) : R T := if isNon y = true then .ok (.bl (!isNon x)) S else .bad
def opIsB : T → T → Sto → R T
  | .bl a, .bl b, S => .ok (.bl (decide (a = b))) S
  | _, _, _ => .bad
def opIsntB : T → T → Sto → R T
  | .bl a, .bl b, S => .ok (.bl (!decide (a = b))) S
  | _, _, _ => .bad
def tyOf (S : Sto) : T → Option String
  | .non => some "NoneType"
  | .bl _ => some "bool"
  | .int _ => some "int"
  | .str _ => some "str"
  | .tup _ => some "tuple"
  | .tupk _ => some "tuple"
  | .lst _ => some "list"
  | .scr _ => some "list"
  | .dct false _ => some "dict"
  | .ref n => match S[n]? with
    | some (.lst _) => some "list"
    | some (.dct _ _) => some "dict"
    | _ => none
  | _ => none
def isB (a b : String) : Bool := a == b || (a == "bool" && b == "int")
def tys : List String := ["int", "bool", "str", "tuple", "list", "dict"]
def opIsi : List T → Sto → R T
  | [x, .ty n], S => match tyOf S x with
    | some m => if n ∈ tys then .ok (.bl (isB m n)) S else .bad
    | none => .bad
  | _, _ => .bad
def opTru : T → Sto → R Bool
  | .non, S => .ok false S
  | .bl b, S => .ok b S
  | .int i, S => .ok (i != 0) S
  | .tup l, S => .ok (!l.isEmpty) S
  | .tupk l, S => .ok (!l.isEmpty) S
  | .lst l, S => .ok (!l.isEmpty) S
  | .scr l, S => .ok (!l.isEmpty) S
  | .ref n, S => match S[n]? with
    | some (.lst l) => .ok (!l.isEmpty) S
    | _ => .bad
  | _, _ => .bad
def opB : T → Sto → R Bool
  | .bl b, S => .ok b S
  | _, _ => .bad
def mB (a : AE) : AT := fun st S => (a st S).bind opB
def mTru (a : AE) : AT := fun st S => (a st S).bind opTru
def mTAnd (a b : AT) : AT := fun st S => (a st S).bind fun c S => if c = true then b st S else .ok false S
def mTOr (a b : AT) : AT := fun st S => (a st S).bind fun c S => if c = true then .ok true S else b st S
def mTNot (a : AT) : AT := fun st S => (a st S).bind fun c S => .ok (!c) S
def mAnd (a b : AE) : AE := fun st S => (a st S).bind fun x S => match x with
  | .bl true => b st S
  | .bl false => .ok (.bl false) S
  | _ => .bad
def mOr (a b : AE) : AE := fun st S => (a st S).bind fun x S => match x with
  | .bl true => .ok (.bl true) S
  | .bl false => b st S
  | _ => .bad
def mNot (a : AE) : AE := fun st S => (a st S).bind fun x S => match x with
  | .bl b => .ok (.bl (!b)) S
  | _ => .bad
def mIfE (c : AT) (a b : AE) : AE := fun st S => (c st S).bind fun k S => if k = true then a st S else b st S
/-- a op b op' c -/
def mChain (f f' : T → T → Sto → R T) (a b c : AE) : AE := fun st S => (a st S).bind fun x S => (b st S).bind fun y S => (f x y S).bind fun z S => match z with
  | .bl true => (c st S).bind fun w S => f' y w S
  | .bl false => .ok (.bl false) S
  | _ => .bad
section
variable {K : PySem.W.Frag} {X : Cx} {E : XS} {e a b c : Expr} {es : List Expr} {pos : Pos} {ea eb ec : AE} {ta tb : AT} {ra : AA} {r r' : R2}
theorem isNon_rp {g : G} {x : T} {v : V} (h : Rp K g x v) : isNon x = decide (v = .non) := by
  cases h <;> simp [isNon]
theorem up_is : Up2 K opIs rIsNA := by
  intro E S H g x y v w Q W rx ry p
  unfold opIs at p
  split at p
  · rename_i c
    rw [isNon_rp ry] at c
    rw [isNon_rp rx] at p
    exact ⟨of_decide_eq_true c, p.val W (.bl _)⟩
  · exact p.elim
theorem up_isnt : Up2 K opIsnt rNotNA := by
  intro E S H g x y v w Q W rx ry p
  unfold opIsnt at p
  split at p
  · rename_i c
    rw [isNon_rp ry] at c
    rw [isNon_rp rx] at p
    exact ⟨of_decide_eq_true c, p.val W (.bl _)⟩
  · exact p.elim
theorem up_isB : Up2 K opIsB rIsB := by
  intro E S H g x y v w Q W rx ry p
  unfold opIsB at p
  split at p
  · cases rx; cases ry; exact ⟨_, _, rfl, rfl, p.val W (.bl _)⟩
  · exact p.elim
theorem up_isntB : Up2 K opIsntB rNotB := by
  intro E S H g x y v w Q W rx ry p
  unfold opIsntB at p
  split at p
  · cases rx; cases ry; exact ⟨_, _, rfl, rfl, p.val W (.bl _)⟩
  · exact p.elim
theorem isB_ok : ∀ m ∈ ["NoneType", "bool", "int", "str", "tuple", "list", "dict"], ∀ n ∈ tys, kitB m n = some (isB m n) := by decide +kernel
theorem tyOf_ok {S : Sto} {H : Hp} {g : G} (W : Wd K S H g) {x : T} {v : V} (r : Rp K g x v) {m : String} (e : tyOf S x = some m) : TyX K H v (.type m) ∧ m ∈ ["NoneType", "bool", "int", "str", "tuple", "list", "dict"] := by
  have sqt : ∀ {a vs}, SqT K H a vs → TyX K H (.ref a) (.type "tuple") := fun h => by
    rcases h with (h | ⟨o, h⟩) | ⟨o, _, _, h, c, _⟩
    · exact .base (.tup h)
    · exact .fTuple h
    · exact .kTuple h c
  have sql : ∀ {a vs}, SqL K H a vs → TyX K H (.ref a) (.type "list") := fun h => by
    rcases h with (h | ⟨o, h⟩) | ⟨o, _, _, h, c, _⟩
    · exact .base (.lst h)
    · exact .base (.frz h)
    · exact .kList h c
  cases r with
  | non => cases e; exact ⟨.base .non, by simp⟩
  | bl b => cases e; exact ⟨.base (.bl b), by simp⟩
  | int i => cases e; exact ⟨.base (.int i), by simp⟩
  | str s => cases e; exact ⟨.base (.str _), by simp⟩
  | tup h k r => cases e; exact ⟨sqt (SqT.wd W h), by simp⟩
  | tupk h r => cases e; exact ⟨sqt (SqT.wd W h), by simp⟩
  | lst h r => cases e; exact ⟨.base (.lst (lst_wd W h)), by simp⟩
  | scr h r => cases e; exact ⟨sql (SqL.wd W h), by simp⟩
  | dct h r => cases e; exact ⟨.fDict (W.sub _ _ h), by simp⟩
  | dctT h r => cases e
  | ref h =>
    simp only [tyOf] at e
    split at e
    · rename_i l q
      cases e
      obtain ⟨vs, h1, _⟩ := W.cell _ _ _ q (fun z => nomatch z) h
      exact ⟨.base (.lst h1), by simp⟩
    · rename_i b l q
      cases e
      cases b with
      | false =>
        obtain ⟨vs, h1, _⟩ := W.cell _ _ _ q (fun z => nomatch z) h
        exact ⟨.base (.dK h1), by simp⟩
      | true =>
        obtain ⟨vs, h1, _⟩ := W.cell _ _ _ q (fun z => nomatch z) h
        exact ⟨.base (.dT h1), by simp⟩
    · cases e
  | ty _ => cases e
  | con _ => cases e
theorem up_isi : UpN K opIsi (rIsi K) := by
  intro E S H g xs vs Q W rx p
  unfold opIsi at p
  split at p
  · rename_i x n
    cases rx with
    | cons r1 rx =>
      cases rx with
      | cons r2 rx =>
        cases rx
        cases r2
        split at p
        · rename_i m e
          split at p
          · rename_i hn
            obtain ⟨t, hm⟩ := tyOf_ok W r1 e
            exact ⟨_, _, _, _, _, rfl, .ty n, t, kit_ty (isB_ok m hm n hn), p.val W (.bl _)⟩
          · exact p.elim
        · exact p.elim
  · exact p.elim
theorem tru_up {E : XK} {S : Sto} {H : Hp} {g : G} {x : T} {v : V} {Q : Bool → Hp → Prop} (W : Wd K S H g) (rx : Rp K g x v) (p : Post K E S H g bRel (opTru x S) Q) : rTru K v H Q := by
  have emp : ∀ {ts vs}, Rps K g ts vs → vs.isEmpty = ts.isEmpty := fun r => by cases r <;> rfl
  unfold opTru at p
  split at p
  · cases rx; exact ⟨_, rfl, p.val W rfl⟩
  · cases rx; exact ⟨_, rfl, p.val W rfl⟩
  · cases rx; exact ⟨_, rfl, p.val W rfl⟩
  · obtain ⟨a, vs, rfl, h, r⟩ := rx.tupH W
    exact ⟨_, .inr (.inl ⟨vs, h, rfl⟩), p.val W (by rw [emp r])⟩
  · obtain ⟨a, vs, rfl, h, r⟩ := rx.tupkH W
    exact ⟨_, .inr (.inl ⟨vs, h, rfl⟩), p.val W (by rw [emp r])⟩
  · obtain ⟨a, vs, rfl, h, r⟩ := rx.lstH W
    exact ⟨_, .inl ⟨vs, SqL.of h, rfl⟩, p.val W (by rw [emp r])⟩
  · obtain ⟨a, vs, rfl, h, r⟩ := rx.scrH W
    exact ⟨_, .inl ⟨vs, h, rfl⟩, p.val W (by rw [emp r])⟩
  · split at p
    · rename_i e
      obtain ⟨a, rfl, m, vs, h, r⟩ := rx.refH W e (fun z => nomatch z)
      exact ⟨_, .inl ⟨vs, SqL.of h, rfl⟩, p.val W (by rw [emp r])⟩
    · exact p.elim
  · exact p.elim
theorem b_up {E : XK} {S : Sto} {H : Hp} {g : G} {x : T} {v : V} {Q : Bool → Hp → Prop} (W : Wd K S H g) (rx : Rp K g x v) (p : Post K E S H g bRel (opB x S) Q) : ∃ k, v = .bl k ∧ Q k H := by
  unfold opB at p
  split at p
  · cases rx; exact ⟨_, rfl, p.val W rfl⟩
  · exact p.elim
theorem aTru (h : PE X e (LE K E ea)) (hs : ∀ whole, isTrue e X.env whole = (do let v ← whole; standAt e.pos; holding [v] (truthy v)) := by intro _; rfl) (hK : X.K = K := by rfl) : PT X e (LT K E (mTru ea)) :=
  PT.weak (pt_truthAK K h hs hK) fun σ H Q ⟨st, S, g, w, sl, p⟩ => LE.bind (f := fun x _ S => opTru x S) w sl p fun t S1 v H1 g1 w1 sl1 x1 r1 p1 => tru_up w1 r1 p1
theorem LE.tB {σ H Q} (h : LT K E (mB ea) σ H Q) : LE K E ea σ H fun x H1 => ∃ k, x = .bl k ∧ Q k H1 :=
  let ⟨st, S, g, w, sl, p⟩ := h
  LE.bind (f := fun x _ S => opB x S) w sl p fun t S1 v H1 g1 w1 sl1 x1 r1 p1 => b_up w1 r1 p1
theorem aTVal (h : PE X e (LE K E ea)) (he : ∀ whole, isTrue e X.env whole = (do let v ← whole; standAt e.pos; holding [v] (truthy v)) := by intro _; rfl) : PT X e (LT K E (mB ea)) := PT.weak (pt_val h he) fun _ _ _ h => LE.tB h
/-- f x y, where it is reckoned under a test -/
theorem LT.op2 {f : T → T → Sto → R T} (u : Up2 K f r) {σ H Q} (h : LT K E (mB (m2 f ea eb)) σ H Q) : LE K E ea σ H fun x H1 => LE K E eb σ H1 fun y H2 => r x y H2 fun z H3 => ∃ k, z = .bl k ∧ Q k H3 :=
  LE.op2 u (LE.tB h)
theorem aTCmp {op : CmpOp} {f : T → T → Sto → R T} (u : Up2 K f r) (ho : OpR X (compareOp op) r) (ha : PE X a (LE K E ea)) (hb : PE X b (LE K E eb)) (hm : behindInMarks op b = false) : PT X (.Compare a [op] [b] pos) (LT K E (mB (m2 f ea eb))) :=
  PT.weak (pt_cmpR ho ha hb hm) fun _ _ _ h => LT.op2 u h
theorem LE.chain {f f' : T → T → Sto → R T} (u : Up2 K f r) (u' : Up2 K f' r') {σ H Q} (h : LE K E (mChain f f' ea eb ec) σ H Q) : tChain r r' (LE K E ea) (LE K E eb) (LE K E ec) σ H Q := by
  obtain ⟨st, S, g, w, sl, p⟩ := h
  refine LE.bind (f := fun x st S => (eb st S).bind fun y S => (f x y S).bind fun z S => match z with
  | .bl true => (ec st S).bind fun w S => f' y w S
  | .bl false => .ok (.bl false) S
  | _ => .bad) w sl p fun x S1 v H1 g1 w1 sl1 x1 r1 p1 => ?_
  refine LE.bind (f := fun y st S => (f x y S).bind fun z S => match z with
  | .bl true => (ec st S).bind fun w S => f' y w S
  | .bl false => .ok (.bl false) S
  | _ => .bad) w1 sl1 p1 fun y S2 v2 H2 g2 w2 sl2 x2 r2 p2 => ?_
  refine u (E := E σ) w2 (r1.mono x2.le) r2 (p2.bind (rel1 := Rp K) fun z S3 v3 H3 g3 w3 x3 r3 p3 => ?_)
  split at p3
  · cases r3
    refine ⟨true, rfl, ?_⟩
    rw [if_pos rfl]
    exact LE.bind (f := fun w _ S => f' y w S) w3 (sl2.mono x3.le) p3 fun t S4 v4 H4 g4 w4 sl4 x4 r4 p4 => u' w4 ((r2.mono x3.le).mono x4.le) r4 p4
  · cases r3
    refine ⟨false, rfl, ?_⟩
    rw [if_neg Bool.false_ne_true]
    exact p3.val w3 (.bl _)
  · exact p3.elim
theorem aChain {op op' : CmpOp} {f f' : T → T → Sto → R T} (u : Up2 K f r) (u' : Up2 K f' r') (ho : OpR X (compareOp op) r) (ho' : OpR X (compareOp op') r') (ha : PE X a (LE K E ea)) (hb : PE X b (LE K E eb)) (hc : PE X c (LE K E ec)) (hm : lastMarks [op, op'] [b, c] = false := by with_unfolding_all rfl) :
    PE X (.Compare a [op, op'] [b, c] pos) (LE K E (mChain f f' ea eb ec)) := PE.weak (pe_chain ho ho' ha hb hc hm) fun _ _ _ h => LE.chain u u' h
theorem aTChain {op op' : CmpOp} {f f' : T → T → Sto → R T} (u : Up2 K f r) (u' : Up2 K f' r') (ho : OpR X (compareOp op) r) (ho' : OpR X (compareOp op') r') (ha : PE X a (LE K E ea)) (hb : PE X b (LE K E eb)) (hc : PE X c (LE K E ec)) (hm : lastMarks [op, op'] [b, c] = false := by with_unfolding_all rfl) :
    PT X (.Compare a [op, op'] [b, c] pos) (LT K E (mB (mChain f f' ea eb ec))) := PT.weak (pt_chain ho ho' ha hb hc hm) fun σ H Q h => by
  have h' : LE K E (mChain f f' ea eb ec) σ H fun x H1 => ∃ k, x = .bl k ∧ Q k H1 := LE.tB h
  exact LE.chain u u' h'
/-! and, or, not -/
variable {rest : List Expr}
theorem aTAnd1 (h : PT X a (LT K E ta)) : PW X (.BoolOp .And [a] pos) (LT K E ta) := pw_and1 h
theorem aTOr1 (h : PT X a (LT K E ta)) : PW X (.BoolOp .Or [a] pos) (LT K E ta) := pw_or1 h
theorem aTAnd (ha : PT X a (LT K E ta)) (hb : PW X (.BoolOp .And (b :: rest) pos) (LT K E tb)) : PW X (.BoolOp .And (a :: b :: rest) pos) (LT K E (mTAnd ta tb)) :=
  PW.weak (pw_and ha hb) fun σ H Q ⟨st, S, g, w, sl, p⟩ => LT.bind (f := fun c st S => if c = true then tb st S else .ok false S) w sl p fun c S1 H1 g1 w1 sl1 x1 p1 => by
    cases c with
    | true => rw [if_pos rfl]; exact ⟨st, S1, g1, w1, sl1, p1⟩
    | false => rw [if_neg Bool.false_ne_true]; exact p1.val (v := false) w1 rfl
theorem aTOr (ha : PT X a (LT K E ta)) (hb : PW X (.BoolOp .Or (b :: rest) pos) (LT K E tb)) : PW X (.BoolOp .Or (a :: b :: rest) pos) (LT K E (mTOr ta tb)) :=
  PW.weak (pw_or ha hb) fun σ H Q ⟨st, S, g, w, sl, p⟩ => LT.bind (f := fun c st S => if c = true then .ok true S else tb st S) w sl p fun c S1 H1 g1 w1 sl1 x1 p1 => by
    cases c with
    | true => rw [if_pos rfl]; exact p1.val (v := true) w1 rfl
    | false => rw [if_neg Bool.false_ne_true]; exact ⟨st, S1, g1, w1, sl1, p1⟩
theorem aTNot (ha : PT X a (LT K E ta)) : PT X (.UnaryOp .Not a pos) (LT K E (mTNot ta)) :=
  PT.weak (pt_not ha) fun σ H Q ⟨st, S, g, w, sl, p⟩ => LT.bind (f := fun c _ S => .ok (!c) S) w sl p fun c S1 H1 g1 w1 sl1 x1 p1 => p1.val (v := !c) w1 rfl
theorem aOne {op} (h : PE X a (LE K E ea)) : PE X (.BoolOp op [a] pos) (LE K E ea) := pe_one h
theorem aAnd (ha : PE X a (LE K E ea)) (hb : PE X (.BoolOp .And (b :: rest) pos) (LE K E eb)) : PE X (.BoolOp .And (a :: b :: rest) pos) (LE K E (mAnd ea eb)) :=
  PE.weak (pe_and ha hb) fun σ H Q ⟨st, S, g, w, sl, p⟩ => LE.bind (f := fun x st S => match x with
  | .bl true => eb st S
  | .bl false => .ok (.bl false) S
  | _ => .bad) w sl p fun x S1 v H1 g1 w1 sl1 x1 r1 p1 => by
    split at p1
    · cases r1; exact ⟨true, rfl, by rw [if_pos rfl]; exact ⟨st, S1, g1, w1, sl1, p1⟩⟩
    · cases r1; exact ⟨false, rfl, by rw [if_neg Bool.false_ne_true]; exact p1.val w1 (.bl _)⟩
    · exact p1.elim
theorem aOr (ha : PE X a (LE K E ea)) (hb : PE X (.BoolOp .Or (b :: rest) pos) (LE K E eb)) : PE X (.BoolOp .Or (a :: b :: rest) pos) (LE K E (mOr ea eb)) :=
  PE.weak (pe_or ha hb) fun σ H Q ⟨st, S, g, w, sl, p⟩ => LE.bind (f := fun x st S => match x with
  | .bl true => .ok (.bl true) S
  | .bl false => eb st S
  | _ => .bad) w sl p fun x S1 v H1 g1 w1 sl1 x1 r1 p1 => by
    split at p1
    · cases r1; exact ⟨true, rfl, by rw [if_pos rfl]; exact p1.val w1 (.bl _)⟩
    · cases r1; exact ⟨false, rfl, by rw [if_neg Bool.false_ne_true]; exact ⟨st, S1, g1, w1, sl1, p1⟩⟩
    · exact p1.elim
theorem aNot (ha : PE X a (LE K E ea)) : PE X (.UnaryOp .Not a pos) (LE K E (mNot ea)) :=
  PE.weak (pe_not ha) fun σ H Q ⟨st, S, g, w, sl, p⟩ => LE.bind (f := fun x _ S => match x with
  | .bl b => R.ok (T.bl (!b)) S
  | _ => .bad) w sl p fun x S1 v H1 g1 w1 sl1 x1 r1 p1 => by
    split at p1
    · cases r1; exact ⟨_, rfl, p1.val w1 (.bl _)⟩
    · exact p1.elim
theorem aIfE (hc : PT X c (LT K E ta)) (ha : PE X a (LE K E ea)) (hb : PE X b (LE K E eb)) : PE X (.IfExp c a b pos) (LE K E (mIfE ta ea eb)) :=
  PE.weak (pe_ifExp hc ha hb) fun σ H Q ⟨st, S, g, w, sl, p⟩ => LT.bind (f := fun k st S => if k = true then ea st S else eb st S) w sl p fun c S1 H1 g1 w1 sl1 x1 p1 => by
    cases c with
    | true => rw [if_pos rfl]; exact ⟨st, S1, g1, w1, sl1, p1⟩
    | false => rw [if_neg Bool.false_ne_true]; exact ⟨st, S1, g1, w1, sl1, p1⟩
end
end Ab

namespace Ab
open PySem PySem.Spec PyProof.Rows L2 Sp
/-! ## tuples, lists, built-ins -/
/-- a new list: frozen at once, or one that will change -/
def mkL (fz : Bool) (ts : List T) (S : Sto) : R T := if fz = true then .ok (.lst ts) S else .ok (.ref S.length) (S ++ [.lst ts])
theorem Post.newLst {K : PySem.W.Frag} {fz : Bool} {E : XK} {S : Sto} {H : Hp} {g : G} {ts : List T} {vs : List V} {Q : VK} (h : Post K E S H g (Rp K) (mkL fz ts S) Q) (w : Wd K S H g) (r : Rps K g ts vs) : ∀ p, H p = none → Q (.ref p) (upd H p (.lst vs)) := by
  cases fz with
  | true => exact Post.newL h w r
  | false =>
    intro p hp
    obtain ⟨w', x, m⟩ := w.alloc (o := .lst ts) (ho := .lst vs) hp (fun z => nomatch z) ⟨vs, upd_same, r.mono G.le_snoc⟩
    exact h _ _ _ w' x (.ref m)
def opTup (ts : List T) (S : Sto) : R T := if ts.length ≤ sizeLine then .ok (.tup ts) S else .bad
def opLst (fz : Bool) (ts : List T) (S : Sto) : R T := if ts.length ≤ sizeLine then mkL fz ts S else .bad
/-- the items of a list or tuple -/
def seqOf (S : Sto) : T → Option (List T)
  | .tup l => some l
  | .tupk l => some l
  | .lst l => some l
  | .scr l => some l
  | .ref n => match S[n]? with
    | some (.lst l) => some l
    | _ => none
  | _ => none
/-- the items of a list -/
def lkL (S : Sto) : T → Option (List T)
  | .lst l => some l
  | .scr l => some l
  | .ref n => match S[n]? with
    | some (.lst l) => some l
    | _ => none
  | _ => none
def lenOf (S : Sto) : T → Option Nat
  | .dct _ l => some l.length
  | .ref n => match S[n]? with
    | some (.lst l) => some l.length
    | some (.dct _ l) => some l.length
    | _ => none
  | .tup l => some l.length
  | .tupk l => some l.length
  | .lst l => some l.length
  | .scr l => some l.length
  | _ => none
def opLen : List T → Sto → R T
  | [x], S => match lenOf S x with
    | some n => .ok (.int n) S
    | none => .bad
  | _, _ => .bad
def opAbs : List T → Sto → R T
  | [.int i], S => .ok (.int (if i < 0 then -i else i)) S
  | _, _ => .bad
def opInt : List T → Sto → R T
  | [.int i], S => .ok (.int i) S
  | [.bl b], S => .ok (.int (if b then 1 else 0)) S
  | _, _ => .bad
def opMin2 : List T → Sto → R T
  | [.int i, .int j], S => .ok (.int (if j < i then j else i)) S
  | _, _ => .bad
def opMax2 : List T → Sto → R T
  | [.int i, .int j], S => .ok (.int (if j > i then j else i)) S
  | _, _ => .bad
def opList (fz : Bool) : List T → Sto → R T
  | [x], S => match seqOf S x with
    | some l => mkL fz l S
    | none => .bad
  | _, _ => .bad
def opTuple : List T → Sto → R T
  | [.tup l], S => .ok (.tup l) S
  | [x], S => match lkL S x with
    | some l => .ok (.tup l) S
    | none => .bad
  | _, _ => .bad
def intsOf : List T → Option (List Int)
  | [] => some []
  | .int i :: ts => (intsOf ts).map (i :: ·)
  | _ :: _ => none
def insI (i : Int) : List Int → List Int
  | [] => [i]
  | j :: js => if i ≤ j then i :: j :: js else j :: insI i js
def sortI : List Int → List Int
  | [] => []
  | i :: is => insI i (sortI is)
def opSortI (fz : Bool) : List T → Sto → R T
  | [x], S => match (lkL S x).bind intsOf with
    | some l => mkL fz ((sortI l).map .int) S
    | none => .bad
  | _, _ => .bad
def blsOf : List T → Option (List Bool)
  | [] => some []
  | .bl i :: ts => (blsOf ts).map (i :: ·)
  | _ :: _ => none
def opAny : List T → Sto → R T
  | [x], S => match (lkL S x).bind blsOf with
    | some l => .ok (.bl (l.any id)) S
    | none => .bad
  | _, _ => .bad
def opAll : List T → Sto → R T
  | [x], S => match (lkL S x).bind blsOf with
    | some l => .ok (.bl (l.all id)) S
    | none => .bad
  | _, _ => .bad
def opSum : List T → Sto → R T
  | [x], S => match (lkL S x).bind intsOf with
    | some l => .ok (.int l.sum) S
    | none => .bad
  | _, _ => .bad
def maxI : List Int → Int
  | [] => 0
  | [i] => i
  | i :: is => if maxI is < i then i else maxI is
def opMaxL : List T → Sto → R T
  | [x], S => match (lkL S x).bind intsOf with
    | some (i :: is) => .ok (.int (maxI (i :: is))) S
    | _ => .bad
  | _, _ => .bad
theorem insI_perm (i : Int) : ∀ l, (insI i l).Perm (i :: l)
  | [] => .refl _
  | j :: js => by
    unfold insI
    split
    · exact .refl _
    · exact ((insI_perm i js).cons j).trans (.swap i j js)
theorem sortI_perm : ∀ l, (sortI l).Perm l
  | [] => .refl _
  | i :: is => (insI_perm i (sortI is)).trans ((sortI_perm is).cons i)
theorem insI_sorted (i : Int) : ∀ l : List Int, l.Pairwise (· ≤ ·) → (insI i l).Pairwise (· ≤ ·)
  | [], _ => by simp [insI]
  | j :: js, h => by
    obtain ⟨h1, h2⟩ := List.pairwise_cons.mp h
    unfold insI
    split
    · rename_i c
      refine List.pairwise_cons.mpr ⟨fun x hx => ?_, h⟩
      rcases List.mem_cons.mp hx with rfl | hx
      · exact c
      · exact Int.le_trans c (h1 x hx)
    · rename_i c
      refine List.pairwise_cons.mpr ⟨fun x hx => ?_, insI_sorted i js h2⟩
      rcases List.mem_cons.mp ((insI_perm i js).mem_iff.mp hx) with rfl | hx
      · omega
      · exact h1 x hx
theorem sortI_sorted : ∀ l, (sortI l).Pairwise (· ≤ ·)
  | [] => .nil
  | i :: is => insI_sorted i _ (sortI_sorted is)
theorem sorted_same {l m : List Int} (p : l.Perm m) (hl : l.Pairwise (· ≤ ·)) (hm : m.Pairwise (· ≤ ·)) : l = m := p.eq_of_pairwise (le := (· ≤ ·)) (fun _ _ _ _ a b => Int.le_antisymm a b) hl hm
theorem maxI_mem : ∀ (i : Int) (is : List Int), maxI (i :: is) ∈ i :: is ∧ ∀ y ∈ i :: is, y ≤ maxI (i :: is)
  | i, [] => by simp [maxI]
  | i, j :: js => by
    obtain ⟨h1, h2⟩ := maxI_mem j js
    have e : maxI (i :: j :: js) = if maxI (j :: js) < i then i else maxI (j :: js) := rfl
    rw [e]
    split
    · rename_i c
      refine ⟨List.mem_cons_self, fun y hy => ?_⟩
      rcases List.mem_cons.mp hy with rfl | hy
      · exact Int.le_refl _
      · exact Int.le_trans (h2 y hy) (Int.le_of_lt c)
    · rename_i c
      refine ⟨List.mem_cons_of_mem _ h1, fun y hy => ?_⟩
      rcases List.mem_cons.mp hy with rfl | hy
      · omega
      · exact h2 y hy
section
variable {K : PySem.W.Frag} {X : Cx} {E : XS} {e o : Expr} {es : List Expr} {pos : Pos} {ea : AE} {ra : AA}
theorem intsOf_rp {g : G} : ∀ {ts : List T} {vs : List V} {ns : List Int}, intsOf ts = some ns → Rps K g ts vs → vs = ns.map V.int ∧ ts = ns.map T.int
  | [], _, _, e, .nil => by cases e; exact ⟨rfl, rfl⟩
  | t :: ts, _, ns, e, .cons (v := v) h r => by
    cases t with
    | int i =>
      simp only [intsOf, Option.map_eq_some_iff] at e
      obtain ⟨ms, e1, rfl⟩ := e
      obtain ⟨e2, e3⟩ := intsOf_rp e1 r
      cases h
      exact ⟨by rw [e2]; rfl, by rw [e3]; rfl⟩
    | _ => simp [intsOf] at e
theorem blsOf_rp {g : G} : ∀ {ts : List T} {vs : List V} {ns : List Bool}, blsOf ts = some ns → Rps K g ts vs → vs = ns.map V.bl
  | [], _, _, e, .nil => by cases e; rfl
  | t :: ts, _, ns, e, .cons (v := v) h r => by
    cases t with
    | bl i =>
      simp only [blsOf, Option.map_eq_some_iff] at e
      obtain ⟨ms, e1, rfl⟩ := e
      have e2 := blsOf_rp e1 r
      cases h
      rw [e2]; rfl
    | _ => simp [blsOf] at e
theorem Rps.ints {g : G} : ∀ ns : List Int, Rps K g (ns.map T.int) (ns.map V.int)
  | [] => .nil
  | i :: is => .cons (.int i) (Rps.ints is)
theorem seqOf_rp {S : Sto} {H : Hp} {g : G} (W : Wd K S H g) {x : T} {v : V} {l : List T} (e : seqOf S x = some l) (r : Rp K g x v) : ∃ a vs, v = .ref a ∧ (SqL K H a vs ∨ SqT K H a vs) ∧ Rps K g l vs := by
  cases r with
  | tup h k r => cases e; exact ⟨_, _, rfl, .inr (SqT.wd W h), r⟩
  | tupk h r => cases e; exact ⟨_, _, rfl, .inr (SqT.wd W h), r⟩
  | lst h r => cases e; exact ⟨_, _, rfl, .inl (SqL.of (lst_wd W h)), r⟩
  | scr h r => cases e; exact ⟨_, _, rfl, .inl (SqL.wd W h), r⟩
  | ref h =>
    simp only [seqOf] at e
    split at e
    · rename_i q
      cases e
      obtain ⟨vs, h1, r1⟩ := W.cell _ _ _ q (fun z => nomatch z) h
      exact ⟨_, vs, rfl, .inl (SqL.of h1), r1⟩
    · cases e
  | _ => cases e
theorem lkL_rp {S : Sto} {H : Hp} {g : G} (W : Wd K S H g) {x : T} {v : V} {l : List T} (e : lkL S x = some l) (r : Rp K g x v) : ∃ a vs, v = .ref a ∧ SqL K H a vs ∧ Rps K g l vs := by
  cases r with
  | lst h r => cases e; exact ⟨_, _, rfl, SqL.of (lst_wd W h), r⟩
  | scr h r => cases e; exact ⟨_, _, rfl, SqL.wd W h, r⟩
  | ref h =>
    simp only [lkL] at e
    split at e
    · rename_i q
      cases e
      obtain ⟨vs, h1, r1⟩ := W.cell _ _ _ q (fun z => nomatch z) h
      exact ⟨_, vs, rfl, SqL.of h1, r1⟩
    · cases e
  | _ => cases e
theorem aTup {x1} (h : PA X es (LA K E ra)) : PE X (.Tuple es x1 pos) (LE K E (mN opTup ra)) :=
  PE.weak (pe_tup h) fun σ H Q h => LA.opN (r := fun xs H Q => xs.length ≤ sizeLine ∧ ∀ p, H p = none → Q (.ref p) (upd H p (.tup xs))) (fun {E S H g xs vs Q} W rx p => by
    unfold opTup at p
    split at p
    · rename_i c
      exact ⟨by rw [← rx.length]; exact c, p.newT W rx⟩
    · exact p.elim) h
theorem aLst (fz : Bool) (h : PA X es (LA K E ra)) : PE X (.List es pos) (LE K E (mN (opLst fz) ra)) :=
  PE.weak (pe_lst h) fun σ H Q h => LA.opN (r := fun xs H Q => xs.length ≤ sizeLine ∧ ∀ p, H p = none → Q (.ref p) (upd H p (.lst xs))) (fun {E S H g xs vs Q} W rx p => by
    unfold opLst at p
    split at p
    · rename_i c
      exact ⟨by rw [← rx.length]; exact c, Post.newLst p W rx⟩
    · exact p.elim) h
theorem or_call {f : Value} {r r' : List V → Hp → VK → Prop} (h : CallR X f r) (h' : CallR X f r') : CallR X f fun xs H Q => r xs H Q ∨ r' xs H Q :=
  fun pins s σ H xs us Q I rx k => k.elim (h pins s σ H xs us Q I rx) (h' pins s σ H xs us Q I rx)
variable {x : Str} {p : Pos} {id : String} {ty : String} {f : List T → Sto → R T} {r : List V → Hp → VK → Prop}
theorem aCallB (u : UpN K f r) (hc : CallR X (.builtin id) r) (hg : Gl X x) (hm : X.mg x = none) (hv : bootBuiltins x = some (.builtin id)) (ha : PA X (e :: es) (LA K E ra)) (hn : x ≠ "__name__" := by decide) (hdb : (x == ("__debug__" : Str)) = false := by decide)
    (he : starEach (e :: es) X.env = (false, eval e X.env) :: starEach es X.env := by rfl) (hpl : (backTo pos (starEach es X.env)).any (·.1) = false := by rfl) : PE X (.Call (.Name x p) (e :: es) [] pos) (LE K E (mN f ra)) :=
  PE.weak (pe_callB hc hg hm hv ha hn hdb he hpl) fun σ H Q h => LA.opN u h
theorem aCallTy (u : UpN K f r) (hc : CallR X (.type ty) r) (hg : Gl X x) (hm : X.mg x = none) (hv : bootBuiltins x = some (.type ty)) (ha : PA X (e :: es) (LA K E ra)) (hn : x ≠ "__name__" := by decide) (hdb : (x == ("__debug__" : Str)) = false := by decide)
    (he : starEach (e :: es) X.env = (false, eval e X.env) :: starEach es X.env := by rfl) (hpl : (backTo pos (starEach es X.env)).any (·.1) = false := by rfl) : PE X (.Call (.Name x p) (e :: es) [] pos) (LE K E (mN f ra)) :=
  PE.weak (pe_callTy hc hg hm hv ha hn hdb he hpl) fun σ H Q h => LA.opN u h
theorem Rpk.length {g : G} : ∀ {ps : List (T × T)} {kvs : List (Key × V)}, Rpk K g ps kvs → ps.length = kvs.length
  | _, _, .nil => rfl
  | _, _, .cons _ _ r => congrArg (· + 1) (Rpk.length r)
theorem Rpt.length {g : G} : ∀ {ps : List (T × T)} {kvs : List (List Key × V)}, Rpt K g ps kvs → ps.length = kvs.length
  | _, _, .nil => rfl
  | _, _, .cons _ _ r => congrArg (· + 1) (Rpt.length r)
/-- len of a dict, as it stands or locked -/
def rLenR : List V → Hp → VK → Prop := fun xs H Q => ∃ d, xs = [V.ref d] ∧ ((∃ kvs, Rd H d (.dK kvs) ∧ Q (.int (kvs.length : Nat)) H) ∨ ∃ kvs, Rd H d (.dT kvs) ∧ Q (.int (kvs.length : Nat)) H)
theorem c_lenR : CallR X (.builtin "len") rLenR := by
  rintro pins s σ H xs us Q I r ⟨d, rfl, h⟩
  obtain ⟨u, rfl, rx⟩ := vals1 r
  obtain rfl : u = .ref d := rx
  rcases h with ⟨kvs, hr, q⟩ | ⟨kvs, hr, q⟩
  · exact d_len I hr fun tk s' J => ⟨.int (kvs.length : Nat), H, J, ⟨tk, rfl⟩, q⟩
  · obtain ⟨big, nsys, trip, same, dictH⟩ := dt_rd I.hok hr
    have el : kvs.length = trip.length := Paired.length same
    rw [sizeLine_eq] at big
    refine PySem.call_len_dictH nsys dictH (by omega) ?_
    rw [← el]
    exact ⟨.int (kvs.length : Nat), H, I.tok _, ⟨_, rfl⟩, q⟩
def rLenU (K : PySem.W.Frag) : List V → Hp → VK → Prop := fun xs H Q => rLenA K xs H Q ∨ rLenR xs H Q
theorem c_lenU (hK : X.K = K := by rfl) : CallR X (.builtin "len") (rLenU K) := by subst hK; exact or_call c_len c_lenR
theorem up_len : UpN K opLen (rLenU K) := by
  intro E S H g xs vs Q W rx p
  unfold opLen at p
  split at p
  · rename_i x
    cases rx with
    | cons r rx =>
      cases rx
      split at p
      · rename_i n e
        cases r with
        | tup h k r => cases e; exact .inl ⟨_, _, rfl, .inr ⟨_, SqT.wd W h, rfl⟩, by rw [← r.length]; exact p.val W (.int _)⟩
        | tupk h r => cases e; exact .inl ⟨_, _, rfl, .inr ⟨_, SqT.wd W h, rfl⟩, by rw [← r.length]; exact p.val W (.int _)⟩
        | lst h r => cases e; exact .inl ⟨_, _, rfl, .inl ⟨_, SqL.of (lst_wd W h), rfl⟩, by rw [← r.length]; exact p.val W (.int _)⟩
        | scr h r => cases e; exact .inl ⟨_, _, rfl, .inl ⟨_, SqL.wd W h, rfl⟩, by rw [← r.length]; exact p.val W (.int _)⟩
        | dct h r => cases e; exact .inr ⟨_, rfl, .inl ⟨_, .inr ⟨_, W.sub _ _ h⟩, by rw [← r.length]; exact p.val W (.int _)⟩⟩
        | dctT h r => cases e; exact .inr ⟨_, rfl, .inr ⟨_, .inr ⟨_, W.sub _ _ h⟩, by rw [← r.length]; exact p.val W (.int _)⟩⟩
        | ref h =>
          simp only [lenOf] at e
          split at e
          · rename_i q
            cases e
            obtain ⟨vs, h1, r1⟩ := W.cell _ _ _ q (fun z => nomatch z) h
            exact .inl ⟨_, _, rfl, .inl ⟨_, SqL.of h1, rfl⟩, by rw [← r1.length]; exact p.val W (.int _)⟩
          · rename_i b l q
            cases e
            cases b with
            | false =>
              obtain ⟨vs, h1, r1⟩ := W.cell _ _ _ q (fun z => nomatch z) h
              exact .inr ⟨_, rfl, .inl ⟨_, .inl h1, by rw [← r1.length]; exact p.val W (.int _)⟩⟩
            | true =>
              obtain ⟨vs, h1, r1⟩ := W.cell _ _ _ q (fun z => nomatch z) h
              exact .inr ⟨_, rfl, .inr ⟨_, .inl h1, by rw [← r1.length]; exact p.val W (.int _)⟩⟩
          · cases e
        | _ => cases e
      · exact p.elim
  · exact p.elim
theorem Rps.one {g : G} {x : T} {vs : List V} (r : Rps K g [x] vs) : ∃ v, vs = [v] ∧ Rp K g x v := by
  cases r with
  | cons h r => cases r; exact ⟨_, rfl, h⟩
theorem Rps.two {g : G} {x y : T} {vs : List V} (r : Rps K g [x, y] vs) : ∃ v w, vs = [v, w] ∧ Rp K g x v ∧ Rp K g y w := by
  cases r with
  | cons h r =>
    obtain ⟨w, e, k⟩ := Rps.one r
    subst e
    exact ⟨_, _, rfl, h, k⟩
theorem up_abs : UpN K opAbs rAbsA := by
  intro E S H g xs vs Q W rx p
  unfold opAbs at p
  split at p
  · obtain ⟨v, rfl, r⟩ := rx.one; cases r; exact ⟨_, rfl, p.val W (.int _)⟩
  · exact p.elim
theorem up_int : UpN K opInt rIntA := by
  intro E S H g xs vs Q W rx p
  unfold opInt at p
  split at p
  · obtain ⟨v, rfl, r⟩ := rx.one; cases r; exact .inl ⟨_, rfl, p.val W (.int _)⟩
  · obtain ⟨v, rfl, r⟩ := rx.one; cases r; exact .inr ⟨_, rfl, p.val W (.int _)⟩
  · exact p.elim
theorem up_min2 : UpN K opMin2 rMinA := by
  intro E S H g xs vs Q W rx p
  unfold opMin2 at p
  split at p
  · obtain ⟨v, w, rfl, r, r'⟩ := rx.two; cases r; cases r'; exact ⟨_, _, rfl, p.val W (.int _)⟩
  · exact p.elim
theorem up_max2 : UpN K opMax2 rMaxA := by
  intro E S H g xs vs Q W rx p
  unfold opMax2 at p
  split at p
  · obtain ⟨v, w, rfl, r, r'⟩ := rx.two; cases r; cases r'; exact ⟨_, _, rfl, p.val W (.int _)⟩
  · exact p.elim
theorem up_list (fz : Bool) : UpN K (opList fz) (rListA K) := by
  intro E S H g xs vs Q W rx p
  unfold opList at p
  split at p
  · obtain ⟨v, rfl, r⟩ := rx.one
    split at p
    · rename_i l e
      obtain ⟨a, ws, rfl, h, r1⟩ := seqOf_rp W e r
      exact ⟨a, ws, rfl, h, Post.newLst p W r1⟩
    · exact p.elim
  · exact p.elim
theorem up_tuple : UpN K opTuple (rTupA K) := by
  intro E S H g xs vs Q W rx p
  unfold opTuple at p
  split at p
  · obtain ⟨v, rfl, r⟩ := rx.one
    obtain ⟨a, ws, rfl, h, r1⟩ := r.tupH W
    exact ⟨a, ws, rfl, .inr ⟨h, p.val W r⟩⟩
  · rename_i x nt
    obtain ⟨v, rfl, r⟩ := rx.one
    split at p
    · rename_i l e
      cases r with
      | lst h r => cases e; exact ⟨_, _, rfl, .inl ⟨SqL.of (lst_wd W h), p.newT W r⟩⟩
      | scr h r => cases e; exact ⟨_, _, rfl, .inl ⟨SqL.wd W h, p.newT W r⟩⟩
      | ref h =>
        simp only [lkL] at e
        split at e
        · rename_i q
          cases e
          obtain ⟨vs, h1, r1⟩ := W.cell _ _ _ q (fun z => nomatch z) h
          exact ⟨_, vs, rfl, .inl ⟨SqL.of h1, p.newT W r1⟩⟩
        · cases e
      | _ => cases e
    · exact p.elim
  · exact p.elim
theorem up_sortI (fz : Bool) : UpN K (opSortI fz) (rSortedI K) := by
  intro E S H g xs vs Q W rx p
  unfold opSortI at p
  split at p
  · obtain ⟨v, rfl, r⟩ := rx.one
    split at p
    · rename_i l e
      obtain ⟨ts, e1, e2⟩ := Option.bind_eq_some_iff.mp e
      obtain ⟨a, ws, rfl, h, r1⟩ := lkL_rp W e1 r
      obtain ⟨e3, _⟩ := intsOf_rp e2 r1
      subst e3
      refine ⟨a, l, rfl, h, fun ns' q perm srt hq => ?_⟩
      have : ns' = sortI l := sorted_same (perm.trans (sortI_perm l).symm) srt (sortI_sorted l)
      subst this
      exact Post.newLst p W (Rps.ints _) q hq
    · exact p.elim
  · exact p.elim
theorem up_any : UpN K opAny (rAny K) := by
  intro E S H g xs vs Q W rx p
  unfold opAny at p
  split at p
  · obtain ⟨v, rfl, r⟩ := rx.one
    split at p
    · rename_i l e
      obtain ⟨ts, e1, e2⟩ := Option.bind_eq_some_iff.mp e
      obtain ⟨a, ws, rfl, h, r1⟩ := lkL_rp W e1 r
      have e3 := blsOf_rp e2 r1
      subst e3
      exact ⟨a, l, rfl, h, p.val W (.bl _)⟩
    · exact p.elim
  · exact p.elim
theorem up_all : UpN K opAll (rAll K) := by
  intro E S H g xs vs Q W rx p
  unfold opAll at p
  split at p
  · obtain ⟨v, rfl, r⟩ := rx.one
    split at p
    · rename_i l e
      obtain ⟨ts, e1, e2⟩ := Option.bind_eq_some_iff.mp e
      obtain ⟨a, ws, rfl, h, r1⟩ := lkL_rp W e1 r
      have e3 := blsOf_rp e2 r1
      subst e3
      exact ⟨a, l, rfl, h, p.val W (.bl _)⟩
    · exact p.elim
  · exact p.elim
theorem up_sum : UpN K opSum (rSum K) := by
  intro E S H g xs vs Q W rx p
  unfold opSum at p
  split at p
  · obtain ⟨v, rfl, r⟩ := rx.one
    split at p
    · rename_i l e
      obtain ⟨ts, e1, e2⟩ := Option.bind_eq_some_iff.mp e
      obtain ⟨a, ws, rfl, h, r1⟩ := lkL_rp W e1 r
      obtain ⟨e3, _⟩ := intsOf_rp e2 r1
      subst e3
      exact ⟨a, l, rfl, h, p.val W (.int _)⟩
    · exact p.elim
  · exact p.elim
theorem up_maxL : UpN K opMaxL (rMax K) := by
  intro E S H g xs vs Q W rx p
  unfold opMaxL at p
  split at p
  · obtain ⟨v, rfl, r⟩ := rx.one
    split at p
    · rename_i i is e
      obtain ⟨ts, e1, e2⟩ := Option.bind_eq_some_iff.mp e
      obtain ⟨a, ws, rfl, h, r1⟩ := lkL_rp W e1 r
      obtain ⟨e3, _⟩ := intsOf_rp e2 r1
      subst e3
      refine ⟨a, i :: is, rfl, h, by simp, fun m hm hy => ?_⟩
      obtain ⟨m1, m2⟩ := maxI_mem i is
      have : m = maxI (i :: is) := Int.le_antisymm (m2 m hm) (hy _ m1)
      subst this
      exact p.val W (.int _)
    · exact p.elim
  · exact p.elim
/-! ### subscripts, slices -/
end
def opIx : T → T → Sto → R T
  | x, .int i, S => match (seqOf S x).bind fun l => atI l i with
    | some t => .ok t S
    | none => .bad
  | _, _, _ => .bad
def rIxU (K : PySem.W.Frag) : R2 := fun x y H Q => rIxL K x y H Q ∨ rIxT K x y H Q
section
variable {K : PySem.W.Frag} {X : Cx} {E : XS} {e o a b : Expr} {es : List Expr} {pos : Pos} {ea eb : AE} {ra : AA}
theorem atI_rp {g : G} {ts : List T} {vs : List V} (r : Rps K g ts vs) {i : Int} {t : T} (e : atI ts i = some t) : ∃ v, atI vs i = some v ∧ Rp K g t v := by
  unfold atI at e ⊢
  obtain ⟨j, e1, e2⟩ := Option.bind_eq_some_iff.mp e
  obtain ⟨v, e3, h⟩ := r.get e2
  exact ⟨v, by rw [← r.length, e1]; exact e3, h⟩
theorem up_ix : Up2 K opIx (rIxU K) := by
  intro E S H g x y v w Q W rx ry p
  unfold opIx at p
  split at p
  · cases ry
    split at p
    · rename_i t e
      obtain ⟨l, e1, e2⟩ := Option.bind_eq_some_iff.mp e
      obtain ⟨a, ws, rfl, h, r1⟩ := seqOf_rp W e1 rx
      obtain ⟨v, e3, r2⟩ := atI_rp r1 e2
      rcases h with h | h
      · exact .inl ⟨a, ws, _, v, rfl, rfl, h, e3, p.val W r2⟩
      · exact .inr ⟨a, ws, _, v, rfl, rfl, h, e3, p.val W r2⟩
    · exact p.elim
  · exact p.elim
theorem ix_u (hK : X.K = K := by rfl) : IxR X (rIxU K) := by subst hK; exact ix_list.or ix_tup
theorem aIx (ha : PE X a (LE K E ea)) (hb : PE X b (LE K E eb)) (hs : PlainIx b := by exact fun _ _ => rfl) (hK : X.K = K := by rfl) : PE X (.Subscript a b pos) (LE K E (m2 opIx ea eb)) :=
  PE.weak (pe_ix (ix_u hK) ha hb hs) fun _ _ _ h => LE.op2 up_ix h
/-! slices -/
abbrev AO := Slots → Sto → R (Option Int)
def mNoP : AO := fun _ S => .ok none S
def mPart (a : AE) : AO := fun st S => (a st S).bind fun x S => match x with
  | .int i => .ok (some i) S
  | _ => .bad
def cutT (l : List T) (lo hi : Option Int) : List T := (l.drop (HT.sIx l.length 0 lo)).take (HT.sIx l.length l.length hi - HT.sIx l.length 0 lo)
def opSl (fz : Bool) : T → Option Int → Option Int → Sto → R T
  | .tup l, lo, hi, S => .ok (.tup (cutT l lo hi)) S
  | .tupk l, lo, hi, S => if (cutT l lo hi).length < l.length then .ok (.tup (cutT l lo hi)) S else .bad
  | x, lo, hi, S => match lkL S x with
    | some l => mkL fz (cutT l lo hi) S
    | none => .bad
def mSl (fz : Bool) (a : AE) (lo hi : AO) : AE := fun st S => (a st S).bind fun x S => (lo st S).bind fun l S => (hi st S).bind fun h S => opSl fz x l h S
abbrev oRel : G → Option Int → Option Int → Prop := fun _ a b => a = b
def LO (K : PySem.W.Frag) (E : XS) (a : AO) : TO := fun σ H Q => ∃ st S g, Wd K S H g ∧ Sl K g st σ ∧ Post K (E σ) S H g oRel (a st S) Q
theorem PO.weak {o : Option Expr} {t t' : TO} (h : PO X o t) (k : ∀ σ H Q, t' σ H Q → t σ H Q) : PO X o t' := ⟨fun pins s σ H Q I q => h.run pins s σ H Q I (k σ H Q q)⟩
theorem LO.bind {α β : Type} {rel : G → α → β → Prop} {Q : β → Hp → Prop} {Q1 : Option Int → Hp → Prop} {ea : AO} {f : Option Int → Slots → Sto → R α} {σ : TSt} {H : Hp} {st : Slots} {S : Sto} {g : G} (w : Wd K S H g) (sl : Sl K g st σ) (h : Post K (E σ) S H g rel ((ea st S).bind fun t S => f t st S) Q)
    (k : ∀ t S1 H1 g1, Wd K S1 H1 g1 → Sl K g1 st σ → Ext S H g S1 H1 g1 → Post K (E σ) S1 H1 g1 rel (f t st S1) Q → Q1 t H1) : LO K E ea σ H Q1 :=
  ⟨st, S, g, w, sl, h.bind (rel1 := oRel) fun t S1 v H1 g1 w1 x r p => by cases (show t = v from r); exact k t S1 H1 g1 w1 (sl.mono x.le) x p⟩
theorem aNoP : PO X none (LO K E mNoP) := PO.weak po_none fun σ H Q ⟨st, S, g, w, sl, p⟩ => p.val w rfl
theorem aPart (h : PE X e (LE K E ea)) : PO X (some e) (LO K E (mPart ea)) := PO.weak (po_some h) fun σ H Q ⟨st, S, g, w, sl, p⟩ =>
  LE.bind (f := fun x _ S => match x with
  | .int i => R.ok (some i) S
  | _ => .bad) w sl p fun t S1 v H1 g1 w1 sl1 x1 r1 p1 => by
    split at p1
    · cases r1; exact ⟨_, rfl, p1.val w1 rfl⟩
    · exact p1.elim
def rSlU (K : PySem.W.Frag) : V → Option Int → Option Int → Hp → VK → Prop := fun x lo hi H Q => rSlL K x lo hi H Q ∨ rSlA K x lo hi H Q
theorem sl_u (hK : X.K = K := by rfl) : SlR X (rSlU K) := by subst hK; exact sl_list.or sl_tupA
theorem cut_rp {g : G} {ts : List T} {vs : List V} (r : Rps K g ts vs) (lo hi : Option Int) : Rps K g (cutT ts lo hi) (cutV vs lo hi) := by
  unfold cutT cutV
  rw [r.length]
  exact (r.drop _).take _
theorem aSl (fz : Bool) {lo hi : Option Expr} {p2 : Pos} {el eh : AO} (ha : PE X a (LE K E ea)) (hl : PO X lo (LO K E el)) (hh : PO X hi (LO K E eh)) (hK : X.K = K := by rfl) : PE X (.Subscript a (.Slice lo hi none p2) pos) (LE K E (mSl fz ea el eh)) :=
  PE.weak (pe_slice (sl_u hK) ha hl hh) fun σ H Q ⟨st, S, g, w, sl, p⟩ =>
    LE.bind (f := fun x st S => (el st S).bind fun l S => (eh st S).bind fun h S => opSl fz x l h S) w sl p fun x S1 v H1 g1 w1 sl1 x1 r1 p1 =>
    LO.bind (f := fun l st S => (eh st S).bind fun h S => opSl fz x l h S) w1 sl1 p1 fun l S2 H2 g2 w2 sl2 x2 p2 =>
    LO.bind (f := fun h _ S => opSl fz x l h S) w2 sl2 p2 fun h S3 H3 g3 w3 sl3 x3 p3 => by
      have r3 := (r1.mono x2.le).mono x3.le
      unfold opSl at p3
      split at p3
      · have r4 := r3
        obtain ⟨b, vs, rfl, h1, rs⟩ := r3.tupH w3
        refine .inr ⟨b, vs, rfl, h1, fun c => ?_, fun _ => p3.newT w3 (cut_rp rs _ _)⟩
        rename_i l0
        rw [show cutT l0 l h = l0 from by
          unfold cutT
          rw [rs.length, c.1, c.2, List.drop_zero, Nat.sub_zero, ← rs.length, List.take_length]] at p3
        exact p3.val w3 r4
      · split at p3
        · rename_i l0 hlt
          cases r3 with
          | tupk h1 rs =>
            refine .inr ⟨_, _, rfl, SqT.sub h1 w3.sub, fun c => ?_, fun _ => p3.newT w3 (cut_rp rs _ _)⟩
            rw [show cutT l0 l h = l0 from by
              unfold cutT
              rw [rs.length, c.1, c.2, List.drop_zero, Nat.sub_zero, ← rs.length, List.take_length]] at hlt
            exact absurd hlt (Nat.lt_irrefl _)
        · exact p3.elim
      · split at p3
        · rename_i l0 e
          obtain ⟨b, vs, rfl, h1, rs⟩ := lkL_rp w3 e r3
          exact .inl ⟨b, vs, rfl, h1, Post.newLst p3 w3 (cut_rp rs _ _)⟩
        · exact p3.elim
end
end Ab

namespace Ab
open PySem PySem.Spec PyProof.Rows L2 Sp
/-! ## fields, calls, methods -/
def wx (E : XS) : WX := fun c d σ H => E σ c d H
abbrev AF := List T → Sto → R T
def spA (K : PySem.W.Frag) (n : Nat) (f : AF) : Sp := fun vs H Q E => vs.length = n ∧ ∃ ts S g, Wd K S H g ∧ Rps K g ts vs ∧ Post K E S H g (Rp K) (f ts S) Q
def mCall (f : AF) (a : AA) : AE := fun st S => (a st S).bind f
/-- of an instance of the class c: its attributes -/
def objOf (c : String) (S : Sto) : T → Option (List (String × T))
  | .ref n => match S[n]? with
    | some (.obj d fs) => if d = c then some fs else none
    | _ => none
  | _ => none
def mFld (c f : String) (a : AE) : AE := fun st S => (a st S).bind fun x S => match (objOf c S x).bind fun fs => fs.lookup f with
  | some t => .ok t S
  | none => .bad
def mMeth (c m : String) (f : AF) (o : AE) (a : AA) : AE := fun st S => (o st S).bind fun x S => match (objOf c S x).map fun fs => fs.lookup m with
  | some none => (a st S).bind fun xs S => f (x :: xs) S
  | _ => .bad
def mMake (c : String) (f : AF) (a : AA) : AE := fun st S => (a st S).bind fun xs S => (f (.ref S.length :: xs) (S ++ [.obj c []])).bind fun t S2 => if isNon t = true then .ok (.ref S.length) S2 else .bad
def putT (f : String) (t : T) : List (String × T) → List (String × T)
  | [] => [(f, t)]
  | (h, x) :: r => if h = f then (h, t) :: r else (h, x) :: putT f t r
section
variable {K : PySem.W.Frag} {X : Cx} {E : XS} {e o a b value : Expr} {es : List Expr} {pos p apos pos' : Pos} {ea eb : AE} {ra : AA} {k : Nat} {ps : List Str} {x : Str}
theorem passW (tk : Takes X (wx E)) (σ : TSt) : PassesAt (L2.CX X.prog X.w) X σ (E σ) := passAt tk σ
theorem run_makeS {pins : List (Addr × Obj)} {σ : TSt} {H : Hp} {s : Shared} {Q : VK} {us : List Value} {vs : List V} {C f : Addr} {fd : FuncData} {sp : Sp} {E : XK} (M : Mk X.K C f) (F : FnOk X.prog X.w X.K X.mg X.base (L2.CX X.prog X.w) k f fd ps sp) (hr : Room (k + 1) X.A) (hb : Binds X.K fd ps [])
    (hx : PassesAt (L2.CX X.prog X.w) X σ E) (I : L2.Inv X pins σ H s) (r : Vals vs us)
    (h : ∀ y dx, H y = none → H dx = none → dx ≠ y → sp (.ref y :: vs) (upd (upd H dx (.own y)) y (.ins C dx [])) (fun v H2 => v = .non ∧ Q (.ref y) H2) E) :
    wpAny (model X.prog X.w) X.A (call (.ref C) us) (EP X pins σ Q) X.xe s := by
  have n0 := I.hok.fresh (Nat.le_refl _)
  have n1 := I.hok.fresh (Nat.le_succ _)
  have want := h _ _ n1 n0 (Nat.ne_of_lt (Nat.lt_succ_self _))
  have J := Inv.made (C := C) I
  have rr : Vals (V.ref (s.heap.objs.size + 1) :: vs) (Value.ref (s.heap.objs.size + 1) :: us) := .cons rfl r
  have many : (Value.ref (s.heap.objs.size + 1) :: us ++ []).length = ps.length := by
    rw [List.append_nil, ← rr.length]
    exact F.len _ _ _ _ want
  have bt := hb _ (Value.ref (s.heap.objs.size + 1) :: us) J.kIn many
  rw [List.append_nil] at bt
  have body := F.run _ X.stack _ _ ⟨Value.ref (s.heap.objs.size + 1) :: us, []⟩ _ _ _ E (hr.make C us []) (J.env0.make C us []) bt rr want
  refine wpAny_call (make_map (f := f) I.kIn M.makes M.init (beq_iff_eq.mp M.fn) (codeAny_mono body fun out s' got => ?_))
  cases out with
  | error z => exact hx pins _ _ z s' J got
  | ok fl =>
    cases fl with
    | ret u =>
      obtain ⟨v, H', J3, rv, ev, q3⟩ := J.after got
      subst ev
      exact ⟨rv, V.ref (s.heap.objs.size + 1), H', J3, rfl, q3⟩
    | next => exact got.elim
    | brk => exact got.elim
    | cont => exact got.elim
def tMakeS (C : Addr) (sp : Sp) (E : XS) (t : TA) : TE := fun σ H Q => t σ H fun vs H1 => ∀ y dx, H1 y = none → H1 dx = none → dx ≠ y → sp (.ref y :: vs) (upd (upd H1 dx (.own y)) y (.ins C dx [])) (fun v H2 => v = .non ∧ Q (.ref y) H2) (E σ)
theorem pe_makeOS {C : Str} {sp : Sp} {t : TA} (M : Mk X.K (He.ga X.K C) (He.ma X.K (He.ga X.K C) "__init__")) (O : Okd X.prog X.w X.K X.mg X.base (C, some "__init__") k ps sp) (hr : Room (k + 1) X.A) (hg : Gl X C) (hm : X.mg C = some (.ref (He.ga X.K C))) (hx : ∀ σ, PassesAt (L2.CX X.prog X.w) X σ (E σ))
    (ha : PA X (e :: es) t) (hdb : (C == ("__debug__" : Str)) = false := by decide) (he : starEach (e :: es) X.env = (false, eval e X.env) :: starEach es X.env := by rfl) (hpl : (backTo pos (starEach es X.env)).any (·.1) = false := by rfl) :
    PE X (.Call (.Name C p) (e :: es) [] pos) (tMakeS (He.ga X.K C) sp E t) := by
  obtain ⟨_, hb, _, F⟩ := O
  refine ⟨fun pins s σ H Q I h => wpAny_Call_Name_kw (ld_glob I hg hm ?_ hdb)⟩
  refine PySem.W.callWith_K (h₀ := X.base) I.ok.mod.kin M.kp (thn (ha.run pos pins s σ H _ I h) fun us s1 ⟨vs, H1, I1, r, q⟩ => ⟨I1.kIn, ?_⟩) he hpl
  exact run_makeS M F hr hb (hx σ) I1 r q
theorem pe_makeOS0 {C : Str} {sp : Sp} (M : Mk X.K (He.ga X.K C) (He.ma X.K (He.ga X.K C) "__init__")) (O : Okd X.prog X.w X.K X.mg X.base (C, some "__init__") k ps sp) (hr : Room (k + 1) X.A) (hg : Gl X C) (hm : X.mg C = some (.ref (He.ga X.K C))) (hx : ∀ σ, PassesAt (L2.CX X.prog X.w) X σ (E σ))
    (hdb : (C == ("__debug__" : Str)) = false := by decide) : PE X (.Call (.Name C p) [] [] pos) (tMakeS (He.ga X.K C) sp E tNil) := by
  obtain ⟨_, hb, _, F⟩ := O
  refine ⟨fun pins s σ H Q I h => wpAny_Call_Name_kw (ld_glob I hg hm ?_ hdb)⟩
  exact PySem.W.callWith_K0 I.kIn M.kp (run_makeS (us := []) M F hr hb (hx σ) I .nil h)
theorem pe_callOS0 {sp : Sp} (O : Okd X.prog X.w X.K X.mg X.base (x, none) k ps sp) (hr : Room k X.A) (hg : Gl X x) (hm : X.mg x = some (.ref (He.ga X.K x))) (hx : ∀ σ, PassesAt (L2.CX X.prog X.w) X σ (E σ)) (hdb : (x == ("__debug__" : Str)) = false := by decide) :
    PE X (.Call (.Name x p) [] [] pos) (tCallS sp E tNil) := by
  obtain ⟨_, hb, hk, F⟩ := O
  refine ⟨fun pins s σ H Q I h => wpAny_Call_Name_kw (ld_glob I hg hm ?_ hdb)⟩
  exact PySem.W.callWith_K0 I.kIn hk (run_fnS (us := []) F hr hb (hx σ) I .nil h)
variable {n : Nat} {f : AF}
/-- an argument list of n -/
def Len (ra : AA) (n : Nat) : Prop := ∀ st S S' ys, ra st S = .ok ys S' → ys.length = n
theorem len_nil : Len mNil 0 := fun _ _ _ _ e => by cases e; rfl
theorem len_cons (h : Len ra n) : Len (mCons ea ra) (n + 1) := fun st S S' ys e => by
  unfold mCons at e
  cases q : ea st S with
  | ok t S1 =>
    rw [q] at e
    cases q2 : ra st S1 with
    | ok ts S2 =>
      simp only [R.bind, q2] at e
      cases e
      exact congrArg (· + 1) (h _ _ _ _ q2)
    | exc c S2 => simp only [R.bind, q2] at e; cases e
    | bad => simp only [R.bind, q2] at e; cases e
  | exc c S1 => rw [q] at e; cases e
  | bad => rw [q] at e; cases e
theorem LA.call {σ : TSt} {H : Hp} {Q : VK} (hn : Len ra n) (h : LE K E (mCall f ra) σ H Q) : tCallS (spA K n f) E (LA K E ra) σ H Q := by
  obtain ⟨st, S, g, w, sl, p⟩ := h
  refine ⟨st, S, g, w, sl, ?_⟩
  show Post K (E σ) S H g (Rps K) (ra st S) _
  have q : Post K (E σ) S H g (Rp K) ((ra st S).bind f) Q := p
  cases e : ra st S with
  | ok ys S1 =>
    rw [e] at q
    intro v H' g' w' x r
    exact ⟨by rw [← r.length]; exact hn st S S1 ys e, ys, S1, g', w', r, Post.trans (r := f ys S1) q x⟩
  | exc c S1 => rw [e] at q; exact q
  | bad => rw [e] at q; exact q
theorem aCall (O : Okd X.prog X.w K X.mg X.base (x, none) k ps (spA K n f)) (tk : Takes X (wx E)) (hr : Room k X.A) (hm : X.mg x = some (.ref (He.ga K x))) (ha : PA X (e :: es) (LA K E ra)) (ln : Len ra n) (hg : Gl X x := by rfl) (hK : X.K = K := by rfl) (hdb : (x == ("__debug__" : Str)) = false := by decide)
    (he : starEach (e :: es) X.env = (false, eval e X.env) :: starEach es X.env := by rfl) (hpl : (backTo pos (starEach es X.env)).any (·.1) = false := by rfl) : PE X (.Call (.Name x p) (e :: es) [] pos) (LE K E (mCall f ra)) := by
  subst hK
  exact PE.weak (pe_callOS O hr hg hm (passW tk) ha hdb he hpl) fun σ H Q h => LA.call ln h
theorem aCall0 (O : Okd X.prog X.w K X.mg X.base (x, none) k ps (spA K 0 f)) (tk : Takes X (wx E)) (hr : Room k X.A) (hm : X.mg x = some (.ref (He.ga K x))) (hg : Gl X x := by rfl) (hK : X.K = K := by rfl) (hdb : (x == ("__debug__" : Str)) = false := by decide) : PE X (.Call (.Name x p) [] [] pos) (LE K E (mCall f mNil)) := by
  subst hK
  exact PE.weak (pe_callOS0 O hr hg hm (passW tk) hdb) fun σ H Q ⟨st, S, g, w, sl, q⟩ => (show spA X.K 0 f [] H Q (E σ) from ⟨rfl, [], S, g, w, .nil, q⟩)
/-! fields -/
theorem Rpf.look {g : G} {f : String} : ∀ {fs : List (String × T)} {vs : List (Str × V)}, Rpf K g fs vs → (∀ t, fs.lookup f = some t → ∃ v, vs.lookup (.ofString f) = some v ∧ Rp K g t v) ∧ (fs.lookup f = none → vs.lookup (.ofString f) = none)
  | _, _, .nil => ⟨fun _ e => (by cases e), fun _ => rfl⟩
  | _, _, .cons (f := h) (t := t') (v := v') (fs := fs) (vs := vs) r rr => by
    obtain ⟨i1, i2⟩ := Rpf.look (f := f) rr
    by_cases q : f = h
    · subst q
      refine ⟨fun t e => ?_, fun e => ?_⟩
      · simp at e; subst e; exact ⟨v', by simp, r⟩
      · simp at e
    · have q1 : (f == h) = false := by simpa using q
      have q2 : (Str.ofString f == Str.ofString h) = false := by simpa using fun z => q (ofString_inj z)
      refine ⟨fun t e => ?_, fun e => ?_⟩
      · rw [List.lookup_cons, q1] at e
        rw [List.lookup_cons, q2]
        exact i1 t e
      · rw [List.lookup_cons, q1] at e
        rw [List.lookup_cons, q2]
        exact i2 e
theorem Rpf.put {g : G} {f : String} {t : T} {v : V} (r : Rp K g t v) : ∀ {fs : List (String × T)} {vs : List (Str × V)}, Rpf K g fs vs → Rpf K g (putT f t fs) (putF (.ofString f) v vs)
  | _, _, .nil => .cons r .nil
  | _, _, .cons (f := h) (t := t') (v := v') (fs := fs) (vs := vs) q rr => by
    unfold putT putF
    by_cases z : h = f
    · subst z
      rw [if_pos rfl, if_pos rfl]
      exact .cons r rr
    · rw [if_neg z, if_neg (fun y => z (ofString_inj y))]
      exact .cons q (Rpf.put r rr)
theorem Rpf.length {g : G} : ∀ {fs : List (String × T)} {vs : List (Str × V)}, Rpf K g fs vs → fs.length = vs.length
  | _, _, .nil => rfl
  | _, _, .cons _ r => congrArg (· + 1) (Rpf.length r)
theorem objOf_rp {S : Sto} {H : Hp} {g : G} (W : Wd K S H g) {c : String} {x : T} {v : V} {fs : List (String × T)} (e : objOf c S x = some fs) (r : Rp K g x v) : ∃ m a dx vs, x = .ref m ∧ S[m]? = some (.obj c fs) ∧ g.mu[m]? = some a ∧ v = .ref a ∧ H a = some (.ins (He.ga K (.ofString c)) dx vs) ∧ Rpf K g fs vs := by
  cases r with
  | ref h =>
    simp only [objOf] at e
    split at e
    · rename_i d fs' q
      split at e
      · rename_i ec
        subst ec
        cases e
        obtain ⟨dx, vs, h1, r1⟩ := W.cell _ _ _ q (fun z => nomatch z) h
        exact ⟨_, _, dx, vs, rfl, q, h, rfl, h1, r1⟩
      · cases e
    · cases e
  | _ => cases e
theorem aFld {c f : String} {fS : Str} (hf : fS = Str.ofString f) (hc : Cls K (He.ga K (.ofString c))) (hn : NoAttr K (He.ga K (.ofString c)) (.ofString f)) (ha : PE X o (LE K E ea)) (hb : attributeBase o fS X.env (eval o X.env) = eval o X.env := by rfl) (hK : X.K = K := by rfl) :
    PE X (.Attribute o fS pos) (LE K E (mFld c f ea)) := by
  subst hf
  refine PE.weak (pe_fldK K ha hb hK) fun σ H Q ⟨st, S, g, w, sl, p⟩ => LE.bind (f := fun x _ S => match (objOf c S x).bind fun fs => fs.lookup f with
  | some t => .ok t S
  | none => .bad) w sl p fun x S1 v H1 g1 w1 sl1 x1 r1 p1 => ?_
  split at p1
  · rename_i t e
    obtain ⟨fs, e1, e2⟩ := Option.bind_eq_some_iff.mp e
    obtain ⟨m, a, dx, vs, _, _, _, rfl, h1, rf⟩ := objOf_rp w1 e1 r1
    obtain ⟨v, e3, r3⟩ := rf.look.1 t e2
    exact ⟨a, _, dx, vs, v, rfl, h1, hc, hn, e3, p1.val w1 r3⟩
  · exact p1.elim
theorem aMeth {c m : String} {mS : Str} {pl : Sem Bool} (hf : mS = Str.ofString m) (hc : Cls K (He.ga K (.ofString c))) (hm : Meth K (He.ga K (.ofString c)) mS (He.ma K (He.ga K (.ofString c)) mS)) (O : Okd X.prog X.w K X.mg X.base (.ofString c, some mS) k ps (spA K (n + 1) f)) (tk : Takes X (wx E)) (hr : Room k X.A) (ho : PE X o (LE K E ea)) (ha : PA X (e :: es) (LA K E ra)) (ln : Len ra n)
    (hK : X.K = K := by rfl) (hst : starEach (e :: es) X.env = (false, eval e X.env) :: starEach es X.env := by rfl) (hpl : (backTo pos (starEach es X.env)).any (·.1) = false := by rfl)
    (ht : eval (.Call (.Attribute o mS apos) (e :: es) [] pos) X.env = (do
      let ov ← eval o X.env
      standAt apos.atName
      let (f, first) ← holding [ov] (getMethod ov mS pl)
      callWith pos f first (backTo pos (starEach (e :: es) X.env)) (backToKw pos (keywordEach [] X.env))) := by rfl) : PE X (.Call (.Attribute o mS apos) (e :: es) [] pos) (LE K E (mMeth c m f ea ra)) := by
  subst hf
  refine PE.weak (pe_methOS K (pl := pl) ho hc hm O hr (passW tk) ha hst hpl ht hK) fun σ H Q ⟨st, S, g, w, sl, p⟩ => LE.bind (f := fun x st S => match (objOf c S x).map fun fs => fs.lookup m with
  | some none => (ra st S).bind fun xs S => f (x :: xs) S
  | _ => .bad) w sl p fun x S1 v H1 g1 w1 sl1 x1 r1 p1 => ?_
  split at p1
  · rename_i e
    obtain ⟨fs, e1, e2⟩ := Option.map_eq_some_iff.mp e
    obtain ⟨j, a, dx, vs, _, _, _, rfl, h1, rf⟩ := objOf_rp w1 e1 r1
    refine ⟨a, dx, vs, rfl, h1, rf.look.2 e2, st, S1, g1, w1, sl1, ?_⟩
    cases q : ra st S1 with
    | ok ys S2 =>
      rw [q] at p1
      intro vs H' g' w' x' r'
      exact ⟨by rw [List.length_cons, ← r'.length, ln _ _ _ _ q], x :: ys, S2, g', w', .cons (r1.mono x'.le) r', Post.trans (r := f (x :: ys) S2) p1 x'⟩
    | exc c S2 => rw [q] at p1; exact p1
    | bad => rw [q] at p1; exact p1
  · exact p1.elim
theorem aMeth0 {c m : String} {mS : Str} {pl : Sem Bool} (hf : mS = Str.ofString m) (hc : Cls K (He.ga K (.ofString c))) (hm : Meth K (He.ga K (.ofString c)) mS (He.ma K (He.ga K (.ofString c)) mS)) (O : Okd X.prog X.w K X.mg X.base (.ofString c, some mS) k ps (spA K 1 f)) (tk : Takes X (wx E)) (hr : Room k X.A) (ho : PE X o (LE K E ea))
    (hK : X.K = K := by rfl)
    (ht : eval (.Call (.Attribute o mS apos) [] [] pos) X.env = (do
      let ov ← eval o X.env
      standAt apos.atName
      let (f, first) ← holding [ov] (getMethod ov mS pl)
      callWith pos f first (backTo pos (starEach [] X.env)) (backToKw pos (keywordEach [] X.env))) := by rfl) : PE X (.Call (.Attribute o mS apos) [] [] pos) (LE K E (mMeth c m f ea mNil)) := by
  subst hf
  refine PE.weak (pe_methOS0 K (pl := pl) ho hc hm O hr (passW tk) ht hK) fun σ H Q ⟨st, S, g, w, sl, p⟩ => LE.bind (f := fun x st S => match (objOf c S x).map fun fs => fs.lookup m with
  | some none => (mNil st S).bind fun xs S => f (x :: xs) S
  | _ => .bad) w sl p fun x S1 v H1 g1 w1 sl1 x1 r1 p1 => ?_
  split at p1
  · rename_i e
    obtain ⟨fs, e1, e2⟩ := Option.map_eq_some_iff.mp e
    obtain ⟨j, a, dx, vs, _, _, _, rfl, h1, rf⟩ := objOf_rp w1 e1 r1
    exact ⟨a, dx, vs, rfl, h1, rf.look.2 e2, rfl, [x], S1, g1, w1, .cons r1 .nil, p1⟩
  · exact p1.elim
/-! instances are made -/
theorem Wd.made {S : Sto} {H : Hp} {g : G} (W : Wd K S H g) {c : String} {y dx : Addr} (hy : H y = none) (hd : H dx = none) (ne : dx ≠ y) :
    Wd K (S ++ [.obj c []]) (upd (upd H dx (.own y)) y (.ins (He.ga K (.ofString c)) dx [])) (g.snoc y) ∧ Ext S H g (S ++ [.obj c []]) (upd (upd H dx (.own y)) y (.ins (He.ga K (.ofString c)) dx [])) (g.snoc y) ∧ (g.snoc y).mu[S.length]? = some y := by
  have keep : ∀ b u, H b = some u → upd H dx (.own y) b = some u := fun b u e => by rw [upd_ne (ne_of_none e hd)]; exact e
  have W1 : Wd K S (upd H dx (.own y)) g := ⟨W.len, fun b u e => keep b u (W.sub b u e), fun m u b e d mm => (W.cell m u b e d mm).mono (.refl g) (by
    obtain ⟨z, e⟩ := (W.cell m u b e d mm).there d
    rw [keep b z e, e]), W.off, W.inj⟩
  obtain ⟨w2, x2, m2⟩ := W1.alloc (p := y) (ho := .ins (He.ga K (.ofString c)) dx []) (o := .obj c []) (by rw [upd_ne (Ne.symm ne)]; exact hy) (fun z => nomatch z) ⟨dx, [], upd_same, .nil⟩
  refine ⟨w2, ⟨x2.le, fun b u e => ?_, fun b u e nt f l => ?_, fun n b ps a e m => ⟨(x2.lk n b ps a e m).1.trans (by obtain ⟨_, z⟩ := (W.cell n _ a e (fun z => nomatch z) m).there (fun z => nomatch z); rw [keep a _ z, z]), (x2.lk n b ps a e m).2⟩⟩, m2⟩
  · rw [x2.fz b u e, keep b u (W.sub b u e), W.sub b u e]
  · exact x2.fr b u (keep b u e) nt f l
theorem mk_post {S : Sto} {H : Hp} {g : G} {EE : XK} {c : String} {xs : List T} {vs : List V} {Q : VK} (W : Wd K S H g) (r : Rps K g xs vs) (hl : xs.length = n)
    (p : Post K EE S H g (Rp K) ((f (.ref S.length :: xs) (S ++ [.obj c []])).bind fun t S2 => if isNon t = true then .ok (.ref S.length) S2 else .bad) Q) :
    ∀ y dx, H y = none → H dx = none → dx ≠ y → spA K (n + 1) f (.ref y :: vs) (upd (upd H dx (.own y)) y (.ins (He.ga K (.ofString c)) dx [])) (fun v H2 => v = .non ∧ Q (.ref y) H2) EE := by
  intro y dx hy hd ne
  obtain ⟨w2, x2, m2⟩ := W.made (c := c) hy hd ne
  refine ⟨by rw [List.length_cons, ← r.length, hl], _, _, _, w2, .cons (.ref m2) (r.mono x2.le), ?_⟩
  refine Post.bind (p.trans x2) fun t S3 v H3 g3 w3 x3 r3 p3 => ?_
  split at p3
  · rename_i c0
    refine ⟨?_, p3.val w3 (.ref (x3.le.mu _ _ m2))⟩
    rw [isNon_rp r3] at c0
    exact of_decide_eq_true c0
  · exact p3.elim
theorem aMake {c : String} {cS : Str} (hf : cS = Str.ofString c) (M : Mk K (He.ga K cS) (He.ma K (He.ga K cS) "__init__")) (O : Okd X.prog X.w K X.mg X.base (cS, some "__init__") k ps (spA K (n + 1) f)) (tk : Takes X (wx E)) (hr : Room (k + 1) X.A) (hm : X.mg cS = some (.ref (He.ga K cS))) (ha : PA X (e :: es) (LA K E ra)) (ln : Len ra n)
    (hg : Gl X cS := by rfl) (hK : X.K = K := by rfl) (hdb : (cS == ("__debug__" : Str)) = false := by decide) (he : starEach (e :: es) X.env = (false, eval e X.env) :: starEach es X.env := by rfl) (hpl : (backTo pos (starEach es X.env)).any (·.1) = false := by rfl) :
    PE X (.Call (.Name cS p) (e :: es) [] pos) (LE K E (mMake c f ra)) := by
  subst hK hf
  refine PE.weak (pe_makeOS M O hr hg hm (passW tk) ha hdb he hpl) fun σ H Q ⟨st, S, g, w, sl, q⟩ => ?_
  refine ⟨st, S, g, w, sl, ?_⟩
  have q' : Post X.K (E σ) S H g (Rp X.K) ((ra st S).bind fun xs S => (f (.ref S.length :: xs) (S ++ [.obj c []])).bind fun t S2 => if isNon t = true then .ok (.ref S.length) S2 else .bad) Q := q
  cases z : ra st S with
  | ok ys S2 =>
    rw [z] at q'
    intro vs H' g' w' x' r'
    exact mk_post w' r' (ln _ _ _ _ z) (Post.trans q' x')
  | exc c S2 => rw [z] at q'; exact q'
  | bad => rw [z] at q'; exact q'
theorem aMake0 {c : String} {cS : Str} (hf : cS = Str.ofString c) (M : Mk K (He.ga K cS) (He.ma K (He.ga K cS) "__init__")) (O : Okd X.prog X.w K X.mg X.base (cS, some "__init__") k ps (spA K 1 f)) (tk : Takes X (wx E)) (hr : Room (k + 1) X.A) (hm : X.mg cS = some (.ref (He.ga K cS)))
    (hg : Gl X cS := by rfl) (hK : X.K = K := by rfl) (hdb : (cS == ("__debug__" : Str)) = false := by decide) : PE X (.Call (.Name cS p) [] [] pos) (LE K E (mMake c f mNil)) := by
  subst hK hf
  exact PE.weak (pe_makeOS0 M O hr hg hm (passW tk) hdb) fun σ H Q ⟨st, S, g, w, sl, q⟩ => mk_post (n := 0) w .nil rfl q
end
end Ab

namespace Ab
open PySem PySem.Spec PyProof.Rows L2 Sp
/-! ## statements -/
inductive RS where
  | nx (st : Slots) (S : Sto) | rt (t : T) (S : Sto) | br (st : Slots) (S : Sto) | ct (st : Slots) (S : Sto) | exc (c : String) (st : Slots) (S : Sto) | bad
abbrev AS := Slots → Sto → RS
abbrev MG := T → Slots → Sto → RS
abbrev MGs := List T → Slots → Sto → RS
def R.stm {α : Type} (r : R α) (st : Slots) (f : α → Sto → RS) : RS := match r with
  | .ok a S => f a S
  | .exc c S => .exc c st S
  | .bad => .bad
def RS.seq (r : RS) (f : AS) : RS := match r with
  | .nx st S => f st S
  | r => r
/-- a target's store goes on or raises: nothing else -/
def RS.only : RS → RS
  | .nx st S => .nx st S
  | .exc c st S => .exc c st S
  | _ => .bad
def mPass : AS := fun st S => .nx st S
def mSeq (a b : AS) : AS := fun st S => (a st S).seq b
def mBrk : AS := fun st S => .br st S
def mCnt : AS := fun st S => .ct st S
def mExp (e : AE) : AS := fun st S => (e st S).stm st fun _ S => .nx st S
def mRet (e : AE) : AS := fun st S => (e st S).stm st fun t S => .rt t S
def mRetN : AS := fun _ S => .rt .non S
def mIf (c : AT) (a b : AS) : AS := fun st S => (c st S).stm st fun k S => if k = true then a st S else b st S
def mSet (i : Nat) (e : AE) : AS := fun st S => (e st S).stm st fun t S => .nx (st.set i (some t)) S
def mAsg (e : AE) (g : MG) : AS := fun st S => (e st S).stm st fun t S => (g t st S).only
def mRaise (c : String) : AS := fun st S => .exc c st S
def gN (i : Nat) : MG := fun t st S => .nx (st.set i (some t)) S
def gsN : MGs := fun ts st S => match ts with
  | [] => .nx st S
  | _ :: _ => .bad
def gsC (g : MG) (gs : MGs) : MGs := fun ts st S => match ts with
  | t :: ts => (g t st S).seq fun st S => gs ts st S
  | [] => .bad
def gT (n : Nat) (gs : MGs) : MG := fun t st S => match t with
  | .tup ts => if ts.length = n then gs ts st S else .bad
  | .tupk ts => if ts.length = n then gs ts st S else .bad
  | _ => .bad
def mPar (i j : Nat) (a : AA) : AS := fun st S => (a st S).stm st fun ts S => match ts with
  | [t, u] => .nx ((st.set i (some t)).set j (some u)) S
  | _ => .bad
def mAug (i : Nat) (f : T → T → Sto → R T) (e : AE) : AS := fun st S => match st[i]? with
  | some (some x) => (e st S).stm st fun y S => (f x y S).stm st fun z S => .nx (st.set i (some z)) S
  | _ => .bad
def PostS (K : PySem.W.Frag) (E : XS) (S : Sto) (H : Hp) (g : G) (r : RS) (D : Ends) : Prop := match r with
  | .nx st' S' => ∀ σ' H' g', Wd K S' H' g' → Ext S H g S' H' g' → Sl K g' st' σ' → D.nx σ' H'
  | .br st' S' => ∀ σ' H' g', Wd K S' H' g' → Ext S H g S' H' g' → Sl K g' st' σ' → D.bk σ' H'
  | .ct st' S' => ∀ σ' H' g', Wd K S' H' g' → Ext S H g S' H' g' → Sl K g' st' σ' → D.ct σ' H'
  | .rt t S' => ∀ v H' g', Wd K S' H' g' → Ext S H g S' H' g' → Rp K g' t v → D.rt v H'
  | .exc c st' S' => ∀ σ' H' g', Wd K S' H' g' → Ext S H g S' H' g' → Sl K g' st' σ' → E σ' (cR K c) none H'
  | .bad => False
def LS (K : PySem.W.Frag) (E : XS) (a : AS) : TS := fun D σ H => ∃ st S g, Wd K S H g ∧ Sl K g st σ ∧ PostS K E S H g (a st S) D
def LG (K : PySem.W.Frag) (E : XS) (a : MG) : TG := fun v σ H Q => ∃ t st S g, Wd K S H g ∧ Sl K g st σ ∧ Rp K g t v ∧ PostS K E S H g (a t st S) ⟨Q, fun _ _ => False, fun _ _ => False, fun _ _ => False⟩
def LGs (K : PySem.W.Frag) (E : XS) (a : MGs) : TGs := fun vs σ H Q => ∃ ts st S g, Wd K S H g ∧ Sl K g st σ ∧ Rps K g ts vs ∧ PostS K E S H g (a ts st S) ⟨Q, fun _ _ => False, fun _ _ => False, fun _ _ => False⟩
section
variable {K : PySem.W.Frag} {E : XS} {S S1 : Sto} {H H1 : Hp} {g g1 : G} {D D' : Ends}
theorem PostS.trans {r : RS} (h : PostS K E S H g r D) (x : Ext S H g S1 H1 g1) : PostS K E S1 H1 g1 r D := by
  cases r with
  | bad => exact h
  | _ => exact fun a b c w y z => h a b c w (x.trans y) z
theorem PostS.imp {r : RS} (h : PostS K E S H g r D) (h1 : ∀ σ H, D.nx σ H → D'.nx σ H) (h2 : ∀ v H, D.rt v H → D'.rt v H) (h3 : ∀ σ H, D.bk σ H → D'.bk σ H) (h4 : ∀ σ H, D.ct σ H → D'.ct σ H) : PostS K E S H g r D' := by
  cases r with
  | nx st S' => exact fun a b c w y z => h1 _ _ (h a b c w y z)
  | br st S' => exact fun a b c w y z => h3 _ _ (h a b c w y z)
  | ct st S' => exact fun a b c w y z => h4 _ _ (h a b c w y z)
  | rt t S' => exact fun a b c w y z => h2 _ _ (h a b c w y z)
  | exc c st S' => exact h
  | bad => exact h
/-- an expression within a statement -/
theorem PostS.run {α β : Type} {rel : G → α → β → Prop} {σ : TSt} {st : Slots} {r : R α} {f : α → Sto → RS} (sl : Sl K g st σ) (h : PostS K E S H g (r.stm st f) D) {Q : β → Hp → Prop}
    (k : ∀ t S1 v H1 g1, Wd K S1 H1 g1 → Sl K g1 st σ → Ext S H g S1 H1 g1 → rel g1 t v → PostS K E S1 H1 g1 (f t S1) D → Q v H1) : Post K (E σ) S H g rel r Q := by
  cases r with
  | ok t S' =>
    intro v H' g' w x r
    exact k t S' v H' g' w (sl.mono x.le) x r (PostS.trans (r := f t S') h x)
  | exc c S' => exact fun H' g' w x => h σ H' g' w x (sl.mono x.le)
  | bad => exact h
theorem PostS.seq {r : RS} {f : AS} (h : PostS K E S H g (r.seq f) D) : PostS K E S H g r { D with nx := LS K E f D } := by
  cases r with
  | nx st S' => exact fun σ' H' g' w x sl => ⟨st, S', g', w, sl, PostS.trans (r := f st S') h x⟩
  | br st S' => exact h
  | ct st S' => exact h
  | rt t S' => exact h
  | exc c st S' => exact h
  | bad => exact h
end
section
variable {X : Cx} {K : PySem.W.Frag} {E : XS} {e a b c tg : Expr} {es : List Expr} {s : Stmt} {ss tt : List Stmt} {pos : Pos} {ea eb : AE} {et : AT} {ra : AA} {as bs : AS} {gg : MG} {gs : MGs} {x : Str}
theorem PS.weak {t t' : TS} (h : PS X s t) (k : ∀ D σ H, t' D σ H → t D σ H) : PS X s t' := ⟨fun pins s σ H D I q => h.run pins s σ H D I (k D σ H q)⟩
theorem PSs.weak {t t' : TS} (h : PSs X ss t) (k : ∀ D σ H, t' D σ H → t D σ H) : PSs X ss t' := ⟨fun pins s σ H D I q => h.run pins s σ H D I (k D σ H q)⟩
theorem PG.weak {t t' : TG} (h : PG X e t) (k : ∀ v σ H Q, t' v σ H Q → t v σ H Q) : PG X e t' := ⟨fun pins s σ H v u Q I r q => h.run pins s σ H v u Q I r (k v σ H Q q)⟩
theorem PGs.weak {t t' : TGs} (h : PGs X es t) (k : ∀ v σ H Q, t' v σ H Q → t v σ H Q) : PGs X es t' := ⟨fun pins s σ H v u Q I r q => h.run pins s σ H v u Q I r (k v σ H Q q)⟩
theorem LE.run {σ : TSt} {st : Slots} {S : Sto} {H : Hp} {g : G} {f : T → Sto → RS} {D : Ends} {Q : VK} (w : Wd K S H g) (sl : Sl K g st σ) (h : PostS K E S H g ((ea st S).stm st f) D)
    (k : ∀ t S1 v H1 g1, Wd K S1 H1 g1 → Sl K g1 st σ → Ext S H g S1 H1 g1 → Rp K g1 t v → PostS K E S1 H1 g1 (f t S1) D → Q v H1) : LE K E ea σ H Q := ⟨st, S, g, w, sl, h.run sl k⟩
theorem LA.run {σ : TSt} {st : Slots} {S : Sto} {H : Hp} {g : G} {f : List T → Sto → RS} {D : Ends} {Q : List V → Hp → Prop} (w : Wd K S H g) (sl : Sl K g st σ) (h : PostS K E S H g ((ra st S).stm st f) D)
    (k : ∀ t S1 v H1 g1, Wd K S1 H1 g1 → Sl K g1 st σ → Ext S H g S1 H1 g1 → Rps K g1 t v → PostS K E S1 H1 g1 (f t S1) D → Q v H1) : LA K E ra σ H Q := ⟨st, S, g, w, sl, h.run sl k⟩
theorem LT.run {σ : TSt} {st : Slots} {S : Sto} {H : Hp} {g : G} {f : Bool → Sto → RS} {D : Ends} {Q : Bool → Hp → Prop} (w : Wd K S H g) (sl : Sl K g st σ) (h : PostS K E S H g ((et st S).stm st f) D)
    (k : ∀ t S1 H1 g1, Wd K S1 H1 g1 → Sl K g1 st σ → Ext S H g S1 H1 g1 → PostS K E S1 H1 g1 (f t S1) D → Q t H1) : LT K E et σ H Q := ⟨st, S, g, w, sl, h.run (rel := bRel) sl fun t S1 v H1 g1 w1 sl1 x1 r p => by cases (show t = v from r); exact k t S1 H1 g1 w1 sl1 x1 p⟩
theorem aSNil : PSs X [] (LS K E mPass) := PSs.weak pss_nil fun D σ H ⟨st, S, g, w, sl, p⟩ => p σ H g w (.refl S H g) sl
theorem aSOne (h : PS X s (LS K E as)) : PSs X [s] (LS K E as) := pss_one h
theorem aSCons (h : PS X s (LS K E as)) (k : PSs X ss (LS K E bs)) : PSs X (s :: ss) (LS K E (mSeq as bs)) := PSs.weak (pss_cons h k) fun D σ H ⟨st, S, g, w, sl, p⟩ => ⟨st, S, g, w, sl, PostS.seq p⟩
theorem aPass : PS X (.Pass pos) (LS K E mPass) := PS.weak ps_pass fun D σ H ⟨st, S, g, w, sl, p⟩ => p σ H g w (.refl S H g) sl
theorem aBrk : PS X (.Break pos) (LS K E mBrk) := PS.weak ps_break fun D σ H ⟨st, S, g, w, sl, p⟩ => p σ H g w (.refl S H g) sl
theorem aCnt : PS X (.Continue pos) (LS K E mCnt) := PS.weak ps_continue fun D σ H ⟨st, S, g, w, sl, p⟩ => p σ H g w (.refl S H g) sl
theorem aExp (h : PE X e (LE K E ea)) (hs : swapsWith e none pos.line X.env = pure false := by rfl) : PS X (.Expr e pos) (LS K E (mExp ea)) :=
  PS.weak (ps_expr h hs) fun D σ H ⟨st, S, g, w, sl, p⟩ => LE.run (f := fun _ S => .nx st S) w sl p fun t S1 v H1 g1 w1 sl1 x1 r1 p1 => p1 σ H1 g1 w1 (.refl _ _ _) sl1
theorem aDoc {x j pos'} : PS X (.Expr (.Constant (.str x) j pos) pos') (LS K E mPass) := PS.weak ps_doc fun D σ H ⟨st, S, g, w, sl, p⟩ => p σ H g w (.refl S H g) sl
theorem aRet (h : PE X e (LE K E ea)) : PS X (.Return (some e) pos) (LS K E (mRet ea)) :=
  PS.weak (ps_ret h) fun D σ H ⟨st, S, g, w, sl, p⟩ => LE.run (f := fun t S => .rt t S) w sl p fun t S1 v H1 g1 w1 sl1 x1 r1 p1 => p1 v H1 g1 w1 (.refl _ _ _) r1
theorem aRetN : PS X (.Return none pos) (LS K E mRetN) := PS.weak ps_retN fun D σ H ⟨st, S, g, w, sl, p⟩ => p .non H g w (.refl S H g) .non
theorem aIf (hc : PT X c (LT K E et)) (ha : PSs X ss (LS K E as)) (hb : PSs X tt (LS K E bs)) : PS X (.If c ss tt pos) (LS K E (mIf et as bs)) :=
  PS.weak (ps_if hc ha hb) fun D σ H ⟨st, S, g, w, sl, p⟩ => LT.run (f := fun k S => if k = true then as st S else bs st S) w sl p fun t S1 H1 g1 w1 sl1 x1 p1 => by
    cases t with
    | true => rw [if_pos rfl]; exact ⟨st, S1, g1, w1, sl1, p1⟩
    | false => rw [if_neg Bool.false_ne_true]; exact ⟨st, S1, g1, w1, sl1, p1⟩
theorem aGN {i : Nat} (hN : X.N.Nodup) (hi : X.N[i]? = some x := by rfl) (hx : Loc X.env.scope x := by first | exact .inl rfl | exact .inr rfl) (hf : X.fn x = true ∨ X.env.scope.names.lookup x = some .local := by first | exact .inl rfl | exact .inr rfl | assumption) : PG X (.Name x pos) (LG K E (gN i)) :=
  PG.weak (pg_name hN hi hx hf) fun v σ H Q ⟨t, st, S, g, w, sl, r, p⟩ => p _ H g w (.refl S H g) (sl.set i r)
theorem aGsN : PGs X [] (LGs K E gsN) := PGs.weak pgs_nil fun v σ H Q ⟨ts, st, S, g, w, sl, r, p⟩ => by
  cases r with
  | nil => exact ⟨rfl, p σ H g w (.refl S H g) sl⟩
  | cons => exact p.elim
theorem aGsC (h : PG X e (LG K E gg)) (k : PGs X es (LGs K E gs)) (hs : (assignEach (e :: es) X.env).map (·.2) = assign e X.env :: (assignEach es X.env).map (·.2) := by rfl) : PGs X (e :: es) (LGs K E (gsC gg gs)) := PGs.weak (pgs_cons h k hs) fun vs σ H Q ⟨ts, st, S, g, w, sl, r, p⟩ => by
  cases r with
  | nil => exact p.elim
  | @cons t ts v vs h1 h2 =>
    refine ⟨_, _, rfl, _, st, S, g, w, sl, h1, ?_⟩
    have q : PostS K E S H g ((gg t st S).seq fun st S => gs ts st S) ⟨Q, fun _ _ => False, fun _ _ => False, fun _ _ => False⟩ := p
    cases z : gg t st S with
    | nx st' S' => rw [z] at q; exact fun σ' H' g' w' x' sl' => ⟨ts, st', S', g', w', sl', h2.mono x'.le, PostS.trans (r := gs ts st' S') q x'⟩
    | br st' S' => rw [z] at q; exact q
    | ct st' S' => rw [z] at q; exact q
    | rt t S' => rw [z] at q; exact q
    | exc c st' S' => rw [z] at q; exact q
    | bad => rw [z] at q; exact q
theorem aGT {j : Nat} {n : Nat} (hc : X.calm = true) (h : PGs X es (LGs K E gs)) (hn : (assignEach es X.env).length = n := by rfl) (hst : (assignEach es X.env).findIdx? (·.1) = none := by rfl) (hK : X.K = K := by rfl) : PG X (.Tuple es j pos) (LG K E (gT n gs)) := by
  subst hK
  refine PG.weak (pg_tup hc h hn hst) fun v σ H Q ⟨t, st, S, g, w, sl, r, p⟩ => ?_
  unfold gT at p
  split at p
  · split at p
    · rename_i c
      obtain ⟨a, vs, rfl, h1, r1⟩ := r.tupH w
      exact ⟨a, vs, rfl, h1, by rw [← r1.length]; exact c, _, st, S, g, w, sl, r1, p⟩
    · exact p.elim
  · split at p
    · rename_i c
      obtain ⟨a, vs, rfl, h1, r1⟩ := r.tupkH w
      exact ⟨a, vs, rfl, h1, by rw [← r1.length]; exact c, _, st, S, g, w, sl, r1, p⟩
    · exact p.elim
  · exact p.elim
theorem aSet {i : Nat} {pos' : Pos} (hN : X.N.Nodup) (h : PE X e (LE K E ea)) (hi : X.N[i]? = some x := by rfl) (hx : Loc X.env.scope x := by first | exact .inl rfl | exact .inr rfl) (hs : swapsWith e (some (.Name x pos')) pos.line X.env = pure false := by rfl)
    (hf : X.fn x = true ∨ X.env.scope.names.lookup x = some .local := by first | exact .inl rfl | exact .inr rfl | assumption) : PS X (.Assign [.Name x pos'] e pos) (LS K E (mSet i ea)) :=
  PS.weak (ps_set hN hi hx h hs hf) fun D σ H ⟨st, S, g, w, sl, p⟩ => LE.run (f := fun t S => .nx (st.set i (some t)) S) w sl p fun t S1 v H1 g1 w1 sl1 x1 r1 p1 => p1 _ H1 g1 w1 (.refl _ _ _) (sl1.set i r1)
theorem aAsg (h : PE X e (LE K E ea)) (hg : PG X tg (LG K E gg)) (hs : swapsWithSole [tg] e pos.line X.env = pure false := by rfl) (hw : swappedStores [tg] e X.env = pure none := by rfl)
    (h1 : (assignEach [tg] X.env).map (·.2) = [assign tg X.env] := by rfl) : PS X (.Assign [tg] e pos) (LS K E (mAsg ea gg)) :=
  PS.weak (ps_asg h hg hs hw h1) fun D σ H ⟨st, S, g, w, sl, p⟩ => LE.run (f := fun t S => (gg t st S).only) w sl p fun t S1 v H1 g1 w1 sl1 x1 r1 p1 => ⟨t, st, S1, g1, w1, sl1, r1, by
    cases y : gg t st S1 with
    | nx st' S' => rw [y] at p1; exact p1
    | exc c st' S' => rw [y] at p1; exact p1
    | bad => rw [y] at p1; exact p1
    | rt a b => rw [y] at p1; exact p1.elim
    | br a b => rw [y] at p1; exact p1.elim
    | ct a b => rw [y] at p1; exact p1.elim⟩
/-! ### defs -/
end
def mDef (n N : Nat) (b : AS) : AF := fun ts S => if ts.length = n then (match b (ts.map some ++ List.replicate (N - n) none) S with
  | .rt t S => .ok t S
  | .nx _ S => .ok .non S
  | .exc c _ S => .exc c S
  | _ => .bad) else .bad
section
variable {X : Cx} {K : PySem.W.Frag}
theorem sl_start {g : G} {m : Nat} : ∀ {ts : List T} {vs : List V}, Rps K g ts vs → Sl K g (ts.map some ++ List.replicate m none) (vs.map some ++ List.replicate m none)
  | _, _, .nil => by
    refine ⟨by simp, fun i t e => ?_⟩
    simp only [List.map_nil, List.nil_append, List.getElem?_replicate] at e
    split at e <;> simp at e
  | _, _, .cons h r => by
    obtain ⟨l, k⟩ := sl_start (m := m) r
    refine ⟨by simpa using l, fun i t e => ?_⟩
    cases i with
    | zero =>
      simp at e
      subst e
      exact ⟨_, by simp, h⟩
    | succ i =>
      obtain ⟨v, e1, r1⟩ := k i t (by simpa using e)
      exact ⟨v, by simpa using e1, r1⟩
theorem aDef {N : List Str} {n : Nat} {b : AS} {ss : List Stmt} {vs : List V} {H : Hp} {Q : VK} {E : XK} (hK : X.K = K) (h : PSs X ss (LS K (fun _ => E) b)) (k : spA K n (mDef n N.length b) vs H Q E) :
    ∃ t, PSs X ss t ∧ t { nx := fun _ H' => Q .non H', rt := Q } (start N vs) H := by
  refine ⟨_, h, ?_⟩
  obtain ⟨hl, ts, S, g, w, r, p⟩ := k
  unfold mDef at p
  rw [if_pos (r.length.trans hl)] at p
  refine ⟨ts.map some ++ List.replicate (N.length - n) none, S, g, w, ?_, ?_⟩
  · unfold L2.start
    rw [hl]
    exact sl_start r
  · cases z : b (ts.map some ++ List.replicate (N.length - n) none) S with
    | nx st S' => rw [z] at p; exact fun σ' H' g' w' x' sl' => p _ H' g' w' x' .non
    | rt t S' => rw [z] at p; exact fun v H' g' w' x' r' => p v H' g' w' x' r'
    | exc c st S' => rw [z] at p; exact fun σ' H' g' w' x' sl' => p H' g' w' x'
    | br st S' => rw [z] at p; exact p.elim
    | ct st S' => rw [z] at p; exact p.elim
    | bad => rw [z] at p; exact p.elim
end
/-! ### loops -/
def mWh : Nat → AT → AS → AS
  | 0, _, _ => fun _ _ => .bad
  | n + 1, c, b => fun st S => (c st S).stm st fun k S => if k = true then (match b st S with
    | .nx st S => mWh n c b st S
    | .ct st S => mWh n c b st S
    | .br st S => .nx st S
    | r => r) else .nx st S
/-- what a loop walks: the items, and the list that must stay as it is -/
structure Itm where
  l : List T
  ck : Option (Nat × O)
def okC (ck : Option (Nat × O)) (S : Sto) : Prop := match ck with
  | none => True
  | some (n, o) => S[n]? = some o
open Classical in
noncomputable def forL (ck : Option (Nat × O)) (g : MG) (b : AS) : List T → AS
  | [], st, S => if okC ck S then .nx st S else .bad
  | t :: ts, st, S => if okC ck S then (match (g t st S).only with
    | .nx st S => (match b st S with
      | .nx st S => forL ck g b ts st S
      | .ct st S => forL ck g b ts st S
      | .br st S => .nx st S
      | r => r)
    | r => r) else .bad
abbrev AI := Slots → Sto → R Itm
noncomputable def mFor (it : AI) (g : MG) (b : AS) : AS := fun st S => (it st S).stm st fun x S => forL x.ck g b x.l st S
structure Wlk (K : PySem.W.Frag) (J : It) (S0 : Sto) (H0 : Hp) (g0 : G) (x : Itm) : Prop where
  go : ∀ (i : Nat) (S : Sto) (H : Hp) (g : G) (t : T), Wd K S H g → Ext S0 H0 g0 S H g → okC x.ck S → x.l[i]? = some t → J.go i H ∧ ∀ v H', J.yld i H v H' → ∃ g', Wd K S H' g' ∧ Ext S H g S H' g' ∧ Rp K g' t v
  stop : ∀ (i : Nat) (S : Sto) (H : Hp) (g : G), Wd K S H g → Ext S0 H0 g0 S H g → okC x.ck S → x.l.length ≤ i → J.stop i H
def LI (K : PySem.W.Frag) (E : XS) (it : AI) : TI := fun σ H R => ∃ st S g, Wd K S H g ∧ Sl K g st σ ∧ (match it st S with
  | .ok x S' => ∀ H' g' J, Wd K S' H' g' → Ext S H g S' H' g' → Wlk K J S' H' g' x → R J H'
  | .exc c S' => ∀ H' g', Wd K S' H' g' → Ext S H g S' H' g' → E σ (cR K c) none H'
  | .bad => False)
section
variable {X : Cx} {K : PySem.W.Frag} {E : XS} {c tg iter : Expr} {ss : List Stmt} {pos : Pos} {et : AT} {b : AS} {gg : MG} {it : AI}
theorem aWhile (m : Nat) (hp : PassesOwn (model X.prog X.w) X.A X.env X.xe) (hc : PT X c (LT K E et)) (hb : PSs X ss (LS K E b)) : PS X (.While c ss [] pos) (LS K E (mWh m et b)) := by
  refine PS.weak (ps_while hp hc hb) fun D σ H ⟨st, S, g, w, sl, p⟩ => ⟨fun m σ H => ∃ st S g, Wd K S H g ∧ Sl K g st σ ∧ PostS K E S H g (mWh m et b st S) D, ⟨m, st, S, g, w, sl, p⟩, ?_⟩
  rintro n σ H ⟨st, S, g, w, sl, p⟩
  cases n with
  | zero => exact p.elim
  | succ n =>
    refine LT.run (f := fun k S => if k = true then (match b st S with
      | .nx st S => mWh n et b st S
      | .ct st S => mWh n et b st S
      | .br st S => .nx st S
      | r => r) else .nx st S) w sl p fun k S1 H1 g1 w1 sl1 x1 p1 => ?_
    cases k with
    | false =>
      rw [if_neg Bool.false_ne_true] at p1 ⊢
      exact p1 σ H1 g1 w1 (.refl _ _ _) sl1
    | true =>
      rw [if_pos rfl] at p1 ⊢
      refine ⟨fun σ H => ∃ st S g, Wd K S H g ∧ Sl K g st σ ∧ PostS K E S H g (mWh n et b st S) D, fun σ' H' h => ⟨n, Nat.lt_succ_self n, h⟩, st, S1, g1, w1, sl1, ?_⟩
      cases z : b st S1 with
      | nx st' S' => rw [z] at p1; exact fun σ' H' g' w' x' sl' => ⟨st', S', g', w', sl', PostS.trans (r := mWh n et b st' S') p1 x'⟩
      | ct st' S' => rw [z] at p1; exact fun σ' H' g' w' x' sl' => ⟨st', S', g', w', sl', PostS.trans (r := mWh n et b st' S') p1 x'⟩
      | br st' S' => rw [z] at p1; exact p1
      | rt t S' => rw [z] at p1; exact p1
      | exc c st' S' => rw [z] at p1; exact p1
      | bad => rw [z] at p1; exact p1
theorem aFor (hp : PassesOwn (model X.prog X.w) X.A X.env X.xe) (hc : X.calm = true) (hi : PI X tg iter (LI K E it)) (hg : PG X tg (LG K E gg)) (hb : PSs X ss (LS K E b)) (hs : ∀ x, foldedSetIterable iter X.env x = pure x := by intro _; rfl) : PS X (.For tg iter ss [] pos) (LS K E (mFor it gg b)) := by
  refine PS.weak (ps_for hp hc hi hg hb hs) fun D σ H ⟨st, S, g, w, sl, p⟩ => ⟨st, S, g, w, sl, ?_⟩
  have p0 : PostS K E S H g ((it st S).stm st fun x S => forL x.ck gg b x.l st S) D := p
  cases z : it st S with
  | bad => rw [z] at p0; exact p0
  | exc c S' => rw [z] at p0; exact fun H' g' w' x' => p0 σ H' g' w' x' (sl.mono x'.le)
  | ok x S' =>
    rw [z] at p0
    intro H1 g1 J w1 x1 wk
    refine ⟨fun i m σ H => ∃ st S g, Wd K S H g ∧ Sl K g st σ ∧ Ext S' H1 g1 S H g ∧ i ≤ x.l.length ∧ m = x.l.length - i ∧ PostS K E S H g (forL x.ck gg b (x.l.drop i) st S) D, ⟨_, st, S', g1, w1, sl.mono x1.le, .refl _ _ _, Nat.zero_le _, rfl, PostS.trans (r := forL x.ck gg b x.l st S') p0 x1⟩, ?_⟩
    rintro i m σ2 H2 ⟨st2, S2, g2, w2, sl2, l2, hi2, rfl, p2⟩
    by_cases hlt : i < x.l.length
    · obtain ⟨t, ht⟩ : ∃ t, x.l[i]? = some t := ⟨_, List.getElem?_eq_getElem hlt⟩
      have hd : x.l.drop i = t :: x.l.drop (i + 1) := by
        rw [List.drop_eq_getElem_cons hlt]
        congr
        have := List.getElem?_eq_getElem hlt
        rw [ht] at this
        exact (Option.some.inj this).symm
      rw [hd] at p2
      unfold forL at p2
      by_cases hck : okC x.ck S2
      · rw [if_pos hck] at p2
        obtain ⟨k1, k2⟩ := wk.go i S2 H2 g2 t w2 l2 hck ht
        refine .inr ⟨k1, fun σ H => ∃ st S g, Wd K S H g ∧ Sl K g st σ ∧ Ext S' H1 g1 S H g ∧ PostS K E S H g (forL x.ck gg b (x.l.drop (i + 1)) st S) D, fun σ' H' ⟨st', S'', g', w', sl', l', p'⟩ => ⟨_, by omega, st', S'', g', w', sl', l', hlt, rfl, p'⟩, fun v H3 y => ?_⟩
        obtain ⟨g3, w3, x3, r3⟩ := k2 v H3 y
        refine ⟨t, st2, S2, g3, w3, sl2.mono x3.le, r3, ?_⟩
        have p3 := PostS.trans p2 x3
        cases z2 : gg t st2 S2 with
        | nx st4 S4 =>
          rw [z2] at p3
          intro σ4 H4 g4 w4 x4 sl4
          refine ⟨st4, S4, g4, w4, sl4, ?_⟩
          have p4 := PostS.trans p3 x4
          simp only [RS.only] at p4
          have l4 := (l2.trans x3).trans x4
          cases z5 : b st4 S4 with
          | nx st5 S5 => rw [z5] at p4; exact fun σ' H' g' w' x' sl' => ⟨st5, S5, g', w', sl', l4.trans x', PostS.trans (r := forL x.ck gg b (x.l.drop (i + 1)) st5 S5) p4 x'⟩
          | ct st5 S5 => rw [z5] at p4; exact fun σ' H' g' w' x' sl' => ⟨st5, S5, g', w', sl', l4.trans x', PostS.trans (r := forL x.ck gg b (x.l.drop (i + 1)) st5 S5) p4 x'⟩
          | br st' S' => rw [z5] at p4; exact p4
          | rt t S' => rw [z5] at p4; exact p4
          | exc c st' S' => rw [z5] at p4; exact p4
          | bad => rw [z5] at p4; exact p4
        | exc c st4 S4 => rw [z2] at p3; exact p3
        | bad => rw [z2] at p3; exact p3
        | rt a b => rw [z2] at p3; exact p3.elim
        | br a b => rw [z2] at p3; exact p3.elim
        | ct a b => rw [z2] at p3; exact p3.elim
      · rw [if_neg hck] at p2; exact p2.elim
    · have e : i = x.l.length := by omega
      rw [List.drop_eq_nil_of_le (by omega)] at p2
      unfold forL at p2
      by_cases hck : okC x.ck S2
      · rw [if_pos hck] at p2
        exact .inl ⟨wk.stop i S2 H2 g2 w2 l2 hck (by omega), p2 σ2 H2 g2 w2 (.refl _ _ _) sl2⟩
      · rw [if_neg hck] at p2; exact p2.elim
/-! what is walked -/
def itL (a : AE) : AI := fun st S => (a st S).bind fun x S => match x with
  | .lst l => .ok ⟨l, none⟩ S
  | .scr l => .ok ⟨l, none⟩ S
  | .ref n => match S[n]? with
    | some (.lst l) => .ok ⟨l, some (n, .lst l)⟩ S
    | _ => .bad
  | _ => .bad
def itT (a : AE) : AI := fun st S => (a st S).bind fun x S => match x with
  | .tup l => .ok ⟨l, none⟩ S
  | .tupk l => .ok ⟨l, none⟩ S
  | _ => .bad
def rngT (i j : Int) : List T := (List.range (j - i).toNat).map fun (k : Nat) => T.int (i + k)
def itR1 (a : AA) : AI := fun st S => (a st S).bind fun x S => match x with
  | [.int j] => if -(2 ^ 62) ≤ j ∧ j < 2 ^ 62 then .ok ⟨rngT 0 j, none⟩ S else .bad
  | _ => .bad
def itR2 (a : AA) : AI := fun st S => (a st S).bind fun x S => match x with
  | [.int i, .int j] => if -(2 ^ 62) ≤ i ∧ i < 2 ^ 62 ∧ -(2 ^ 62) ≤ j ∧ j < 2 ^ 62 then .ok ⟨rngT i j, none⟩ S else .bad
  | _ => .bad
theorem wlk_rng {i j : Int} {S0 : Sto} {H0 : Hp} {g0 : G} : Wlk K (Itr i (j - i).toNat) S0 H0 g0 ⟨rngT i j, none⟩ := by
  refine ⟨fun k S H g t w l _ e => ?_, fun k S H g w l _ h => ?_⟩
  · obtain ⟨h1, h2⟩ : k < (j - i).toNat ∧ t = T.int (i + k) := by
      unfold rngT at e
      rw [List.getElem?_map] at e
      obtain ⟨m, e1, e2⟩ := Option.map_eq_some_iff.mp e
      obtain ⟨h, e3⟩ := List.getElem?_eq_some_iff.mp e1
      rw [List.getElem_range] at e3
      subst e3
      exact ⟨by simpa using h, e2.symm⟩
    subst h2
    refine ⟨h1, fun v H' y => ?_⟩
    obtain ⟨rfl, rfl⟩ := y
    exact ⟨g, w, .refl _ _ _, .int _⟩
  · show (j - i).toNat ≤ k
    simpa [rngT] using h
theorem wlk_list {a : Addr} {vs : List V} {l : List T} {S0 : Sto} {H0 : Hp} {g0 : G} (h : g0.F a = some (.lst vs)) (r : Rps K g0 l vs) : Wlk K (Itl K a) S0 H0 g0 ⟨l, none⟩ := by
  have here : ∀ {S H g}, Wd K S H g → GLe g0 g → SqL K H a vs := fun w le => SqL.of (lst_wd w (le.F _ _ h))
  refine ⟨fun k S H g t w le _ e => ?_, fun k S H g w le _ hk => ?_⟩
  · obtain ⟨v, e1, r1⟩ := r.get e
    refine ⟨⟨vs, v, here w le.le, e1⟩, fun u H' y => ?_⟩
    obtain ⟨rfl, y⟩ := y
    have e2 := y vs (here w le.le)
    rw [e1] at e2
    cases e2
    exact ⟨g, w, .refl _ _ _, r1.mono le.le⟩
  · exact ⟨vs, here w le.le, by rw [← r.length]; exact hk⟩
theorem wlk_scr {a : Addr} {vs : List V} {l : List T} {S0 : Sto} {H0 : Hp} {g0 : G} (h : SqL K g0.F a vs) (r : Rps K g0 l vs) : Wlk K (Itl K a) S0 H0 g0 ⟨l, none⟩ := by
  have here : ∀ {S H g}, Wd K S H g → GLe g0 g → SqL K H a vs := fun w le => SqL.wd w (SqL.sub h le.F)
  refine ⟨fun k S H g t w le _ e => ?_, fun k S H g w le _ hk => ?_⟩
  · obtain ⟨v, e1, r1⟩ := r.get e
    refine ⟨⟨vs, v, here w le.le, e1⟩, fun u H' y => ?_⟩
    obtain ⟨rfl, y⟩ := y
    have e2 := y vs (here w le.le)
    rw [e1] at e2
    cases e2
    exact ⟨g, w, .refl _ _ _, r1.mono le.le⟩
  · exact ⟨vs, here w le.le, by rw [← r.length]; exact hk⟩
theorem wlk_tup {a : Addr} {vs : List V} {l : List T} {S0 : Sto} {H0 : Hp} {g0 : G} (h : SqT K g0.F a vs) (r : Rps K g0 l vs) : Wlk K (Itt K a) S0 H0 g0 ⟨l, none⟩ := by
  have here : ∀ {S H g}, Wd K S H g → GLe g0 g → SqT K H a vs := fun w le => SqT.wd w (SqT.sub h le.F)
  refine ⟨fun k S H g t w le _ e => ?_, fun k S H g w le _ hk => ?_⟩
  · obtain ⟨v, e1, r1⟩ := r.get e
    refine ⟨⟨vs, v, here w le.le, e1⟩, fun u H' y => ?_⟩
    obtain ⟨rfl, y⟩ := y
    have e2 := y vs (here w le.le)
    rw [e1] at e2
    cases e2
    exact ⟨g, w, .refl _ _ _, r1.mono le.le⟩
  · exact ⟨vs, here w le.le, by rw [← r.length]; exact hk⟩
theorem wlk_ref {n : Nat} {a : Addr} {l : List T} {S0 : Sto} {H0 : Hp} {g0 : G} (h : g0.mu[n]? = some a) : Wlk K (Itl K a) S0 H0 g0 ⟨l, some (n, .lst l)⟩ := by
  have here : ∀ {S H g}, Wd K S H g → GLe g0 g → okC (some (n, .lst l)) S → ∃ vs, H a = some (.lst vs) ∧ Rps K g l vs := fun w le c => w.cell n _ a c (fun z => nomatch z) (le.mu _ _ h)
  refine ⟨fun k S H g t w le c e => ?_, fun k S H g w le c hk => ?_⟩
  · obtain ⟨vs, h1, r⟩ := here w le.le c
    obtain ⟨v, e1, r1⟩ := r.get e
    refine ⟨⟨vs, v, SqL.of h1, e1⟩, fun u H' y => ?_⟩
    obtain ⟨rfl, y⟩ := y
    have e2 := y vs (SqL.of h1)
    rw [e1] at e2
    cases e2
    exact ⟨g, w, .refl _ _ _, r1⟩
  · obtain ⟨vs, h1, r⟩ := here w le.le c
    exact ⟨vs, SqL.of h1, by rw [← r.length]; exact hk⟩
theorem PI.weak {t t' : TI} (h : PI X tg iter t) (k : ∀ σ H R, t' σ H R → t σ H R) : PI X tg iter t' := ⟨fun pins s σ H R I q => h.run pins s σ H R I (k σ H R q)⟩
theorem LI.run {ea : AE} {f : T → Sto → R Itm} {σ : TSt} {H : Hp} {st : Slots} {S : Sto} {g : G} {RJ : It → Hp → Prop} {Q : VK} (w : Wd K S H g) (sl : Sl K g st σ) (p : (match (ea st S).bind f with
  | .ok x S' => ∀ H' g' J, Wd K S' H' g' → Ext S H g S' H' g' → Wlk K J S' H' g' x → RJ J H'
  | .exc c S' => ∀ H' g', Wd K S' H' g' → Ext S H g S' H' g' → E σ (cR K c) none H'
  | .bad => False)) (k : ∀ t S1 v H1 g1, Wd K S1 H1 g1 → Sl K g1 st σ → Ext S H g S1 H1 g1 → Rp K g1 t v → (match f t S1 with
  | .ok x S' => ∀ H' g' J, Wd K S' H' g' → Ext S1 H1 g1 S' H' g' → Wlk K J S' H' g' x → RJ J H'
  | .exc c S' => ∀ H' g', Wd K S' H' g' → Ext S1 H1 g1 S' H' g' → E σ (cR K c) none H'
  | .bad => False) → Q v H1) : LE K E ea σ H Q := by
  refine ⟨st, S, g, w, sl, ?_⟩
  cases z : ea st S with
  | ok t S' =>
    rw [z] at p
    intro v H' g' w' x' r'
    refine k t S' v H' g' w' (sl.mono x'.le) x' r' ?_
    simp only [R.bind] at p
    cases y : f t S' with
    | ok x S2 => rw [y] at p; exact fun H2 g2 J w2 x2 wk => p H2 g2 J w2 (x'.trans x2) wk
    | exc c S2 => rw [y] at p; exact fun H2 g2 w2 x2 => p H2 g2 w2 (x'.trans x2)
    | bad => rw [y] at p; exact p
  | exc c S' => rw [z] at p; exact p
  | bad => rw [z] at p; exact p
theorem aItL {ea : AE} (h : PE X iter (LE K E ea)) (hK : X.K = K := by rfl) : PI X tg iter (LI K E (itL ea)) := by
  subst hK
  refine PI.weak (pi_list h) fun σ H R ⟨st, S, g, w, sl, p⟩ => LI.run (f := fun x S => match x with
  | .lst l => .ok ⟨l, none⟩ S
  | .scr l => .ok ⟨l, none⟩ S
  | .ref n => match S[n]? with
    | some (.lst l) => .ok ⟨l, some (n, .lst l)⟩ S
    | _ => .bad
  | _ => .bad) w sl p fun t S1 v H1 g1 w1 sl1 x1 r1 p1 => ?_
  cases r1 with
  | lst h1 r2 => exact ⟨_, rfl, ⟨_, SqL.of (lst_wd w1 h1)⟩, p1 H1 g1 _ w1 (.refl _ _ _) (wlk_list h1 r2)⟩
  | scr h1 r2 => exact ⟨_, rfl, ⟨_, SqL.wd w1 h1⟩, p1 H1 g1 _ w1 (.refl _ _ _) (wlk_scr h1 r2)⟩
  | ref h1 =>
    rename_i n a
    simp only at p1
    cases z : S1[n]? with
    | none => rw [z] at p1; exact p1.elim
    | some o =>
      rw [z] at p1
      cases o with
      | lst l =>
        obtain ⟨vs, h2, _⟩ := w1.cell n _ a z (fun z => nomatch z) h1
        exact ⟨_, rfl, ⟨_, SqL.of h2⟩, p1 H1 g1 _ w1 (.refl _ _ _) (wlk_ref h1)⟩
      | _ => exact p1.elim
  | _ => exact p1.elim
theorem aItT {ea : AE} (h : PE X iter (LE K E ea)) (hK : X.K = K := by rfl) : PI X tg iter (LI K E (itT ea)) := by
  subst hK
  refine PI.weak (pi_tup h) fun σ H R ⟨st, S, g, w, sl, p⟩ => LI.run (f := fun x S => match x with
  | .tup l => .ok ⟨l, none⟩ S
  | .tupk l => .ok ⟨l, none⟩ S
  | _ => .bad) w sl p fun t S1 v H1 g1 w1 sl1 x1 r1 p1 => ?_
  cases r1 with
  | tup h1 k r2 => exact ⟨_, rfl, ⟨_, SqT.wd w1 h1⟩, p1 H1 g1 _ w1 (.refl _ _ _) (wlk_tup h1 r2)⟩
  | tupk h1 r2 => exact ⟨_, rfl, ⟨_, SqT.wd w1 h1⟩, p1 H1 g1 _ w1 (.refl _ _ _) (wlk_tup h1 r2)⟩
  | _ => exact p1.elim
theorem LI.runA {ra : AA} {f : List T → Sto → R Itm} {σ : TSt} {H : Hp} {st : Slots} {S : Sto} {g : G} {RJ : It → Hp → Prop} {Q : List V → Hp → Prop} (w : Wd K S H g) (sl : Sl K g st σ) (p : (match (ra st S).bind f with
  | .ok x S' => ∀ H' g' J, Wd K S' H' g' → Ext S H g S' H' g' → Wlk K J S' H' g' x → RJ J H'
  | .exc c S' => ∀ H' g', Wd K S' H' g' → Ext S H g S' H' g' → E σ (cR K c) none H'
  | .bad => False)) (k : ∀ t S1 v H1 g1, Wd K S1 H1 g1 → Sl K g1 st σ → Ext S H g S1 H1 g1 → Rps K g1 t v → (match f t S1 with
  | .ok x S' => ∀ H' g' J, Wd K S' H' g' → Ext S1 H1 g1 S' H' g' → Wlk K J S' H' g' x → RJ J H'
  | .exc c S' => ∀ H' g', Wd K S' H' g' → Ext S1 H1 g1 S' H' g' → E σ (cR K c) none H'
  | .bad => False) → Q v H1) : LA K E ra σ H Q := by
  refine ⟨st, S, g, w, sl, ?_⟩
  cases z : ra st S with
  | ok t S' =>
    rw [z] at p
    intro v H' g' w' x' r'
    refine k t S' v H' g' w' (sl.mono x'.le) x' r' ?_
    simp only [R.bind] at p
    cases y : f t S' with
    | ok x S2 => rw [y] at p; exact fun H2 g2 J w2 x2 wk => p H2 g2 J w2 (x'.trans x2) wk
    | exc c S2 => rw [y] at p; exact fun H2 g2 w2 x2 => p H2 g2 w2 (x'.trans x2)
    | bad => rw [y] at p; exact p
  | exc c S' => rw [z] at p; exact p
  | bad => rw [z] at p; exact p
variable {a a2 : Expr} {ra : AA} {p : Pos}
theorem aItR1 (hm : X.mg "range" = none) (h : PA X [a] (LA K E ra)) (hg : Gl X "range" := by rfl) (hs : starEach [a] X.env = [(false, eval a X.env)] := by rfl) : PI X tg (.Call (.Name "range" p) [a] [] pos) (LI K E (itR1 ra)) := by
  refine PI.weak (pi_range1 hg hm h hs) fun σ H R ⟨st, S, g, w, sl, p⟩ => LI.runA (f := fun x S => match x with
  | [.int j] => if -(2 ^ 62) ≤ j ∧ j < 2 ^ 62 then .ok ⟨rngT 0 j, none⟩ S else .bad
  | _ => .bad) w sl p fun t S1 v H1 g1 w1 sl1 x1 r1 p1 => ?_
  split at p1
  · rename_i x S' e
    split at e
    · split at e
      · rename_i c
        cases e
        obtain ⟨v, rfl, r2⟩ := r1.one
        cases r2
        refine ⟨_, rfl, c.1, c.2, p1 H1 g1 _ w1 (.refl _ _ _) ?_⟩
        have h0 := fun j => wlk_rng (K := K) (i := 0) (j := j) (S0 := S1) (H0 := H1) (g0 := g1)
        simp only [Int.sub_zero] at h0
        exact h0 _
      · cases e
    · cases e
  · rename_i e
    split at e
    · split at e <;> cases e
    · cases e
  · exact p1.elim
theorem aItR2 (hm : X.mg "range" = none) (h : PA X [a, a2] (LA K E ra)) (hg : Gl X "range" := by rfl) (hs : starEach [a, a2] X.env = [(false, eval a X.env), (false, eval a2 X.env)] := by rfl) (hs2 : starEach [a2] X.env = [(false, eval a2 X.env)] := by rfl) : PI X tg (.Call (.Name "range" p) [a, a2] [] pos) (LI K E (itR2 ra)) := by
  refine PI.weak (pi_range2 hg hm h hs hs2) fun σ H R ⟨st, S, g, w, sl, p⟩ => LI.runA (f := fun x S => match x with
  | [.int i, .int j] => if -(2 ^ 62) ≤ i ∧ i < 2 ^ 62 ∧ -(2 ^ 62) ≤ j ∧ j < 2 ^ 62 then .ok ⟨rngT i j, none⟩ S else .bad
  | _ => .bad) w sl p fun t S1 v H1 g1 w1 sl1 x1 r1 p1 => ?_
  split at p1
  · rename_i x S' e
    split at e
    · split at e
      · rename_i c
        cases e
        obtain ⟨v, v2, rfl, r2, r3⟩ := r1.two
        cases r2
        cases r3
        exact ⟨_, _, rfl, c, p1 H1 g1 _ w1 (.refl _ _ _) wlk_rng⟩
      · cases e
    · cases e
  · rename_i e
    split at e
    · split at e <;> cases e
    · cases e
  · exact p1.elim
end
end Ab

namespace Ab
open PySem PySem.Spec PyProof.Rows L2 Sp
/-! ## lists that change, fields stored -/
def opSetL (x y v : T) (S : Sto) : Option Sto := match x, y with
  | .ref n, .int i => match S[n]? with
    | some (.lst l) => (ixN l.length i).map fun j => S.set n (.lst (l.set j v))
    | _ => none
  | _, _ => none
def gIx (o i : AE) : MG := fun v st S => (o st S).stm st fun x S => (i st S).stm st fun y S => match opSetL x y v S with
  | some S' => .nx st S'
  | none => .bad
def opAddI : T → T → Sto → R T
  | .int i, .int j, S => .ok (.int (i + j)) S
  | _, _, _ => .bad
def opIxL : T → T → Sto → R T
  | x, .int i, S => match (lkL S x).bind fun l => atI l i with
    | some t => .ok t S
    | none => .bad
  | _, _, _ => .bad
/-- o[i] op= e -/
def mAugIx (f : T → T → Sto → R T) (o i e : AE) : AS := fun st S => (o st S).stm st fun x S => (i st S).stm st fun y S => (opIxL x y S).stm st fun u S => (e st S).stm st fun v S => (f u v S).stm st fun z S => match opSetL x y z S with
  | some S' => .nx st S'
  | none => .bad
def opSetF (c f : String) (x v : T) (S : Sto) : Option Sto := match x with
  | .ref n => match S[n]? with
    | some (.obj d fs) => if d = c ∧ fs.length < 1000 then some (S.set n (.obj d (putT f v fs))) else none
    | _ => none
  | _ => none
def mSetF (c f : String) (o e : AE) : AS := fun st S => (e st S).stm st fun v S => (o st S).stm st fun x S => match opSetF c f x v S with
  | some S' => .nx st S'
  | none => .bad
/-- o.f op= e -/
def mAugF (c f : String) (h : T → T → Sto → R T) (o e : AE) : AS := fun st S => (o st S).stm st fun x S => match (objOf c S x).bind fun fs => fs.lookup f with
  | some u => (e st S).stm st fun v S => (h u v S).stm st fun z S => match opSetF c f x z S with
    | some S' => .nx st S'
    | none => .bad
  | none => .bad
def isL (S : Sto) : T → Bool
  | .ref n => match S[n]? with
    | some (.lst _) => true
    | _ => false
  | _ => false
def mML (f : T → List T → Sto → R T) (o : AE) (a : AA) : AE := fun st S => (o st S).bind fun x S => if isL S x = true then (a st S).bind fun xs S => f x xs S else .bad
def opApp : T → List T → Sto → R T
  | .ref n, [v], S => match S[n]? with
    | some (.lst l) => if l.length < sizeLine then .ok .non (S.set n (.lst (l ++ [v]))) else .bad
    | _ => .bad
  | _, _, _ => .bad
def opExt : T → List T → Sto → R T
  | .ref n, [.lst b], S => match S[n]? with
    | some (.lst l) => if l.length + b.length ≤ sizeLine then .ok .non (S.set n (.lst (l ++ b))) else .bad
    | _ => .bad
  | _, _, _ => .bad
def opPopAt : T → List T → Sto → R T
  | .ref n, [.int i], S => match S[n]? with
    | some (.lst l) => if -(2 ^ 63) ≤ i ∧ i < 2 ^ 63 then (match seqIndex? i l.length with
      | some k => (match l[k]? with
        | some t => .ok t (S.set n (.lst (l.eraseIdx k)))
        | none => .bad)
      | none => .bad) else .bad
    | _ => .bad
  | _, _, _ => .bad
section
variable {X : Cx} {K : PySem.W.Frag} {E : XS} {e o i value : Expr} {es : List Expr} {pos pos' tpos apos cpos : Pos} {ea eo ei : AE} {ra : AA}
theorem setL_rp {S S' : Sto} {H : Hp} {g : G} {x y t : T} {xv yv v : V} (W : Wd K S H g) (e : opSetL x y t S = some S') (rx : Rp K g x xv) (ry : Rp K g y yv) (r : Rp K g t v) :
    ∃ p xs k j, xv = .ref p ∧ yv = .int k ∧ H p = some (.lst xs) ∧ ixN xs.length k = some j ∧ Wd K S' (upd H p (.lst (xs.set j v))) g ∧ Ext S H g S' (upd H p (.lst (xs.set j v))) g := by
  unfold opSetL at e
  split at e
  · split at e
    · rename_i q
      obtain ⟨a, rfl, m, vs, h1, r1⟩ := rx.refH W q (fun z => nomatch z)
      cases ry
      obtain ⟨j, e1, rfl⟩ := Option.map_eq_some_iff.mp e
      obtain ⟨w', x'⟩ := W.write (ho := .lst (vs.set j v)) (o' := .lst (List.set _ j t)) q (fun z => nomatch z) m (fun z => nomatch z) ⟨_, upd_same, r1.set j r⟩
      exact ⟨a, vs, _, j, rfl, rfl, h1, by rw [← r1.length]; exact e1, w', x'⟩
    · cases e
  · cases e
theorem setF_rp {S S' : Sto} {H : Hp} {g : G} {c f : String} {x t : T} {xv v : V} (W : Wd K S H g) (e : opSetF c f x t S = some S') (rx : Rp K g x xv) (r : Rp K g t v) :
    ∃ a dx fs, xv = .ref a ∧ H a = some (.ins (He.ga K (.ofString c)) dx fs) ∧ fs.length < 1000 ∧ Wd K S' (upd H a (.ins (He.ga K (.ofString c)) dx (putF (.ofString f) v fs))) g ∧ Ext S H g S' (upd H a (.ins (He.ga K (.ofString c)) dx (putF (.ofString f) v fs))) g := by
  unfold opSetF at e
  split at e
  · split at e
    · rename_i q
      split at e
      · rename_i c0
        obtain ⟨rfl, c1⟩ := c0
        cases e
        obtain ⟨a, rfl, m, dx, vs, h1, r1⟩ := rx.refH W q (fun z => nomatch z)
        obtain ⟨w', x'⟩ := W.write (ho := .ins (He.ga K (.ofString _)) dx (putF (.ofString f) v vs)) (o' := .obj _ (putT f t _)) q (fun z => nomatch z) m (fun z => nomatch z) ⟨_, _, upd_same, r1.put r⟩
        exact ⟨a, dx, vs, rfl, h1, by rw [← r1.length]; exact c1, w', x'⟩
      · cases e
    · cases e
  · cases e
theorem aGIx (ho : PE X o (LE K E eo)) (hi : PE X i (LE K E ei))
    (ha : ∀ v, assign (.Subscript o i pos) X.env v = (do
      let ov ← holding [v] (eval o X.env)
      let iv ← holding [v, ov] (eval i X.env)
      standAt pos
      holding [v, ov, iv] (setItem ov iv v)
      release [v, ov, iv] []) := by intro _; rfl) : PG X (.Subscript o i pos) (LG K E (gIx eo ei)) :=
  PG.weak (pg_sub ho hi set_list ha) fun v σ H Q ⟨t, st, S, g, w, sl, r, p⟩ => LE.run (f := fun x S => (ei st S).stm st fun y S => match opSetL x y t S with
  | some S' => .nx st S'
  | none => .bad) w sl p fun x S1 v1 H1 g1 w1 sl1 x1 r1 p1 => LE.run (f := fun y S => match opSetL x y t S with
  | some S' => .nx st S'
  | none => .bad) w1 sl1 p1 fun y S2 v2 H2 g2 w2 sl2 x2 r2 p2 => by
    split at p2
    · rename_i S3 e
      obtain ⟨a, xs, k, j, rfl, rfl, h1, h2, w', x'⟩ := setL_rp w2 e (r1.mono x2.le) r2 ((r.mono x1.le).mono x2.le)
      exact ⟨a, xs, k, j, rfl, rfl, h1, h2, p2 σ _ _ w' x' (sl2.mono x'.le)⟩
    · exact p2.elim
theorem up_addI : Up2 K opAddI rIpAdd := by
  intro E S H g x y v w Q W rx ry p
  unfold opAddI at p
  split at p
  · cases rx; cases ry; exact ⟨_, _, rfl, rfl, p.val W (.int _)⟩
  · exact p.elim
theorem up_subI : Up2 K opSub rIpSub := by
  intro E S H g x y v w Q W rx ry p
  unfold opSub at p
  split at p
  · cases rx; cases ry; exact ⟨_, _, rfl, rfl, p.val W (.int _)⟩
  · exact p.elim
theorem PostS.op2 {f : T → T → Sto → R T} {r : V → V → Hp → VK → Prop} (u : Up2 K f r) {S : Sto} {H : Hp} {g : G} {x y : T} {v w : V} {st : Slots} {σ : TSt} {k : T → Sto → RS} {D : Ends} {Q : VK} (W : Wd K S H g) (sl : Sl K g st σ) (rx : Rp K g x v) (ry : Rp K g y w)
    (h : PostS K E S H g ((f x y S).stm st k) D) (hq : ∀ t S1 v H1 g1, Wd K S1 H1 g1 → Sl K g1 st σ → Ext S H g S1 H1 g1 → Rp K g1 t v → PostS K E S1 H1 g1 (k t S1) D → Q v H1) : r v w H Q := u (E := E σ) W rx ry (h.run sl hq)
theorem aAug {j : Nat} {x : Str} {op : Operator} {f : T → T → Sto → R T} {r : TIp} (u : Up2 K f r) (hN : X.N.Nodup) (ho : PIp X op r) (he : PE X e (LE K E ea)) (hi : X.N[j]? = some x := by rfl) (hx : Loc X.env.scope x := by first | exact .inl rfl | exact .inr rfl) (hf : X.fn x = true ∨ X.env.scope.names.lookup x = some .local := by first | exact .inl rfl | exact .inr rfl | assumption) :
    PS X (.AugAssign (.Name x pos') op e pos) (LS K E (mAug j f ea)) := by
  refine PS.weak (ps_aug hN hi hx he ho hf) fun D σ H ⟨st, S, g, w, sl, p⟩ => ?_
  unfold mAug at p
  split at p
  · rename_i t q
    obtain ⟨v, e1, r1⟩ := sl.2 j t q
    exact ⟨v, e1, LE.run (f := fun y S => (f t y S).stm st fun z S => .nx (st.set j (some z)) S) w sl p fun y S1 v1 H1 g1 w1 sl1 x1 r2 p1 =>
      PostS.op2 u (k := fun z S => .nx (st.set j (some z)) S) w1 sl1 (r1.mono x1.le) r2 p1 fun z S2 v2 H2 g2 w2 sl2 x2 r3 p2 => p2 _ _ _ w2 (.refl _ _ _) (sl2.set j r3)⟩
  · exact p.elim
theorem aAugIx {op : Operator} {f : T → T → Sto → R T} {r : TIp} (u : Up2 K f r) (hp : PIp X op r) (ho : PE X o (LE K E eo)) (hi : PE X i (LE K E ei)) (he : PE X e (LE K E ea)) (ha : ∀ ov iv new, augStore i ov iv new = (do holding [new, ov, iv] (setItem ov iv new); release [new, ov, iv] []; pure .next) := by intros; rfl) (hK : X.K = K := by rfl) :
    PS X (.AugAssign (.Subscript o i tpos) op e pos) (LS K E (mAugIx f eo ei ea)) := by
  subst hK
  refine PS.weak (ps_augS ho hi get_list he hp set_list ha) fun D σ H ⟨st, S, g, w, sl, p⟩ => LE.run (f := fun x S => (ei st S).stm st fun y S => (opIxL x y S).stm st fun u S => (ea st S).stm st fun v S => (f u v S).stm st fun z S => match opSetL x y z S with
  | some S' => .nx st S'
  | none => .bad) w sl p fun x S1 v1 H1 g1 w1 sl1 x1 r1 p1 => LE.run (f := fun y S => (opIxL x y S).stm st fun u S => (ea st S).stm st fun v S => (f u v S).stm st fun z S => match opSetL x y z S with
  | some S' => .nx st S'
  | none => .bad) w1 sl1 p1 fun y S2 v2 H2 g2 w2 sl2 x2 r2 p2 => ?_
  unfold opIxL at p2
  split at p2
  · cases r2
    rename_i k
    split at p2
    · rename_i t e0
      obtain ⟨l, e1, e2⟩ := Option.bind_eq_some_iff.mp e0
      obtain ⟨a, vs, rfl, h1, rr⟩ := lkL_rp w2 e1 (r1.mono x2.le)
      obtain ⟨v3, e3, r3⟩ := atI_rp rr e2
      refine ⟨a, vs, k, v3, rfl, rfl, h1, e3, LE.run (f := fun v S => (f t v S).stm st fun z S => match opSetL x (.int k) z S with
        | some S' => .nx st S'
        | none => .bad) w2 sl2 p2 fun y3 S3 v4 H3 g3 w3 sl3 x3 r4 p3 => PostS.op2 u (k := fun z S => match opSetL x (.int k) z S with
        | some S' => .nx st S'
        | none => .bad) w3 sl3 (r3.mono x3.le) r4 p3 fun z S4 v5 H4 g4 w4 sl4 x4 r5 p4 => ?_⟩
      split at p4
      · rename_i S5 e5
        obtain ⟨b, xs, k', j, eb, ek, h6, h7, w', x'⟩ := setL_rp w4 e5 (((r1.mono x2.le).mono x3.le).mono x4.le) (.int k) r5
        exact ⟨b, xs, k', j, eb, ek, h6, h7, p4 σ _ _ w' x' (sl4.mono x'.le)⟩
      · exact p4.elim
    · exact p2.elim
  · exact p2.elim
theorem aSetF {c f : String} {fS : Str} (hf : fS = Str.ofString f) (hc : Cls K (He.ga K (.ofString c))) (hn : NoAttr K (He.ga K (.ofString c)) (.ofString f)) (ho : PE X o (LE K E eo)) (he : PE X value (LE K E ea)) (hs : swapsWith value (some (.Attribute o fS pos')) pos.line X.env = pure false := by rfl) (hK : X.K = K := by rfl) :
    PS X (.Assign [.Attribute o fS pos'] value pos) (LS K E (mSetF c f eo ea)) := by
  subst hf hK
  refine PS.weak (ps_fld ho he hs) fun D σ H ⟨st, S, g, w, sl, p⟩ => LE.run (f := fun v S => (eo st S).stm st fun x S => match opSetF c f x v S with
  | some S' => .nx st S'
  | none => .bad) w sl p fun t S1 v H1 g1 w1 sl1 x1 r1 p1 => LE.run (f := fun x S => match opSetF c f x t S with
  | some S' => .nx st S'
  | none => .bad) w1 sl1 p1 fun x S2 u H2 g2 w2 sl2 x2 r2 p2 => ?_
  split at p2
  · rename_i S3 e
    obtain ⟨a, dx, fs, rfl, h1, h2, w', x'⟩ := setF_rp w2 e r2 (r1.mono x2.le)
    exact ⟨a, _, dx, fs, rfl, h1, hc, hn, h2, p2 σ _ _ w' x' (sl2.mono x'.le)⟩
  · exact p2.elim
theorem aAugF {c f : String} {fS : Str} {op : Operator} {h : T → T → Sto → R T} {r : V → V → Hp → VK → Prop} (u : Up2 K h r) (hop : InOp X op r) (hf : fS = Str.ofString f) (hc : Cls K (He.ga K (.ofString c))) (hn : NoAttr K (He.ga K (.ofString c)) (.ofString f)) (ho : PE X o (LE K E eo)) (he : PE X value (LE K E ea)) (hK : X.K = K := by rfl) :
    PS X (.AugAssign (.Attribute o fS tpos) op value pos) (LS K E (mAugF c f h eo ea)) := by
  subst hf hK
  refine PS.weak (ps_fldaug ho he hop) fun D σ H ⟨st, S, g, w, sl, p⟩ => LE.run (f := fun x S => match (objOf c S x).bind fun fs => fs.lookup f with
  | some u => (ea st S).stm st fun v S => (h u v S).stm st fun z S => match opSetF c f x z S with
    | some S' => .nx st S'
    | none => .bad
  | none => .bad) w sl p fun x S1 v H1 g1 w1 sl1 x1 r1 p1 => ?_
  split at p1
  · rename_i t e
    obtain ⟨fs, e1, e2⟩ := Option.bind_eq_some_iff.mp e
    obtain ⟨m, a, dx, vs, _, _, _, rfl, h1, rf⟩ := objOf_rp w1 e1 r1
    obtain ⟨v, e3, r3⟩ := rf.look.1 t e2
    refine ⟨a, _, dx, vs, v, rfl, h1, hc, hn, e3, LE.run (f := fun v S => (h t v S).stm st fun z S => match opSetF c f x z S with
      | some S' => .nx st S'
      | none => .bad) w1 sl1 p1 fun y S2 v2 H2 g2 w2 sl2 x2 r2 p2 => PostS.op2 u (k := fun z S => match opSetF c f x z S with
      | some S' => .nx st S'
      | none => .bad) w2 sl2 (r3.mono x2.le) r2 p2 fun z S3 v3 H3 g3 w3 sl3 x3 r4 p3 => ?_⟩
    split at p3
    · rename_i S4 e4
      obtain ⟨b, dx', fs', eb, h5, h6, w', x'⟩ := setF_rp w3 e4 ((r1.mono x2.le).mono x3.le) r4
      cases eb
      exact ⟨dx', fs', h5, h6, p3 σ _ _ w' x' (sl3.mono x'.le)⟩
    · exact p3.elim
  · exact p1.elim
/-! methods of lists -/
def UpM (K : PySem.W.Frag) (f : T → List T → Sto → R T) (r : V → List V → Hp → VK → Prop) : Prop := ∀ {E S H g x xs v vs Q}, Wd K S H g → Rp K g x v → Rps K g xs vs → Post K E S H g (Rp K) (f x xs S) Q → r v vs H Q
theorem isL_ty {S : Sto} {H : Hp} {g : G} {x : T} {v : V} (W : Wd K S H g) (r : Rp K g x v) (h : isL S x = true) : tyV K "list" v H := by
  unfold isL at h
  split at h
  · split at h
    · rename_i q
      obtain ⟨a, rfl, m, vs, h1, _⟩ := r.refH W q (fun z => nomatch z)
      exact .inl ⟨rfl, vs, SqL.of h1⟩
    · cases h
  · cases h
variable {name : Str} {id : String} {f : T → List T → Sto → R T} {r : V → List V → Hp → VK → Prop}
theorem aML (u : UpM K f r) (slot : Slot "list" name id) (hty : typeOf (.builtin id) = pure (.type "method_descriptor")) (hm : MtR X id r) (ho : PE X o (LE K E eo)) (ha : PA X (e :: es) (LA K E ra)) (hK : X.K = K := by rfl)
    (hbase : attributeBase o name X.env (eval o X.env) = eval o X.env := by rfl)
    (hfew : ((backTo cpos (starEach (e :: es) X.env)).all (fun x => !x.1) && (backToKw cpos (keywordEach [] X.env)).all (fun x => x.1.isSome)
      && decide ((e :: es).length + ([] : List Keyword).length + (if ([] : List Keyword).isEmpty then 0 else 1) < 30)) = true := by rfl)
    (hline : (apos.endLine == cpos.line) = true := by rfl) (hs : starEach (e :: es) X.env = (false, eval e X.env) :: starEach es X.env := by rfl) (hplain : (backTo cpos (starEach es X.env)).any (·.1) = false := by rfl) :
    PE X (.Call (.Attribute o name apos) (e :: es) [] cpos) (LE K E (mML f eo ra)) := by
  subst hK
  refine PE.weak (pe_bm PySem.F.plainAttrs_list slot hty hm ho ha hbase hfew hline hs hplain) fun σ H Q ⟨st, S, g, w, sl, p⟩ => LE.bind (f := fun x st S => if isL S x = true then (ra st S).bind fun xs S => f x xs S else .bad) w sl p fun x S1 v H1 g1 w1 sl1 x1 r1 p1 => ?_
  split at p1
  · rename_i c
    exact ⟨isL_ty w1 r1 c, LA.bind (f := fun xs _ S => f x xs S) w1 sl1 p1 fun xs S2 vs H2 g2 w2 sl2 x2 r2 p2 => u w2 (r1.mono x2.le) r2 p2⟩
  · exact p1.elim
theorem up_app : UpM K opApp rAppend := by
  intro E S H g x xs v vs Q W rx rs p
  unfold opApp at p
  split at p
  · split at p
    · rename_i q
      split at p
      · rename_i c
        obtain ⟨a, rfl, m, ws, h1, r1⟩ := rx.refH W q (fun z => nomatch z)
        obtain ⟨y, rfl, ry⟩ := rs.one
        obtain ⟨w', x'⟩ := W.write (ho := .lst (ws ++ [y])) (o' := .lst (_ ++ [_])) q (fun z => nomatch z) m (fun z => nomatch z) ⟨_, upd_same, r1.append (.cons ry .nil)⟩
        exact ⟨a, ws, y, rfl, rfl, h1, by rw [← r1.length]; exact c, p _ _ _ w' x' .non⟩
      · exact p.elim
    · exact p.elim
  · exact p.elim
theorem up_popAt : UpM K opPopAt rPopAt := by
  intro E S H g x xs v vs Q W rx rs p
  unfold opPopAt at p
  split at p
  · split at p
    · rename_i q
      split at p
      · rename_i c
        split at p
        · rename_i k ek
          split at p
          · rename_i t et
            obtain ⟨a, rfl, m, ws, h1, r1⟩ := rx.refH W q (fun z => nomatch z)
            obtain ⟨y, rfl, ry⟩ := rs.one
            cases ry
            obtain ⟨v, e1, r2⟩ := r1.get et
            obtain ⟨w', x'⟩ := W.write (ho := .lst (ws.eraseIdx k)) (o' := .lst (List.eraseIdx _ k)) q (fun z => nomatch z) m (fun z => nomatch z) ⟨_, upd_same, r1.erase k⟩
            exact ⟨a, ws, _, k, v, rfl, rfl, h1, c.1, c.2, by rw [← r1.length]; exact ek, e1, p _ _ _ w' x' (r2.mono x'.le)⟩
          · exact p.elim
        · exact p.elim
      · exact p.elim
    · exact p.elim
  · exact p.elim
theorem up_ext : UpM K opExt rExtend := by
  intro E S H g x xs v vs Q W rx rs p
  unfold opExt at p
  split at p
  · split at p
    · rename_i q
      split at p
      · rename_i c
        obtain ⟨a, rfl, m, ws, h1, r1⟩ := rx.refH W q (fun z => nomatch z)
        obtain ⟨y, rfl, ry⟩ := rs.one
        obtain ⟨b, us, rfl, h2, r2⟩ := ry.lstH W
        obtain ⟨w', x'⟩ := W.write (ho := .lst (ws ++ us)) (o' := .lst (_ ++ _)) q (fun z => nomatch z) m (fun z => nomatch z) ⟨_, upd_same, r1.append r2⟩
        exact ⟨a, b, ws, us, rfl, rfl, h1, h2, by rw [← r1.length, ← r2.length]; exact c, p _ _ _ w' x' .non⟩
      · exact p.elim
    · exact p.elim
  · exact p.elim
end
end Ab

namespace Ab
open PySem PySem.Spec PyProof.Rows L2 Sp
/-! ## dicts -/
def kE1 : T → T → Bool
  | .int i, .int j => decide (i = j)
  | .str a, .str b => decide (a = b)
  | _, _ => false
def kEs : List T → List T → Bool
  | [], [] => true
  | x :: xs, y :: ys => kE1 x y && kEs xs ys
  | _, _ => false
def kEq : T → T → Bool
  | .int i, .int j => decide (i = j)
  | .str a, .str b => decide (a = b)
  | .tup a, .tup b => kEs a b
  | _, _ => false
def getT (k : T) : List (T × T) → Option T
  | [] => none
  | (a, v) :: r => if kEq a k = true then some v else getT k r
/-- the value at a key is changed, in its place -/
def repD (k v : T) : List (T × T) → List (T × T)
  | [] => []
  | (a, x) :: r => (if kEq a k = true then (a, v) else (a, x)) :: repD k v r
def putD (k v : T) (ps : List (T × T)) : List (T × T) := if (getT k ps).isSome = true then repD k v ps else ps ++ [(k, v)]
def dropD (k : T) (ps : List (T × T)) : List (T × T) := ps.filter fun p => !kEq p.1 k
def keyOk (b : Bool) (k : T) : Bool := match b with
  | false => isKey k
  | true => (match k with
    | .tup ts => keyb ts
    | _ => false)
/-- a dict's kind and pairs, read -/
def dOf (S : Sto) : T → Option (Bool × List (T × T))
  | .dct b l => some (b, l)
  | .ref n => match S[n]? with
    | some (.dct b l) => some (b, l)
    | some (.lck b l) => some (b, l)
    | _ => none
  | _ => none
def mkD (fz : Bool) (b : Bool) (ps : List (T × T)) (S : Sto) : R T := if fz = true then .ok (.dct b ps) S else .ok (.ref S.length) (S ++ [.dct b ps])
def opDGet (x k : T) (S : Sto) : R T := match dOf S x with
  | some (b, ps) => if keyOk b k = true then (match getT k ps with
    | some t => .ok t S
    | none => .bad) else .bad
  | none => .bad
def opDIn (k x : T) (S : Sto) : R T := match dOf S x with
  | some (b, ps) => if keyOk b k = true then .ok (.bl (getT k ps).isSome) S else .bad
  | none => .bad
def opDNin (k x : T) (S : Sto) : R T := match dOf S x with
  | some (b, ps) => if keyOk b k = true then .ok (.bl (!(getT k ps).isSome)) S else .bad
  | none => .bad
def mGet1 (d k : AE) : AE := fun st S => (d st S).bind fun x S => if (dOf S x).isSome = true then (k st S).bind fun y S => (match dOf S x with
  | some (b, ps) => if keyOk b y = true then .ok ((getT y ps).getD .non) S else .bad
  | none => .bad) else .bad
def mGet2 (d k z : AE) : AE := fun st S => (d st S).bind fun x S => if (dOf S x).isSome = true then (k st S).bind fun y S => (z st S).bind fun u S => (match dOf S x with
  | some (b, ps) => if keyOk b y = true then .ok ((getT y ps).getD u) S else .bad
  | none => .bad) else .bad
def opDPut (x k v : T) (S : Sto) : Option Sto := match x with
  | .ref n => match S[n]? with
    | some (.dct b ps) => if keyOk b k = true ∧ ps.length < sizeLine then some (S.set n (.dct b (putD k v ps))) else none
    | _ => none
  | _ => none
def mDPut (d k e : AE) : AS := fun st S => (e st S).stm st fun v S => (d st S).stm st fun x S => (k st S).stm st fun y S => match opDPut x y v S with
  | some S' => .nx st S'
  | none => .bad
/-- d[k] op= e -/
def mDAug (f : T → T → Sto → R T) (d k e : AE) : AS := fun st S => (d st S).stm st fun x S => (k st S).stm st fun y S => (opDGet x y S).stm st fun u S => (e st S).stm st fun v S => (f u v S).stm st fun z S => match opDPut x y z S with
  | some S' => .nx st S'
  | none => .bad
def mPop1 (d k : AE) : AE := fun st S => (d st S).bind fun x S => if (dOf S x).isSome = true then (k st S).bind fun y S => (match x with
  | .ref n => match S[n]? with
    | some (.dct false ps) => if isKey y = true then (match getT y ps with
      | some t => .ok t (S.set n (.dct false (dropD y ps)))
      | none => .bad) else .bad
    | _ => .bad
  | _ => .bad) else .bad
def mPop2 (d k z : AE) : AE := fun st S => (d st S).bind fun x S => if (dOf S x).isSome = true then (k st S).bind fun y S => (z st S).bind fun u S => (match x with
  | .ref n => match S[n]? with
    | some (.dct false ps) => if isKey y = true then (match getT y ps with
      | some t => .ok t (S.set n (.dct false (dropD y ps)))
      | none => .ok u S) else .bad
    | _ => .bad
  | _ => .bad) else .bad
def mSetd (d k z : AE) : AE := fun st S => (d st S).bind fun x S => if (dOf S x).isSome = true then (k st S).bind fun y S => (z st S).bind fun u S => (match x with
  | .ref n => match S[n]? with
    | some (.dct false ps) => if isKey y = true ∧ ps.length < sizeLine then (match getT y ps with
      | some t => .ok t S
      | none => .ok u (S.set n (.dct false (putD y u ps)))) else .bad
    | _ => .bad
  | _ => .bad) else .bad
def mNewD (fz b : Bool) : AE := fun _ S => mkD fz b [] S
def opDict (fz : Bool) : List T → Sto → R T
  | [x], S => match dOf S x with
    | some (false, ps) => mkD fz false ps S
    | _ => .bad
  | _, _ => .bad
/-- a handle becomes a value -/
def opFrz (x : T) (S : Sto) : R T := match x with
  | .ref n => match S[n]? with
    | some (.lst l) => .ok (.lst l) (S.set n .dead)
    | some (.dct b l) => .ok (.dct b l) (S.set n .dead)
    | _ => .ok x S
  | _ => .ok x S
def mFrz (a : AE) : AE := m1 opFrz a
/-- list(d), keys ints and texts -/
def opKeysL (fz : Bool) : List T → Sto → R T
  | [x], S => match dOf S x with
    | some (false, ps) => mkL fz (ps.map (·.1)) S
    | _ => .bad
  | _, _ => .bad
section
variable {K : PySem.W.Frag}
theorem KR.eq {a b : T} {k l : Key} (h : KR a k) (h' : KR b l) : kEq a b = decide (k = l) := by
  cases a <;> try exact h.elim
  · cases b <;> try exact h'.elim
    · cases h; cases h'; simp [kEq]
    · cases h; cases h'; simp [kEq]
  · cases b <;> try exact h'.elim
    · cases h; cases h'; simp [kEq]
    · cases h; cases h'; simp [kEq, ofString_iff]
theorem KR.e1 {a b : T} {k l : Key} (h : KR a k) (h' : KR b l) : kE1 a b = decide (k = l) := by
  have := KR.eq h h'
  cases a <;> try exact h.elim
  all_goals (cases b <;> try exact h'.elim)
  all_goals exact this
theorem KRs.eq : ∀ {a b : List T} {k l : List Key}, KRs a k → KRs b l → kEs a b = decide (k = l)
  | _, _, _, _, .nil, .nil => by simp [kEs]
  | _, _, _, _, .nil, .cons _ _ => by simp [kEs]
  | _, _, _, _, .cons _ _, .nil => by simp [kEs]
  | _, _, _, _, .cons h r, .cons h' r' => by
    rw [kEs, KR.e1 h h', KRs.eq r r']
    rw [← Bool.decide_and]
    exact decide_eq_decide.mpr (by simp)
theorem KR.rp {t : T} {k : Key} {g : G} (h : KR t k) : Rp K g t (kV k) := by
  cases t <;> try exact h.elim
  · cases h; exact .int _
  · cases h; exact .str _
theorem isKey_kr {t : T} {v : V} {g : G} (h : isKey t = true) (r : Rp K g t v) : ∃ k, KR t k ∧ v = kV k := by
  cases r <;> simp [isKey] at h
  · exact ⟨_, rfl, rfl⟩
  · exact ⟨_, rfl, rfl⟩
theorem keys_kr {g : G} : ∀ {ts : List T} {vs : List V}, ts.all isKey = true → Rps K g ts vs → ∃ ks, KRs ts ks ∧ vs = ks.map kV
  | _, _, _, .nil => ⟨[], .nil, rfl⟩
  | _, _, h, .cons r rr => by
    rw [List.all_cons, Bool.and_eq_true] at h
    obtain ⟨k, h1, rfl⟩ := isKey_kr h.1 r
    obtain ⟨ks, h2, rfl⟩ := keys_kr h.2 rr
    exact ⟨k :: ks, .cons h1 h2, rfl⟩
section
variable {g : G}
theorem Rpk.get {k : T} {kk : Key} (hk : KR k kk) : ∀ {ps : List (T × T)} {kvs : List (Key × V)}, Rpk K g ps kvs → (∀ t, getT k ps = some t → ∃ v, valV kvs kk = some v ∧ Rp K g t v) ∧ (getT k ps = none → valV kvs kk = none)
  | _, _, .nil => ⟨(fun _ e => nomatch e), fun _ => rfl⟩
  | _, _, .cons (k := a) (x := x) (kk := ka) (v := v) (ps := ps) (kvs := kvs) h r rr => by
    obtain ⟨i1, i2⟩ := Rpk.get hk rr
    have e0 := KR.eq h hk
    unfold getT
    by_cases c : ka = kk
    · rw [e0, decide_eq_true c, if_pos rfl, valV_pos c]
      exact ⟨fun t e => by cases e; exact ⟨v, rfl, r⟩, fun e => nomatch e⟩
    · rw [e0, decide_eq_false c, if_neg Bool.false_ne_true, valV_neg c]
      exact ⟨i1, i2⟩
theorem Rpt.get {k : List T} {kk : List Key} (hk : KRs k kk) : ∀ {ps : List (T × T)} {kvs : List (List Key × V)}, Rpt K g ps kvs → (∀ t, getT (.tup k) ps = some t → ∃ v, valV kvs kk = some v ∧ Rp K g t v) ∧ (getT (.tup k) ps = none → valV kvs kk = none)
  | _, _, .nil => ⟨(fun _ e => nomatch e), fun _ => rfl⟩
  | _, _, .cons (ks := a) (x := x) (kk := ka) (v := v) (ps := ps) (kvs := kvs) h r rr => by
    obtain ⟨i1, i2⟩ := Rpt.get hk rr
    have e0 : kEq (.tup a) (.tup k) = decide (ka = kk) := KRs.eq h hk
    unfold getT
    by_cases c : ka = kk
    · rw [e0, decide_eq_true c, if_pos rfl, valV_pos c]
      exact ⟨fun t e => by cases e; exact ⟨v, rfl, r⟩, fun e => nomatch e⟩
    · rw [e0, decide_eq_false c, if_neg Bool.false_ne_true, valV_neg c]
      exact ⟨i1, i2⟩
theorem Rpk.rep {k t : T} {kk : Key} {v : V} (hk : KR k kk) (hr : Rp K g t v) : ∀ {ps : List (T × T)} {kvs : List (Key × V)}, Rpk K g ps kvs → Rpk K g (repD k t ps) (kvs.map fun kv => if kv.1 = kk then (kv.1, v) else kv)
  | _, _, .nil => .nil
  | _, _, .cons (k := a) (x := x) (kk := ka) (v := v') h r rr => by
    have e0 := KR.eq h hk
    unfold repD
    rw [List.map_cons]
    by_cases c : ka = kk
    · rw [e0, decide_eq_true c, if_pos rfl, if_pos c]
      exact .cons h hr (Rpk.rep hk hr rr)
    · rw [e0, decide_eq_false c, if_neg Bool.false_ne_true, if_neg c]
      exact .cons h r (Rpk.rep hk hr rr)
theorem Rpt.rep {k : List T} {t : T} {kk : List Key} {v : V} (hk : KRs k kk) (hr : Rp K g t v) : ∀ {ps : List (T × T)} {kvs : List (List Key × V)}, Rpt K g ps kvs → Rpt K g (repD (.tup k) t ps) (kvs.map fun kv => if kv.1 = kk then (kv.1, v) else kv)
  | _, _, .nil => .nil
  | _, _, .cons (ks := a) (x := x) (kk := ka) (v := v') h r rr => by
    have e0 : kEq (.tup a) (.tup k) = decide (ka = kk) := KRs.eq h hk
    unfold repD
    rw [List.map_cons]
    by_cases c : ka = kk
    · rw [e0, decide_eq_true c, if_pos rfl, if_pos c]
      exact .cons h hr (Rpt.rep hk hr rr)
    · rw [e0, decide_eq_false c, if_neg Bool.false_ne_true, if_neg c]
      exact .cons h r (Rpt.rep hk hr rr)
theorem Rpk.snoc {k t : T} {kk : Key} {v : V} (hk : KR k kk) (hr : Rp K g t v) : ∀ {ps : List (T × T)} {kvs : List (Key × V)}, Rpk K g ps kvs → Rpk K g (ps ++ [(k, t)]) (kvs ++ [(kk, v)])
  | _, _, .nil => .cons hk hr .nil
  | _, _, .cons h r rr => .cons h r (Rpk.snoc hk hr rr)
theorem Rpt.snoc {k : List T} {t : T} {kk : List Key} {v : V} (hk : KRs k kk) (hr : Rp K g t v) : ∀ {ps : List (T × T)} {kvs : List (List Key × V)}, Rpt K g ps kvs → Rpt K g (ps ++ [(.tup k, t)]) (kvs ++ [(kk, v)])
  | _, _, .nil => .cons hk hr .nil
  | _, _, .cons h r rr => .cons h r (Rpt.snoc hk hr rr)
theorem Rpk.put {k t : T} {kk : Key} {v : V} (hk : KR k kk) (hr : Rp K g t v) {ps : List (T × T)} {kvs : List (Key × V)} (r : Rpk K g ps kvs) : Rpk K g (putD k t ps) (putK kvs kk v) := by
  have i := Rpk.get hk r
  unfold putD putK
  rw [valV_any]
  cases e : getT k ps with
  | none => rw [i.2 e, if_neg (by simp), if_neg (by simp)]; exact r.snoc hk hr
  | some x =>
    obtain ⟨u, e1, _⟩ := i.1 x e
    rw [e1, if_pos (by rfl), if_pos (by rfl)]; exact r.rep hk hr
theorem Rpt.put {k : List T} {t : T} {kk : List Key} {v : V} (hk : KRs k kk) (hr : Rp K g t v) {ps : List (T × T)} {kvs : List (List Key × V)} (r : Rpt K g ps kvs) : Rpt K g (putD (.tup k) t ps) (putK kvs kk v) := by
  have i := Rpt.get hk r
  unfold putD putK
  rw [valV_any]
  cases e : getT (.tup k) ps with
  | none => rw [i.2 e, if_neg (by simp), if_neg (by simp)]; exact r.snoc hk hr
  | some x =>
    obtain ⟨u, e1, _⟩ := i.1 x e
    rw [e1, if_pos (by rfl), if_pos (by rfl)]; exact r.rep hk hr
theorem Rpk.drop {k : T} {kk : Key} (hk : KR k kk) : ∀ {ps : List (T × T)} {kvs : List (Key × V)}, Rpk K g ps kvs → Rpk K g (dropD k ps) (dropK kvs kk)
  | _, _, .nil => .nil
  | _, _, .cons (k := a) (x := x) (kk := ka) (v := v) (ps := ps) (kvs := kvs) h r rr => by
    have e0 := KR.eq h hk
    have ih := Rpk.drop hk rr
    unfold dropD dropK at ih ⊢
    rw [List.filter_cons, List.filter_cons]
    by_cases c : ka = kk
    · rw [e0, decide_eq_true c, if_neg (by simp), if_neg (by simp [c])]; exact ih
    · rw [e0, decide_eq_false c, if_pos (by rfl), if_pos (by simp [c])]; exact .cons h r ih
/-- a dict's content, by its kind -/
def DR (K : PySem.W.Frag) (g : G) (b : Bool) (ps : List (T × T)) (u : HO) : Prop := match b with
  | false => ∃ kvs, u = .dK kvs ∧ Rpk K g ps kvs
  | true => ∃ kvs, u = .dT kvs ∧ Rpt K g ps kvs
theorem dOf_rp {S : Sto} {H : Hp} (W : Wd K S H g) {x : T} {v : V} {b : Bool} {ps : List (T × T)} (e : dOf S x = some (b, ps)) (r : Rp K g x v) : ∃ a u, v = .ref a ∧ Rd H a u ∧ DR K g b ps u := by
  cases r with
  | dct h r => cases e; exact ⟨_, _, rfl, .inr ⟨_, W.sub _ _ h⟩, _, rfl, r⟩
  | dctT h r => cases e; exact ⟨_, _, rfl, .inr ⟨_, W.sub _ _ h⟩, _, rfl, r⟩
  | ref h =>
    simp only [dOf] at e
    split at e
    · rename_i b' l q
      cases e
      cases b with
      | false =>
        obtain ⟨vs, h1, r1⟩ := W.cell _ _ _ q (fun z => nomatch z) h
        exact ⟨_, _, rfl, .inl h1, _, rfl, r1⟩
      | true =>
        obtain ⟨vs, h1, r1⟩ := W.cell _ _ _ q (fun z => nomatch z) h
        exact ⟨_, _, rfl, .inl h1, _, rfl, r1⟩
    · rename_i b' l q
      cases e
      cases b with
      | false =>
        obtain ⟨od, vs, h1, r1⟩ := W.cell _ _ _ q (fun z => nomatch z) h
        exact ⟨_, _, rfl, .inr ⟨_, h1⟩, _, rfl, r1⟩
      | true =>
        obtain ⟨od, vs, h1, r1⟩ := W.cell _ _ _ q (fun z => nomatch z) h
        exact ⟨_, _, rfl, .inr ⟨_, h1⟩, _, rfl, r1⟩
    · cases e
  | _ => cases e
theorem isD_rp {S : Sto} {H : Hp} (W : Wd K S H g) {x : T} {v : V} (e : (dOf S x).isSome = true) (r : Rp K g x v) : ∃ a, v = .ref a ∧ IsD H a := by
  obtain ⟨⟨b, ps⟩, e1⟩ := Option.isSome_iff_exists.mp e
  obtain ⟨a, u, rfl, h, d⟩ := dOf_rp W e1 r
  cases b with
  | false => obtain ⟨kvs, rfl, _⟩ := d; exact ⟨a, rfl, .inl ⟨kvs, h⟩⟩
  | true => obtain ⟨kvs, rfl, _⟩ := d; exact ⟨a, rfl, .inr ⟨kvs, h⟩⟩
/-- what the dict holds at the key -/
theorem dget_rp {S : Sto} {H : Hp} (W : Wd K S H g) {x k : T} {v w : V} {b : Bool} {ps : List (T × T)} (e : dOf S x = some (b, ps)) (r : Rp K g x v) (hk : keyOk b k = true) (rk : Rp K g k w) :
    ∃ a, v = .ref a ∧ (∀ t, getT k ps = some t → ∃ y, DGet H a w (some y) ∧ Rp K g t y) ∧ (getT k ps = none → DGet H a w none) := by
  obtain ⟨a, u, rfl, h, d⟩ := dOf_rp W e r
  cases b with
  | false =>
    obtain ⟨kvs, rfl, rr⟩ := d
    obtain ⟨kk, h1, rfl⟩ := isKey_kr hk rk
    obtain ⟨i1, i2⟩ := rr.get h1
    refine ⟨a, rfl, fun t e => ?_, fun e => ?_⟩
    · obtain ⟨y, e1, r1⟩ := i1 t e
      exact ⟨y, .inl ⟨kvs, kk, h, rfl, e1.symm⟩, r1⟩
    · exact .inl ⟨kvs, kk, h, rfl, (i2 e).symm⟩
  | true =>
    obtain ⟨kvs, rfl, rr⟩ := d
    cases rk with
    | tup h0 h1 h2 =>
      have hk' : keyb _ = true := hk
      have f := h1 hk'
      obtain ⟨kk, k1, rfl⟩ := keys_kr (by unfold keyb at hk'; exact (Bool.and_eq_true_iff.mp hk').2) h2
      obtain ⟨i1, i2⟩ := rr.get k1
      refine ⟨a, rfl, fun t e => ?_, fun e => ?_⟩
      · obtain ⟨y, e1, r1⟩ := i1 t e
        exact ⟨y, .inr ⟨kvs, kk, _, h, rfl, tup_wd W f, e1.symm⟩, r1⟩
      · exact .inr ⟨kvs, kk, _, h, rfl, tup_wd W f, (i2 e).symm⟩
    | _ => cases hk
theorem dgetD_rp {S : Sto} {H : Hp} (W : Wd K S H g) {x k z : T} {v w y : V} {b : Bool} {ps : List (T × T)} (e : dOf S x = some (b, ps)) (r : Rp K g x v) (hk : keyOk b k = true) (rk : Rp K g k w) (rz : Rp K g z y) :
    ∃ a o, v = .ref a ∧ DGet H a w o ∧ Rp K g ((getT k ps).getD z) (o.getD y) := by
  obtain ⟨a, rfl, i1, i2⟩ := dget_rp W e r hk rk
  cases q : getT k ps with
  | none => exact ⟨a, none, rfl, i2 q, rz⟩
  | some t =>
    obtain ⟨u, h1, h2⟩ := i1 t q
    exact ⟨a, some u, rfl, h1, h2⟩
theorem dput_rp {S S' : Sto} {H : Hp} (W : Wd K S H g) {x k t : T} {v w y : V} (e : opDPut x k t S = some S') (r : Rp K g x v) (rk : Rp K g k w) (rt : Rp K g t y) : ∃ a H', v = .ref a ∧ DPut H a w y H' ∧ Wd K S' H' g ∧ Ext S H g S' H' g := by
  unfold opDPut at e
  split at e
  · split at e
    · rename_i b ps q
      split at e
      · rename_i c
        cases e
        cases b with
        | false =>
          obtain ⟨a, rfl, m, kvs, h1, r1⟩ := r.refH W q (fun z => nomatch z)
          obtain ⟨kk, h2, rfl⟩ := isKey_kr c.1 rk
          obtain ⟨w', x'⟩ := W.write (ho := .dK (putK kvs kk y)) (o' := .dct false (putD k t ps)) q (fun z => nomatch z) m (fun z => nomatch z) ⟨_, upd_same, r1.put h2 rt⟩
          exact ⟨a, _, rfl, .inl ⟨kvs, kk, h1, rfl, by rw [← r1.length]; exact c.2, rfl⟩, w', x'⟩
        | true =>
          obtain ⟨a, rfl, m, kvs, h1, r1⟩ := r.refH W q (fun z => nomatch z)
          cases rk with
          | tup h0 hf h2 =>
            have hk' : keyb _ = true := c.1
            obtain ⟨kk, k1, rfl⟩ := keys_kr (by unfold keyb at hk'; exact (Bool.and_eq_true_iff.mp hk').2) h2
            obtain ⟨w', x'⟩ := W.write (ho := .dT (putK kvs kk y)) (o' := .dct true (putD (.tup _) t ps)) q (fun z => nomatch z) m (fun z => nomatch z) ⟨_, upd_same, r1.put k1 rt⟩
            exact ⟨a, _, rfl, .inr ⟨kvs, kk, _, h1, rfl, tup_wd W (hf hk'), by rw [← r1.length]; exact c.2, rfl⟩, w', x'⟩
          | _ => cases c.1
      · cases e
    · cases e
  · cases e
end
/-! freezing -/
def tFz (t : TE) : TE := fun σ H Q => t σ H fun v H' => Q v H' ∨ ∃ d u, v = .ref d ∧ H' d = some u ∧ Mut (some u) ∧ ∀ od, Q v (upd H' d (.frz od u))
variable {X : Cx} {E : XS} {e o i value f : Expr} {es : List Expr} {pos pos' tpos apos cpos : Pos} {ea eo ei ef : AE} {ra : AA}
theorem pe_fz {t : TE} (h : PE X e t) : PE X e (tFz t) := ⟨fun pins s σ H Q I q => thn (h.run pins s σ H _ I q) fun w s1 ⟨v, H1, J, r, k⟩ => by
  rcases k with k | ⟨d, u, rfl, h1, m, k⟩
  · exact ⟨v, H1, J, r, k⟩
  · obtain ⟨od, J1⟩ := J.lock h1 m
    exact ⟨_, _, J1, r, k od⟩⟩
theorem upd2 {H : Hp} {d : Addr} {o u : HO} : upd (upd H d o) d u = upd H d u := upd_upd
/-- a new dict, frozen or not -/
theorem Post.newD {fz : Bool} {E : XK} {S : Sto} {H : Hp} {g : G} {b : Bool} {ps : List (T × T)} {u : HO} {Q : VK} (h : Post K E S H g (Rp K) (mkD fz b ps S) Q) (w : Wd K S H g) (r : DR K g b ps u) : ∀ p, H p = none → Q (.ref p) (upd H p u) ∨ ∃ d u', V.ref p = .ref d ∧ upd H p u d = some u' ∧ Mut (some u') ∧ ∀ od, Q (.ref p) (upd (upd H p u) d (.frz od u')) := by
  intro p hp
  cases fz with
  | true =>
    refine .inr ⟨p, u, rfl, upd_same, ?_, fun od => ?_⟩
    · cases b with
      | false => obtain ⟨_, rfl, _⟩ := r; exact True.intro
      | true => obtain ⟨_, rfl, _⟩ := r; exact True.intro
    · rw [upd2]
      obtain ⟨w', x⟩ := w.frozen (ho := .frz od u) hp
      have e : (g.put p (.frz od u)).F p = some (.frz od u) := upd_same
      refine h _ _ _ w' x ?_
      cases b with
      | false => obtain ⟨kvs, rfl, r⟩ := r; exact .dct e (r.mono x.le)
      | true => obtain ⟨kvs, rfl, r⟩ := r; exact .dctT e (r.mono x.le)
  | false =>
    refine .inl ?_
    cases b with
    | false =>
      obtain ⟨kvs, rfl, r⟩ := r
      obtain ⟨w', x, m⟩ := w.alloc (o := .dct false ps) (ho := .dK kvs) hp (fun z => nomatch z) ⟨kvs, upd_same, r.mono G.le_snoc⟩
      exact h _ _ _ w' x (.ref m)
    | true =>
      obtain ⟨kvs, rfl, r⟩ := r
      obtain ⟨w', x, m⟩ := w.alloc (o := .dct true ps) (ho := .dT kvs) hp (fun z => nomatch z) ⟨kvs, upd_same, r.mono G.le_snoc⟩
      exact h _ _ _ w' x (.ref m)
theorem aNewK (fz : Bool) : PE X (.Dict [] [] pos) (LE K E (mNewD fz false)) := PE.weak (pe_fz pe_dnewK) fun σ H Q ⟨st, S, g, w, sl, p⟩ => Post.newD p w ⟨[], rfl, .nil⟩
theorem aNewT (fz : Bool) : PE X (.Dict [] [] pos) (LE K E (mNewD fz true)) := PE.weak (pe_fz pe_dnewT) fun σ H Q ⟨st, S, g, w, sl, p⟩ => Post.newD p w ⟨[], rfl, .nil⟩
theorem aFrz (h : PE X e (LE K E ea)) : PE X e (LE K E (mFrz ea)) := PE.weak (pe_fz h) fun σ H Q ⟨st, S, g, w, sl, p⟩ =>
  LE.bind (f := fun x _ S => opFrz x S) w sl p fun x S1 v H1 g1 w1 sl1 x1 r1 p1 => by
    unfold opFrz at p1
    split at p1
    · split at p1
      · rename_i n l q
        obtain ⟨a, rfl, m, vs, h1, r2⟩ := r1.refH w1 q (fun z => nomatch z)
        obtain ⟨w2, x2⟩ := w1.freeze (ho := .lst vs) q (fun z => nomatch z) m
        have e : upd H1 a (.lst vs) = H1 := by
          funext b
          unfold upd
          split
          · rename_i c; rw [c, h1]
          · rfl
        rw [e] at w2 x2
        exact .inl (p1 _ _ _ w2 x2 (.lst (show upd _ _ _ _ = _ from upd_same) (r2.mono x2.le)))
      · rename_i n b l q
        cases b with
        | false =>
          obtain ⟨a, rfl, m, vs, h1, r2⟩ := r1.refH w1 q (fun z => nomatch z)
          refine .inr ⟨a, _, rfl, h1, True.intro, fun od => ?_⟩
          obtain ⟨w2, x2⟩ := w1.freeze (ho := .frz od (.dK vs)) q (fun z => nomatch z) m
          exact p1 _ _ _ w2 x2 (.dct (od := od) (show upd _ _ _ _ = _ from upd_same) (r2.mono x2.le))
        | true =>
          obtain ⟨a, rfl, m, vs, h1, r2⟩ := r1.refH w1 q (fun z => nomatch z)
          refine .inr ⟨a, _, rfl, h1, True.intro, fun od => ?_⟩
          obtain ⟨w2, x2⟩ := w1.freeze (ho := .frz od (.dT vs)) q (fun z => nomatch z) m
          exact p1 _ _ _ w2 x2 (.dctT (od := od) (show upd _ _ _ _ = _ from upd_same) (r2.mono x2.le))
      · exact .inl (p1.val w1 r1)
    · exact .inl (p1.val w1 r1)
/-! the forms -/
theorem aDGet (hu : X.A.units + 1 < cLine) (ho : PE X o (LE K E eo)) (hi : PE X i (LE K E ei)) (hs : NoSl i := by exact fun _ _ => rfl) : PE X (.Subscript o i pos) (LE K E (m2 opDGet eo ei)) :=
  PE.weak (pe_dget hu ho hi hs) fun σ H Q h => LE.op2 (r := fun x y H Q => ∃ a v, x = .ref a ∧ DGet H a y (some v) ∧ Q v H) (fun {E S H g x y v w Q} W rx ry p => by
    unfold opDGet at p
    split at p
    · rename_i b ps e
      split at p
      · rename_i hk
        obtain ⟨a, rfl, i1, _⟩ := dget_rp W e rx hk ry
        split at p
        · rename_i t q
          obtain ⟨y', h1, h2⟩ := i1 t q
          exact ⟨a, y', rfl, h1, p.val W h2⟩
        · exact p.elim
      · exact p.elim
    · exact p.elim) h
theorem din_up {E : XK} {S : Sto} {H : Hp} {g : G} {k x : T} {y d : V} {Q : VK} (W : Wd K S H g) (rk : Rp K g k y) (rx : Rp K g x d) (p : Post K E S H g (Rp K) (opDIn k x S) Q) : ∃ a o, d = .ref a ∧ DGet H a y o ∧ Q (.bl o.isSome) H := by
  unfold opDIn at p
  split at p
  · rename_i b ps e
    split at p
    · rename_i hk
      obtain ⟨a, rfl, i1, i2⟩ := dget_rp W e rx hk rk
      cases q : getT k ps with
      | none => rw [q] at p; exact ⟨a, none, rfl, i2 q, p.val W (.bl _)⟩
      | some t =>
        rw [q] at p
        obtain ⟨u, h1, _⟩ := i1 t q
        exact ⟨a, some u, rfl, h1, p.val W (.bl _)⟩
    · exact p.elim
  · exact p.elim
theorem dnin_up {E : XK} {S : Sto} {H : Hp} {g : G} {k x : T} {y d : V} {Q : VK} (W : Wd K S H g) (rk : Rp K g k y) (rx : Rp K g x d) (p : Post K E S H g (Rp K) (opDNin k x S) Q) : ∃ a o, d = .ref a ∧ DGet H a y o ∧ Q (.bl (!o.isSome)) H := by
  unfold opDNin at p
  split at p
  · rename_i b ps e
    split at p
    · rename_i hk
      obtain ⟨a, rfl, i1, i2⟩ := dget_rp W e rx hk rk
      cases q : getT k ps with
      | none => rw [q] at p; exact ⟨a, none, rfl, i2 q, p.val W (.bl _)⟩
      | some t =>
        rw [q] at p
        obtain ⟨u, h1, _⟩ := i1 t q
        exact ⟨a, some u, rfl, h1, p.val W (.bl _)⟩
    · exact p.elim
  · exact p.elim
theorem PC.weak {op : CmpOp} {a b : Expr} {t t' : TE} (h : PC X op a b t) (k : ∀ σ H Q, t' σ H Q → t σ H Q) : PC X op a b t' := ⟨fun pins s σ H Q I q => h.run pins s σ H Q I (k σ H Q q)⟩
theorem pcDIn (hu : X.A.units + 1 < cLine) (hi : PE X i (LE K E ei)) (ho : PE X o (LE K E eo)) : PC X .In i o (LE K E (m2 opDIn ei eo)) :=
  PC.weak (pc_din hu hi ho) fun σ H Q h => LE.op2 (r := fun y x H Q => ∃ a o, x = .ref a ∧ DGet H a y o ∧ Q (.bl o.isSome) H) (fun W rx ry p => din_up W rx ry p) h
theorem pcDNin (hu : X.A.units + 1 < cLine) (hi : PE X i (LE K E ei)) (ho : PE X o (LE K E eo)) : PC X .NotIn i o (LE K E (m2 opDNin ei eo)) :=
  PC.weak (pc_dnotin hu hi ho) fun σ H Q h => LE.op2 (r := fun y x H Q => ∃ a o, x = .ref a ∧ DGet H a y o ∧ Q (.bl (!o.isSome)) H) (fun W rx ry p => dnin_up W rx ry p) h
theorem aDIn (hu : X.A.units + 1 < cLine) (hi : PE X i (LE K E ei)) (ho : PE X o (LE K E eo)) (h1 : behindInMarks .In o = false := by with_unfolding_all rfl) : PE X (.Compare i [.In] [o] pos) (LE K E (m2 opDIn ei eo)) := pe_cmp (pcDIn hu hi ho) h1
theorem aDNin (hu : X.A.units + 1 < cLine) (hi : PE X i (LE K E ei)) (ho : PE X o (LE K E eo)) (h1 : behindInMarks .NotIn o = false := by with_unfolding_all rfl) : PE X (.Compare i [.NotIn] [o] pos) (LE K E (m2 opDNin ei eo)) := pe_cmp (pcDNin hu hi ho) h1
theorem aTDIn (hu : X.A.units + 1 < cLine) (hi : PE X i (LE K E ei)) (ho : PE X o (LE K E eo)) (h1 : behindInMarks .In o = false := by with_unfolding_all rfl) : PT X (.Compare i [.In] [o] pos) (LT K E (mB (m2 opDIn ei eo))) :=
  PT.weak (pt_cmp (pcDIn hu hi ho) h1) fun _ _ _ h => LE.tB h
theorem aTDNin (hu : X.A.units + 1 < cLine) (hi : PE X i (LE K E ei)) (ho : PE X o (LE K E eo)) (h1 : behindInMarks .NotIn o = false := by with_unfolding_all rfl) : PT X (.Compare i [.NotIn] [o] pos) (LT K E (mB (m2 opDNin ei eo))) :=
  PT.weak (pt_cmp (pcDNin hu hi ho) h1) fun _ _ _ h => LE.tB h
theorem aGet1 (hu : X.A.units + 1 < cLine) (ho : PE X o (LE K E eo)) (hi : PE X i (LE K E ei)) (m : M1 X o "get" apos i cpos := by exact ⟨rfl, rfl, rfl, rfl⟩) : PE X (.Call (.Attribute o "get" apos) [i] [] cpos) (LE K E (mGet1 eo ei)) :=
  PE.weak (pe_dget1 hu ho hi m) fun σ H Q ⟨st, S, g, w, sl, p⟩ => LE.bind (f := fun x st S => if (dOf S x).isSome = true then (ei st S).bind fun y S => (match dOf S x with
  | some (b, ps) => if keyOk b y = true then .ok ((getT y ps).getD .non) S else .bad
  | none => .bad) else .bad) w sl p fun x S1 v H1 g1 w1 sl1 x1 r1 p1 => by
    split at p1
    · rename_i c
      obtain ⟨a, rfl, hD⟩ := isD_rp w1 c r1
      refine ⟨a, rfl, hD, LE.bind (f := fun y _ S => (match dOf S x with
        | some (b, ps) => if keyOk b y = true then .ok ((getT y ps).getD .non) S else .bad
        | none => .bad)) w1 sl1 p1 fun y S2 v2 H2 g2 w2 sl2 x2 r2 p2 => ?_⟩
      split at p2
      · rename_i b ps e
        split at p2
        · rename_i hk
          obtain ⟨a', o, ea, h1, h2⟩ := dgetD_rp w2 e (r1.mono x2.le) hk r2 (.non : Rp K g2 .non .non)
          cases ea
          exact ⟨o, h1, p2.val w2 h2⟩
        · exact p2.elim
      · exact p2.elim
    · exact p1.elim
theorem aGet2 (hu : X.A.units + 1 < cLine) (ho : PE X o (LE K E eo)) (hi : PE X i (LE K E ei)) (hf : PE X f (LE K E ef)) (m : M2 X o "get" apos i f cpos := by exact ⟨rfl, rfl, rfl, rfl⟩) : PE X (.Call (.Attribute o "get" apos) [i, f] [] cpos) (LE K E (mGet2 eo ei ef)) :=
  PE.weak (pe_dget2 hu ho hi hf m) fun σ H Q ⟨st, S, g, w, sl, p⟩ => LE.bind (f := fun x st S => if (dOf S x).isSome = true then (ei st S).bind fun y S => (ef st S).bind fun u S => (match dOf S x with
  | some (b, ps) => if keyOk b y = true then .ok ((getT y ps).getD u) S else .bad
  | none => .bad) else .bad) w sl p fun x S1 v H1 g1 w1 sl1 x1 r1 p1 => by
    split at p1
    · rename_i c
      obtain ⟨a, rfl, hD⟩ := isD_rp w1 c r1
      refine ⟨a, rfl, hD, LE.bind (f := fun y st S => (ef st S).bind fun u S => (match dOf S x with
        | some (b, ps) => if keyOk b y = true then .ok ((getT y ps).getD u) S else .bad
        | none => .bad)) w1 sl1 p1 fun y S2 v2 H2 g2 w2 sl2 x2 r2 p2 => LE.bind (f := fun u _ S => (match dOf S x with
        | some (b, ps) => if keyOk b y = true then .ok ((getT y ps).getD u) S else .bad
        | none => .bad)) w2 sl2 p2 fun u S3 v3 H3 g3 w3 sl3 x3 r3 p3 => ?_⟩
      split at p3
      · rename_i b ps e
        split at p3
        · rename_i hk
          obtain ⟨a', o, ea, h1, h2⟩ := dgetD_rp w3 e ((r1.mono x2.le).mono x3.le) hk (r2.mono x3.le) r3
          cases ea
          exact ⟨o, h1, p3.val w3 h2⟩
        · exact p3.elim
      · exact p3.elim
    · exact p1.elim
theorem aDPut (hu : X.A.units + 1 < cLine) (ho : PE X o (LE K E eo)) (hi : PE X i (LE K E ei)) (hv : PE X value (LE K E ea)) (hs : swapsWith value (some (.Subscript o i pos')) pos.line X.env = pure false := by rfl) : PS X (.Assign [.Subscript o i pos'] value pos) (LS K E (mDPut eo ei ea)) :=
  PS.weak (ps_dput hu ho hi hv hs) fun D σ H ⟨st, S, g, w, sl, p⟩ => LE.run (f := fun v S => (eo st S).stm st fun x S => (ei st S).stm st fun y S => match opDPut x y v S with
  | some S' => .nx st S'
  | none => .bad) w sl p fun t S1 v H1 g1 w1 sl1 x1 r1 p1 => LE.run (f := fun x S => (ei st S).stm st fun y S => match opDPut x y t S with
  | some S' => .nx st S'
  | none => .bad) w1 sl1 p1 fun x S2 v2 H2 g2 w2 sl2 x2 r2 p2 => LE.run (f := fun y S => match opDPut x y t S with
  | some S' => .nx st S'
  | none => .bad) w2 sl2 p2 fun y S3 v3 H3 g3 w3 sl3 x3 r3 p3 => by
    split at p3
    · rename_i S4 e
      obtain ⟨a, H4, rfl, h1, w', x'⟩ := dput_rp w3 e (r2.mono x3.le) r3 ((r1.mono x2.le).mono x3.le)
      exact ⟨a, H4, rfl, h1, p3 σ _ _ w' x' (sl3.mono x'.le)⟩
    · exact p3.elim
theorem up_dict (fz : Bool) : ∀ {E : XK} {S : Sto} {H : Hp} {g : G} {xs : List T} {vs : List V} {Q : VK}, Wd K S H g → Rps K g xs vs → Post K E S H g (Rp K) (opDict fz xs S) Q → rDCopy vs H fun v H' => Q v H' ∨ ∃ d u, v = .ref d ∧ H' d = some u ∧ Mut (some u) ∧ ∀ od, Q v (upd H' d (.frz od u)) := by
  intro E S H g xs vs Q W rx p
  unfold opDict at p
  split at p
  · obtain ⟨v, rfl, r⟩ := rx.one
    split at p
    · rename_i ps e
      obtain ⟨a, u, rfl, h, kvs, rfl, rr⟩ := dOf_rp W e r
      exact ⟨a, kvs, rfl, h, Post.newD p W ⟨kvs, rfl, rr⟩⟩
    · exact p.elim
  · exact p.elim
theorem aDict (fz : Bool) {x : Str} {p : Pos} (hm : X.mg "dict" = none) (ha : PA X (e :: es) (LA K E ra)) (hg : Gl X "dict" := by rfl) (he : starEach (e :: es) X.env = (false, eval e X.env) :: starEach es X.env := by rfl) (hpl : (backTo pos (starEach es X.env)).any (·.1) = false := by rfl) :
    PE X (.Call (.Name "dict" p) (e :: es) [] pos) (LE K E (mN (opDict fz) ra)) :=
  PE.weak (pe_fz (pe_callTy c_dict hg hm (by decide +kernel) ha (by decide) (by decide) he hpl)) fun σ H Q ⟨st, S, g, w, sl, p⟩ => LA.bind (f := fun x _ S => opDict fz x S) w sl p fun t S1 v H1 g1 w1 sl1 x1 r1 p1 => up_dict fz w1 r1 p1
end
end Ab

namespace Ab
open PySem PySem.Spec PyProof.Rows L2 Sp
/-! ## list comprehensions, raise, try -/
def XS0 : XS := fun _ _ _ _ => False
def R.nox {α : Type} (r : R α) : R α := match r with
  | .ok a S => .ok a S
  | _ => .bad
open Classical in
noncomputable def lcL (ck : Option (Nat × O)) (i : Nat) (c : AT) (e : AE) (st : Slots) : List T → List T → Sto → R (List T)
  | [], acc, S => if okC ck S then .ok acc S else .bad
  | t :: ts, acc, S => if okC ck S then ((c (st.set i (some t)) S).nox.bind fun b S => if b = true then ((e (st.set i (some t)) S).nox.bind fun y S => if acc.length < sizeLine then lcL ck i c e st ts (acc ++ [y]) S else .bad) else lcL ck i c e st ts acc S) else .bad
noncomputable def mLc (fz : Bool) (it : AI) (i : Nat) (c : AT) (e : AE) : AE := fun st S => (it st S).bind fun x S => (lcL x.ck i c e st x.l [] S).bind fun l S => mkL fz l S
def mYes : AT := fun _ S => .ok true S
section
variable {K : PySem.W.Frag} {S : Sto} {H : Hp} {g : G} {p : Addr} {ho : HO} {o : O}
/-- what stands free is taken as frozen, as a handle's -/
theorem Wd.adopt (W : Wd K S H g) (hp : H p = some ho) (hF : g.F p = none) (hl : ¬ lv g S p) : Wd K S H (g.put p ho) := by
  have le := G.le_put (ho := ho) hF
  refine ⟨W.len, fun b u e => ?_, fun n o b e d m => (W.cell n o b e d m).mono le rfl, fun b h => ?_, W.inj⟩
  · have e' : upd g.F p ho b = some u := e
    by_cases hb : b = p
    · subst hb; rw [upd_same] at e'; cases e'; exact hp
    · rw [upd_ne hb] at e'; exact W.sub b u e'
  · show upd _ _ _ _ = _
    rw [upd_ne (fun q => hl (by subst q; exact h))]
    exact W.off b h
theorem Wd.adoptH (W : Wd K S H g) (hF : g.F p = none) (hl : ¬ lv g S p) (hd : o ≠ .dead) (ok : OR K (g.snoc p) H p o) : Wd K (S ++ [o]) H (g.snoc p) ∧ (g.snoc p).mu[S.length]? = some p ∧ ∀ b, lv (g.snoc p) (S ++ [o]) b → b = p ∨ lv g S b := by
  have le := G.le_snoc (g := g) (p := p)
  have lt : ∀ {n : Nat} {b : Addr}, g.mu[n]? = some b → n < S.length := fun {n b} h => by rw [← W.len]; exact (List.getElem?_eq_some_iff.mp h).1
  have ltS : ∀ {n : Nat} {u : O}, S[n]? = some u → n < S.length := fun h => (List.getElem?_eq_some_iff.mp h).1
  have case : ∀ {n : Nat} {u : O} {b : Addr}, (S ++ [o])[n]? = some u → (g.snoc p).mu[n]? = some b → (S[n]? = some u ∧ g.mu[n]? = some b) ∨ (n = S.length ∧ u = o ∧ b = p) := fun {n u b} h k => by
    rcases get_snoc h with h | ⟨h1, h2⟩
    · rcases get_snoc k with k | ⟨k1, _⟩
      · exact .inl ⟨h, k⟩
      · have := ltS h
        rw [← W.len] at this
        exact absurd this (by omega)
    · rcases get_snoc k with k | ⟨_, k2⟩
      · exact absurd (lt k) (by omega)
      · exact .inr ⟨h1, h2, k2⟩
  have at_ : (g.snoc p).mu[S.length]? = some p := by
    show (g.mu ++ [p])[S.length]? = some p
    rw [← W.len]; simp
  refine ⟨⟨by show (g.mu ++ [p]).length = _; simp [W.len], W.sub, fun n u b e d m => ?_, fun b ⟨n, u, e, d, m⟩ => ?_, fun i j u u' b e1 d1 e2 d2 m1 m2 => ?_⟩, at_, fun b ⟨n, u, e, d, m⟩ => ?_⟩
  · rcases case e m with ⟨e, m⟩ | ⟨_, h2, h3⟩
    · exact (W.cell n u b e d m).mono le rfl
    · subst h2 h3; exact ok
  · rcases case e m with ⟨e, m⟩ | ⟨_, _, h3⟩
    · exact W.off b ⟨n, u, e, d, m⟩
    · subst h3; exact hF
  · rcases case e1 m1 with ⟨f1, n1⟩ | ⟨q1, _, r1⟩ <;> rcases case e2 m2 with ⟨f2, n2⟩ | ⟨q2, _, r2⟩
    · exact W.inj i j u u' b f1 d1 f2 d2 n1 n2
    · rw [r2] at n1; exact (hl ⟨i, u, f1, d1, n1⟩).elim
    · rw [r1] at n2; exact (hl ⟨j, u', f2, d2, n2⟩).elim
    · rw [q1, q2]
  · rcases case e m with ⟨e, m⟩ | ⟨_, _, h3⟩
    · exact .inr ⟨n, u, e, d, m⟩
    · exact .inl h3
/-- the new list stands free while the comprehension runs; the base is the state ahead of it -/
structure Free (S1 : Sto) (H1 : Hp) (g1 : G) (D : Addr) (S : Sto) (H : Hp) (g : G) (vs : List V) : Prop where
  ext : Ext S1 H1 g1 S H g
  new : H1 D = none
  at_ : H D = some (.lst vs)
  F : g.F D = none
  l : ¬ lv g S D
theorem Free.step {S1 S' : Sto} {H1 H' : Hp} {g1 g' : G} {D : Addr} {vs : List V} (f : Free S1 H1 g1 D S H g vs) (x : Ext S H g S' H' g') : Free S1 H1 g1 D S' H' g' vs :=
  let ⟨a, b, c⟩ := x.fr D _ f.at_ (fun _ z => nomatch z) f.F f.l
  ⟨f.ext.trans x, f.new, a, b, c⟩
theorem Free.put {S1 : Sto} {H1 : Hp} {g1 : G} {D : Addr} {vs ws : List V} (f : Free S1 H1 g1 D S H g vs) (w : Wd K S H g) (w1 : Wd K S1 H1 g1) : Free S1 H1 g1 D S (upd H D (.lst ws)) g ws ∧ Wd K S (upd H D (.lst ws)) g := by
  have neD : ∀ {b u}, H1 b = some u → b ≠ D := fun e => ne_of_none e f.new
  have neF : ∀ {b u}, g.F b = some u → b ≠ D := fun {b u} e z => by rw [z, f.F] at e; cases e
  refine ⟨⟨⟨f.ext.le, fun b u e => ?_, fun b u e nt h l => ?_, fun n b ps a e m => ⟨by obtain ⟨_, z⟩ := (w1.cell n _ a e (fun z => nomatch z) m).there (fun z => nomatch z); rw [upd_ne (neD z)]; exact (f.ext.lk n b ps a e m).1, (f.ext.lk n b ps a e m).2⟩⟩, f.new, upd_same, f.F, f.l⟩, w.len, fun b u e => ?_, fun n u b e d m => (w.cell n u b e d m).mono (.refl g) ?_, w.off, w.inj⟩
  · obtain ⟨_, z⟩ := w1.FH e
    rw [upd_ne (neD z)]; exact f.ext.fz b u e
  · rw [upd_ne (neD e)]; exact f.ext.fr b u e nt h l
  · rw [upd_ne (neF e)]; exact w.sub b u e
  · rw [upd_ne]
    rintro rfl
    exact f.l ⟨n, u, e, d, m⟩
/-- the new list is handed out -/
theorem Free.done {S1 : Sto} {H1 : Hp} {g1 : G} {D : Addr} {ts : List T} {vs : List V} {fz : Bool} {E : XK} {Q : VK} (f : Free S1 H1 g1 D S H g vs) (w : Wd K S H g) (w1 : Wd K S1 H1 g1) (r : Rps K g ts vs) (p : Post K E S1 H1 g1 (Rp K) (mkL fz ts S) Q) : Q (.ref D) H := by
  have neD : ∀ {b u}, H1 b = some u → b ≠ D := fun e => ne_of_none e f.new
  cases fz with
  | true =>
    have le := G.le_put (ho := .lst vs) f.F
    refine p _ H _ (w.adopt f.at_ f.F f.l) ⟨f.ext.le.trans le, f.ext.fz, fun b u e nt h l => ?_, f.ext.lk⟩ (.lst (show upd _ _ _ _ = _ from upd_same) (r.mono le))
    obtain ⟨a, b', c⟩ := f.ext.fr b u e nt h l
    exact ⟨a, by show upd _ _ _ _ = _; rw [upd_ne (neD e)]; exact b', c⟩
  | false =>
    obtain ⟨w2, m, lv2⟩ := w.adoptH (o := .lst ts) f.F f.l (fun z => nomatch z) ⟨vs, f.at_, r.mono G.le_snoc⟩
    refine p _ H _ w2 ⟨f.ext.le.trans G.le_snoc, f.ext.fz, fun b u e nt h l => ?_, fun n b ps a e m => ⟨(f.ext.lk n b ps a e m).1, by rw [List.getElem?_append_left (List.getElem?_eq_some_iff.mp (f.ext.lk n b ps a e m).2).1]; exact (f.ext.lk n b ps a e m).2⟩⟩ (.ref m)
    obtain ⟨a, b', c⟩ := f.ext.fr b u e nt h l
    exact ⟨a, b', fun z => (lv2 b z).elim (neD e) c⟩
end
section
variable {X : Cx} {K : PySem.W.Frag} {E : XS} {elt tg iter e : Expr} {ifs : List Expr} {scope : Scope} {pos spos : Pos} {it : AI} {et : AT} {ea : AE} {i : Nat} {x : Str}
structure PTsA (X : Cx) (K : PySem.W.Frag) (E : XS) (ifs : List Expr) (t : AT) : Prop where
  h : PTs X ifs (LT K E t)
theorem aIfN : PTs X [] (LT K E mYes) := ⟨fun pins s σ H Q I ⟨st, S, g, w, sl, p⟩ => pts_nil.run pins s σ H Q I (p.val (v := true) w rfl)⟩
theorem aIf1 {c : Expr} (h : PT X c (LT K E et)) : PTs X [c] (LT K E et) := pts_one h
theorem Post.nox {α β : Type} {EE : XK} {S : Sto} {H : Hp} {g : G} {rel : G → α → β → Prop} {r : R α} {Q : β → Hp → Prop} (k : ∀ t S', r = .ok t S' → ∀ v H' g', Wd K S' H' g' → Ext S H g S' H' g' → rel g' t v → Q v H') (n : r.nox ≠ .bad) : Post K EE S H g rel r Q := by
  cases r with
  | ok t S' => exact k t S' rfl
  | exc c S' => exact (n rfl).elim
  | bad => exact (n rfl).elim
theorem lc_post (nd : 0 = 0) {fz : Bool} {σ : TSt} {H : Hp} {Q : VK} (h : LE K E (mLc fz it i et ea) σ H Q) : tLc (LI K E it) (gName i) (LT K XS0 et) (LE K XS0 ea) [i] σ H Q := by
  obtain ⟨st, S, g, w, sl, p⟩ := h
  refine ⟨st, S, g, w, sl, ?_⟩
  have p0 : Post K (E σ) S H g (Rp K) ((it st S).bind fun x S => (lcL x.ck i et ea st x.l [] S).bind fun l S => mkL fz l S) Q := p
  cases z : it st S with
  | bad => rw [z] at p0; exact p0
  | exc c S' => rw [z] at p0; exact p0
  | ok x S1 =>
    rw [z] at p0
    intro H1 g1 J w1 x1 wk D hD
    have sl1 := sl.mono x1.le
    have pB : Post K (E σ) S1 H1 g1 (Rp K) ((lcL x.ck i et ea st x.l [] S1).bind fun l S => mkL fz l S) Q := Post.trans p0 x1
    have f0 : Free S1 H1 g1 D S1 (upd H1 D (.lst [])) g1 [] ∧ Wd K S1 (upd H1 D (.lst [])) g1 := by
      have neD : ∀ {b u}, H1 b = some u → b ≠ D := fun e => ne_of_none e hD
      refine ⟨⟨⟨.refl g1, fun b u e => ?_, fun b u e nt h l => ⟨by rw [upd_ne (neD e)]; exact e, h, l⟩, fun n b ps a e m => ⟨by obtain ⟨_, z⟩ := (w1.cell n _ a e (fun z => nomatch z) m).there (fun z => nomatch z); rw [upd_ne (neD z)], e⟩⟩, hD, upd_same, ?_, fun l => ?_⟩, w1.len, fun b u e => ?_, fun n u b e d m => (w1.cell n u b e d m).mono (.refl g1) ?_, w1.off, w1.inj⟩
      · obtain ⟨_, z⟩ := w1.FH e
        rw [upd_ne (neD z)]
      · cases q : g1.F D with
        | none => rfl
        | some u => obtain ⟨_, e⟩ := w1.FH q; rw [hD] at e; cases e
      · obtain ⟨_, e⟩ := w1.lvH l
        rw [hD] at e; cases e
      · rw [upd_ne (neD (w1.sub b u e))]; exact w1.sub b u e
      · obtain ⟨_, e⟩ := (w1.cell n u b e d m).there d
        rw [upd_ne (neD e)]
    refine ⟨fun k m H => ∃ S g acc vs, Wd K S H g ∧ Free S1 H1 g1 D S H g vs ∧ Rps K g acc vs ∧ k ≤ x.l.length ∧ m = x.l.length - k ∧ Post K (E σ) S1 H1 g1 (Rp K) ((lcL x.ck i et ea st (x.l.drop k) acc S).bind fun l S => mkL fz l S) Q,
      ⟨_, S1, g1, [], [], f0.2, f0.1, .nil, Nat.zero_le _, rfl, pB⟩, ?_⟩
    rintro k m H2 ⟨S2, g2, acc, vs, w2, f2, r2, hk, rfl, p2⟩
    by_cases hlt : k < x.l.length
    · obtain ⟨t, ht⟩ : ∃ t, x.l[k]? = some t := ⟨_, List.getElem?_eq_getElem hlt⟩
      have hd : x.l.drop k = t :: x.l.drop (k + 1) := by
        rw [List.drop_eq_getElem_cons hlt]
        congr
        have := List.getElem?_eq_getElem hlt
        rw [ht] at this
        exact (Option.some.inj this).symm
      rw [hd] at p2
      unfold lcL at p2
      by_cases hck : okC x.ck S2
      · rw [if_pos hck] at p2
        obtain ⟨k1, k2⟩ := wk.go k S2 H2 g2 t w2 f2.ext hck ht
        refine .inr ⟨k1, fun H => ∃ S g acc vs, Wd K S H g ∧ Free S1 H1 g1 D S H g vs ∧ Rps K g acc vs ∧ Post K (E σ) S1 H1 g1 (Rp K) ((lcL x.ck i et ea st (x.l.drop (k + 1)) acc S).bind fun l S => mkL fz l S) Q,
          fun H' ⟨S', g', acc', vs', a1, a2, a3, a4⟩ => ⟨_, by omega, S', g', acc', vs', a1, a2, a3, hlt, rfl, a4⟩, fun v H3 y => ?_⟩
        obtain ⟨g3, w3, x3, rt⟩ := k2 v H3 y
        have f3 := f2.step x3
        have r3 := r2.mono x3.le
        have sl3 : Sl K g3 (st.set i (some t)) ((wipe σ [i]).set i (some v)) := by
          have := ((sl1.mono f3.ext.le).unset i none).set i rt
          rw [List.set_set] at this
          exact this
        show wipe ((wipe σ [i]).set i (some v)) [i] = wipe σ [i] ∧ _
        refine ⟨by show ((σ.set i none).set i (some v)).set i none = σ.set i none; rw [List.set_set, List.set_set], st.set i (some t), S2, g3, w3, sl3, ?_⟩
        cases zc : et (st.set i (some t)) S2 with
        | bad => rw [zc] at p2; exact p2
        | exc c S' => rw [zc] at p2; exact p2.elim
        | ok b S4 =>
          rw [zc] at p2
          intro b' H4 g4 w4 x4 eb
          cases (show b = b' from eb)
          have f4 := f3.step x4
          simp only [R.nox, R.bind] at p2
          cases b with
          | false =>
            rw [if_neg Bool.false_ne_true] at p2 ⊢
            exact ⟨S4, g4, acc, vs, w4, f4, r3.mono x4.le, p2⟩
          | true =>
            rw [if_pos rfl] at p2 ⊢
            refine ⟨st.set i (some t), S4, g4, w4, sl3.mono x4.le, ?_⟩
            cases ze : ea (st.set i (some t)) S4 with
            | bad => rw [ze] at p2; exact p2
            | exc c S' => rw [ze] at p2; exact p2.elim
            | ok y S5 =>
              rw [ze] at p2
              intro yv H5 g5 w5 x5 ry
              have f5 := f4.step x5
              have r5 := (r3.mono x4.le).mono x5.le
              simp only [R.nox, R.bind] at p2
              by_cases hs : acc.length < sizeLine
              · rw [if_pos hs] at p2
                obtain ⟨f6, w6⟩ := f5.put (ws := vs ++ [yv]) w5 w1
                exact ⟨vs, f5.at_, by rw [← r5.length]; exact hs, S5, g5, acc ++ [y], vs ++ [yv], w6, f6, r5.append (.cons ry .nil), p2⟩
              · rw [if_neg hs] at p2; exact p2.elim
      · rw [if_neg hck] at p2; exact p2.elim
    · have e : k = x.l.length := by omega
      rw [List.drop_eq_nil_of_le (by omega)] at p2
      unfold lcL at p2
      by_cases hck : okC x.ck S2
      · rw [if_pos hck] at p2
        exact .inl ⟨wk.stop k S2 H2 g2 w2 f2.ext hck (by omega), f2.done w2 w1 r2 p2⟩
      · rw [if_neg hck] at p2; exact p2.elim
theorem aLc (fz : Bool) (hc : X.calm = true) (hN : X.N.Nodup) (hi : PI X tg iter (LI K E it)) (ok : BlkOk X.N X.env.scope scope [(x, i)])
    (hg : ∀ (s : Shared) (H : Hp) (C : Addr) (cl : List (Str × Addr)) (fp : List Addr), PG (X.blk s H scope (compEnvC scope cl C X.env) fp) tg (gName i)) (ht : ∀ (s : Shared) (H : Hp) (C : Addr) (cl : List (Str × Addr)) (fp : List Addr), PTs (X.blk s H scope (compEnvC scope cl C X.env) fp) ifs (LT K XS0 et))
    (he : ∀ (s : Shared) (H : Hp) (C : Addr) (cl : List (Str × Addr)) (fp : List Addr), PE (X.blk s H scope (compEnvC scope cl C X.env) fp) elt (LE K XS0 ea)) (hs : ∀ x, foldedSetIterable iter X.env x = pure x := by intro _; rfl) : PE X (.ListComp elt [⟨tg, iter, ifs, 0⟩] scope pos) (LE K E (mLc fz it i et ea)) :=
  PE.weak (pe_lc hc hN hi ok hg ht he hs) fun σ H Q h => lc_post rfl h
theorem aSetLc (fz : Bool) {j : Nat} {y : Str} {py : Pos} (hc : X.calm = true) (hN : X.N.Nodup) (hi : PI X tg iter (LI K E it)) (ok : BlkOk X.N X.env.scope scope [(x, i)])
    (hg : ∀ (s : Shared) (H : Hp) (C : Addr) (cl : List (Str × Addr)) (fp : List Addr), PG (X.blk s H scope (compEnvC scope cl C X.env) fp) tg (gName i)) (ht : ∀ (s : Shared) (H : Hp) (C : Addr) (cl : List (Str × Addr)) (fp : List Addr), PTs (X.blk s H scope (compEnvC scope cl C X.env) fp) ifs (LT K XS0 et))
    (he : ∀ (s : Shared) (H : Hp) (C : Addr) (cl : List (Str × Addr)) (fp : List Addr), PE (X.blk s H scope (compEnvC scope cl C X.env) fp) elt (LE K XS0 ea)) (hsw : swapsWith (.ListComp elt [⟨tg, iter, ifs, 0⟩] scope pos) (some (.Name y py)) spos.line X.env = pure true) (hy : X.N[j]? = some y := by rfl) (hyl : X.env.scope.names.lookup y = some .local := by rfl) (hs : ∀ x, foldedSetIterable iter X.env x = pure x := by intro _; rfl) :
    PS X (.Assign [.Name y py] (.ListComp elt [⟨tg, iter, ifs, 0⟩] scope pos) spos) (LS K E (mSet j (mLc fz it i et ea))) :=
  PS.weak (ps_setLc hc hN hy hyl hsw hi ok hg ht he hs) fun D σ H ⟨st, S, g, w, sl, p⟩ => lc_post rfl (LE.run (f := fun t S => .nx (st.set j (some t)) S) w sl p fun t S1 v H1 g1 w1 sl1 x1 r1 p1 => p1 _ H1 g1 w1 (.refl _ _ _) (sl1.set j r1))
/-! raise, try -/
theorem aRaise {c : String} {cS : Str} {p : Pos} (hf : cS = Str.ofString c) (hc : X.calm = true) (tk : Takes X (wx E))
    (q : PySem.W.excIn X.K (He.ga X.K cS) He.veBase "ValueError.__new__" = true ∧ PySem.W.keepIn X.K (.ref (He.ga X.K cS)) = true ∧ PySem.W.subIn X.K (.ref (He.ga X.K cS)) (.type "BaseException") = some true ∧ PySem.W.typeIn X.K (.ref (He.ga X.K cS)) = some (.type "type")) (gC : X.mg cS = some (.ref (He.ga X.K cS))) (hg : Gl X cS := by rfl) (hdb : (cS == ("__debug__" : Str)) = false := by decide) (hK : X.K = K := by rfl) :
    PS X (.Raise (some (.Call (.Name cS p) [] [] pos)) none spos) (LS K E (mRaise c)) := by
  subst hf hK
  exact PS.weak (ps_raise hc tk (pmk_own0 PySem.F.excBase_ValueError q gC hg hdb)) fun D σ H ⟨st, S, g, w, sl, p⟩ => p σ H g w (.refl S H g) sl
end
def RS.nox : RS → RS
  | .exc _ _ _ => .bad
  | r => r
/-- try: b except c: s; tb tells of the classes whether c catches them -/
def mTry (tb : List (String × Bool)) (b s : AS) : AS := fun st S => match b st S with
  | .exc x st S => (match tb.lookup x with
    | some true => (s st S).nox
    | some false => .exc x st S
    | none => .bad)
  | r => r
section
variable {X : Cx} {K : PySem.W.Frag} {E : XS} {body suite : List Stmt} {b₀ : Stmt} {np pos pos' : Pos} {b s : AS}
theorem aTry {c : String} {cS : Str} {tb : List (String × Bool)} (hf : cS = Str.ofString c) (hs : X.stack = X.env :: X.outer) (hfr : X.env.frame = some X.env.locals) (hm : X.mg cS = some (.ref (He.ga K cS))) (tk : Takes X (wx E)) (ht : ∀ x k, tb.lookup x = some k → PySem.W.exmOne K (cR K x) (.ref (He.ga K cS)) = some k)
    (hb : ∀ (W : WX) (pn : List (Addr × Obj)) (xe : Value → Shared → Prop), Takes (X.tr pn xe) W → PassesOwn (model X.prog X.w) X.A X.env xe → PSs (X.tr pn xe) body (LS K (fun σ c d H => W c d σ H) b))
    (hsu : ∀ (a : Addr) (oe : Obj) (cls : Value) (d : Option Addr) (pn : List (Addr × Obj)), Zc cls d oe → (∃ vs, oe.data = .fields vs) → PSs (X.suite a ((a, oe) :: pn)) (b₀ :: suite) (LS K XS0 s))
    (hg : Gl X cS := by rfl) (hdb : (cS == ("__debug__" : Str)) = false := by decide) (hK : X.K = K := by rfl) :
    PS X (.Try body [.ExceptHandler (some (.Name cS np)) none (b₀ :: suite) pos'] [] [] pos) (LS K E (mTry tb b s)) := by
  subst hf hK
  refine PS.weak (ps_try_only (c := .ref (He.ga X.K (.ofString c))) (tb := fun W => LS X.K (fun σ c d H => W c d σ H) b) (ts := fun _ _ _ => LS X.K XS0 s) (Wout := wx E) hs hfr ⟨hg, hdb, .inl hm⟩ tk hb hsu) fun D σ H ⟨st, S, g, w, sl, p⟩ => ⟨st, S, g, w, sl, ?_⟩
  unfold mTry at p
  cases z : b st S with
  | exc x st' S' =>
    rw [z] at p
    intro σ' H' g' w' x' sl'
    cases q : tb.lookup x with
    | none => simp only [q] at p; exact p.elim
    | some k =>
      refine ⟨k, ht x k q, fun e a _ => ?_, fun e => ?_⟩
      · subst e
        simp only [q] at p
        refine ⟨st', S', g', w', sl', ?_⟩
        have p' := PostS.trans p x'
        cases y : s st' S' with
        | exc _ _ _ => rw [y] at p'; exact p'.elim
        | nx a b => rw [y] at p'; exact p'
        | br a b => rw [y] at p'; exact p'
        | ct a b => rw [y] at p'; exact p'
        | rt a b => rw [y] at p'; exact p'
        | bad => rw [y] at p'; exact p'
      · subst e
        simp only [q] at p
        exact p σ' H' g' w' x' sl'
  | nx a b => rw [z] at p; exact p
  | br a b => rw [z] at p; exact p
  | ct a b => rw [z] at p; exact p
  | rt a b => rw [z] at p; exact p
  | bad => rw [z] at p; exact p
end
end Ab

namespace Ab
open PySem PySem.Spec PyProof.Rows L2 Sp
theorem _root_.L2.Room.un1 {A : Around} {k : Nat} (hr : Room k A) : A.units + 1 < cLine := hu_of hr
section
variable {X : Cx}
theorem cr_anyK (K : PySem.W.Frag) (hc : X.calm = true) (h : X.K = K := by rfl) : CallR X (.builtin "any") (rAny K) := by subst h; exact cr_any hc
theorem cr_allK (K : PySem.W.Frag) (hc : X.calm = true) (h : X.K = K := by rfl) : CallR X (.builtin "all") (rAll K) := by subst h; exact cr_all hc
theorem cr_sumK (K : PySem.W.Frag) (hc : X.calm = true) (h : X.K = K := by rfl) : CallR X (.builtin "sum") (rSum K) := by subst h; exact cr_sum hc
theorem cr_maxK (K : PySem.W.Frag) (hc : X.calm = true) (h : X.K = K := by rfl) : CallR X (.builtin "max") (rMax K) := by subst h; exact cr_max hc
theorem cr_sortedIK (K : PySem.W.Frag) (h : X.K = K := by rfl) : CallR X (.builtin "sorted") (rSortedI K) := by subst h; exact cr_sortedI
end
/-! the law is called with the script -/
def sp_law (K : PySem.W.Frag) : L2.Sp := fun vs H Q _ => ∃ (a : Addr) (ns : List Int), vs = [.ref a] ∧ SqL K H a (ns.map V.int) ∧ ns.length ≤ 63 ∧ ∀ H', Q (.bl true) H'
theorem law_in {K : PySem.W.Frag} {f : AF} (ht : ∀ ns : List Int, ns.length ≤ 63 → ∃ S, f [.scr (ns.map .int)] [] = .ok (.bl true) S) {vs : List V} {H : Hp} {Q : VK} {E : XK} (h : sp_law K vs H Q E) : spA K 1 f vs H Q E := by
  obtain ⟨a, ns, rfl, hs, hl, hq⟩ := h
  obtain ⟨S, e⟩ := ht ns hl
  refine ⟨rfl, [.scr (ns.map .int)], [], ⟨[], H⟩, ⟨rfl, fun _ _ e => e, fun n o a e => by simp at e, fun b l => ?_, fun i j o o' a e => by simp at e⟩, .cons (.scr hs (Rps.ints ns)) .nil, ?_⟩
  · obtain ⟨n, o, e, _⟩ := l
    simp at e
  · rw [e]
    intro v H' g' _ _ r
    cases r
    exact hq H'
/-! list * int -/
def lkP (S : Sto) : T → Option (List T)
  | .lst l => some l
  | .ref n => match S[n]? with
    | some (.lst l) => some l
    | _ => none
  | _ => none
theorem lkP_rp {K : PySem.W.Frag} {S : Sto} {H : Hp} {g : G} (W : Wd K S H g) {x : T} {v : V} {l : List T} (e : lkP S x = some l) (r : Rp K g x v) : ∃ a vs, v = .ref a ∧ H a = some (.lst vs) ∧ Rps K g l vs := by
  cases r with
  | lst h r => cases e; exact ⟨_, _, rfl, lst_wd W h, r⟩
  | ref h =>
    simp only [lkP] at e
    split at e
    · rename_i q
      cases e
      obtain ⟨vs, h1, r1⟩ := W.cell _ _ _ q (fun z => nomatch z) h
      exact ⟨_, vs, rfl, h1, r1⟩
    · cases e
  | _ => cases e
def opRep (fz : Bool) : T → T → Sto → R T
  | x, .int k, S => match lkP S x with
    | some a => if -(2 ^ 63) ≤ k ∧ k < 2 ^ 63 ∧ a.length * k.toNat ≤ sizeLine then mkL fz (List.replicate k.toNat a).flatten S else .bad
    | none => .bad
  | _, _, _ => .bad
theorem up_rep {K : PySem.W.Frag} (fz : Bool) : Up2 K (opRep fz) rRep := by
  intro E S H g x y v w Q W rx ry p
  unfold opRep at p
  split at p
  · split at p
    · rename_i e
      split at p
      · rename_i c
        obtain ⟨a, vs, rfl, h1, r1⟩ := lkP_rp W e rx
        cases ry
        exact ⟨a, _, vs, rfl, rfl, h1, c.1, c.2.1, by rw [← r1.length]; exact c.2.2, Post.newLst p W (r1.repl _)⟩
      · exact p.elim
    · exact p.elim
  · exact p.elim
theorem aRep {X : Cx} {K : PySem.W.Frag} {E : XS} {a b : Expr} {ea eb : AE} {pos : Pos} (fz : Bool) (ha : PE X a (LE K E ea)) (hb : PE X b (LE K E eb)) : PE X (.BinOp a .Mult b pos) (LE K E (m2 (opRep fz) ea eb)) := aOp (up_rep fz) op_rep ha hb
end Ab
namespace Ab
open PySem PySem.Spec PyProof.Rows L2 Sp
/-! list(d); a dict against an empty one -/
def rKeysR : List V → Hp → VK → Prop := fun xs H Q => ∃ d kvs, xs = [V.ref d] ∧ Rd H d (.dK kvs) ∧ ∀ q, H q = none → Q (.ref q) (upd H q (.lst (kvs.map fun kv => kV kv.1)))
theorem c_keysL {X : Cx} (hc : X.calm = true) : CallR X (.type "list") rKeysR := by
  rintro pins s σ H xs us Q I r ⟨d, kvs, rfl, hk, q⟩
  obtain ⟨u, rfl, rx⟩ := vals1 r
  obtain rfl : u = Value.ref d := rx
  obtain ⟨big, nsys, vs, rk, dict⟩ := dk_rd I.hok hk
  obtain ⟨ep, hat⟩ := dict.dictAt
  have el := Paired.length rk
  refine PySem.W.kdl_call (PySem.W.kdl_dict (knd := mixKind X.prog X.w) (kvs := vs) (ep := ep) nsys) (I.ok.hd hc) hat (by rw [← el]; exact big) fun hp tk arr cap keep seq at_ => ?_
  have rel : Vals (kvs.map fun kv => kV kv.1) arr.toList := by
    have ea : arr.toList.length = arr.size := by simp
    refine vals_of_at (by rw [List.length_map, ea, at_.1, el]) fun j x w e1 e2 => ?_
    obtain ⟨k, y, k1, k2⟩ := at_.2 j w (by rw [← Array.getElem?_toList]; exact e2)
    have ks : (kvs.map (·.1))[j]? = some k := by
      rw [KV.keys rk, List.getElem?_map, k1]
      rfl
    rw [List.getElem?_map] at e1 ks
    obtain ⟨p, p1, p2⟩ := Option.map_eq_some_iff.mp e1
    rw [p1] at ks
    have z : p.1 = k := Option.some.inj ks
    rw [← p2, z]
    exact keyIs_rel k2
  refine ⟨.ref s.heap.objs.size, _, I.laid keep (Nat.le_refl _) (show ObjOk X.prog X.w _ _ _ (.lst (kvs.map fun kv => kV kv.1)) from ⟨by rw [List.length_map]; exact big, arr.toList, cap, rel, ?_⟩), rfl, q _ (I.hok.fresh (Nat.le_refl _))⟩
  rw [Array.toArray_toList]
  exact seq
theorem Rpk.keys {K : PySem.W.Frag} {g : G} : ∀ {ps : List (T × T)} {kvs : List (Key × V)}, Rpk K g ps kvs → Rps K g (ps.map (·.1)) (kvs.map fun kv => kV kv.1)
  | _, _, .nil => .nil
  | _, _, .cons h _ r => .cons h.rp (Rpk.keys r)
theorem up_keysL {K : PySem.W.Frag} (fz : Bool) : UpN K (opKeysL fz) rKeysR := by
  intro E S H g xs vs Q W rx p
  unfold opKeysL at p
  split at p
  · obtain ⟨v, rfl, r⟩ := rx.one
    split at p
    · rename_i ps e
      obtain ⟨a, u, rfl, h, kvs, rfl, rr⟩ := dOf_rp W e r
      exact ⟨a, kvs, rfl, h, Post.newLst p W rr.keys⟩
    · exact p.elim
  · exact p.elim
def opNeDct (x y : T) (S : Sto) : R T := match dOf S x, dOf S y with
  | some (false, ps), some (false, []) => .ok (.bl (!ps.isEmpty)) S
  | _, _ => .bad
def opEqDct0 (x y : T) (S : Sto) : R T := match dOf S x, dOf S y with
  | some (false, ps), some (false, []) => .ok (.bl ps.isEmpty) S
  | _, _ => .bad
def rNeE0 : R2 := fun x y H Q => ∃ a b ks, x = .ref a ∧ y = .ref b ∧ Rd H a (.dK ks) ∧ Rd H b (.dK []) ∧ Q (.bl (!ks.isEmpty)) H
theorem op_neDct {X : Cx} (hu : X.A.units + 64 < cLine) : OpR X (compareOp .NotEq) rNeE0 := by
  rintro pins s σ H x y v u Q I rx ry ⟨a, b, ks, rfl, rfl, ha, hb, q⟩
  obtain rfl : v = .ref a := rx
  obtain rfl : u = .ref b := ry
  obtain ⟨_, na, va, ra, da⟩ := dk_rd I.hok ha
  obtain ⟨_, nb, vb, rb, db⟩ := dk_rd I.hok hb
  have la := ra.length
  have lb : 0 = vb.length := rb.length
  refine PySem.W.keq_ne (knd := mixKind X.prog X.w) (r := true) na nb da db (by omega) (fun hl => ?_) ⟨.bl (!ks.isEmpty), H, I, ?_, q⟩
  · have z : va = [] := List.eq_nil_of_length_eq_zero (by omega)
    subst z
    exact .nil
  · show Value.bool _ = Value.bool _
    congr 1
    rw [← la, ← lb]
    cases ks <;> simp
theorem up_neDct {K : PySem.W.Frag} : Up2 K opNeDct rNeE0 := by
  intro E S H g x y v w Q W rx ry p
  unfold opNeDct at p
  split at p
  · rename_i ps e1 e2
    obtain ⟨a, u, rfl, h1, kvs, rfl, r1⟩ := dOf_rp W e1 rx
    obtain ⟨b, u, rfl, h2, kvs2, rfl, r2⟩ := dOf_rp W e2 ry
    cases r2
    refine ⟨a, b, kvs, rfl, rfl, h1, h2, ?_⟩
    have z : kvs.isEmpty = ps.isEmpty := by cases r1 <;> rfl
    rw [z]
    exact p.val W (.bl _)
  · exact p.elim
section
variable {K : PySem.W.Frag} {g : G}
theorem dpop_rp {S : Sto} {H : Hp} (W : Wd K S H g) {n : Nat} {ps : List (T × T)} {y t : T} {v w : V} (q : S[n]? = some (.dct false ps)) (r : Rp K g (.ref n) v) (hk : isKey y = true) (rk : Rp K g y w) (e : getT y ps = some t) :
    ∃ a kvs kk vv, v = .ref a ∧ H a = some (.dK kvs) ∧ w = kV kk ∧ valV kvs kk = some vv ∧ Rp K g t vv ∧ Wd K (S.set n (.dct false (dropD y ps))) (upd H a (.dK (dropK kvs kk))) g ∧ Ext S H g (S.set n (.dct false (dropD y ps))) (upd H a (.dK (dropK kvs kk))) g := by
  obtain ⟨a, rfl, m, kvs, h1, r1⟩ := r.refH W q (fun z => nomatch z)
  obtain ⟨kk, h2, rfl⟩ := isKey_kr hk rk
  obtain ⟨vv, e1, e2⟩ := (r1.get h2).1 t e
  obtain ⟨w', x'⟩ := W.write (ho := .dK (dropK kvs kk)) (o' := .dct false (dropD y ps)) q (fun z => nomatch z) m (fun z => nomatch z) ⟨_, upd_same, r1.drop h2⟩
  exact ⟨a, kvs, kk, vv, rfl, h1, rfl, e1, e2, w', x'⟩
theorem dnopop_rp {S : Sto} {H : Hp} (W : Wd K S H g) {n : Nat} {ps : List (T × T)} {y : T} {v w : V} (q : S[n]? = some (.dct false ps)) (r : Rp K g (.ref n) v) (hk : isKey y = true) (rk : Rp K g y w) (e : getT y ps = none) :
    ∃ a kvs kk, v = .ref a ∧ H a = some (.dK kvs) ∧ w = kV kk ∧ valV kvs kk = none := by
  obtain ⟨a, rfl, m, kvs, h1, r1⟩ := r.refH W q (fun z => nomatch z)
  obtain ⟨kk, h2, rfl⟩ := isKey_kr hk rk
  exact ⟨a, kvs, kk, rfl, h1, rfl, (r1.get h2).2 e⟩
def pop1F (x y : T) (S : Sto) : R T := match x with
  | .ref n => match S[n]? with
    | some (.dct false ps) => if isKey y = true then (match getT y ps with
      | some t => .ok t (S.set n (.dct false (dropD y ps)))
      | none => .bad) else .bad
    | _ => .bad
  | _ => .bad
def pop2F (x y u : T) (S : Sto) : R T := match x with
  | .ref n => match S[n]? with
    | some (.dct false ps) => if isKey y = true then (match getT y ps with
      | some t => .ok t (S.set n (.dct false (dropD y ps)))
      | none => .ok u S) else .bad
    | _ => .bad
  | _ => .bad
end
section
variable {X : Cx} {K : PySem.W.Frag} {E : XS} {o i f : Expr} {apos cpos : Pos} {eo ei ef : AE}
theorem aPop1 (ho : PE X o (LE K E eo)) (hi : PE X i (LE K E ei)) (m : M1 X o "pop" apos i cpos := by exact ⟨rfl, rfl, rfl, rfl⟩) : PE X (.Call (.Attribute o "pop" apos) [i] [] cpos) (LE K E (mPop1 eo ei)) :=
  PE.weak (pe_dpop1 ho hi m) fun σ H Q ⟨st, S, g, w, sl, p⟩ => LE.bind (f := fun x st S => if (dOf S x).isSome = true then (ei st S).bind fun y S => pop1F x y S else .bad) w sl p fun x S1 v H1 g1 w1 sl1 x1 r1 p1 => by
    split at p1
    · rename_i c
      obtain ⟨a, rfl, hD⟩ := isD_rp w1 c r1
      refine ⟨a, rfl, hD, LE.bind (f := fun y _ S => pop1F x y S) w1 sl1 p1 fun y S2 v2 H2 g2 w2 sl2 x2 r2 p2 => ?_⟩
      unfold pop1F at p2
      split at p2
      · split at p2
        · split at p2
          · rename_i hk
            split at p2
            · rename_i q _ _ e
              obtain ⟨a', kvs, kk, vv, ea, h1, h2, h3, h4, w', x'⟩ := dpop_rp w2 q (r1.mono x2.le) hk r2 e
              cases ea
              exact ⟨kvs, kk, vv, h1, h2, h3, p2 _ _ _ w' x' (h4.mono x'.le)⟩
            · exact p2.elim
          · exact p2.elim
        · exact p2.elim
      · exact p2.elim
    · exact p1.elim
theorem aPop2 (ho : PE X o (LE K E eo)) (hi : PE X i (LE K E ei)) (hf : PE X f (LE K E ef)) (m : M2 X o "pop" apos i f cpos := by exact ⟨rfl, rfl, rfl, rfl⟩) : PE X (.Call (.Attribute o "pop" apos) [i, f] [] cpos) (LE K E (mPop2 eo ei ef)) :=
  PE.weak (pe_dpop2 ho hi hf m) fun σ H Q ⟨st, S, g, w, sl, p⟩ => LE.bind (f := fun x st S => if (dOf S x).isSome = true then (ei st S).bind fun y S => (ef st S).bind fun u S => pop2F x y u S else .bad) w sl p fun x S1 v H1 g1 w1 sl1 x1 r1 p1 => by
    split at p1
    · rename_i c
      obtain ⟨a, rfl, hD⟩ := isD_rp w1 c r1
      refine ⟨a, rfl, hD, LE.bind (f := fun y st S => (ef st S).bind fun u S => pop2F x y u S) w1 sl1 p1 fun y S2 v2 H2 g2 w2 sl2 x2 r2 p2 => LE.bind (f := fun u _ S => pop2F x y u S) w2 sl2 p2 fun u S3 v3 H3 g3 w3 sl3 x3 r3 p3 => ?_⟩
      unfold pop2F at p3
      split at p3
      · split at p3
        · split at p3
          · rename_i hk
            split at p3
            · rename_i q _ _ e
              obtain ⟨a', kvs, kk, vv, ea, h1, h2, h3, h4, w', x'⟩ := dpop_rp w3 q ((r1.mono x2.le).mono x3.le) hk (r2.mono x3.le) e
              cases ea
              refine ⟨kvs, kk, h1, h2, fun v' hv => ?_, fun hn => ?_⟩
              · rw [h3] at hv; cases hv
                exact p3 _ _ _ w' x' (h4.mono x'.le)
              · rw [h3] at hn; cases hn
            · rename_i q _ e
              obtain ⟨a', kvs, kk, ea, h1, h2, h3⟩ := dnopop_rp w3 q ((r1.mono x2.le).mono x3.le) hk (r2.mono x3.le) e
              cases ea
              refine ⟨kvs, kk, h1, h2, fun v' hv => ?_, fun hn => ?_⟩
              · rw [h3] at hv; cases hv
              · exact p3.val w3 r3
          · exact p3.elim
        · exact p3.elim
      · exact p3.elim
    · exact p1.elim
end
section
variable {K : PySem.W.Frag}
/-- pairs of ints -/
def prT (p : Int × Int) : T := .tup [.int p.1, .int p.2]
def prsOf : List T → Option (List (Int × Int))
  | [] => some []
  | .tup [.int i, .int j] :: ts => (prsOf ts).map ((i, j) :: ·)
  | _ => none
def leP (a b : Int × Int) : Prop := a.1 < b.1 ∨ (a.1 = b.1 ∧ a.2 ≤ b.2)
instance : DecidableRel leP := fun _ _ => inferInstanceAs (Decidable (_ ∨ _))
def insP (i : Int × Int) : List (Int × Int) → List (Int × Int)
  | [] => [i]
  | j :: js => if leP i j then i :: j :: js else j :: insP i js
def sortP : List (Int × Int) → List (Int × Int)
  | [] => []
  | i :: is => insP i (sortP is)
theorem insP_perm (i : Int × Int) : ∀ l, (insP i l).Perm (i :: l)
  | [] => .refl _
  | j :: js => by
    unfold insP
    split
    · exact .refl _
    · exact ((insP_perm i js).cons j).trans (.swap i j js)
theorem sortP_perm : ∀ l, (sortP l).Perm l
  | [] => .refl _
  | i :: is => (insP_perm i (sortP is)).trans ((sortP_perm is).cons i)
theorem leP_tot {a b : Int × Int} (h : ¬leP a b) : leP b a := by unfold leP at *; omega
theorem leP_trans {a b c : Int × Int} (h : leP a b) (k : leP b c) : leP a c := by unfold leP at *; omega
theorem leP_anti {a b : Int × Int} (h : leP a b) (k : leP b a) : a = b := by
  unfold leP at *
  exact Prod.ext (by omega) (by omega)
theorem insP_sorted (i : Int × Int) : ∀ l : List (Int × Int), l.Pairwise leP → (insP i l).Pairwise leP
  | [], _ => by simp [insP]
  | j :: js, h => by
    unfold insP
    obtain ⟨h1, h2⟩ := List.pairwise_cons.mp h
    split
    · rename_i c
      refine List.pairwise_cons.mpr ⟨fun x hx => ?_, h⟩
      rcases List.mem_cons.mp hx with rfl | hx
      · exact c
      · exact leP_trans c (h1 x hx)
    · rename_i c
      refine List.pairwise_cons.mpr ⟨fun x hx => ?_, insP_sorted i js h2⟩
      rcases List.mem_cons.mp ((insP_perm i js).mem_iff.mp hx) with rfl | hx
      · exact leP_tot c
      · exact h1 x hx
theorem sortP_sorted : ∀ l, (sortP l).Pairwise leP
  | [] => .nil
  | i :: is => insP_sorted i _ (sortP_sorted is)
theorem sortP_same : ∀ {l m : List (Int × Int)}, l.Perm m → l.Pairwise leP → m.Pairwise leP → l = m
  | [], m, p, _, _ => (List.nil_perm.mp p).symm
  | a :: l, [], p, _, _ => (List.cons_ne_nil _ _ (List.perm_nil.mp p)).elim
  | a :: l, b :: m, p, h1, h2 => by
    obtain ⟨q1, q2⟩ := List.pairwise_cons.mp h1
    obtain ⟨q3, q4⟩ := List.pairwise_cons.mp h2
    have e : a = b := by
      rcases List.mem_cons.mp (p.mem_iff.mp List.mem_cons_self) with e | e
      · exact e
      · rcases List.mem_cons.mp (p.mem_iff.mpr (List.mem_cons_self (a := b) (l := m))) with e' | e'
        · exact e'.symm
        · exact leP_anti (q1 b e') (q3 a e)
    subst e
    rw [sortP_same ((List.perm_cons a).mp p) q2 q4]
def opSortP (fz : Bool) : List T → Sto → R T
  | [x], S => match (lkL S x).bind prsOf with
    | some l => mkL fz ((sortP l).map prT) S
    | none => .bad
  | _, _ => .bad
/-- the pair at v -/
def prAt (H : Hp) (v : V) : Int × Int := match v with
  | .ref t => (match H t with
    | some (.tup [.int i, .int j]) => (i, j)
    | _ => (0, 0))
  | _ => (0, 0)
def IsPr (K : PySem.W.Frag) (g : G) (H : Hp) (x : V) : Prop := ∃ t i j, x = .ref t ∧ H t = some (.tup [.int i, .int j]) ∧ Rp K g (prT (i, j)) x
theorem IsPr.at {g : G} {H : Hp} {x : V} (h : IsPr K g H x) : ∃ t, x = V.ref t ∧ H t = some (.tup [.int (prAt H x).1, .int (prAt H x).2]) ∧ Rp K g (prT (prAt H x)) x := by
  obtain ⟨t, i, j, rfl, e, r⟩ := h
  have : prAt H (.ref t) = (i, j) := by unfold prAt; simp only [e]
  rw [this]
  exact ⟨t, rfl, e, r⟩
theorem prs_rp {S : Sto} {H : Hp} {g : G} (W : Wd K S H g) : ∀ {ts : List T} {vs : List V} {l : List (Int × Int)}, prsOf ts = some l → Rps K g ts vs → (∀ x ∈ vs, IsPr K g H x) ∧ vs.map (prAt H) = l ∧ ts = l.map prT
  | [], _, l, e, .nil => by cases e; exact ⟨fun _ h => (nomatch h), rfl, rfl⟩
  | t :: ts, v :: vs, l, e, .cons r rs => by
    unfold prsOf at e
    split at e
    · rename_i heq; cases heq
    · rename_i i j ts' heq
      cases heq
      obtain ⟨l', e1, rfl⟩ := Option.map_eq_some_iff.mp e
      obtain ⟨h1, h2, h3⟩ := prs_rp W e1 rs
      have hx : IsPr K g H v := by
        cases r with
        | tup a b c =>
          have k : keyb [.int i, .int j] = true := rfl
          have e0 := tup_wd W (b k)
          cases c with
          | cons c1 c2 =>
            cases c2 with
            | cons c2 c3 =>
              cases c3
              cases c1
              cases c2
              exact ⟨_, i, j, rfl, e0, .tup a b (.cons (.int i) (.cons (.int j) .nil))⟩
      refine ⟨fun x hx' => ?_, ?_, by rw [h3]; rfl⟩
      · rcases List.mem_cons.mp hx' with rfl | hx'
        · exact hx
        · exact h1 x hx'
      · rw [List.map_cons, h2]
        obtain ⟨t, i', j', rfl, e0, r0⟩ := hx
        have e2 : prAt H (.ref t) = (i', j') := by unfold prAt; simp only [e0]
        rw [e2]
        cases r with
        | tup a b c =>
          have k : keyb [.int i, .int j] = true := rfl
          have e3 := tup_wd W (b k)
          rw [e3] at e0
          cases e0
          cases c with
          | cons c1 c2 =>
            cases c2 with
            | cons c2 c3 => cases c1; cases c2; rfl
    · cases e
theorem Rps.prs {g : G} {H : Hp} : ∀ {ys : List V}, (∀ x ∈ ys, IsPr K g H x) → Rps K g ((ys.map (prAt H)).map prT) ys
  | [], _ => .nil
  | y :: ys, h => by
    obtain ⟨_, _, _, r⟩ := (h y List.mem_cons_self).at
    exact .cons r (Rps.prs fun x hx => h x (List.mem_cons_of_mem _ hx))
theorem srtd_pw {H : Hp} : ∀ {ys : List V}, SrtO.Srtd (ltP (prAt H)) ys → (ys.map (prAt H)).Pairwise leP := by
  intro ys h
  refine List.pairwise_map.mpr (h.imp fun {x y} a => ?_)
  have a := SrtO.lexB_no.mp a
  unfold leP
  omega
theorem cr_sortedPK {X : Cx} (K : PySem.W.Frag) (h : X.K = K := by rfl) : CallR X (.builtin "sorted") (rSortedPO K) := by subst h; exact cr_sortedPO
theorem up_sortP (fz : Bool) : UpN K (opSortP fz) (rSortedPO K) := by
  intro E S H g xs vs Q W rx p
  unfold opSortP at p
  split at p
  · obtain ⟨v, rfl, r⟩ := rx.one
    split at p
    · rename_i l e
      obtain ⟨ts, e1, e2⟩ := Option.bind_eq_some_iff.mp e
      obtain ⟨a, ws, rfl, h, r1⟩ := lkL_rp W e1 r
      obtain ⟨h1, h2, h3⟩ := prs_rp W e2 r1
      refine ⟨a, ws, prAt H, rfl, h, fun x hx => ?_, fun ys q srt stb hq => ?_⟩
      · obtain ⟨t, a, b, _⟩ := (h1 x hx).at
        exact ⟨t, a, b⟩
      · have hy : ∀ x ∈ ys, IsPr K g H x := fun x hx => h1 x (stb.perm.mem_iff.mp hx)
        have e3 : ys.map (prAt H) = sortP l := sortP_same (by rw [← h2]; exact (stb.perm.map _).trans (sortP_perm _).symm) (srtd_pw srt) (sortP_sorted l)
        exact Post.newLst p W (by rw [← e3]; exact Rps.prs hy) q hq
    · exact p.elim
  · exact p.elim
end
end Ab

namespace Ab
open PySem PySem.Spec PyProof.Rows L2 Sp
/-! ## mirrors, evaluated -/
theorem ite_iff {α : Sort _} {c d : Prop} {a b : α} (d1 : Decidable c) (d2 : Decidable d) (h : c ↔ d) : @ite α c d1 a b = @ite α d d2 a b := by
  by_cases k : c
  · rw [if_pos k, if_pos (h.mp k)]
  · rw [if_neg k, if_neg (fun z => k (h.mpr z))]
theorem ite_same {α : Sort _} {c : Prop} {a b : α} (d1 d2 : Decidable c) : @ite α c d1 a b = @ite α c d2 a b := by rw [Subsingleton.elim d1 d2]
section
variable {α β : Type} {a : α} {S : Sto} {st : Slots} {c : String} {f : α → Sto → R β} {k : α → Sto → RS} {h : AS} {t u : T}
theorem e_bok : (R.ok a S).bind f = f a S := rfl
theorem e_bexc : (R.exc c S : R α).bind f = .exc c S := rfl
theorem e_bbad : (R.bad : R α).bind f = .bad := rfl
theorem e_sok : (R.ok a S).stm st k = k a S := rfl
theorem e_sexc : (R.exc c S : R α).stm st k = .exc c st S := rfl
theorem e_sbad : (R.bad : R α).stm st k = .bad := rfl
theorem e_qnx : (RS.nx st S).seq h = h st S := rfl
theorem e_qrt : (RS.rt t S).seq h = .rt t S := rfl
theorem e_qbr : (RS.br st S).seq h = .br st S := rfl
theorem e_qct : (RS.ct st S).seq h = .ct st S := rfl
theorem e_qexc : (RS.exc c st S).seq h = .exc c st S := rfl
theorem e_qbad : RS.bad.seq h = .bad := rfl
theorem e_onx : (RS.nx st S).only = .nx st S := rfl
theorem e_oexc : (RS.exc c st S).only = .exc c st S := rfl
theorem e_nok : (R.ok a S).nox = .ok a S := rfl

variable {a b d z o i e : AE} {ta tb : AT} {ra : AA} {x y b1 b2 : AS} {g : MG} {gs : MGs} {f1 : T → Sto → R T} {f2 f3 : T → T → Sto → R T} {fN : List T → Sto → R T} {fM : T → List T → Sto → R T} {F : AF} {it : AI} {j l n m : Nat} {cn fl mn : String} {fz bb : Bool} {ts : List T} {lo hi : AO}
theorem e_seq : mSeq x y st S = (x st S).seq y := rfl
theorem e_pass : mPass st S = .nx st S := rfl
theorem e_brk : mBrk st S = .br st S := rfl
theorem e_cnt : mCnt st S = .ct st S := rfl
def expK (st : Slots) (_ : T) (S : Sto) : RS := .nx st S
theorem e_exp : mExp a st S = (a st S).stm st (expK st) := rfl
theorem e_expK : expK st t S = .nx st S := rfl
def retK (t : T) (S : Sto) : RS := .rt t S
theorem e_ret : mRet a st S = (a st S).stm st retK := rfl
theorem e_retK : retK t S = .rt t S := rfl
theorem e_retN : mRetN st S = .rt .non S := rfl
def ifK (x y : AS) (st : Slots) (k : Bool) (S : Sto) : RS := if k = true then x st S else y st S
theorem e_if : mIf ta x y st S = (ta st S).stm st (ifK x y st) := rfl
theorem e_ifK {k : Bool} : ifK x y st k S = if k = true then x st S else y st S := rfl
def setK (j : Nat) (st : Slots) (t : T) (S : Sto) : RS := .nx (st.set j (some t)) S
theorem e_set : mSet j a st S = (a st S).stm st (setK j st) := rfl
theorem e_setK : setK j st t S = .nx (st.set j (some t)) S := rfl
def asgK (g : MG) (st : Slots) (t : T) (S : Sto) : RS := (g t st S).only
theorem e_asg : mAsg a g st S = (a st S).stm st (asgK g st) := rfl
theorem e_asgK : asgK g st t S = (g t st S).only := rfl
theorem e_raise : mRaise c st S = .exc c st S := rfl
theorem e_gN : gN j t st S = .nx (st.set j (some t)) S := rfl
theorem e_gsN : gsN [] st S = .nx st S := rfl
theorem e_gsC : gsC g gs (t :: ts) st S = (g t st S).seq (gs ts) := rfl
theorem e_gT : gT n gs (.tup ts) st S = if ts.length = n then gs ts st S else .bad := rfl
theorem e_gTk : gT n gs (.tupk ts) st S = if ts.length = n then gs ts st S else .bad := rfl
theorem e_m1 : m1 f1 a st S = (a st S).bind f1 := rfl
def m2K (f2 : T → T → Sto → R T) (b : AE) (st : Slots) (x : T) (S : Sto) : R T := (b st S).bind (f2 x)
theorem e_m2 : m2 f2 a b st S = (a st S).bind (m2K f2 b st) := rfl
theorem e_m2K : m2K f2 b st t S = (b st S).bind (f2 t) := rfl
theorem e_mN : mN fN ra st S = (ra st S).bind fN := rfl
theorem e_nil : mNil st S = .ok [] S := rfl
def consL (x : T) (xs : List T) (S : Sto) : R (List T) := .ok (x :: xs) S
def consK (ra : AA) (st : Slots) (x : T) (S : Sto) : R (List T) := (ra st S).bind (consL x)
theorem e_cons : mCons a ra st S = (a st S).bind (consK ra st) := rfl
theorem e_consK : consK ra st t S = (ra st S).bind (consL t) := rfl
theorem e_consL : consL t ts S = .ok (t :: ts) S := rfl
theorem e_C : mC t st S = .ok t S := rfl
def vget (o : Option (Option T)) (S : Sto) : R T := match o with
  | some (some t) => .ok t S
  | _ => .bad
theorem e_V : mV j st S = vget st[j]? S := rfl
theorem e_vget : vget (some (some t)) S = .ok t S := rfl
theorem e_B : mB a st S = (a st S).bind opB := rfl
theorem e_opB {b : Bool} : opB (.bl b) S = .ok b S := rfl
theorem e_Tru : mTru a st S = (a st S).bind opTru := rfl
def taK (tb : AT) (st : Slots) (c : Bool) (S : Sto) : R Bool := if c = true then tb st S else .ok false S
theorem e_TAnd : mTAnd ta tb st S = (ta st S).bind (taK tb st) := rfl
theorem e_taK {k : Bool} : taK tb st k S = if k = true then tb st S else .ok false S := rfl
def toK (tb : AT) (st : Slots) (c : Bool) (S : Sto) : R Bool := if c = true then .ok true S else tb st S
theorem e_TOr : mTOr ta tb st S = (ta st S).bind (toK tb st) := rfl
theorem e_toK {k : Bool} : toK tb st k S = if k = true then .ok true S else tb st S := rfl
def tnK (c : Bool) (S : Sto) : R Bool := .ok (!c) S
theorem e_TNot : mTNot ta st S = (ta st S).bind tnK := rfl
theorem e_tnK {k : Bool} : tnK k S = .ok (!k) S := rfl
def andK (r : AE) (st : Slots) (x : T) (S : Sto) : R T := match x with
  | .bl true => r st S
  | .bl false => .ok (.bl false) S
  | _ => .bad
def orK (r : AE) (st : Slots) (x : T) (S : Sto) : R T := match x with
  | .bl true => .ok (.bl true) S
  | .bl false => r st S
  | _ => .bad
def notK (x : T) (S : Sto) : R T := match x with
  | .bl b => .ok (.bl (!b)) S
  | _ => .bad
theorem e_And : mAnd a b st S = (a st S).bind (andK b st) := by unfold mAnd; cases a st S <;> first | rfl | (rename_i t S; cases t <;> first | rfl | (rename_i b; cases b <;> rfl))
theorem e_Or : mOr a b st S = (a st S).bind (orK b st) := by unfold mOr; cases a st S <;> first | rfl | (rename_i t S; cases t <;> first | rfl | (rename_i b; cases b <;> rfl))
theorem e_Not : mNot a st S = (a st S).bind notK := by unfold mNot; cases a st S <;> first | rfl | (rename_i t S; cases t <;> rfl)
theorem e_andK {k : Bool} : andK a st (.bl k) S = if k = true then a st S else .ok (.bl false) S := by cases k <;> rfl
theorem e_orK {k : Bool} : orK a st (.bl k) S = if k = true then .ok (.bl true) S else a st S := by cases k <;> rfl
theorem e_notK {k : Bool} : notK (.bl k) S = .ok (.bl (!k)) S := rfl
def ifeK (a b : AE) (st : Slots) (k : Bool) (S : Sto) : R T := if k = true then a st S else b st S
theorem e_IfE : mIfE ta a b st S = (ta st S).bind (ifeK a b st) := rfl
theorem e_ifeK {k : Bool} : ifeK a b st k S = if k = true then a st S else b st S := rfl
def ch3 (f3 : T → T → Sto → R T) (c : AE) (st : Slots) (y z : T) (S : Sto) : R T := match z with
  | .bl true => (c st S).bind (f3 y)
  | .bl false => .ok (.bl false) S
  | _ => .bad
def ch2 (f2 f3 : T → T → Sto → R T) (c : AE) (st : Slots) (x y : T) (S : Sto) : R T := (f2 x y S).bind (ch3 f3 c st y)
def ch1 (f2 f3 : T → T → Sto → R T) (b c : AE) (st : Slots) (x : T) (S : Sto) : R T := (b st S).bind (ch2 f2 f3 c st x)
theorem e_Chain : mChain f2 f3 a b d st S = (a st S).bind (ch1 f2 f3 b d st) := by first | rfl | (unfold mChain; congr 1; funext x S; unfold ch1; congr 1; funext y S; unfold ch2; congr 1; funext z S; unfold ch3; cases z with | bl b => cases b <;> rfl | _ => rfl)
theorem e_ch1 : ch1 f2 f3 b d st t S = (b st S).bind (ch2 f2 f3 d st t) := rfl
theorem e_ch2 : ch2 f2 f3 d st t u S = (f2 t u S).bind (ch3 f3 d st u) := rfl
theorem e_ch3 {k : Bool} : ch3 f3 d st t (.bl k) S = if k = true then (d st S).bind (f3 t) else .ok (.bl false) S := by cases k <;> rfl
theorem e_Call : mCall F ra st S = (ra st S).bind F := rfl
def oget {α : Type} (o : Option α) (S : Sto) : R α := match o with
  | some t => .ok t S
  | none => .bad
theorem e_oget : oget (some a) S = .ok a S := rfl
def fldK (c f : String) (x : T) (S : Sto) : R T := oget ((objOf c S x).bind (List.lookup f)) S
theorem e_Fld : mFld cn fl a st S = (a st S).bind (fldK cn fl) := by first | rfl | (unfold mFld; congr 1; funext x S; unfold fldK oget; cases (objOf cn S x).bind fun fs => fs.lookup fl <;> rfl)
theorem e_fldK : fldK cn fl t S = oget ((objOf cn S t).bind (List.lookup fl)) S := rfl
def ometh {β : Type} (o : Option (Option T)) (r : R β) : R β := match o with
  | some none => r
  | _ => .bad
def mtL (F : AF) (x : T) (xs : List T) (S : Sto) : R T := F (x :: xs) S
def mtK (c m : String) (F : AF) (ra : AA) (st : Slots) (x : T) (S : Sto) : R T := ometh ((objOf c S x).map (List.lookup m)) ((ra st S).bind (mtL F x))
theorem e_Meth : mMeth cn mn F o ra st S = (o st S).bind (mtK cn mn F ra st) := by first | rfl | (unfold mMeth; congr 1; funext x S; unfold mtK ometh; split <;> rfl)
theorem e_mtK : mtK cn mn F ra st t S = ometh ((objOf cn S t).map (List.lookup mn)) ((ra st S).bind (mtL F t)) := rfl
theorem e_mtL : mtL F t ts S = F (t :: ts) S := rfl
theorem e_ometh {r : R β} : ometh (some none) r = r := rfl
def mkN (n : Nat) (t : T) (S : Sto) : R T := if isNon t = true then .ok (.ref n) S else .bad
def mkK (c : String) (F : AF) (xs : List T) (S : Sto) : R T := (F (.ref S.length :: xs) (S ++ [.obj c []])).bind (mkN S.length)
theorem e_Make : mMake cn F ra st S = (ra st S).bind (mkK cn F) := rfl
theorem e_mkK : mkK cn F ts S = (F (.ref S.length :: ts) (S ++ [.obj cn []])).bind (mkN S.length) := rfl
theorem e_mkN : mkN n .non S = .ok (.ref n) S := rfl
theorem e_isNon : isNon .non = true := rfl
def sget (o : Option Sto) (st : Slots) : RS := match o with
  | some S => .nx st S
  | none => .bad
theorem e_sget : sget (some S) st = .nx st S := rfl
def gi2 (t : T) (st : Slots) (x y : T) (S : Sto) : RS := sget (opSetL x y t S) st
def gi1 (i : AE) (t : T) (st : Slots) (x : T) (S : Sto) : RS := (i st S).stm st (gi2 t st x)
theorem e_gIx : gIx o i t st S = (o st S).stm st (gi1 i t st) := by first | rfl | (unfold gIx; congr 1; funext x S; unfold gi1; congr 1; funext y S; unfold gi2; cases opSetL x y t S <;> rfl)
theorem e_gi1 : gi1 i t st u S = (i st S).stm st (gi2 t st u) := rfl
theorem e_gi2 {v : T} : gi2 t st u v S = sget (opSetL u v t S) st := rfl
def sf2 (c f : String) (st : Slots) (v x : T) (S : Sto) : RS := sget (opSetF c f x v S) st
def sf1 (c f : String) (o : AE) (st : Slots) (v : T) (S : Sto) : RS := (o st S).stm st (sf2 c f st v)
theorem e_SetF : mSetF cn fl o e st S = (e st S).stm st (sf1 cn fl o st) := by first | rfl | (unfold mSetF; congr 1; funext x S; unfold sf1; congr 1; funext y S; unfold sf2; cases opSetF cn fl y x S <;> rfl)
theorem e_sf1 : sf1 cn fl o st t S = (o st S).stm st (sf2 cn fl st t) := rfl
theorem e_sf2 : sf2 cn fl st t u S = sget (opSetF cn fl u t S) st := rfl
def dp3 (st : Slots) (v x y : T) (S : Sto) : RS := sget (opDPut x y v S) st
def dp2 (i : AE) (st : Slots) (v x : T) (S : Sto) : RS := (i st S).stm st (dp3 st v x)
def dp1 (d i : AE) (st : Slots) (v : T) (S : Sto) : RS := (d st S).stm st (dp2 i st v)
theorem e_DPut : mDPut d i e st S = (e st S).stm st (dp1 d i st) := by first | rfl | (unfold mDPut; congr 1; funext x S; unfold dp1; congr 1; funext y S; unfold dp2; congr 1; funext z S; unfold dp3; cases opDPut y z x S <;> rfl)
theorem e_dp1 : dp1 d i st t S = (d st S).stm st (dp2 i st t) := rfl
theorem e_dp2 : dp2 i st t u S = (i st S).stm st (dp3 st t u) := rfl
theorem e_dp3 {v : T} : dp3 st t u v S = sget (opDPut u v t S) st := rfl
def pget {α β : Type} (o : Option α) (r : α → R β) : R β := match o with
  | some t => r t
  | none => .bad
def pgetS {α : Type} (o : Option α) (r : α → RS) : RS := match o with
  | some t => r t
  | none => .bad
theorem e_pget {v : α} {r : α → R β} : pget (some v) r = r v := rfl
theorem e_pgetS {v : α} {r : α → RS} : pgetS (some v) r = r v := rfl
def af3 (c f : String) (st : Slots) (x z : T) (S : Sto) : RS := sget (opSetF c f x z S) st
def af2 (c f : String) (f2 : T → T → Sto → R T) (st : Slots) (x u v : T) (S : Sto) : RS := (f2 u v S).stm st (af3 c f st x)
def afP (c f : String) (f2 : T → T → Sto → R T) (e : AE) (st : Slots) (x : T) (S : Sto) (u : T) : RS := (e st S).stm st (af2 c f f2 st x u)
def af1 (c f : String) (f2 : T → T → Sto → R T) (e : AE) (st : Slots) (x : T) (S : Sto) : RS := pgetS ((objOf c S x).bind (List.lookup f)) (afP c f f2 e st x S)
theorem e_AugF : mAugF cn fl f2 o e st S = (o st S).stm st (af1 cn fl f2 e st) := by first | rfl | (unfold mAugF; congr 1; funext x S; unfold af1 pgetS afP; cases (objOf cn S x).bind (List.lookup fl) <;> first | rfl | (show R.stm _ _ _ = R.stm _ _ _; congr 1; funext v S; unfold af2; congr 1; funext z S; unfold af3; cases opSetF cn fl x z S <;> rfl))
theorem e_af1 : af1 cn fl f2 e st t S = pgetS ((objOf cn S t).bind (List.lookup fl)) (afP cn fl f2 e st t S) := rfl
theorem e_afP : afP cn fl f2 e st t S u = (e st S).stm st (af2 cn fl f2 st t u) := rfl
theorem e_af2 {v : T} : af2 cn fl f2 st t u v S = (f2 u v S).stm st (af3 cn fl st t) := rfl
theorem e_af3 : af3 cn fl st t u S = sget (opSetF cn fl t u S) st := rfl
def ai5 (st : Slots) (x y z : T) (S : Sto) : RS := sget (opSetL x y z S) st
def ai4 (f2 : T → T → Sto → R T) (st : Slots) (x y u v : T) (S : Sto) : RS := (f2 u v S).stm st (ai5 st x y)
def ai3 (f2 : T → T → Sto → R T) (e : AE) (st : Slots) (x y u : T) (S : Sto) : RS := (e st S).stm st (ai4 f2 st x y u)
def ai2 (f2 : T → T → Sto → R T) (e : AE) (st : Slots) (x y : T) (S : Sto) : RS := (opIxL x y S).stm st (ai3 f2 e st x y)
def ai1 (f2 : T → T → Sto → R T) (i e : AE) (st : Slots) (x : T) (S : Sto) : RS := (i st S).stm st (ai2 f2 e st x)
theorem e_AugIx : mAugIx f2 o i e st S = (o st S).stm st (ai1 f2 i e st) := by first | rfl | (unfold mAugIx; congr 1; funext x S; unfold ai1; congr 1; funext y S; unfold ai2; congr 1; funext u S; unfold ai3; congr 1; funext v S; unfold ai4; congr 1; funext z S; unfold ai5; cases opSetL x y z S <;> rfl)
theorem e_ai1 : ai1 f2 i e st t S = (i st S).stm st (ai2 f2 e st t) := rfl
theorem e_ai2 : ai2 f2 e st t u S = (opIxL t u S).stm st (ai3 f2 e st t u) := rfl
theorem e_ai3 {v : T} : ai3 f2 e st t u v S = (e st S).stm st (ai4 f2 st t u v) := rfl
theorem e_ai4 {v v2 : T} : ai4 f2 st t u v v2 S = (f2 v v2 S).stm st (ai5 st t u) := rfl
theorem e_ai5 {v : T} : ai5 st t u v S = sget (opSetL t u v S) st := rfl
def au2 (j : Nat) (st : Slots) (z : T) (S : Sto) : RS := .nx (st.set j (some z)) S
def au1 (f2 : T → T → Sto → R T) (j : Nat) (st : Slots) (x y : T) (S : Sto) : RS := (f2 x y S).stm st (au2 j st)
def augK (f2 : T → T → Sto → R T) (j : Nat) (e : AE) (st : Slots) (S : Sto) (o : Option (Option T)) : RS := match o with
  | some (some x) => (e st S).stm st (au1 f2 j st x)
  | _ => .bad
theorem e_Aug : mAug j f2 e st S = augK f2 j e st S st[j]? := rfl
theorem e_augK : augK f2 j e st S (some (some t)) = (e st S).stm st (au1 f2 j st t) := rfl
theorem e_au1 : au1 f2 j st t u S = (f2 t u S).stm st (au2 j st) := rfl
theorem e_au2 : au2 j st t S = .nx (st.set j (some t)) S := rfl
def mlK (fM : T → List T → Sto → R T) (ra : AA) (st : Slots) (x : T) (S : Sto) : R T := if isL S x = true then (ra st S).bind (fM x) else .bad
theorem e_ML : mML fM o ra st S = (o st S).bind (mlK fM ra st) := rfl
theorem e_mlK : mlK fM ra st t S = if isL S t = true then (ra st S).bind (fM t) else .bad := rfl
def ggD (y u : T) (S : Sto) (p : Bool × List (T × T)) : R T := if keyOk p.1 y = true then .ok ((getT y p.2).getD u) S else .bad
def gg2 (x : T) (y : T) (S : Sto) : R T := pget (dOf S x) (ggD y .non S)
def gg1 (a : AE) (st : Slots) (x : T) (S : Sto) : R T := if (dOf S x).isSome = true then (a st S).bind (gg2 x) else .bad
theorem e_Get1 : mGet1 d a st S = (d st S).bind (gg1 a st) := by first | rfl | (unfold mGet1; congr 1; funext x S; unfold gg1; split <;> first | rfl | (congr 1; funext y S; unfold gg2 pget ggD; cases dOf S x <;> rfl))
theorem e_gg1 : gg1 a st t S = if (dOf S t).isSome = true then (a st S).bind (gg2 t) else .bad := rfl
theorem e_gg2 : gg2 t u S = pget (dOf S t) (ggD u .non S) := rfl
theorem e_ggD {p : Bool × List (T × T)} : ggD t u S p = if keyOk p.1 t = true then .ok ((getT t p.2).getD u) S else .bad := rfl
def gh3 (x y u : T) (S : Sto) : R T := pget (dOf S x) (ggD y u S)
def gh2 (b : AE) (st : Slots) (x : T) (y : T) (S : Sto) : R T := (b st S).bind (gh3 x y)
def gh1 (a b : AE) (st : Slots) (x : T) (S : Sto) : R T := if (dOf S x).isSome = true then (a st S).bind (gh2 b st x) else .bad
theorem e_Get2 : mGet2 d a b st S = (d st S).bind (gh1 a b st) := by first | rfl | (unfold mGet2; congr 1; funext x S; unfold gh1; split <;> first | rfl | (congr 1; funext y S; unfold gh2; congr 1; funext u S; unfold gh3 pget ggD; cases dOf S x <;> rfl))
theorem e_gh1 : gh1 a b st t S = if (dOf S t).isSome = true then (a st S).bind (gh2 b st t) else .bad := rfl
theorem e_gh2 : gh2 b st t u S = (b st S).bind (gh3 t u) := rfl
theorem e_gh3 {v : T} : gh3 t u v S = pget (dOf S t) (ggD u v S) := rfl
theorem e_NewD : mNewD fz bb st S = mkD fz bb [] S := rfl
theorem e_mkDt {ps : List (T × T)} : mkD true bb ps S = .ok (.dct bb ps) S := rfl
theorem e_mkDf {ps : List (T × T)} : mkD false bb ps S = .ok (.ref S.length) (S ++ [.dct bb ps]) := rfl
theorem e_mkLt : mkL true ts S = .ok (.lst ts) S := rfl
theorem e_mkLf : mkL false ts S = .ok (.ref S.length) (S ++ [.lst ts]) := rfl
theorem e_Frz : mFrz a st S = (a st S).bind opFrz := rfl
theorem e_NoP : mNoP st S = .ok none S := rfl
def partK (x : T) (S : Sto) : R (Option Int) := match x with
  | .int i => .ok (some i) S
  | _ => .bad
theorem e_Part : mPart a st S = (a st S).bind partK := rfl
theorem e_partK {i : Int} : partK (.int i) S = .ok (some i) S := rfl
def sl2 (fz : Bool) (hi : AO) (st : Slots) (x : T) (l : Option Int) (S : Sto) : R T := (hi st S).bind (opSl fz x l)
def sl1 (fz : Bool) (lo hi : AO) (st : Slots) (x : T) (S : Sto) : R T := (lo st S).bind (sl2 fz hi st x)
theorem e_Sl : mSl fz a lo hi st S = (a st S).bind (sl1 fz lo hi st) := rfl
theorem e_sl1 : sl1 fz lo hi st t S = (lo st S).bind (sl2 fz hi st t) := rfl
theorem e_sl2 {p : Option Int} : sl2 fz hi st t p S = (hi st S).bind (opSl fz t p) := rfl
theorem e_opSlT {l h : Option Int} : opSl fz (.tup ts) l h S = .ok (.tup (cutT ts l h)) S := rfl
theorem e_opSlL {l h : Option Int} : opSl fz (.lst ts) l h S = mkL fz (cutT ts l h) S := rfl
noncomputable def forK (g : MG) (x : AS) (st : Slots) (z : Itm) (S : Sto) : RS := forL z.ck g x z.l st S
noncomputable def lcK (fz : Bool) (j : Nat) (c : AT) (e : AE) (st : Slots) (z : Itm) (S : Sto) : R T := (lcL z.ck j c e st z.l [] S).bind (mkL fz)
theorem e_For : mFor it g x st S = (it st S).stm st (forK g x st) := rfl
theorem e_forK {l : List T} {ck : Option (Nat × O)} : forK g x st ⟨l, ck⟩ S = forL ck g x l st S := rfl
theorem e_Lc : mLc fz it j ta a st S = (it st S).bind (lcK fz j ta a st) := rfl
theorem e_lcK {l : List T} {ck : Option (Nat × O)} : lcK fz j ta a st ⟨l, ck⟩ S = (lcL ck j ta a st l [] S).bind (mkL fz) := rfl
theorem e_Yes : mYes st S = .ok true S := rfl
def itTK (x : T) (S : Sto) : R Itm := match x with
  | .tup l => .ok ⟨l, none⟩ S
  | .tupk l => .ok ⟨l, none⟩ S
  | _ => .bad
def itLK (x : T) (S : Sto) : R Itm := match x with
  | .lst l => .ok ⟨l, none⟩ S
  | .scr l => .ok ⟨l, none⟩ S
  | .ref n => (match S[n]? with
    | some (.lst l) => .ok ⟨l, some (n, .lst l)⟩ S
    | _ => .bad)
  | _ => .bad
def itR1K (x : List T) (S : Sto) : R Itm := match x with
  | [.int j] => if -(2 ^ 62) ≤ j ∧ j < 2 ^ 62 then .ok ⟨rngT 0 j, none⟩ S else .bad
  | _ => .bad
def itR2K (x : List T) (S : Sto) : R Itm := match x with
  | [.int i, .int j] => if -(2 ^ 62) ≤ i ∧ i < 2 ^ 62 ∧ -(2 ^ 62) ≤ j ∧ j < 2 ^ 62 then .ok ⟨rngT i j, none⟩ S else .bad
  | _ => .bad
theorem e_itT : itT a st S = (a st S).bind itTK := rfl
theorem e_itL : itL a st S = (a st S).bind itLK := by first | rfl | (unfold itL; congr 1; funext x S; unfold itLK; cases x <;> rfl)
theorem e_itR1 : itR1 ra st S = (ra st S).bind itR1K := rfl
theorem e_itR2 : itR2 ra st S = (ra st S).bind itR2K := rfl
theorem e_itTKt : itTK (.tup ts) S = .ok ⟨ts, none⟩ S := rfl
theorem e_itTKk : itTK (.tupk ts) S = .ok ⟨ts, none⟩ S := rfl
theorem e_itLKl : itLK (.lst ts) S = .ok ⟨ts, none⟩ S := rfl
theorem e_itLKs : itLK (.scr ts) S = .ok ⟨ts, none⟩ S := rfl
theorem e_itLKr (h : S[n]? = some (.lst ts)) : itLK (.ref n) S = .ok ⟨ts, some (n, .lst ts)⟩ S := by simp only [itLK, h]
theorem it62a : (-4611686018427387904 : Int) = -(2 ^ 62) := by decide
theorem it62b : (4611686018427387904 : Int) = 2 ^ 62 := by decide
theorem e_itR1K {i : Int} : itR1K [.int i] S = if -4611686018427387904 ≤ i ∧ i < 4611686018427387904 then .ok ⟨rngT 0 i, none⟩ S else .bad := by rw [it62a, it62b]; rfl
theorem e_itR2K {i k : Int} : itR2K [.int i, .int k] S = if -4611686018427387904 ≤ i ∧ i < 4611686018427387904 ∧ -4611686018427387904 ≤ k ∧ k < 4611686018427387904 then .ok ⟨rngT i k, none⟩ S else .bad := by rw [it62a, it62b]; rfl
theorem e_add {i k : Int} : opAdd (.int i) (.int k) S = .ok (.int (i + k)) S := rfl
theorem e_addT {p q : List T} : opAdd (.tup p) (.tup q) S = if p.length + q.length ≤ sizeLine then .ok (.tup (p ++ q)) S else .bad := rfl
theorem e_addL {p q : List T} : opAdd (.lst p) (.lst q) S = if p.length + q.length ≤ sizeLine then .ok (.lst (p ++ q)) S else .bad := rfl
theorem e_addI {i k : Int} : opAddI (.int i) (.int k) S = .ok (.int (i + k)) S := rfl
theorem e_sub {i k : Int} : opSub (.int i) (.int k) S = .ok (.int (i - k)) S := rfl
theorem e_mod {i k : Int} : opMod (.int i) (.int k) S = if 0 < k then .ok (.int (i % k)) S else .bad := rfl
def repK (fz : Bool) (k : Int) (S : Sto) (a : List T) : R T := if -(2 ^ 63) ≤ k ∧ k < 2 ^ 63 ∧ a.length * k.toNat ≤ sizeLine then mkL fz (List.replicate k.toNat a).flatten S else .bad
theorem e_div {i k : Int} : opDiv (.int i) (.int k) S = if 0 < k ∧ k < 1073741824 then .ok (.int (i / k)) S else .bad := by simp only [opDiv]; exact ite_same (c := CDiv i k) _ _
theorem e_mul {i k : Int} : opMul (.int i) (.int k) S = if (-18446744073709551616 < i ∧ i < 18446744073709551616) ∨ (-18446744073709551616 < k ∧ k < 18446744073709551616) then .ok (.int (i * k)) S else .bad := by simp only [opMul]; exact ite_same (c := CMul i k) _ _
theorem e_pow {i k : Int} : opPow (.int i) (.int k) S = if 0 ≤ k ∧ k ≤ 1000000 ∧ -18446744073709551616 < i ∧ i < 18446744073709551616 then .ok (.int (i ^ k.toNat)) S else .bad := by simp only [opPow]; exact ite_iff _ _ (by unfold CPow; omega)
theorem e_mulL {k : Int} : opMul (.lst ts) (.int k) S = if -(2 ^ 63) ≤ k ∧ k < 2 ^ 63 ∧ ts.length * k.toNat ≤ sizeLine then .ok (.lst (List.replicate k.toNat ts).flatten) S else .bad := by simp only [opMul]
theorem e_rep {k : Int} : opRep fz t (.int k) S = pget (lkP S t) (repK fz k S) := by simp only [opRep]; cases lkP S t <;> rfl
theorem e_repK {k : Int} : repK fz k S ts = if -(2 ^ 63) ≤ k ∧ k < 2 ^ 63 ∧ ts.length * k.toNat ≤ sizeLine then mkL fz (List.replicate k.toNat ts).flatten S else .bad := rfl
theorem e_neg {i k : Int} : opNeg (.int i) S = .ok (.int (-i)) S := rfl
theorem e_lt {i k : Int} : opLt (.int i) (.int k) S = .ok (.bl (decide (i < k))) S := rfl
theorem e_le {i k : Int} : opLe (.int i) (.int k) S = .ok (.bl (decide (i ≤ k))) S := rfl
theorem e_gt {i k : Int} : opGt (.int i) (.int k) S = .ok (.bl (decide (k < i))) S := rfl
theorem e_ge {i k : Int} : opGe (.int i) (.int k) S = .ok (.bl (decide (k ≤ i))) S := rfl
theorem e_abs {i k : Int} : opAbs [.int i] S = .ok (.int (if i < 0 then -i else i)) S := rfl
theorem e_int {i k : Int} : opInt [.int i] S = .ok (.int i) S := rfl
theorem e_intB {b : Bool} : opInt [.bl b] S = .ok (.int (if b then 1 else 0)) S := rfl
theorem e_min2 {i k : Int} : opMin2 [.int i, .int k] S = .ok (.int (if k < i then k else i)) S := rfl
theorem e_max2 {i k : Int} : opMax2 [.int i, .int k] S = .ok (.int (if k > i then k else i)) S := rfl
theorem e_tup : opTup ts S = if ts.length ≤ sizeLine then .ok (.tup ts) S else .bad := rfl
theorem e_lst : opLst fz ts S = if ts.length ≤ sizeLine then mkL fz ts S else .bad := rfl
def lenK (S : Sto) (n : Nat) : R T := .ok (.int n) S
theorem e_lenK0 : lenK S n = .ok (.int n) S := rfl
theorem e_len : opLen [t] S = pget (lenOf S t) (lenK S) := by simp only [opLen]; cases lenOf S t <;> rfl
theorem e_lenT : lenOf S (.tup ts) = some ts.length := rfl
theorem e_lenL : lenOf S (.lst ts) = some ts.length := rfl
theorem e_lenS : lenOf S (.scr ts) = some ts.length := rfl
theorem e_lenK : lenOf S (.tupk ts) = some ts.length := rfl
theorem e_lenD {ps : List (T × T)} : lenOf S (.dct bb ps) = some ps.length := rfl
def mkLK (fz : Bool) (S : Sto) (l : List T) : R T := mkL fz l S
theorem e_mkLK : mkLK fz S ts = mkL fz ts S := rfl
theorem e_list : opList fz [t] S = pget (seqOf S t) (mkLK fz S) := by simp only [opList]; cases seqOf S t <;> rfl
theorem e_seqT : seqOf S (.tup ts) = some ts := rfl
theorem e_seqL : seqOf S (.lst ts) = some ts := rfl
theorem e_seqS : seqOf S (.scr ts) = some ts := rfl
theorem e_seqK : seqOf S (.tupk ts) = some ts := rfl
theorem e_lkL : lkL S (.lst ts) = some ts := rfl
theorem e_lkS : lkL S (.scr ts) = some ts := rfl
theorem e_lkP : lkP S (.lst ts) = some ts := rfl
theorem e_tupleT : opTuple [.tup ts] S = .ok (.tup ts) S := rfl
theorem e_tupleL : opTuple [.lst ts] S = .ok (.tup ts) S := rfl
def srtK (fz : Bool) (S : Sto) (l : List Int) : R T := mkL fz ((sortI l).map .int) S
theorem e_srtK {l : List Int} : srtK fz S l = mkL fz ((sortI l).map .int) S := rfl
theorem e_sortI : opSortI fz [t] S = pget ((lkL S t).bind intsOf) (srtK fz S) := by simp only [opSortI]; cases (lkL S t).bind intsOf <;> rfl
def anyK (S : Sto) (l : List Bool) : R T := .ok (.bl (l.any id)) S
theorem e_anyK {l : List Bool} : anyK S l = .ok (.bl (l.any id)) S := rfl
def allK (S : Sto) (l : List Bool) : R T := .ok (.bl (l.all id)) S
theorem e_allK {l : List Bool} : allK S l = .ok (.bl (l.all id)) S := rfl
def sumK (S : Sto) (l : List Int) : R T := .ok (.int l.sum) S
theorem e_sumK {l : List Int} : sumK S l = .ok (.int l.sum) S := rfl
theorem e_any : opAny [t] S = pget ((lkL S t).bind blsOf) (anyK S) := by simp only [opAny]; cases (lkL S t).bind blsOf <;> rfl
theorem e_all : opAll [t] S = pget ((lkL S t).bind blsOf) (allK S) := by simp only [opAll]; cases (lkL S t).bind blsOf <;> rfl
theorem e_sum : opSum [t] S = pget ((lkL S t).bind intsOf) (sumK S) := by simp only [opSum]; cases (lkL S t).bind intsOf <;> rfl
def atK (k : Int) (l : List T) : Option T := atI l k
theorem e_atK {k : Int} : atK k ts = atI ts k := rfl
def okK (S : Sto) (t : T) : R T := .ok t S
theorem e_okK : okK S t = .ok t S := rfl
theorem e_ix {k : Int} : opIx t (.int k) S = pget ((seqOf S t).bind (atK k)) (okK S) := by simp only [opIx]; show (match (seqOf S t).bind (atK k) with | some t => R.ok t S | none => R.bad) = _; cases (seqOf S t).bind (atK k) <;> rfl
theorem e_ixL {k : Int} : opIxL t (.int k) S = pget ((lkL S t).bind (atK k)) (okK S) := by simp only [opIxL]; show (match (lkL S t).bind (atK k) with | some t => R.ok t S | none => R.bad) = _; cases (lkL S t).bind (atK k) <;> rfl
theorem e_is : opIs t .non S = .ok (.bl (isNon t)) S := rfl
theorem e_isnt : opIsnt t .non S = .ok (.bl (!isNon t)) S := rfl
theorem e_isB {b1 b2 : Bool} : opIsB (.bl b1) (.bl b2) S = .ok (.bl (decide (b1 = b2))) S := rfl
theorem e_isntB {b1 b2 : Bool} : opIsntB (.bl b1) (.bl b2) S = .ok (.bl (!decide (b1 = b2))) S := rfl
theorem e_non_int {i : Int} : isNon (.int i) = false := rfl
theorem e_non_str {s : String} : isNon (.str s) = false := rfl
theorem e_non_bl {b : Bool} : isNon (.bl b) = false := rfl
theorem e_non_tup : isNon (.tup ts) = false := rfl
theorem e_non_tupk : isNon (.tupk ts) = false := rfl
theorem e_non_lst : isNon (.lst ts) = false := rfl
theorem e_non_dct {ps : List (T × T)} : isNon (.dct bb ps) = false := rfl
theorem e_non_ref : isNon (.ref n) = false := rfl
def isiK (m : String) (S : Sto) (k : String) : R T := if m ∈ tys then .ok (.bl (isB k m)) S else .bad
theorem e_isiK {k : String} : isiK mn S k = if mn ∈ tys then .ok (.bl (isB k mn)) S else .bad := rfl
theorem e_isi : opIsi [t, .ty mn] S = pget (tyOf S t) (isiK mn S) := by simp only [opIsi]; cases tyOf S t <;> rfl
theorem e_ty_non : tyOf S (.non) = some "NoneType" := rfl
theorem e_ty_int {i : Int} : tyOf S (.int i) = some "int" := rfl
theorem e_ty_str {s : String} : tyOf S (.str s) = some "str" := rfl
theorem e_ty_bl {b : Bool} : tyOf S (.bl b) = some "bool" := rfl
theorem e_ty_tup : tyOf S (.tup ts) = some "tuple" := rfl
theorem e_ty_tupk : tyOf S (.tupk ts) = some "tuple" := rfl
theorem e_ty_lst : tyOf S (.lst ts) = some "list" := rfl
theorem e_ty_scr : tyOf S (.scr ts) = some "list" := rfl
theorem e_ty_dct {ps : List (T × T)} : tyOf S (.dct false ps) = some "dict" := rfl
theorem e_tru_non : opTru (.non) S = .ok false S := rfl
theorem e_tru_bl {b : Bool} : opTru (.bl b) S = .ok b S := rfl
theorem e_tru_int {i : Int} : opTru (.int i) S = .ok (i != 0) S := rfl
theorem e_tru_tup : opTru (.tup ts) S = .ok (!ts.isEmpty) S := rfl
theorem e_tru_lst : opTru (.lst ts) S = .ok (!ts.isEmpty) S := rfl
def dgK (u : T) (S : Sto) (p : Bool × List (T × T)) : R T := if keyOk p.1 u = true then pget (getT u p.2) (okK S) else .bad
theorem e_dgK {p : Bool × List (T × T)} : dgK u S p = if keyOk p.1 u = true then pget (getT u p.2) (okK S) else .bad := rfl
theorem e_dget : opDGet t u S = pget (dOf S t) (dgK u S) := by unfold opDGet; cases dOf S t with | none => rfl | some p => show (if _ then _ else _) = dgK u S p; unfold dgK; (by_cases hk : keyOk p.1 u = true); (rw [if_pos hk, if_pos hk]; cases getT u p.2 <;> rfl); (rw [if_neg hk, if_neg hk])
def diK (u : T) (S : Sto) (p : Bool × List (T × T)) : R T := if keyOk p.1 u = true then .ok (.bl (getT u p.2).isSome) S else .bad
theorem e_diK {p : Bool × List (T × T)} : diK u S p = if keyOk p.1 u = true then .ok (.bl (getT u p.2).isSome) S else .bad := rfl
def dnK (u : T) (S : Sto) (p : Bool × List (T × T)) : R T := if keyOk p.1 u = true then .ok (.bl (!(getT u p.2).isSome)) S else .bad
theorem e_dnK {p : Bool × List (T × T)} : dnK u S p = if keyOk p.1 u = true then .ok (.bl (!(getT u p.2).isSome)) S else .bad := rfl
theorem e_din : opDIn u t S = pget (dOf S t) (diK u S) := by unfold opDIn; cases dOf S t <;> rfl
theorem e_dnin : opDNin u t S = pget (dOf S t) (dnK u S) := by unfold opDNin; cases dOf S t <;> rfl
theorem e_dOf {ps : List (T × T)} : dOf S (.dct bb ps) = some (bb, ps) := rfl
theorem e_keyI {i : Int} : keyOk false (.int i) = true := rfl
theorem e_keyS {s : String} : keyOk false (.str s) = true := rfl
theorem e_keyT : keyOk true (.tup ts) = keyb ts := rfl
def lstO : Option O → Option (List T)
  | some (.lst l) => some l
  | _ => none
def isLO : Option O → Bool
  | some (.lst _) => true
  | _ => false
def dctO : Option O → Option (Bool × List (T × T))
  | some (.dct b l) => some (b, l)
  | some (.lck b l) => some (b, l)
  | _ => none
def lenO : Option O → Option Nat
  | some (.lst l) => some l.length
  | some (.dct _ l) => some l.length
  | _ => none
def tyO : Option O → Option String
  | some (.lst _) => some "list"
  | some (.dct _ _) => some "dict"
  | _ => none
def truO (S : Sto) : Option O → R Bool
  | some (.lst l) => .ok (!l.isEmpty) S
  | _ => .bad
def objO (c : String) : Option O → Option (List (String × T))
  | some (.obj d fs) => if d = c then some fs else none
  | _ => none
def setLO (S : Sto) (n : Nat) (i : Int) (v : T) : Option O → Option Sto
  | some (.lst l) => (ixN l.length i).map fun j => S.set n (.lst (l.set j v))
  | _ => none
def setFO (S : Sto) (n : Nat) (c f : String) (v : T) : Option O → Option Sto
  | some (.obj d fs) => if d = c ∧ fs.length < 1000 then some (S.set n (.obj d (putT f v fs))) else none
  | _ => none
def putO (S : Sto) (n : Nat) (k v : T) : Option O → Option Sto
  | some (.dct b ps) => if keyOk b k = true ∧ ps.length < sizeLine then some (S.set n (.dct b (putD k v ps))) else none
  | _ => none
def appO (S : Sto) (n : Nat) (v : T) : Option O → R T
  | some (.lst l) => if l.length < sizeLine then .ok .non (S.set n (.lst (l ++ [v]))) else .bad
  | _ => .bad
def extO (S : Sto) (n : Nat) (b : List T) : Option O → R T
  | some (.lst l) => if l.length + b.length ≤ sizeLine then .ok .non (S.set n (.lst (l ++ b))) else .bad
  | _ => .bad
def setL2 (S : Sto) (n : Nat) (l : List T) (v : T) (j : Nat) : Sto := S.set n (.lst (l.set j v))
def popAO (S : Sto) (n : Nat) (i : Int) : Option O → R T
  | some (.lst l) => if -(2 ^ 63) ≤ i ∧ i < 2 ^ 63 then (match seqIndex? i l.length with
      | some k => (match l[k]? with
        | some t => .ok t (S.set n (.lst (l.eraseIdx k)))
        | none => .bad)
      | none => .bad) else .bad
  | _ => .bad
def frzO (S : Sto) (n : Nat) : Option O → R T
  | some (.lst l) => .ok (.lst l) (S.set n .dead)
  | some (.dct b l) => .ok (.dct b l) (S.set n .dead)
  | _ => .ok (.ref n) S
def itO (S : Sto) (n : Nat) : Option O → R Itm
  | some (.lst l) => .ok ⟨l, some (n, .lst l)⟩ S
  | _ => .bad
theorem e_seqR : seqOf S (.ref n) = lstO S[n]? := by simp only [seqOf]; unfold lstO; rfl
theorem e_lkR : lkL S (.ref n) = lstO S[n]? := by simp only [lkL]; unfold lstO; rfl
theorem e_lkPR : lkP S (.ref n) = lstO S[n]? := by simp only [lkP]; unfold lstO; rfl
theorem e_lstO : lstO (some (.lst ts)) = some ts := rfl
theorem e_isLR : isL S (.ref n) = isLO S[n]? := by simp only [isL]; unfold isLO; rfl
theorem e_isLO : isLO (some (.lst ts)) = true := rfl
theorem e_dOfR : dOf S (.ref n) = dctO S[n]? := by simp only [dOf]; unfold dctO; rfl
theorem e_dctO {ps : List (T × T)} : dctO (some (.dct bb ps)) = some (bb, ps) := rfl
theorem e_lckO {ps : List (T × T)} : dctO (some (.lck bb ps)) = some (bb, ps) := rfl
theorem e_lenR : lenOf S (.ref n) = lenO S[n]? := by simp only [lenOf]; unfold lenO; rfl
theorem e_lenOl : lenO (some (.lst ts)) = some ts.length := rfl
theorem e_lenOd {ps : List (T × T)} : lenO (some (.dct bb ps)) = some ps.length := rfl
theorem e_tyR : tyOf S (.ref n) = tyO S[n]? := by simp only [tyOf]; unfold tyO; rfl
theorem e_tyOl : tyO (some (.lst ts)) = some "list" := rfl
theorem e_tyOd {ps : List (T × T)} : tyO (some (.dct bb ps)) = some "dict" := rfl
theorem e_truR : opTru (.ref n) S = truO S S[n]? := by simp only [opTru]; unfold truO; rfl
theorem e_truO : truO S (some (.lst ts)) = .ok (!ts.isEmpty) S := rfl
theorem e_objR : objOf cn S (.ref n) = objO cn S[n]? := by simp only [objOf]; unfold objO; rfl
theorem e_objO {d : String} {fs : List (String × T)} : objO cn (some (.obj d fs)) = if d = cn then some fs else none := rfl
theorem e_setLR {i : Int} : opSetL (.ref n) (.int i) t S = setLO S n i t S[n]? := by simp only [opSetL]; unfold setLO; rfl
theorem e_setLO {i : Int} : setLO S n i t (some (.lst ts)) = (ixN ts.length i).map (setL2 S n ts t) := rfl
theorem e_setL2 : setL2 S n ts t j = S.set n (.lst (ts.set j t)) := rfl
theorem e_setFR : opSetF cn fl (.ref n) t S = setFO S n cn fl t S[n]? := by simp only [opSetF]; unfold setFO; rfl
theorem e_setFO {d : String} {fs : List (String × T)} : setFO S n cn fl t (some (.obj d fs)) = if d = cn ∧ fs.length < 1000 then some (S.set n (.obj d (putT fl t fs))) else none := rfl
theorem e_putR : opDPut (.ref n) u t S = putO S n u t S[n]? := by simp only [opDPut]; unfold putO; rfl
theorem e_putO {ps : List (T × T)} : putO S n u t (some (.dct bb ps)) = if keyOk bb u = true ∧ ps.length < sizeLine then some (S.set n (.dct bb (putD u t ps))) else none := rfl
theorem e_appR : opApp (.ref n) [t] S = appO S n t S[n]? := by simp only [opApp]; unfold appO; rfl
theorem e_appO : appO S n t (some (.lst ts)) = if ts.length < sizeLine then .ok .non (S.set n (.lst (ts ++ [t]))) else .bad := rfl
theorem e_extR : opExt (.ref n) [.lst ts] S = extO S n ts S[n]? := by simp only [opExt]; unfold extO; rfl
theorem e_extO {us : List T} : extO S n us (some (.lst ts)) = if ts.length + us.length ≤ sizeLine then .ok .non (S.set n (.lst (ts ++ us))) else .bad := rfl
theorem e_popR {i : Int} : opPopAt (.ref n) [.int i] S = popAO S n i S[n]? := by simp only [opPopAt]; unfold popAO; rfl
theorem e_frzR : opFrz (.ref n) S = frzO S n S[n]? := by simp only [opFrz]; unfold frzO; rfl
theorem e_frzOl : frzO S n (some (.lst ts)) = .ok (.lst ts) (S.set n .dead) := rfl
theorem e_frzOd {ps : List (T × T)} : frzO S n (some (.dct bb ps)) = .ok (.dct bb ps) (S.set n .dead) := rfl
theorem e_itR : itLK (.ref n) S = itO S n S[n]? := by simp only [itLK]; unfold itO; rfl
theorem e_itO : itO S n (some (.lst ts)) = .ok ⟨ts, some (n, .lst ts)⟩ S := rfl
def defK (r : RS) : R T := match r with
  | .rt t S => .ok t S
  | .nx _ S => .ok .non S
  | .exc c _ S => .exc c S
  | _ => .bad
theorem e_def : mDef n m x ts S = if ts.length = n then defK (x (ts.map some ++ List.replicate (m - n) none) S) else .bad := by unfold mDef defK; split <;> rfl
theorem e_dfr : defK (.rt t S) = .ok t S := rfl
theorem e_dfn : defK (.nx st S) = .ok .non S := rfl
theorem e_dfe : defK (.exc c st S) = .exc c S := rfl
noncomputable def forN (ck : Option (Nat × O)) (g : MG) (b : AS) (ts : List T) (r : RS) : RS := match r with
  | .nx st S => forL ck g b ts st S
  | .ct st S => forL ck g b ts st S
  | .br st S => .nx st S
  | r => r
noncomputable def forB (ck : Option (Nat × O)) (g : MG) (b : AS) (ts : List T) (r : RS) : RS := match r with
  | .nx st S => forN ck g b ts (b st S)
  | r => r
def fsB (b : AS) (r : RS) : RS := match r with
  | .nx st S => b st S
  | r => r
/-- one turn -/
def fstep (g : MG) (b : AS) (t : T) (st : Slots) (S : Sto) : RS := fsB b (g t st S).only
theorem forL_cons (ck : Option (Nat × O)) (g : MG) (b : AS) (t : T) (ts : List T) (st : Slots) (S : Sto) (h : okC ck S) : forL ck g b (t :: ts) st S = forB ck g b ts (g t st S).only := by
  unfold forL
  rw [if_pos h]
  unfold forB forN
  cases (g t st S).only with
  | nx st S => simp only <;> (cases b st S <;> rfl)
  | _ => rfl
theorem forL_nil (ck : Option (Nat × O)) (g : MG) (b : AS) (st : Slots) (S : Sto) (h : okC ck S) : forL ck g b [] st S = .nx st S := by
  unfold forL
  rw [if_pos h]
theorem forL_step (ck : Option (Nat × O)) (g : MG) (b : AS) (t : T) (ts : List T) (st : Slots) (S : Sto) (h : okC ck S) {st' : Slots} {S' : Sto} (e : fstep g b t st S = .nx st' S' ∨ fstep g b t st S = .ct st' S') : forL ck g b (t :: ts) st S = forL ck g b ts st' S' := by
  rw [forL_cons _ _ _ _ _ _ _ h]
  unfold fstep at e
  cases q : g t st S with
  | nx st S =>
    rw [q] at e
    have e' : b st S = .nx st' S' ∨ b st S = .ct st' S' := e
    show forN ck g b ts (b st S) = _
    unfold forN
    rcases e' with e' | e' <;> rw [e']
  | exc c st S => rw [q] at e; rcases e with e | e <;> exact nomatch (show RS.exc c st S = _ from e)
  | _ => rw [q] at e; rcases e with e | e <;> exact nomatch (show RS.bad = _ from e)
theorem e_forLc : forL none g x (t :: ts) st S = forB none g x ts (g t st S).only := forL_cons _ _ _ _ _ _ _ trivial
theorem e_forL0 : forL none g x [] st S = .nx st S := forL_nil _ _ _ _ _ trivial
theorem e_forB {ck : Option (Nat × O)} : forB ck g x ts (.nx st S) = forN ck g x ts (x st S) := rfl
theorem e_forNn {ck : Option (Nat × O)} : forN ck g x ts (.nx st S) = forL ck g x ts st S := rfl
theorem e_forNc {ck : Option (Nat × O)} : forN ck g x ts (.ct st S) = forL ck g x ts st S := rfl
theorem e_forNb {ck : Option (Nat × O)} : forN ck g x ts (.br st S) = .nx st S := rfl
theorem e_forNr {ck : Option (Nat × O)} : forN ck g x ts (.rt t S) = .rt t S := rfl
theorem e_forNe {ck : Option (Nat × O)} : forN ck g x ts (.exc c st S) = .exc c st S := rfl
theorem e_fstep : fstep g x t st S = fsB x (g t st S).only := rfl
theorem e_fsB : fsB x (.nx st S) = x st S := rfl
noncomputable def lc2 (ck : Option (Nat × O)) (i : Nat) (c : AT) (e : AE) (st : Slots) (ts acc : List T) (y : T) (S : Sto) : R (List T) := if acc.length < sizeLine then lcL ck i c e st ts (acc ++ [y]) S else .bad
noncomputable def lc1 (ck : Option (Nat × O)) (i : Nat) (c : AT) (e : AE) (st : Slots) (t : T) (ts acc : List T) (b : Bool) (S : Sto) : R (List T) := if b = true then ((e (st.set i (some t)) S).nox.bind (lc2 ck i c e st ts acc)) else lcL ck i c e st ts acc S
theorem lcL_cons (ck : Option (Nat × O)) (i : Nat) (c : AT) (e : AE) (st : Slots) (t : T) (ts acc : List T) (S : Sto) (h : okC ck S) : lcL ck i c e st (t :: ts) acc S = (c (st.set i (some t)) S).nox.bind (lc1 ck i c e st t ts acc) := by
  rw [lcL, if_pos h]
  rfl
theorem lcL_nil (ck : Option (Nat × O)) (i : Nat) (c : AT) (e : AE) (st : Slots) (acc : List T) (S : Sto) (h : okC ck S) : lcL ck i c e st [] acc S = .ok acc S := by rw [lcL, if_pos h]
theorem e_lc0 {acc : List T} : lcL none j ta a st [] acc S = .ok acc S := lcL_nil _ _ _ _ _ _ _ trivial
theorem e_lcc {acc : List T} : lcL none j ta a st (t :: ts) acc S = (ta (st.set j (some t)) S).nox.bind (lc1 none j ta a st t ts acc) := lcL_cons _ _ _ _ _ _ _ _ _ trivial
theorem e_lc1 {ck : Option (Nat × O)} {acc : List T} {k : Bool} : lc1 ck j ta a st t ts acc k S = if k = true then ((a (st.set j (some t)) S).nox.bind (lc2 ck j ta a st ts acc)) else lcL ck j ta a st ts acc S := rfl
theorem e_lc2 {ck : Option (Nat × O)} {acc : List T} : lc2 ck j ta a st ts acc t S = if acc.length < sizeLine then lcL ck j ta a st ts (acc ++ [t]) S else .bad := rfl
def pp1 (b : AE) (st : Slots) (x : T) (S : Sto) : R T := if (dOf S x).isSome = true then (b st S).bind (pop1F x) else .bad
theorem e_Pop1 : mPop1 a b st S = (a st S).bind (pp1 b st) := by first | rfl | (first | rfl | (unfold mPop1; congr 1; funext x S; unfold pp1; split <;> first | rfl | (congr 1; funext y S; rfl)))
theorem e_pp1 : pp1 b st t S = if (dOf S t).isSome = true then (b st S).bind (pop1F t) else .bad := rfl
def pq2 (x y u : T) (S : Sto) : R T := pop2F x y u S
def pq1 (z : AE) (st : Slots) (x y : T) (S : Sto) : R T := (z st S).bind (pq2 x y)
def pq0 (b z : AE) (st : Slots) (x : T) (S : Sto) : R T := if (dOf S x).isSome = true then (b st S).bind (pq1 z st x) else .bad
theorem e_Pop2 : mPop2 a b z st S = (a st S).bind (pq0 b z st) := by first | rfl | (first | rfl | (unfold mPop2; congr 1; funext x S; unfold pq0; split <;> first | rfl | (congr 1; funext y S; unfold pq1; congr 1; funext u S; rfl)))
theorem e_pq0 : pq0 b z st t S = if (dOf S t).isSome = true then (b st S).bind (pq1 z st t) else .bad := rfl
theorem e_pq1 : pq1 z st t u S = (z st S).bind (pq2 t u) := rfl
theorem e_pq2 {v : T} : pq2 t u v S = pop2F t u v S := rfl
def popG (S : Sto) (n : Nat) (y : T) (ps : List (T × T)) (d : R T) : Option T → R T
  | some t => .ok t (S.set n (.dct false (dropD y ps)))
  | none => d
def popDO (S : Sto) (n : Nat) (y : T) (d : R T) : Option O → R T
  | some (.dct false ps) => if keyOk false y = true then popG S n y ps d (getT y ps) else .bad
  | _ => .bad
theorem e_pop1R : pop1F (.ref n) u S = popDO S n u .bad S[n]? := by unfold pop1F popDO popG; rfl
theorem e_pop2R {v : T} : pop2F (.ref n) u v S = popDO S n u (.ok v S) S[n]? := by unfold pop2F popDO popG; rfl
theorem e_popDO {ps : List (T × T)} {d : R T} : popDO S n u d (some (.dct false ps)) = if keyOk false u = true then popG S n u ps d (getT u ps) else .bad := rfl
theorem e_popGs {ps : List (T × T)} {d : R T} : popG S n u ps d (some t) = .ok t (S.set n (.dct false (dropD u ps))) := rfl
theorem e_popGn {ps : List (T × T)} {d : R T} : popG S n u ps d none = d := rfl
def srtPK (fz : Bool) (S : Sto) (l : List (Int × Int)) : R T := mkL fz ((sortP l).map prT) S
theorem e_srtPK {l : List (Int × Int)} : srtPK fz S l = mkL fz ((sortP l).map prT) S := rfl
theorem e_sortP : opSortP fz [t] S = pget ((lkL S t).bind prsOf) (srtPK fz S) := by simp only [opSortP]; cases (lkL S t).bind prsOf <;> rfl
end
theorem opEq_dat {x y : T} {S : Sto} (hx : dat x = true) (hy : dat y = true) (hd : dep x ≤ 60 ∨ dep y ≤ 60) : opEq x y S = .ok (.bl (eqT x y)) S := by
  have vx : vw S x = x := if_pos hx
  have vy : vw S y = y := if_pos hy
  unfold opEq
  rw [vx, vy, if_pos ⟨hx, hy, hd⟩]
theorem opNe_dat {x y : T} {S : Sto} (hx : dat x = true) (hy : dat y = true) (hd : dep x ≤ 60 ∨ dep y ≤ 60) : opNe x y S = .ok (.bl (!eqT x y)) S := by
  have vx : vw S x = x := if_pos hx
  have vy : vw S y = y := if_pos hy
  unfold opNe
  rw [vx, vy, if_pos ⟨hx, hy, hd⟩]
theorem opIn_dat {x y : T} {l : List T} {S : Sto} (hy : itemsOf y = some l) (hx : dat x = true) (hl : dats l = true) (hd : dep x ≤ 60 ∨ deps l ≤ 60) : opIn x y S = .ok (.bl (l.any fun z => eqT z x)) S := by
  have vx : vw S x = x := if_pos hx
  have dy : dat y = true := by cases y <;> simp [itemsOf] at hy <;> subst hy <;> simpa [dat] using hl
  have vy : vw S y = y := if_pos dy
  unfold opIn
  rw [vx, vy, hy]
  simp only
  rw [if_pos ⟨hx, hl, hd⟩]
theorem opNin_dat {x y : T} {l : List T} {S : Sto} (hy : itemsOf y = some l) (hx : dat x = true) (hl : dats l = true) (hd : dep x ≤ 60 ∨ deps l ≤ 60) : opNin x y S = .ok (.bl (!l.any fun z => eqT z x)) S := by
  have vx : vw S x = x := if_pos hx
  have dy : dat y = true := by cases y <;> simp [itemsOf] at hy <;> subst hy <;> simpa [dat] using hl
  have vy : vw S y = y := if_pos dy
  unfold opNin
  rw [vx, vy, hy]
  simp only
  rw [if_pos ⟨hx, hl, hd⟩]
def eqTs : List T → List T → Bool
  | [], [] => true
  | x :: xs, y :: ys => eqT x y && eqTs xs ys
  | _, _ => false
theorem eqAll_eq : ∀ xs ys : List T, PyData.eqvAll (toDs xs) (toDs ys) = eqTs xs ys
  | [], [] => by simp [toDs, PyData.eqvAll, eqTs]
  | [], _ :: _ => by simp [toDs, PyData.eqvAll, eqTs]
  | _ :: _, [] => by simp [toDs, PyData.eqvAll, eqTs]
  | x :: xs, y :: ys => by simp [toDs, PyData.eqvAll, eqTs, eqAll_eq xs ys, eqT]
theorem str_beq {a b : String} : (Str.ofString a == Str.ofString b) = decide (a = b) := by
  rw [Bool.eq_iff_iff]; simp [ofString_iff]

theorem q_non_non : eqT (.non) (.non) = true := by simp [eqT, toD, PyData.eqv, eqAll_eq, str_beq]
theorem q_non_bl {r : Bool} : eqT (.non) (.bl r) = false := by simp [eqT, toD, PyData.eqv, eqAll_eq, str_beq]
theorem q_non_int {r : Int} : eqT (.non) (.int r) = false := by simp [eqT, toD, PyData.eqv, eqAll_eq, str_beq]
theorem q_non_str {r : String} : eqT (.non) (.str r) = false := by simp [eqT, toD, PyData.eqv, eqAll_eq, str_beq]
theorem q_non_tup {r : List T} : eqT (.non) (.tup r) = false := by simp [eqT, toD, PyData.eqv, eqAll_eq, str_beq]
theorem q_non_tupk {r : List T} : eqT (.non) (.tupk r) = false := by simp [eqT, toD, PyData.eqv, eqAll_eq, str_beq]
theorem q_non_lst {r : List T} : eqT (.non) (.lst r) = false := by simp [eqT, toD, PyData.eqv, eqAll_eq, str_beq]
theorem q_non_scr {r : List T} : eqT (.non) (.scr r) = false := by simp [eqT, toD, PyData.eqv, eqAll_eq, str_beq]
theorem q_bl_non {p : Bool}  : eqT (.bl p) (.non) = false := by simp [eqT, toD, PyData.eqv, eqAll_eq, str_beq]
theorem q_bl_bl {p : Bool} {r : Bool} : eqT (.bl p) (.bl r) = decide (p = r) := by cases p <;> cases r <;> simp [eqT, toD, PyData.eqv]
theorem q_bl_int {p : Bool} {r : Int} : eqT (.bl p) (.int r) = decide ((if p = true then (1 : Int) else 0) = r) := by simp [eqT, toD, PyData.eqv]; rw [Bool.eq_iff_iff]; simp
theorem q_bl_str {p : Bool} {r : String} : eqT (.bl p) (.str r) = false := by simp [eqT, toD, PyData.eqv, eqAll_eq, str_beq]
theorem q_bl_tup {p : Bool} {r : List T} : eqT (.bl p) (.tup r) = false := by simp [eqT, toD, PyData.eqv, eqAll_eq, str_beq]
theorem q_bl_tupk {p : Bool} {r : List T} : eqT (.bl p) (.tupk r) = false := by simp [eqT, toD, PyData.eqv, eqAll_eq, str_beq]
theorem q_bl_lst {p : Bool} {r : List T} : eqT (.bl p) (.lst r) = false := by simp [eqT, toD, PyData.eqv, eqAll_eq, str_beq]
theorem q_bl_scr {p : Bool} {r : List T} : eqT (.bl p) (.scr r) = false := by simp [eqT, toD, PyData.eqv, eqAll_eq, str_beq]
theorem q_int_non {p : Int}  : eqT (.int p) (.non) = false := by simp [eqT, toD, PyData.eqv, eqAll_eq, str_beq]
theorem q_int_bl {p : Int} {r : Bool} : eqT (.int p) (.bl r) = decide (p = (if r = true then (1 : Int) else 0)) := by simp [eqT, toD, PyData.eqv]; rw [Bool.eq_iff_iff]; simp
theorem q_int_int {p : Int} {r : Int} : eqT (.int p) (.int r) = decide (p = r) := by simp [eqT, toD, PyData.eqv]; rw [Bool.eq_iff_iff]; simp
theorem q_int_str {p : Int} {r : String} : eqT (.int p) (.str r) = false := by simp [eqT, toD, PyData.eqv, eqAll_eq, str_beq]
theorem q_int_tup {p : Int} {r : List T} : eqT (.int p) (.tup r) = false := by simp [eqT, toD, PyData.eqv, eqAll_eq, str_beq]
theorem q_int_tupk {p : Int} {r : List T} : eqT (.int p) (.tupk r) = false := by simp [eqT, toD, PyData.eqv, eqAll_eq, str_beq]
theorem q_int_lst {p : Int} {r : List T} : eqT (.int p) (.lst r) = false := by simp [eqT, toD, PyData.eqv, eqAll_eq, str_beq]
theorem q_int_scr {p : Int} {r : List T} : eqT (.int p) (.scr r) = false := by simp [eqT, toD, PyData.eqv, eqAll_eq, str_beq]
theorem q_str_non {p : String}  : eqT (.str p) (.non) = false := by simp [eqT, toD, PyData.eqv, eqAll_eq, str_beq]
theorem q_str_bl {p : String} {r : Bool} : eqT (.str p) (.bl r) = false := by simp [eqT, toD, PyData.eqv, eqAll_eq, str_beq]
theorem q_str_int {p : String} {r : Int} : eqT (.str p) (.int r) = false := by simp [eqT, toD, PyData.eqv, eqAll_eq, str_beq]
theorem q_str_str {p : String} {r : String} : eqT (.str p) (.str r) = decide (p = r) := by simp [eqT, toD, PyData.eqv, eqAll_eq, str_beq]
theorem q_str_tup {p : String} {r : List T} : eqT (.str p) (.tup r) = false := by simp [eqT, toD, PyData.eqv, eqAll_eq, str_beq]
theorem q_str_tupk {p : String} {r : List T} : eqT (.str p) (.tupk r) = false := by simp [eqT, toD, PyData.eqv, eqAll_eq, str_beq]
theorem q_str_lst {p : String} {r : List T} : eqT (.str p) (.lst r) = false := by simp [eqT, toD, PyData.eqv, eqAll_eq, str_beq]
theorem q_str_scr {p : String} {r : List T} : eqT (.str p) (.scr r) = false := by simp [eqT, toD, PyData.eqv, eqAll_eq, str_beq]
theorem q_tup_non {p : List T}  : eqT (.tup p) (.non) = false := by simp [eqT, toD, PyData.eqv, eqAll_eq, str_beq]
theorem q_tup_bl {p : List T} {r : Bool} : eqT (.tup p) (.bl r) = false := by simp [eqT, toD, PyData.eqv, eqAll_eq, str_beq]
theorem q_tup_int {p : List T} {r : Int} : eqT (.tup p) (.int r) = false := by simp [eqT, toD, PyData.eqv, eqAll_eq, str_beq]
theorem q_tup_str {p : List T} {r : String} : eqT (.tup p) (.str r) = false := by simp [eqT, toD, PyData.eqv, eqAll_eq, str_beq]
theorem q_tup_tup {p : List T} {r : List T} : eqT (.tup p) (.tup r) = eqTs p r := by simp [eqT, toD, PyData.eqv, eqAll_eq, str_beq]
theorem q_tup_tupk {p : List T} {r : List T} : eqT (.tup p) (.tupk r) = eqTs p r := by simp [eqT, toD, PyData.eqv, eqAll_eq, str_beq]
theorem q_tup_lst {p : List T} {r : List T} : eqT (.tup p) (.lst r) = false := by simp [eqT, toD, PyData.eqv, eqAll_eq, str_beq]
theorem q_tup_scr {p : List T} {r : List T} : eqT (.tup p) (.scr r) = false := by simp [eqT, toD, PyData.eqv, eqAll_eq, str_beq]
theorem q_tupk_non {p : List T}  : eqT (.tupk p) (.non) = false := by simp [eqT, toD, PyData.eqv, eqAll_eq, str_beq]
theorem q_tupk_bl {p : List T} {r : Bool} : eqT (.tupk p) (.bl r) = false := by simp [eqT, toD, PyData.eqv, eqAll_eq, str_beq]
theorem q_tupk_int {p : List T} {r : Int} : eqT (.tupk p) (.int r) = false := by simp [eqT, toD, PyData.eqv, eqAll_eq, str_beq]
theorem q_tupk_str {p : List T} {r : String} : eqT (.tupk p) (.str r) = false := by simp [eqT, toD, PyData.eqv, eqAll_eq, str_beq]
theorem q_tupk_tup {p : List T} {r : List T} : eqT (.tupk p) (.tup r) = eqTs p r := by simp [eqT, toD, PyData.eqv, eqAll_eq, str_beq]
theorem q_tupk_tupk {p : List T} {r : List T} : eqT (.tupk p) (.tupk r) = eqTs p r := by simp [eqT, toD, PyData.eqv, eqAll_eq, str_beq]
theorem q_tupk_lst {p : List T} {r : List T} : eqT (.tupk p) (.lst r) = false := by simp [eqT, toD, PyData.eqv, eqAll_eq, str_beq]
theorem q_tupk_scr {p : List T} {r : List T} : eqT (.tupk p) (.scr r) = false := by simp [eqT, toD, PyData.eqv, eqAll_eq, str_beq]
theorem q_lst_non {p : List T}  : eqT (.lst p) (.non) = false := by simp [eqT, toD, PyData.eqv, eqAll_eq, str_beq]
theorem q_lst_bl {p : List T} {r : Bool} : eqT (.lst p) (.bl r) = false := by simp [eqT, toD, PyData.eqv, eqAll_eq, str_beq]
theorem q_lst_int {p : List T} {r : Int} : eqT (.lst p) (.int r) = false := by simp [eqT, toD, PyData.eqv, eqAll_eq, str_beq]
theorem q_lst_str {p : List T} {r : String} : eqT (.lst p) (.str r) = false := by simp [eqT, toD, PyData.eqv, eqAll_eq, str_beq]
theorem q_lst_tup {p : List T} {r : List T} : eqT (.lst p) (.tup r) = false := by simp [eqT, toD, PyData.eqv, eqAll_eq, str_beq]
theorem q_lst_tupk {p : List T} {r : List T} : eqT (.lst p) (.tupk r) = false := by simp [eqT, toD, PyData.eqv, eqAll_eq, str_beq]
theorem q_lst_lst {p : List T} {r : List T} : eqT (.lst p) (.lst r) = eqTs p r := by simp [eqT, toD, PyData.eqv, eqAll_eq, str_beq]
theorem q_lst_scr {p : List T} {r : List T} : eqT (.lst p) (.scr r) = eqTs p r := by simp [eqT, toD, PyData.eqv, eqAll_eq, str_beq]
theorem q_scr_non {p : List T}  : eqT (.scr p) (.non) = false := by simp [eqT, toD, PyData.eqv, eqAll_eq, str_beq]
theorem q_scr_bl {p : List T} {r : Bool} : eqT (.scr p) (.bl r) = false := by simp [eqT, toD, PyData.eqv, eqAll_eq, str_beq]
theorem q_scr_int {p : List T} {r : Int} : eqT (.scr p) (.int r) = false := by simp [eqT, toD, PyData.eqv, eqAll_eq, str_beq]
theorem q_scr_str {p : List T} {r : String} : eqT (.scr p) (.str r) = false := by simp [eqT, toD, PyData.eqv, eqAll_eq, str_beq]
theorem q_scr_tup {p : List T} {r : List T} : eqT (.scr p) (.tup r) = false := by simp [eqT, toD, PyData.eqv, eqAll_eq, str_beq]
theorem q_scr_tupk {p : List T} {r : List T} : eqT (.scr p) (.tupk r) = false := by simp [eqT, toD, PyData.eqv, eqAll_eq, str_beq]
theorem q_scr_lst {p : List T} {r : List T} : eqT (.scr p) (.lst r) = eqTs p r := by simp [eqT, toD, PyData.eqv, eqAll_eq, str_beq]
theorem q_scr_scr {p : List T} {r : List T} : eqT (.scr p) (.scr r) = eqTs p r := by simp [eqT, toD, PyData.eqv, eqAll_eq, str_beq]
theorem q_nil : eqTs [] [] = true := rfl
theorem q_cons {x y : T} {xs ys : List T} : eqTs (x :: xs) (y :: ys) = (eqT x y && eqTs xs ys) := rfl
theorem q_nilc {y : T} {ys : List T} : eqTs [] (y :: ys) = false := rfl
theorem q_consn {x : T} {xs : List T} : eqTs (x :: xs) [] = false := rfl
theorem opEq_non_non {S : Sto} : opEq (.non) (.non) S = .ok (.bl (eqT (.non) (.non))) S := opEq_dat rfl rfl (.inl (show (0 : Nat) ≤ 60 by omega))
theorem opNe_non_non {S : Sto} : opNe (.non) (.non) S = .ok (.bl (!eqT (.non) (.non))) S := opNe_dat rfl rfl (.inl (show (0 : Nat) ≤ 60 by omega))
theorem opEq_non_bl {r : Bool} {S : Sto} : opEq (.non) (.bl r) S = .ok (.bl (eqT (.non) (.bl r))) S := opEq_dat rfl rfl (.inl (show (0 : Nat) ≤ 60 by omega))
theorem opNe_non_bl {r : Bool} {S : Sto} : opNe (.non) (.bl r) S = .ok (.bl (!eqT (.non) (.bl r))) S := opNe_dat rfl rfl (.inl (show (0 : Nat) ≤ 60 by omega))
theorem opEq_non_int {r : Int} {S : Sto} : opEq (.non) (.int r) S = .ok (.bl (eqT (.non) (.int r))) S := opEq_dat rfl rfl (.inl (show (0 : Nat) ≤ 60 by omega))
theorem opNe_non_int {r : Int} {S : Sto} : opNe (.non) (.int r) S = .ok (.bl (!eqT (.non) (.int r))) S := opNe_dat rfl rfl (.inl (show (0 : Nat) ≤ 60 by omega))
theorem opEq_non_str {r : String} {S : Sto} : opEq (.non) (.str r) S = .ok (.bl (eqT (.non) (.str r))) S := opEq_dat rfl rfl (.inl (show (0 : Nat) ≤ 60 by omega))
theorem opNe_non_str {r : String} {S : Sto} : opNe (.non) (.str r) S = .ok (.bl (!eqT (.non) (.str r))) S := opNe_dat rfl rfl (.inl (show (0 : Nat) ≤ 60 by omega))
theorem opEq_bl_non {p : Bool} {S : Sto} : opEq (.bl p) (.non) S = .ok (.bl (eqT (.bl p) (.non))) S := opEq_dat rfl rfl (.inl (show (0 : Nat) ≤ 60 by omega))
theorem opNe_bl_non {p : Bool} {S : Sto} : opNe (.bl p) (.non) S = .ok (.bl (!eqT (.bl p) (.non))) S := opNe_dat rfl rfl (.inl (show (0 : Nat) ≤ 60 by omega))
theorem opEq_bl_bl {p : Bool} {r : Bool} {S : Sto} : opEq (.bl p) (.bl r) S = .ok (.bl (eqT (.bl p) (.bl r))) S := opEq_dat rfl rfl (.inl (show (0 : Nat) ≤ 60 by omega))
theorem opNe_bl_bl {p : Bool} {r : Bool} {S : Sto} : opNe (.bl p) (.bl r) S = .ok (.bl (!eqT (.bl p) (.bl r))) S := opNe_dat rfl rfl (.inl (show (0 : Nat) ≤ 60 by omega))
theorem opEq_bl_int {p : Bool} {r : Int} {S : Sto} : opEq (.bl p) (.int r) S = .ok (.bl (eqT (.bl p) (.int r))) S := opEq_dat rfl rfl (.inl (show (0 : Nat) ≤ 60 by omega))
theorem opNe_bl_int {p : Bool} {r : Int} {S : Sto} : opNe (.bl p) (.int r) S = .ok (.bl (!eqT (.bl p) (.int r))) S := opNe_dat rfl rfl (.inl (show (0 : Nat) ≤ 60 by omega))
theorem opEq_bl_str {p : Bool} {r : String} {S : Sto} : opEq (.bl p) (.str r) S = .ok (.bl (eqT (.bl p) (.str r))) S := opEq_dat rfl rfl (.inl (show (0 : Nat) ≤ 60 by omega))
theorem opNe_bl_str {p : Bool} {r : String} {S : Sto} : opNe (.bl p) (.str r) S = .ok (.bl (!eqT (.bl p) (.str r))) S := opNe_dat rfl rfl (.inl (show (0 : Nat) ≤ 60 by omega))
theorem opEq_int_non {p : Int} {S : Sto} : opEq (.int p) (.non) S = .ok (.bl (eqT (.int p) (.non))) S := opEq_dat rfl rfl (.inl (show (0 : Nat) ≤ 60 by omega))
theorem opNe_int_non {p : Int} {S : Sto} : opNe (.int p) (.non) S = .ok (.bl (!eqT (.int p) (.non))) S := opNe_dat rfl rfl (.inl (show (0 : Nat) ≤ 60 by omega))
theorem opEq_int_bl {p : Int} {r : Bool} {S : Sto} : opEq (.int p) (.bl r) S = .ok (.bl (eqT (.int p) (.bl r))) S := opEq_dat rfl rfl (.inl (show (0 : Nat) ≤ 60 by omega))
theorem opNe_int_bl {p : Int} {r : Bool} {S : Sto} : opNe (.int p) (.bl r) S = .ok (.bl (!eqT (.int p) (.bl r))) S := opNe_dat rfl rfl (.inl (show (0 : Nat) ≤ 60 by omega))
theorem opEq_int_int {p : Int} {r : Int} {S : Sto} : opEq (.int p) (.int r) S = .ok (.bl (eqT (.int p) (.int r))) S := opEq_dat rfl rfl (.inl (show (0 : Nat) ≤ 60 by omega))
theorem opNe_int_int {p : Int} {r : Int} {S : Sto} : opNe (.int p) (.int r) S = .ok (.bl (!eqT (.int p) (.int r))) S := opNe_dat rfl rfl (.inl (show (0 : Nat) ≤ 60 by omega))
theorem opEq_int_str {p : Int} {r : String} {S : Sto} : opEq (.int p) (.str r) S = .ok (.bl (eqT (.int p) (.str r))) S := opEq_dat rfl rfl (.inl (show (0 : Nat) ≤ 60 by omega))
theorem opNe_int_str {p : Int} {r : String} {S : Sto} : opNe (.int p) (.str r) S = .ok (.bl (!eqT (.int p) (.str r))) S := opNe_dat rfl rfl (.inl (show (0 : Nat) ≤ 60 by omega))
theorem opEq_str_non {p : String} {S : Sto} : opEq (.str p) (.non) S = .ok (.bl (eqT (.str p) (.non))) S := opEq_dat rfl rfl (.inl (show (0 : Nat) ≤ 60 by omega))
theorem opNe_str_non {p : String} {S : Sto} : opNe (.str p) (.non) S = .ok (.bl (!eqT (.str p) (.non))) S := opNe_dat rfl rfl (.inl (show (0 : Nat) ≤ 60 by omega))
theorem opEq_str_bl {p : String} {r : Bool} {S : Sto} : opEq (.str p) (.bl r) S = .ok (.bl (eqT (.str p) (.bl r))) S := opEq_dat rfl rfl (.inl (show (0 : Nat) ≤ 60 by omega))
theorem opNe_str_bl {p : String} {r : Bool} {S : Sto} : opNe (.str p) (.bl r) S = .ok (.bl (!eqT (.str p) (.bl r))) S := opNe_dat rfl rfl (.inl (show (0 : Nat) ≤ 60 by omega))
theorem opEq_str_int {p : String} {r : Int} {S : Sto} : opEq (.str p) (.int r) S = .ok (.bl (eqT (.str p) (.int r))) S := opEq_dat rfl rfl (.inl (show (0 : Nat) ≤ 60 by omega))
theorem opNe_str_int {p : String} {r : Int} {S : Sto} : opNe (.str p) (.int r) S = .ok (.bl (!eqT (.str p) (.int r))) S := opNe_dat rfl rfl (.inl (show (0 : Nat) ≤ 60 by omega))
theorem opEq_str_str {p : String} {r : String} {S : Sto} : opEq (.str p) (.str r) S = .ok (.bl (eqT (.str p) (.str r))) S := opEq_dat rfl rfl (.inl (show (0 : Nat) ≤ 60 by omega))
theorem opNe_str_str {p : String} {r : String} {S : Sto} : opNe (.str p) (.str r) S = .ok (.bl (!eqT (.str p) (.str r))) S := opNe_dat rfl rfl (.inl (show (0 : Nat) ≤ 60 by omega))
theorem opEq_non_tup {ts : List T} {S : Sto} (h : dats ts = true) : opEq (.non) (.tup ts) S = .ok (.bl false) S := by rw [opEq_dat (by rfl) (by simpa [dat] using h) (.inl (by show (0 : Nat) ≤ 60; omega))]; simp [q_non_tup]
theorem opEq_tup_non {ts : List T} {S : Sto} (h : dats ts = true) : opEq (.tup ts) (.non) S = .ok (.bl false) S := by rw [opEq_dat (by simpa [dat] using h) (by rfl) (.inr (by show (0 : Nat) ≤ 60; omega))]; simp [q_tup_non]
theorem opNe_non_tup {ts : List T} {S : Sto} (h : dats ts = true) : opNe (.non) (.tup ts) S = .ok (.bl true) S := by rw [opNe_dat (by rfl) (by simpa [dat] using h) (.inl (by show (0 : Nat) ≤ 60; omega))]; simp [q_non_tup]
theorem opNe_tup_non {ts : List T} {S : Sto} (h : dats ts = true) : opNe (.tup ts) (.non) S = .ok (.bl true) S := by rw [opNe_dat (by simpa [dat] using h) (by rfl) (.inr (by show (0 : Nat) ≤ 60; omega))]; simp [q_tup_non]
theorem opEq_non_tupk {ts : List T} {S : Sto} (h : dats ts = true) : opEq (.non) (.tupk ts) S = .ok (.bl false) S := by rw [opEq_dat (by rfl) (by simpa [dat] using h) (.inl (by show (0 : Nat) ≤ 60; omega))]; simp [q_non_tupk]
theorem opEq_tupk_non {ts : List T} {S : Sto} (h : dats ts = true) : opEq (.tupk ts) (.non) S = .ok (.bl false) S := by rw [opEq_dat (by simpa [dat] using h) (by rfl) (.inr (by show (0 : Nat) ≤ 60; omega))]; simp [q_tupk_non]
theorem opNe_non_tupk {ts : List T} {S : Sto} (h : dats ts = true) : opNe (.non) (.tupk ts) S = .ok (.bl true) S := by rw [opNe_dat (by rfl) (by simpa [dat] using h) (.inl (by show (0 : Nat) ≤ 60; omega))]; simp [q_non_tupk]
theorem opNe_tupk_non {ts : List T} {S : Sto} (h : dats ts = true) : opNe (.tupk ts) (.non) S = .ok (.bl true) S := by rw [opNe_dat (by simpa [dat] using h) (by rfl) (.inr (by show (0 : Nat) ≤ 60; omega))]; simp [q_tupk_non]
theorem opEq_non_lst {ts : List T} {S : Sto} (h : dats ts = true) : opEq (.non) (.lst ts) S = .ok (.bl false) S := by rw [opEq_dat (by rfl) (by simpa [dat] using h) (.inl (by show (0 : Nat) ≤ 60; omega))]; simp [q_non_lst]
theorem opEq_lst_non {ts : List T} {S : Sto} (h : dats ts = true) : opEq (.lst ts) (.non) S = .ok (.bl false) S := by rw [opEq_dat (by simpa [dat] using h) (by rfl) (.inr (by show (0 : Nat) ≤ 60; omega))]; simp [q_lst_non]
theorem opNe_non_lst {ts : List T} {S : Sto} (h : dats ts = true) : opNe (.non) (.lst ts) S = .ok (.bl true) S := by rw [opNe_dat (by rfl) (by simpa [dat] using h) (.inl (by show (0 : Nat) ≤ 60; omega))]; simp [q_non_lst]
theorem opNe_lst_non {ts : List T} {S : Sto} (h : dats ts = true) : opNe (.lst ts) (.non) S = .ok (.bl true) S := by rw [opNe_dat (by simpa [dat] using h) (by rfl) (.inr (by show (0 : Nat) ≤ 60; omega))]; simp [q_lst_non]
theorem opEq_bl_tup {p : Bool} {ts : List T} {S : Sto} (h : dats ts = true) : opEq (.bl p) (.tup ts) S = .ok (.bl false) S := by rw [opEq_dat (by rfl) (by simpa [dat] using h) (.inl (by show (0 : Nat) ≤ 60; omega))]; simp [q_bl_tup]
theorem opEq_tup_bl {p : Bool} {ts : List T} {S : Sto} (h : dats ts = true) : opEq (.tup ts) (.bl p) S = .ok (.bl false) S := by rw [opEq_dat (by simpa [dat] using h) (by rfl) (.inr (by show (0 : Nat) ≤ 60; omega))]; simp [q_tup_bl]
theorem opNe_bl_tup {p : Bool} {ts : List T} {S : Sto} (h : dats ts = true) : opNe (.bl p) (.tup ts) S = .ok (.bl true) S := by rw [opNe_dat (by rfl) (by simpa [dat] using h) (.inl (by show (0 : Nat) ≤ 60; omega))]; simp [q_bl_tup]
theorem opNe_tup_bl {p : Bool} {ts : List T} {S : Sto} (h : dats ts = true) : opNe (.tup ts) (.bl p) S = .ok (.bl true) S := by rw [opNe_dat (by simpa [dat] using h) (by rfl) (.inr (by show (0 : Nat) ≤ 60; omega))]; simp [q_tup_bl]
theorem opEq_bl_tupk {p : Bool} {ts : List T} {S : Sto} (h : dats ts = true) : opEq (.bl p) (.tupk ts) S = .ok (.bl false) S := by rw [opEq_dat (by rfl) (by simpa [dat] using h) (.inl (by show (0 : Nat) ≤ 60; omega))]; simp [q_bl_tupk]
theorem opEq_tupk_bl {p : Bool} {ts : List T} {S : Sto} (h : dats ts = true) : opEq (.tupk ts) (.bl p) S = .ok (.bl false) S := by rw [opEq_dat (by simpa [dat] using h) (by rfl) (.inr (by show (0 : Nat) ≤ 60; omega))]; simp [q_tupk_bl]
theorem opNe_bl_tupk {p : Bool} {ts : List T} {S : Sto} (h : dats ts = true) : opNe (.bl p) (.tupk ts) S = .ok (.bl true) S := by rw [opNe_dat (by rfl) (by simpa [dat] using h) (.inl (by show (0 : Nat) ≤ 60; omega))]; simp [q_bl_tupk]
theorem opNe_tupk_bl {p : Bool} {ts : List T} {S : Sto} (h : dats ts = true) : opNe (.tupk ts) (.bl p) S = .ok (.bl true) S := by rw [opNe_dat (by simpa [dat] using h) (by rfl) (.inr (by show (0 : Nat) ≤ 60; omega))]; simp [q_tupk_bl]
theorem opEq_bl_lst {p : Bool} {ts : List T} {S : Sto} (h : dats ts = true) : opEq (.bl p) (.lst ts) S = .ok (.bl false) S := by rw [opEq_dat (by rfl) (by simpa [dat] using h) (.inl (by show (0 : Nat) ≤ 60; omega))]; simp [q_bl_lst]
theorem opEq_lst_bl {p : Bool} {ts : List T} {S : Sto} (h : dats ts = true) : opEq (.lst ts) (.bl p) S = .ok (.bl false) S := by rw [opEq_dat (by simpa [dat] using h) (by rfl) (.inr (by show (0 : Nat) ≤ 60; omega))]; simp [q_lst_bl]
theorem opNe_bl_lst {p : Bool} {ts : List T} {S : Sto} (h : dats ts = true) : opNe (.bl p) (.lst ts) S = .ok (.bl true) S := by rw [opNe_dat (by rfl) (by simpa [dat] using h) (.inl (by show (0 : Nat) ≤ 60; omega))]; simp [q_bl_lst]
theorem opNe_lst_bl {p : Bool} {ts : List T} {S : Sto} (h : dats ts = true) : opNe (.lst ts) (.bl p) S = .ok (.bl true) S := by rw [opNe_dat (by simpa [dat] using h) (by rfl) (.inr (by show (0 : Nat) ≤ 60; omega))]; simp [q_lst_bl]
theorem opEq_int_tup {p : Int} {ts : List T} {S : Sto} (h : dats ts = true) : opEq (.int p) (.tup ts) S = .ok (.bl false) S := by rw [opEq_dat (by rfl) (by simpa [dat] using h) (.inl (by show (0 : Nat) ≤ 60; omega))]; simp [q_int_tup]
theorem opEq_tup_int {p : Int} {ts : List T} {S : Sto} (h : dats ts = true) : opEq (.tup ts) (.int p) S = .ok (.bl false) S := by rw [opEq_dat (by simpa [dat] using h) (by rfl) (.inr (by show (0 : Nat) ≤ 60; omega))]; simp [q_tup_int]
theorem opNe_int_tup {p : Int} {ts : List T} {S : Sto} (h : dats ts = true) : opNe (.int p) (.tup ts) S = .ok (.bl true) S := by rw [opNe_dat (by rfl) (by simpa [dat] using h) (.inl (by show (0 : Nat) ≤ 60; omega))]; simp [q_int_tup]
theorem opNe_tup_int {p : Int} {ts : List T} {S : Sto} (h : dats ts = true) : opNe (.tup ts) (.int p) S = .ok (.bl true) S := by rw [opNe_dat (by simpa [dat] using h) (by rfl) (.inr (by show (0 : Nat) ≤ 60; omega))]; simp [q_tup_int]
theorem opEq_int_tupk {p : Int} {ts : List T} {S : Sto} (h : dats ts = true) : opEq (.int p) (.tupk ts) S = .ok (.bl false) S := by rw [opEq_dat (by rfl) (by simpa [dat] using h) (.inl (by show (0 : Nat) ≤ 60; omega))]; simp [q_int_tupk]
theorem opEq_tupk_int {p : Int} {ts : List T} {S : Sto} (h : dats ts = true) : opEq (.tupk ts) (.int p) S = .ok (.bl false) S := by rw [opEq_dat (by simpa [dat] using h) (by rfl) (.inr (by show (0 : Nat) ≤ 60; omega))]; simp [q_tupk_int]
theorem opNe_int_tupk {p : Int} {ts : List T} {S : Sto} (h : dats ts = true) : opNe (.int p) (.tupk ts) S = .ok (.bl true) S := by rw [opNe_dat (by rfl) (by simpa [dat] using h) (.inl (by show (0 : Nat) ≤ 60; omega))]; simp [q_int_tupk]
theorem opNe_tupk_int {p : Int} {ts : List T} {S : Sto} (h : dats ts = true) : opNe (.tupk ts) (.int p) S = .ok (.bl true) S := by rw [opNe_dat (by simpa [dat] using h) (by rfl) (.inr (by show (0 : Nat) ≤ 60; omega))]; simp [q_tupk_int]
theorem opEq_int_lst {p : Int} {ts : List T} {S : Sto} (h : dats ts = true) : opEq (.int p) (.lst ts) S = .ok (.bl false) S := by rw [opEq_dat (by rfl) (by simpa [dat] using h) (.inl (by show (0 : Nat) ≤ 60; omega))]; simp [q_int_lst]
theorem opEq_lst_int {p : Int} {ts : List T} {S : Sto} (h : dats ts = true) : opEq (.lst ts) (.int p) S = .ok (.bl false) S := by rw [opEq_dat (by simpa [dat] using h) (by rfl) (.inr (by show (0 : Nat) ≤ 60; omega))]; simp [q_lst_int]
theorem opNe_int_lst {p : Int} {ts : List T} {S : Sto} (h : dats ts = true) : opNe (.int p) (.lst ts) S = .ok (.bl true) S := by rw [opNe_dat (by rfl) (by simpa [dat] using h) (.inl (by show (0 : Nat) ≤ 60; omega))]; simp [q_int_lst]
theorem opNe_lst_int {p : Int} {ts : List T} {S : Sto} (h : dats ts = true) : opNe (.lst ts) (.int p) S = .ok (.bl true) S := by rw [opNe_dat (by simpa [dat] using h) (by rfl) (.inr (by show (0 : Nat) ≤ 60; omega))]; simp [q_lst_int]
theorem opEq_str_tup {p : String} {ts : List T} {S : Sto} (h : dats ts = true) : opEq (.str p) (.tup ts) S = .ok (.bl false) S := by rw [opEq_dat (by rfl) (by simpa [dat] using h) (.inl (by show (0 : Nat) ≤ 60; omega))]; simp [q_str_tup]
theorem opEq_tup_str {p : String} {ts : List T} {S : Sto} (h : dats ts = true) : opEq (.tup ts) (.str p) S = .ok (.bl false) S := by rw [opEq_dat (by simpa [dat] using h) (by rfl) (.inr (by show (0 : Nat) ≤ 60; omega))]; simp [q_tup_str]
theorem opNe_str_tup {p : String} {ts : List T} {S : Sto} (h : dats ts = true) : opNe (.str p) (.tup ts) S = .ok (.bl true) S := by rw [opNe_dat (by rfl) (by simpa [dat] using h) (.inl (by show (0 : Nat) ≤ 60; omega))]; simp [q_str_tup]
theorem opNe_tup_str {p : String} {ts : List T} {S : Sto} (h : dats ts = true) : opNe (.tup ts) (.str p) S = .ok (.bl true) S := by rw [opNe_dat (by simpa [dat] using h) (by rfl) (.inr (by show (0 : Nat) ≤ 60; omega))]; simp [q_tup_str]
theorem opEq_str_tupk {p : String} {ts : List T} {S : Sto} (h : dats ts = true) : opEq (.str p) (.tupk ts) S = .ok (.bl false) S := by rw [opEq_dat (by rfl) (by simpa [dat] using h) (.inl (by show (0 : Nat) ≤ 60; omega))]; simp [q_str_tupk]
theorem opEq_tupk_str {p : String} {ts : List T} {S : Sto} (h : dats ts = true) : opEq (.tupk ts) (.str p) S = .ok (.bl false) S := by rw [opEq_dat (by simpa [dat] using h) (by rfl) (.inr (by show (0 : Nat) ≤ 60; omega))]; simp [q_tupk_str]
theorem opNe_str_tupk {p : String} {ts : List T} {S : Sto} (h : dats ts = true) : opNe (.str p) (.tupk ts) S = .ok (.bl true) S := by rw [opNe_dat (by rfl) (by simpa [dat] using h) (.inl (by show (0 : Nat) ≤ 60; omega))]; simp [q_str_tupk]
theorem opNe_tupk_str {p : String} {ts : List T} {S : Sto} (h : dats ts = true) : opNe (.tupk ts) (.str p) S = .ok (.bl true) S := by rw [opNe_dat (by simpa [dat] using h) (by rfl) (.inr (by show (0 : Nat) ≤ 60; omega))]; simp [q_tupk_str]
theorem opEq_str_lst {p : String} {ts : List T} {S : Sto} (h : dats ts = true) : opEq (.str p) (.lst ts) S = .ok (.bl false) S := by rw [opEq_dat (by rfl) (by simpa [dat] using h) (.inl (by show (0 : Nat) ≤ 60; omega))]; simp [q_str_lst]
theorem opEq_lst_str {p : String} {ts : List T} {S : Sto} (h : dats ts = true) : opEq (.lst ts) (.str p) S = .ok (.bl false) S := by rw [opEq_dat (by simpa [dat] using h) (by rfl) (.inr (by show (0 : Nat) ≤ 60; omega))]; simp [q_lst_str]
theorem opNe_str_lst {p : String} {ts : List T} {S : Sto} (h : dats ts = true) : opNe (.str p) (.lst ts) S = .ok (.bl true) S := by rw [opNe_dat (by rfl) (by simpa [dat] using h) (.inl (by show (0 : Nat) ≤ 60; omega))]; simp [q_str_lst]
theorem opNe_lst_str {p : String} {ts : List T} {S : Sto} (h : dats ts = true) : opNe (.lst ts) (.str p) S = .ok (.bl true) S := by rw [opNe_dat (by simpa [dat] using h) (by rfl) (.inr (by show (0 : Nat) ≤ 60; omega))]; simp [q_lst_str]
theorem sizeLine_lit : sizeLine = 16777216 := rfl
theorem line_small {n : Nat} (h : n ≤ 100000) : (n ≤ sizeLine) = True := eq_true (Nat.le_trans h (by decide))
theorem atI_nat {α : Type} (l : List α) (k : Nat) : atI l (k : Int) = l[k]? := by
  unfold atI ixN
  rw [if_pos (Int.natCast_nonneg k)]
  by_cases h : k < l.length
  · rw [if_pos (by omega)]; rfl
  · rw [if_neg (by omega), List.getElem?_eq_none (by omega)]; rfl
theorem ixN_nat (n k : Nat) : ixN n (k : Int) = if k < n then some k else none := by
  unfold ixN
  rw [if_pos (Int.natCast_nonneg k)]
  by_cases h : k < n
  · rw [if_pos h, if_pos (by omega)]; rfl
  · rw [if_neg h, if_neg (by omega)]
theorem ixN_lit (n k : Nat) : ixN n (no_index (OfNat.ofNat k) : Int) = if k < n then some k else none := ixN_nat n k
theorem atI_lit {α : Type} (l : List α) (k : Nat) : atI l (no_index (OfNat.ofNat k) : Int) = l[k]? := atI_nat l k
theorem atI_m1 {α : Type} (l : List α) : atI l (-1) = l[l.length - 1]? := by
  unfold atI ixN
  rw [if_neg (by decide)]
  cases l with
  | nil => rfl
  | cons x xs =>
    rw [if_pos (by simp; omega)]
    show (x :: xs)[(-1 + ((x :: xs).length : Int)).toNat]? = _
    congr 1
    simp; omega
theorem dep_zero {t : T} (h : dep t = 0) : dep t ≤ 60 := by omega
theorem lcL_pure {ck : Option (Nat × O)} {i : Nat} {c : AT} {e : AE} {st : Slots} {S : Sto} {p : T → Bool} {f : T → T} (hk : okC ck S) : ∀ {l acc : List T}, (∀ t ∈ l, c (st.set i (some t)) S = .ok (p t) S) → (∀ t ∈ l, p t = true → e (st.set i (some t)) S = .ok (f t) S) → acc.length + l.length ≤ sizeLine → lcL ck i c e st l acc S = .ok (acc ++ (l.filter p).map f) S
  | [], acc, _, _, _ => by rw [lcL_nil _ _ _ _ _ _ _ hk]; simp
  | t :: l, acc, hc, he, hl => by
    have hl' : acc.length + (l.length + 1) ≤ sizeLine := hl
    rw [lcL_cons _ _ _ _ _ _ _ _ _ hk, hc t List.mem_cons_self]
    show lc1 ck i c e st t l acc (p t) S = _
    unfold lc1
    cases q : p t with
    | false =>
      rw [if_neg Bool.false_ne_true, lcL_pure hk (fun u hu => hc u (List.mem_cons_of_mem _ hu)) (fun u hu => he u (List.mem_cons_of_mem _ hu)) (by omega), List.filter_cons_of_neg (by simp [q])]
    | true =>
      rw [if_pos rfl, he t List.mem_cons_self q]
      show lc2 ck i c e st l acc (f t) S = _
      unfold lc2
      rw [if_pos (by omega), lcL_pure hk (fun u hu => hc u (List.mem_cons_of_mem _ hu)) (fun u hu => he u (List.mem_cons_of_mem _ hu)) (by rw [List.length_append]; show acc.length + 1 + l.length ≤ _; omega), List.filter_cons_of_pos q, List.map_cons, List.append_assoc]
      rfl
theorem lcL_map {ck : Option (Nat × O)} {i : Nat} {e : AE} {st : Slots} {S : Sto} {f : T → T} {l acc : List T} (hk : okC ck S) (he : ∀ t ∈ l, e (st.set i (some t)) S = .ok (f t) S) (hl : acc.length + l.length ≤ sizeLine) : lcL ck i mYes e st l acc S = .ok (acc ++ l.map f) S := by
  rw [lcL_pure (p := fun _ => true) hk (fun _ _ => rfl) (fun t ht _ => he t ht) hl, List.filter_eq_self.mpr (fun _ _ => rfl)]
def isPl : T → Bool
  | .non => true
  | .bl _ => true
  | .int _ => true
  | .str _ => true
  | _ => false
def Goes (Q : Slots → Sto → Prop) : RS → Prop
  | .nx st S => Q st S
  | .ct st S => Q st S
  | _ => False
theorem Goes.out {Q : Slots → Sto → Prop} : ∀ {r : RS}, Goes Q r → ∃ st' S', (r = .nx st' S' ∨ r = .ct st' S') ∧ Q st' S'
  | .nx st S, h => ⟨st, S, .inl rfl, h⟩
  | .ct st S, h => ⟨st, S, .inr rfl, h⟩
theorem forL_inv {ck : Option (Nat × O)} {g : MG} {b : AS} {l : List T} {st : Slots} {S : Sto} (P : List T → Slots → Sto → Prop) (h0 : P [] st S) (hck : ∀ pre st S, P pre st S → okC ck S)
    (h : ∀ pre t suf st S, l = pre ++ t :: suf → P pre st S → Goes (P (pre ++ [t])) (fstep g b t st S)) : ∃ st' S', forL ck g b l st S = .nx st' S' ∧ P l st' S' := by
  have go : ∀ (suf pre : List T) (st : Slots) (S : Sto), l = pre ++ suf → P pre st S → ∃ st' S', forL ck g b suf st S = .nx st' S' ∧ P l st' S' := by
    intro suf
    induction suf with
    | nil => intro pre st S e p; rw [List.append_nil] at e; subst e; exact ⟨st, S, forL_nil _ _ _ _ _ (hck _ _ _ p), p⟩
    | cons t suf ih =>
      intro pre st S e p
      obtain ⟨st1, S1, e1, p1⟩ := (h pre t suf st S e p).out
      rw [forL_step _ _ _ _ _ _ _ (hck _ _ _ p) e1]
      exact ih (pre ++ [t]) st1 S1 (by rw [e]; simp) p1
  exact go l [] st S rfl h0
theorem rngT_len (i j : Int) : (rngT i j).length = (j - i).toNat := by simp [rngT]
theorem forL_rng {g : MG} {b : AS} {i j : Int} {st : Slots} {S : Sto} (P : Nat → Slots → Sto → Prop) (h0 : P 0 st S)
    (h : ∀ (k : Nat) st S, k < (j - i).toNat → P k st S → Goes (P (k + 1)) (fstep g b (.int (i + k)) st S)) : ∃ st' S', forL none g b (rngT i j) st S = .nx st' S' ∧ P (j - i).toNat st' S' := by
  obtain ⟨st', S', e, p⟩ := forL_inv (ck := none) (g := g) (b := b) (l := rngT i j) (st := st) (S := S) (fun pre st S => P pre.length st S) h0 (fun _ _ _ _ => trivial) fun pre t suf st S e p => by
    have hl : pre.length < (j - i).toNat := by rw [← rngT_len, e]; simp
    have ht : t = .int (i + (pre.length : Nat)) := by
      have e1 : (rngT i j)[pre.length]? = some t := by rw [e]; simp
      unfold rngT at e1
      rw [List.getElem?_map, List.getElem?_range hl] at e1
      exact (Option.some.inj e1).symm
    subst ht
    have := h pre.length st S hl p
    have e2 : (pre ++ [(T.int (i + (pre.length : Nat)))]).length = pre.length + 1 := by simp
    show Goes (fun st S => P _ st S) _
    rw [e2]
    exact this
  exact ⟨st', S', e, by rw [← rngT_len]; exact p⟩
theorem use_rng {C : RS → Prop} {g : MG} {b : AS} {i j : Int} {st : Slots} {S : Sto} (P : Nat → Slots → Sto → Prop) (h0 : P 0 st S)
    (h : ∀ (k : Nat) st S, k < (j - i).toNat → P k st S → Goes (P (k + 1)) (fstep g b (.int (i + k)) st S))
    (k : ∀ st' S', P (j - i).toNat st' S' → C (RS.nx st' S')) : C (forL none g b (rngT i j) st S) := by
  obtain ⟨st', S', e, p⟩ := forL_rng P h0 h
  rw [e]
  exact k _ _ p
theorem use_lst {C : RS → Prop} {g : MG} {b : AS} {l : List T} {st : Slots} {S : Sto} (P : List T → Slots → Sto → Prop) (h0 : P [] st S)
    (h : ∀ pre t suf st S, l = pre ++ t :: suf → P pre st S → Goes (P (pre ++ [t])) (fstep g b t st S))
    (k : ∀ st' S', P l st' S' → C (RS.nx st' S')) : C (forL none g b l st S) := by
  obtain ⟨st', S', e, p⟩ := forL_inv (ck := none) P h0 (fun _ _ _ _ => trivial) h
  rw [e]
  exact k _ _ p
theorem use_stm {C : RS → Prop} {r : RS} (Q : Slots → Sto → Prop) (h : ∃ st' S', r = .nx st' S' ∧ Q st' S') (k : ∀ st' S', Q st' S' → C (RS.nx st' S')) : C r := by
  obtain ⟨st', S', e, q⟩ := h
  rw [e]
  exact k _ _ q
/-- the answer of a def, from the middle of its body -/
def Ends (Q : T → Sto → Prop) (r : R T) : Prop := ∃ v Z, r = .ok v Z ∧ Q v Z
def EndC (rest : AS) (v : T) (r : RS) : Prop := ∃ Z, defK (r.seq rest) = .ok v Z
theorem plain_eq {t : T} (h : isPl t = true) : eqT t t = true := by
  cases t <;> simp [isPl] at h <;> simp [q_non_non, q_bl_bl, q_int_int, q_str_str]
theorem eqTs_refl : ∀ {l : List T}, (∀ t ∈ l, eqT t t = true) → eqTs l l = true
  | [], _ => rfl
  | t :: l, h => by rw [q_cons, h t List.mem_cons_self, eqTs_refl fun u hu => h u (List.mem_cons_of_mem _ hu)]; rfl
theorem eqT_tup {l : List T} (h : ∀ t ∈ l, eqT t t = true) : eqT (.tup l) (.tup l) = true := by rw [q_tup_tup, eqTs_refl h]
theorem eqT_lst {l : List T} (h : ∀ t ∈ l, eqT t t = true) : eqT (.lst l) (.lst l) = true := by rw [q_lst_lst, eqTs_refl h]
theorem dats_mem {l : List T} (h : ∀ t ∈ l, dat t = true) : dats l = true := by rw [dats_all, List.all_eq_true]; exact h
theorem dat_tup {l : List T} (h : ∀ t ∈ l, dat t = true) : dat (.tup l) = true := by show dats l = true; exact dats_mem h
theorem dat_lst {l : List T} (h : ∀ t ∈ l, dat t = true) : dat (.lst l) = true := by show dats l = true; exact dats_mem h
theorem deps_le {n : Nat} : ∀ {l : List T}, (∀ t ∈ l, dep t ≤ n) → deps l ≤ n
  | [], _ => by show (0 : Nat) ≤ n; omega
  | t :: l, h => by
    have h1 := h t List.mem_cons_self
    have h2 := deps_le (n := n) fun u hu => h u (List.mem_cons_of_mem _ hu)
    unfold deps at *
    unfold dep at h1
    rw [toDs]
    simp only [PyData.depthAll]
    omega
theorem dep_tup {n : Nat} {l : List T} (h : ∀ t ∈ l, dep t ≤ n) : dep (.tup l) ≤ n + 1 := by
  have := deps_le h
  unfold deps at this
  unfold dep
  rw [toD]
  simp only [PyData.depth]
  omega
theorem dep_lst {n : Nat} {l : List T} (h : ∀ t ∈ l, dep t ≤ n) : dep (.lst l) ≤ n + 1 := by
  have := deps_le h
  unfold deps at this
  unfold dep
  rw [toD]
  simp only [PyData.depth]
  omega
theorem e_isBe {a b : String} : isB a b = (decide (a = b) || (decide (a = "bool") && decide (b = "int"))) := by unfold isB; congr 1
theorem e_tys {k : String} : (k ∈ tys) = (k = "int" ∨ k = "bool" ∨ k = "str" ∨ k = "tuple" ∨ k = "list" ∨ k = "dict") := by simp [tys]
theorem dt_non : (dat .non = true) = True := eq_true rfl
theorem dt_bl {r : Bool} : (dat (.bl r) = true) = True := eq_true rfl
theorem dt_int {r : Int} : (dat (.int r) = true) = True := eq_true rfl
theorem dt_str {r : String} : (dat (.str r) = true) = True := eq_true rfl
theorem dt_tup {l : List T} : (dat (.tup l) = true) = (dats l = true) := propext Iff.rfl
theorem dt_tupk {l : List T} : (dat (.tupk l) = true) = (dats l = true) := propext Iff.rfl
theorem dt_lst {l : List T} : (dat (.lst l) = true) = (dats l = true) := propext Iff.rfl
theorem dt_nil : (dats [] = true) = True := eq_true rfl
theorem dt_cons {t : T} {l : List T} : (dats (t :: l) = true) = (dat t = true ∧ dats l = true) := by rw [dats, Bool.and_eq_true]
theorem dp_non {n : Nat} : (dep .non ≤ n) = True := eq_true (Nat.zero_le n)
theorem dp_bl {r : Bool} {n : Nat} : (dep (.bl r) ≤ n) = True := eq_true (Nat.zero_le n)
theorem dp_int {r : Int} {n : Nat} : (dep (.int r) ≤ n) = True := eq_true (Nat.zero_le n)
theorem dp_str {r : String} {n : Nat} : (dep (.str r) ≤ n) = True := eq_true (Nat.zero_le n)
theorem dp_tup {l : List T} {n : Nat} : (dep (.tup l) ≤ n + 1) = (deps l ≤ n) := by unfold dep deps; rw [toD]; simp only [PyData.depth]; exact propext ⟨fun h => by omega, fun h => by omega⟩
theorem dp_tupk {l : List T} {n : Nat} : (dep (.tupk l) ≤ n + 1) = (deps l ≤ n) := by unfold dep deps; rw [toD]; simp only [PyData.depth]; exact propext ⟨fun h => by omega, fun h => by omega⟩
theorem dp_lst {l : List T} {n : Nat} : (dep (.lst l) ≤ n + 1) = (deps l ≤ n) := by unfold dep deps; rw [toD]; simp only [PyData.depth]; exact propext ⟨fun h => by omega, fun h => by omega⟩
theorem dp_nil {n : Nat} : (deps [] ≤ n) = True := eq_true (Nat.zero_le n)
theorem dp_cons {t : T} {l : List T} {n : Nat} : (deps (t :: l) ≤ n) = (dep t ≤ n ∧ deps l ≤ n) := by unfold deps dep; rw [toDs]; simp only [PyData.depthAll]; exact propext ⟨fun h => by omega, fun h => by omega⟩
theorem opEq_tup_tup {l m : List T} {S : Sto} (h1 : dats l = true) (h2 : dats m = true) (h3 : deps m ≤ 59) : opEq (.tup l) (.tup m) S = .ok (.bl (eqTs l m)) S := by rw [opEq_dat (by exact h1) (by exact h2) (.inr (by rw [dp_tup]; exact h3)), q_tup_tup]
theorem opNe_tup_tup {l m : List T} {S : Sto} (h1 : dats l = true) (h2 : dats m = true) (h3 : deps m ≤ 59) : opNe (.tup l) (.tup m) S = .ok (.bl (!eqTs l m)) S := by rw [opNe_dat (by exact h1) (by exact h2) (.inr (by rw [dp_tup]; exact h3)), q_tup_tup]
theorem opEq_lst_lst {l m : List T} {S : Sto} (h1 : dats l = true) (h2 : dats m = true) (h3 : deps m ≤ 59) : opEq (.lst l) (.lst m) S = .ok (.bl (eqTs l m)) S := by rw [opEq_dat (by exact h1) (by exact h2) (.inr (by rw [dp_lst]; exact h3)), q_lst_lst]
theorem opNe_lst_lst {l m : List T} {S : Sto} (h1 : dats l = true) (h2 : dats m = true) (h3 : deps m ≤ 59) : opNe (.lst l) (.lst m) S = .ok (.bl (!eqTs l m)) S := by rw [opNe_dat (by exact h1) (by exact h2) (.inr (by rw [dp_lst]; exact h3)), q_lst_lst]
theorem rs_dat : ∀ (k : Nat) (S : Sto) (t : T), dat t = true → rs k S t = t
  | 0, _, _, _ => rfl
  | k + 1, S, t, h => by
    have go : ∀ l : List T, dats l = true → l.map (rs k S) = l := by
      intro l hl
      rw [dats_all, List.all_eq_true] at hl
      conv => rhs; rw [← List.map_id l]
      exact List.map_congr_left fun u hu => rs_dat k S u (hl u hu)
    cases t with
    | ref n => cases h
    | tup l => show T.tup (l.map (rs k S)) = _; rw [go l h]
    | lst l => show T.lst (l.map (rs k S)) = _; rw [go l h]
    | _ => rfl
theorem vw_dat {t : T} {S : Sto} (h : dat t = true) : vw S t = t := if_pos h
theorem vw_ref {n : Nat} {l : List T} {S : Sto} (hS : S[n]? = some (.lst l)) (h : dats l = true) : vw S (.ref n) = .lst l := by
  have e : vw S (.ref n) = rsA (rs 3 S) S (.ref n) := if_neg Bool.false_ne_true
  rw [e]
  unfold rsA
  simp only [hS]
  rw [dats_all, List.all_eq_true] at h
  congr 1
  conv => rhs; rw [← List.map_id l]
  exact List.map_congr_left fun u hu => rs_dat 3 S u (h u hu)
theorem opEq_vw {x y u v : T} {S : Sto} (ex : vw S x = u) (ey : vw S y = v) (hu : dat u = true) (hv : dat v = true) (hd : dep u ≤ 60 ∨ dep v ≤ 60) : opEq x y S = .ok (.bl (eqT u v)) S := by
  unfold opEq
  rw [ex, ey, if_pos ⟨hu, hv, hd⟩]
theorem opNe_vw {x y u v : T} {S : Sto} (ex : vw S x = u) (ey : vw S y = v) (hu : dat u = true) (hv : dat v = true) (hd : dep u ≤ 60 ∨ dep v ≤ 60) : opNe x y S = .ok (.bl (!eqT u v)) S := by
  unfold opNe
  rw [ex, ey, if_pos ⟨hu, hv, hd⟩]
theorem opEq_ref_lst {n : Nat} {l m : List T} {S : Sto} (hS : S[n]? = some (.lst l)) (h1 : dats l = true) (h2 : dats m = true) (h3 : deps m ≤ 59) : opEq (.ref n) (.lst m) S = .ok (.bl (eqTs l m)) S := by rw [opEq_vw (vw_ref hS h1) (vw_dat (by exact h2)) (by exact h1) (by exact h2) (.inr (by rw [dp_lst]; exact h3)), q_lst_lst]
theorem opEq_lst_ref {n : Nat} {l m : List T} {S : Sto} (hS : S[n]? = some (.lst l)) (h1 : dats l = true) (h2 : dats m = true) (h3 : deps m ≤ 59) : opEq (.lst m) (.ref n) S = .ok (.bl (eqTs m l)) S := by rw [opEq_vw (vw_dat (by exact h2)) (vw_ref hS h1) (by exact h2) (by exact h1) (.inl (by rw [dp_lst]; exact h3)), q_lst_lst]
theorem opNe_ref_lst {n : Nat} {l m : List T} {S : Sto} (hS : S[n]? = some (.lst l)) (h1 : dats l = true) (h2 : dats m = true) (h3 : deps m ≤ 59) : opNe (.ref n) (.lst m) S = .ok (.bl (!eqTs l m)) S := by rw [opNe_vw (vw_ref hS h1) (vw_dat (by exact h2)) (by exact h1) (by exact h2) (.inr (by rw [dp_lst]; exact h3)), q_lst_lst]
theorem opNe_lst_ref {n : Nat} {l m : List T} {S : Sto} (hS : S[n]? = some (.lst l)) (h1 : dats l = true) (h2 : dats m = true) (h3 : deps m ≤ 59) : opNe (.lst m) (.ref n) S = .ok (.bl (!eqTs m l)) S := by rw [opNe_vw (vw_dat (by exact h2)) (vw_ref hS h1) (by exact h2) (by exact h1) (.inl (by rw [dp_lst]; exact h3)), q_lst_lst]
-- simp set: e_bok, e_bexc, e_bbad, e_sok, e_sexc, e_sbad, e_qnx, e_qrt, e_qbr, e_qct, e_qexc, e_qbad, e_onx, e_oexc, e_nok, e_seq, e_pass, e_brk, e_cnt, e_exp, e_expK, e_ret, e_retK, e_retN, e_if, e_ifK, e_set, e_setK, e_asg, e_asgK, e_raise, e_gN, e_gsN, e_gsC, e_gT, e_gTk, e_m1, e_m2, e_m2K, e_mN, e_nil, e_cons, e_consK, e_consL, e_C, e_V, e_vget, e_B, e_opB, e_Tru, e_TAnd, e_taK, e_TOr, e_toK, e_TNot, e_tnK, e_And, e_Or, e_Not, e_andK, e_orK, e_notK, e_IfE, e_ifeK, e_Chain, e_ch1, e_ch2, e_ch3, e_Call, e_oget, e_Fld, e_fldK, e_Meth, e_mtK, e_mtL, e_ometh, e_Make, e_mkK, e_mkN, e_isNon, e_sget, e_gIx, e_gi1, e_gi2, e_SetF, e_sf1, e_sf2, e_DPut, e_dp1, e_dp2, e_dp3, e_pget, e_pgetS, e_AugF, e_af1, e_afP, e_af2, e_af3, e_AugIx, e_ai1, e_ai2, e_ai3, e_ai4, e_ai5, e_Aug, e_augK, e_au1, e_au2, e_ML, e_mlK, e_Get1, e_gg1, e_gg2, e_ggD, e_Get2, e_gh1, e_gh2, e_gh3, e_NewD, e_mkDt, e_mkDf, e_mkLt, e_mkLf, e_Frz, e_NoP, e_Part, e_partK, e_Sl, e_sl1, e_sl2, e_opSlT, e_opSlL, e_For, e_forK, e_Lc, e_lcK, e_Yes, e_itT, e_itL, e_itR1, e_itR2, e_itTKt, e_itTKk, e_itLKl, e_itLKs, e_itR1K, e_itR2K, e_add, e_addT, e_addL, e_addI, e_sub, e_mod, e_div, e_mul, e_pow, e_mulL, e_rep, e_repK, e_neg, e_lt, e_le, e_gt, e_ge, e_abs, e_int, e_intB, e_min2, e_max2, e_tup, e_lst, e_lenK0, e_len, e_lenT, e_lenL, e_lenS, e_lenK, e_lenD, e_mkLK, e_list, e_seqT, e_seqL, e_seqS, e_seqK, e_lkL, e_lkS, e_lkP, e_tupleT, e_tupleL, e_srtK, e_sortI, e_anyK, e_allK, e_sumK, e_any, e_all, e_sum, e_atK, e_okK, e_ix, e_ixL, e_is, e_isnt, e_isB, e_isntB, e_non_int, e_non_str, e_non_bl, e_non_tup, e_non_tupk, e_non_lst, e_non_dct, e_non_ref, e_isiK, e_isi, e_ty_non, e_ty_int, e_ty_str, e_ty_bl, e_ty_tup, e_ty_tupk, e_ty_lst, e_ty_scr, e_ty_dct, e_tru_non, e_tru_bl, e_tru_int, e_tru_tup, e_tru_lst, e_dgK, e_dget, e_diK, e_dnK, e_din, e_dnin, e_dOf, e_keyI, e_keyS, e_keyT, e_seqR, e_lkR, e_lkPR, e_lstO, e_isLR, e_isLO, e_dOfR, e_dctO, e_lckO, e_lenR, e_lenOl, e_lenOd, e_tyR, e_tyOl, e_tyOd, e_truR, e_truO, e_objR, e_objO, e_setLR, e_setLO, e_setL2, e_setFR, e_setFO, e_putR, e_putO, e_appR, e_appO, e_extR, e_extO, e_popR, e_frzR, e_frzOl, e_frzOd, e_itR, e_itO, e_def, e_dfr, e_dfn, e_dfe, e_forLc, e_forL0, e_forB, e_forNn, e_forNc, e_forNb, e_forNr, e_forNe, e_fstep, e_fsB, e_lc0, e_lcc, e_lc1, e_lc2, e_Pop1, e_pp1, e_Pop2, e_pq0, e_pq1, e_pq2, e_pop1R, e_pop2R, e_popDO, e_popGs, e_popGn, e_srtPK, e_sortP, q_non_non, q_non_bl, q_non_int, q_non_str, q_non_tup, q_non_tupk, q_non_lst, q_non_scr, q_bl_non, q_bl_bl, q_bl_int, q_bl_str, q_bl_tup, q_bl_tupk, q_bl_lst, q_bl_scr, q_int_non, q_int_bl, q_int_int, q_int_str, q_int_tup, q_int_tupk, q_int_lst, q_int_scr, q_str_non, q_str_bl, q_str_int, q_str_str, q_str_tup, q_str_tupk, q_str_lst, q_str_scr, q_tup_non, q_tup_bl, q_tup_int, q_tup_str, q_tup_tup, q_tup_tupk, q_tup_lst, q_tup_scr, q_tupk_non, q_tupk_bl, q_tupk_int, q_tupk_str, q_tupk_tup, q_tupk_tupk, q_tupk_lst, q_tupk_scr, q_lst_non, q_lst_bl, q_lst_int, q_lst_str, q_lst_tup, q_lst_tupk, q_lst_lst, q_lst_scr, q_scr_non, q_scr_bl, q_scr_int, q_scr_str, q_scr_tup, q_scr_tupk, q_scr_lst, q_scr_scr, q_nil, q_cons, q_nilc, q_consn, opEq_non_non, opNe_non_non, opEq_non_bl, opNe_non_bl, opEq_non_int, opNe_non_int, opEq_non_str, opNe_non_str, opEq_bl_non, opNe_bl_non, opEq_bl_bl, opNe_bl_bl, opEq_bl_int, opNe_bl_int, opEq_bl_str, opNe_bl_str, opEq_int_non, opNe_int_non, opEq_int_bl, opNe_int_bl, opEq_int_int, opNe_int_int, opEq_int_str, opNe_int_str, opEq_str_non, opNe_str_non, opEq_str_bl, opNe_str_bl, opEq_str_int, opNe_str_int, opEq_str_str, opNe_str_str, e_isBe, e_tys, dt_non, dt_bl, dt_int, dt_str, dt_tup, dt_tupk, dt_lst, dt_nil, dt_cons, dp_non, dp_bl, dp_int, dp_str, dp_tup, dp_tupk, dp_lst, dp_nil, dp_cons, opEq_tup_tup, opNe_tup_tup, opEq_lst_lst, opNe_lst_lst, opEq_ref_lst, opEq_lst_ref, opNe_ref_lst, opNe_lst_ref
end Ab

namespace Ab
open PySem PySem.Spec PyProof.Rows L2 Sp
/-! written dicts with text keys -/
def lookT (z : String) : List (String × T) → Option T
  | [] => none
  | (k, t) :: r => if k = z then some t else lookT z r
theorem lookT_nil {z : String} : lookT z [] = none := rfl
theorem lookT_cons {z k : String} {t : T} {r : List (String × T)} : lookT z ((k, t) :: r) = if k = z then some t else lookT z r := rfl
def dvT : T → He.Dv
  | .bl b => .bl b
  | .int i => .int i
  | .str s => .str (.ofString s)
  | _ => .non
def tupVB (K : PySem.W.Frag) (v : Value) (l : List T) : Bool := match v with
  | .ref a => (match K.lookup a with
    | some ⟨.type c, _, .seq its _, _⟩ => decide (c = "tuple") && (decide (its.size ≤ sizeLine) && He.relAll (l.map fun t => (dvT t).v K) its.toList)
    | _ => false)
  | _ => false
def valB (K : PySem.W.Frag) (v : Value) : T → Bool
  | .tupk l => l.all isPl && tupVB K v l
  | t => isPl t && He.relAll [(dvT t).v K] [v]
def entB (K : PySem.W.Frag) : List DictEntry → List (String × T) → Bool
  | [], [] => true
  | e :: es, (k, t) :: r => (match e.key with
    | .str y _ => y == Str.ofString k
    | _ => false) && (valB K e.val t && entB K es r)
  | _, _ => false
def tabB (K : PySem.W.Frag) (x : String) (tbl : List (String × T)) : Bool := match K.lookup (He.ga K (.ofString x)) with
  | some ⟨_, _, .dict es _, _⟩ => entB K es.toList tbl
  | _ => false
section
variable {K : PySem.W.Frag}
theorem pl_rp {g : G} {t : T} (h : isPl t = true) : Rp K g t ((dvT t).v K) := by
  cases t with
  | non => exact .non
  | bl b => exact .bl b
  | int i => exact .int i
  | str s => exact .str s
  | _ => cases h
theorem pls_rp {g : G} : ∀ {l : List T}, l.all isPl = true → Rps K g l (l.map fun t => (dvT t).v K)
  | [], _ => .nil
  | t :: l, h => by
    rw [List.all_cons, Bool.and_eq_true] at h
    exact .cons (pl_rp h.1) (pls_rp h.2)
theorem plB_ok {v : Value} {t : T} (h : (isPl t && He.relAll [(dvT t).v K] [v]) = true) : ∃ x, RelV x v ∧ ∀ g : G, Rp K g t x := by
  rw [Bool.and_eq_true] at h
  have := He.relAll_ok h.2
  cases this with
  | cons r _ => exact ⟨_, r, fun g => pl_rp h.1⟩
theorem valB_ok {v : Value} : ∀ {t : T}, valB K v t = true → ∃ x, RelV x v ∧ ∀ g : G, Rp K g t x
  | .tupk l, h => by
    have h : (l.all isPl && tupVB K v l) = true := h
    rw [Bool.and_eq_true] at h
    obtain ⟨h1, h2⟩ := h
    unfold tupVB at h2
    split at h2
    · rename_i a
      split at h2
      · rename_i c od its n sl q
        rw [Bool.and_eq_true, Bool.and_eq_true] at h2
        exact ⟨V.ref a, rfl, fun g => Rp.tupk (.inr ⟨_, its, n, q, congrArg Value.type (of_decide_eq_true h2.1), rfl, of_decide_eq_true h2.2.1, He.relAll_ok h2.2.2⟩) (pls_rp h1)⟩
      · cases h2
    · cases h2
  | .non, h => plB_ok h
  | .bl _, h => plB_ok h
  | .int _, h => plB_ok h
  | .str _, h => plB_ok h
  | .tup _, h => plB_ok h
  | .lst _, h => plB_ok h
  | .dct _ _, h => plB_ok h
  | .scr _, h => plB_ok h
  | .ref _, h => plB_ok h
  | .ty _, h => plB_ok h
  | .con _, h => plB_ok h
theorem ent_ok : ∀ {es : List DictEntry} {tbl : List (String × T)}, entB K es tbl = true → ∀ z : String,
    (∃ e t, es.find? (·.key.isStr (.ofString z)) = some e ∧ lookT z tbl = some t ∧ valB K e.val t = true) ∨ (es.find? (·.key.isStr (.ofString z)) = none ∧ lookT z tbl = none ∧ es.any (·.refKey) = false)
  | [], [], _, _ => .inr ⟨rfl, rfl, rfl⟩
  | e :: es, (k, t) :: r, h, z => by
    have h : ((match e.key with
      | .str y _ => y == Str.ofString k
      | _ => false) && (valB K e.val t && entB K es r)) = true := h
    rw [Bool.and_eq_true, Bool.and_eq_true] at h
    obtain ⟨h1, h2, h3⟩ := h
    cases ek : e.key with
    | str y tk =>
      rw [ek] at h1
      have hy : y = Str.ofString k := eq_of_beq h1
      have e1 : e.key.isStr (.ofString z) = decide (k = z) := by rw [ek]; show (y == _) = _; rw [hy, str_beq]
      by_cases c : k = z
      · exact .inl ⟨e, t, by rw [List.find?_cons_of_pos (by rw [e1]; exact decide_eq_true c)], by rw [lookT_cons, if_pos c], h2⟩
      · rcases ent_ok h3 z with ⟨e', t', a, b, d⟩ | ⟨a, b, d⟩
        · exact .inl ⟨e', t', by rw [List.find?_cons_of_neg (by rw [e1]; simp [c])]; exact a, by rw [lookT_cons, if_neg c]; exact b, d⟩
        · refine .inr ⟨by rw [List.find?_cons_of_neg (by rw [e1]; simp [c])]; exact a, by rw [lookT_cons, if_neg c]; exact b, ?_⟩
          rw [List.any_cons, d]
          unfold DictEntry.refKey
          rw [ek]; rfl
    | _ => rw [ek] at h1; cases h1
  | [], _ :: _, h, _ => by cases h
  | _ :: _, [], h, _ => by cases h
theorem tab_ok {x : String} {tbl : List (String × T)} (h : tabB K x tbl = true) (z : String) :
    (∃ t u v, lookT z tbl = some t ∧ PySem.W.nsIn K (He.ga K (.ofString x)) (.ofString z) = some (some u) ∧ RelV v u ∧ ∀ g : G, Rp K g t v) ∨ (lookT z tbl = none ∧ PySem.W.nsIn K (He.ga K (.ofString x)) (.ofString z) = some none) := by
  unfold tabB at h
  split at h
  · rename_i es n sl q
    rcases ent_ok h z with ⟨e, t, a, b, d⟩ | ⟨a, b, d⟩
    · obtain ⟨v, rv, hr⟩ := valB_ok d
      refine .inl ⟨t, e.val, v, b, ?_, rv, hr⟩
      unfold PySem.W.nsIn
      rw [q]
      simp only [a]
    · refine .inr ⟨b, ?_⟩
      unfold PySem.W.nsIn
      rw [q]
      simp only [a, d]
      rfl
  · cases h
end
def opConIn (x : String) (tbl : List (String × T)) : T → T → Sto → R T
  | .str z, .con y, S => if y = x then .ok (.bl (lookT z tbl).isSome) S else .bad
  | _, _, _ => .bad
def opConNin (x : String) (tbl : List (String × T)) : T → T → Sto → R T
  | .str z, .con y, S => if y = x then .ok (.bl (!(lookT z tbl).isSome)) S else .bad
  | _, _, _ => .bad
def conK (S : Sto) : Option T → R T
  | some t => .ok t S
  | none => .bad
def opConGet (x : String) (tbl : List (String × T)) : T → T → Sto → R T
  | .con y, .str z, S => if y = x then conK S (lookT z tbl) else .bad
  | _, _, _ => .bad
theorem e_conIn {x z : String} {tbl : List (String × T)} {S : Sto} : opConIn x tbl (.str z) (.con x) S = .ok (.bl (lookT z tbl).isSome) S := by simp [opConIn]
theorem e_conNin {x z : String} {tbl : List (String × T)} {S : Sto} : opConNin x tbl (.str z) (.con x) S = .ok (.bl (!(lookT z tbl).isSome)) S := by simp [opConNin]
theorem e_conGet {x z : String} {tbl : List (String × T)} {S : Sto} : opConGet x tbl (.con x) (.str z) S = conK S (lookT z tbl) := by simp [opConGet]
theorem e_conK {t : T} {S : Sto} : conK S (some t) = .ok t S := rfl
section
variable {X : Cx} {K : PySem.W.Frag} {w : World} {x : String} {tbl : List (String × T)}
def rConIn (K : PySem.W.Frag) (x : String) (f : Bool → Bool) : R2 := fun a b H Q => ∃ (z : Str) (r : Option Value), a = .str z ∧ b = .ref (He.ga K (.ofString x)) ∧ PySem.W.nsIn K (He.ga K (.ofString x)) z = some r ∧ Q (.bl (f r.isSome)) H
theorem up_conIn (h : tabB K x tbl = true) : Up2 K (opConIn x tbl) (rConIn K x id) := by
  intro E S H g a b v w Q W ra rb p
  unfold opConIn at p
  split at p
  · rename_i z y
    split at p
    · rename_i c
      subst c
      cases ra
      cases rb
      rcases tab_ok (K := K) h z with ⟨t, u, v, e1, e2, _⟩ | ⟨e1, e2⟩
      · rw [e1] at p
        exact ⟨_, _, rfl, rfl, e2, p.val W (.bl true)⟩
      · rw [e1] at p
        exact ⟨_, _, rfl, rfl, e2, p.val W (.bl false)⟩
    · exact p.elim
  · exact p.elim
theorem up_conNin (h : tabB K x tbl = true) : Up2 K (opConNin x tbl) (rConIn K x (!·)) := by
  intro E S H g a b v w Q W ra rb p
  unfold opConNin at p
  split at p
  · rename_i z y
    split at p
    · rename_i c
      subst c
      cases ra
      cases rb
      rcases tab_ok (K := K) h z with ⟨t, u, v, e1, e2, _⟩ | ⟨e1, e2⟩
      · rw [e1] at p
        exact ⟨_, _, rfl, rfl, e2, p.val W (.bl false)⟩
      · rw [e1] at p
        exact ⟨_, _, rfl, rfl, e2, p.val W (.bl true)⟩
    · exact p.elim
  · exact p.elim
theorem op_conIn (D : ∃ es n, KDict K w (He.ga K (.ofString x)) es n) (hK : X.K = K := by rfl) (hw : X.w = w := by rfl) : OpR X (compareOp .In) (rConIn K x id) := by
  subst hK; subst hw; obtain ⟨es, n, D⟩ := D; exact op_in_kd D
theorem op_conNin (D : ∃ es n, KDict K w (He.ga K (.ofString x)) es n) (hK : X.K = K := by rfl) (hw : X.w = w := by rfl) : OpR X (compareOp .NotIn) (rConIn K x (!·)) := by
  subst hK; subst hw; obtain ⟨es, n, D⟩ := D; exact op_notIn_kd D
theorem up_conGet (D : ∃ es n, KDict K w (He.ga K (.ofString x)) es n) (h : tabB K x tbl = true) : Up2 K (opConGet x tbl) (rIxD K w) := by
  obtain ⟨es, n, D⟩ := D
  intro E S H g a b v w Q W ra rb p
  unfold opConGet at p
  split at p
  · rename_i y z
    split at p
    · rename_i c
      subst c
      cases ra
      cases rb
      rcases tab_ok (K := K) h z with ⟨t, u, v, e1, e2, e3, e4⟩ | ⟨e1, e2⟩
      · rw [e1] at p
        exact ⟨_, _, v, rfl, rfl, ⟨es, n, u, D.at_, D.lit, e2, e3⟩, p.val W (e4 g)⟩
      · rw [e1] at p
        exact p.elim
    · exact p.elim
  · exact p.elim
/-- a sum of lists that changes later -/
def lkM (S : Sto) : T → Option (List T)
  | .lst l => some l
  | .ref n => (match S[n]? with
    | some (.lst l) => some l
    | _ => none)
  | _ => none
def opAddM (x y : T) (S : Sto) : R T := match lkM S x with
  | some a => (match lkM S y with
    | some b => if a.length + b.length ≤ sizeLine then mkL false (a ++ b) S else .bad
    | none => .bad)
  | none => .bad
theorem lkM_rp {S : Sto} {H : Hp} {g : G} (W : Wd K S H g) {x : T} {v : V} {l : List T} (e : lkM S x = some l) (r : Rp K g x v) : ∃ a vs, v = .ref a ∧ H a = some (.lst vs) ∧ Rps K g l vs := by
  unfold lkM at e
  split at e
  · cases e; exact r.lstH W
  · split at e
    · rename_i q
      cases e
      obtain ⟨a, rfl, m, vs, h1, r1⟩ := r.refH W q (fun z => nomatch z)
      exact ⟨a, vs, rfl, h1, r1⟩
    · cases e
  · cases e
theorem up_addM : Up2 K opAddM (rAddU K) := by
  intro E S H g x y v w Q W rx ry p
  unfold opAddM at p
  split at p
  · rename_i la e1
    split at p
    · rename_i lb e2
      split at p
      · rename_i hl
        obtain ⟨a, vs, rfl, h1, r1⟩ := lkM_rp W e1 rx
        obtain ⟨b, ws, rfl, h2, r2⟩ := lkM_rp W e2 ry
        exact .inr ⟨a, b, vs, ws, rfl, rfl, h1, h2, by rw [← r1.length, ← r2.length]; exact hl, Post.newLst p W (r1.append r2)⟩
      · exact p.elim
    · exact p.elim
  · exact p.elim
theorem e_lkMl {l : List T} {S : Sto} : lkM S (.lst l) = some l := rfl
def lkMO : Option O → Option (List T)
  | some (.lst l) => some l
  | _ => none
theorem e_lkMr {n : Nat} {S : Sto} : lkM S (.ref n) = lkMO S[n]? := by unfold lkM lkMO; rfl
theorem e_lkMO {l : List T} : lkMO (some (.lst l)) = some l := rfl
def amK (S : Sto) (a b : List T) : R T := if a.length + b.length ≤ sizeLine then mkL false (a ++ b) S else .bad
def amJ (S : Sto) (y : T) (a : List T) : R T := pget (lkM S y) (amK S a)
theorem e_addM {x y : T} {S : Sto} : opAddM x y S = pget (lkM S x) (amJ S y) := by unfold opAddM; cases lkM S x with | none => rfl | some a => show _ = pget (lkM S y) (amK S a); cases lkM S y <;> rfl
theorem e_amJ {y : T} {S : Sto} {a : List T} : amJ S y a = pget (lkM S y) (amK S a) := rfl
theorem e_amK {S : Sto} {a b : List T} : amK S a b = if a.length + b.length ≤ sizeLine then mkL false (a ++ b) S else .bad := rfl
theorem e_gsnoc {α : Type} {S : List α} {a : α} : (S ++ [a])[S.length]? = some a := by simp
theorem e_ssnoc {α : Type} {S : List α} {a b : α} : (S ++ [a]).set S.length b = S ++ [b] := by
  rw [List.set_append_right _ _ (Nat.le_refl _), Nat.sub_self]; rfl
def slO (fz : Bool) (a b : Option Int) (S : Sto) (o : Option (List T)) : R T := match o with
  | some l => mkL fz (cutT l a b) S
  | none => .bad
theorem e_opSlR {n : Nat} {fz : Bool} {S : Sto} {a b : Option Int} : opSl fz (.ref n) a b S = slO fz a b S (lkMO S[n]?) := by
  show (match lkL S (.ref n) with
    | some l => mkL fz (cutT l a b) S
    | none => .bad) = _
  have e : lkL S (.ref n) = lkMO S[n]? := by unfold lkL lkMO; rfl
  rw [e]
  rfl
theorem e_slO {fz : Bool} {S : Sto} {a b : Option Int} {l : List T} : slO fz a b S (some l) = mkL fz (cutT l a b) S := rfl
theorem mem_cutT {l : List T} {a b : Option Int} {t : T} (h : t ∈ cutT l a b) : t ∈ l := List.mem_of_mem_drop (List.mem_of_mem_take h)
theorem len_cutT {l : List T} {a b : Option Int} : (cutT l a b).length ≤ l.length := by
  unfold cutT
  rw [List.length_take, List.length_drop]
  omega
theorem rngT_0 {i : Int} : rngT 0 i = (List.range i.toNat).map fun (k : Nat) => T.int (0 + k) := by unfold rngT; rw [Int.sub_zero]
theorem rngT_00 : rngT 0 0 = [] := rfl
theorem rngT_1 : rngT 0 1 = [.int 0] := rfl
theorem rngT_2 : rngT 0 2 = [.int 0, .int 1] := rfl
theorem rngT_3 : rngT 0 3 = [.int 0, .int 1, .int 2] := rfl
theorem rngT_4 : rngT 0 4 = [.int 0, .int 1, .int 2, .int 3] := rfl
-- e_inT
theorem e_in_tup {x : T} {l : List T} {S : Sto} (h1 : dat x = true) (h2 : dats l = true) (h3 : deps l ≤ 60) : opIn x (.tup l) S = .ok (.bl (l.any fun z => eqT z x)) S := opIn_dat rfl h1 h2 (.inr h3)
theorem e_nin_tup {x : T} {l : List T} {S : Sto} (h1 : dat x = true) (h2 : dats l = true) (h3 : deps l ≤ 60) : opNin x (.tup l) S = .ok (.bl (!l.any fun z => eqT z x)) S := opNin_dat rfl h1 h2 (.inr h3)
theorem e_in_tupk {x : T} {l : List T} {S : Sto} (h1 : dat x = true) (h2 : dats l = true) (h3 : deps l ≤ 60) : opIn x (.tupk l) S = .ok (.bl (l.any fun z => eqT z x)) S := opIn_dat rfl h1 h2 (.inr h3)
theorem e_nin_tupk {x : T} {l : List T} {S : Sto} (h1 : dat x = true) (h2 : dats l = true) (h3 : deps l ≤ 60) : opNin x (.tupk l) S = .ok (.bl (!l.any fun z => eqT z x)) S := opNin_dat rfl h1 h2 (.inr h3)
theorem e_in_lst {x : T} {l : List T} {S : Sto} (h1 : dat x = true) (h2 : dats l = true) (h3 : deps l ≤ 60) : opIn x (.lst l) S = .ok (.bl (l.any fun z => eqT z x)) S := opIn_dat rfl h1 h2 (.inr h3)
theorem e_nin_lst {x : T} {l : List T} {S : Sto} (h1 : dat x = true) (h2 : dats l = true) (h3 : deps l ≤ 60) : opNin x (.lst l) S = .ok (.bl (!l.any fun z => eqT z x)) S := opNin_dat rfl h1 h2 (.inr h3)
def tuO (S : Sto) (o : Option (List T)) : R T := match o with
  | some l => .ok (.tup l) S
  | none => .bad
theorem e_tupleR {n : Nat} {S : Sto} : opTuple [.ref n] S = tuO S (lkMO S[n]?) := by
  have e : lkL S (.ref n) = lkMO S[n]? := by unfold lkL lkMO; rfl
  show (match lkL S (.ref n) with
    | some l => R.ok (T.tup l) S
    | none => .bad) = _
  rw [e]
  rfl
theorem e_tuO {S : Sto} {l : List T} : tuO S (some l) = .ok (.tup l) S := rfl
def opEq0 (x y : T) (S : Sto) : R T := opEq x y S
def opNe0 (x y : T) (S : Sto) : R T := opNe x y S
def eqRL (n : Nat) (m : List T) (S : Sto) : Option O → R T
  | some (.lst l) => if dats l = true ∧ dats m = true ∧ deps m ≤ 59 then .ok (.bl (eqTs l m)) S else opEq0 (.ref n) (.lst m) S
  | _ => opEq0 (.ref n) (.lst m) S
def neRL (n : Nat) (m : List T) (S : Sto) : Option O → R T
  | some (.lst l) => if dats l = true ∧ dats m = true ∧ deps m ≤ 59 then .ok (.bl (!eqTs l m)) S else opNe0 (.ref n) (.lst m) S
  | _ => opNe0 (.ref n) (.lst m) S
theorem e_eqRL {n : Nat} {m : List T} {S : Sto} : opEq (.ref n) (.lst m) S = eqRL n m S S[n]? := by
  unfold eqRL
  split
  · rename_i l h
    split
    · rename_i c; exact opEq_ref_lst h c.1 c.2.1 c.2.2
    · rfl
  · rfl
theorem e_neRL {n : Nat} {m : List T} {S : Sto} : opNe (.ref n) (.lst m) S = neRL n m S S[n]? := by
  unfold neRL
  split
  · rename_i l h
    split
    · rename_i c; exact opNe_ref_lst h c.1 c.2.1 c.2.2
    · rfl
  · rfl
theorem e_eqRLs {n : Nat} {m l : List T} {S : Sto} : eqRL n m S (some (.lst l)) = if dats l = true ∧ dats m = true ∧ deps m ≤ 59 then .ok (.bl (eqTs l m)) S else opEq0 (.ref n) (.lst m) S := rfl
theorem e_neRLs {n : Nat} {m l : List T} {S : Sto} : neRL n m S (some (.lst l)) = if dats l = true ∧ dats m = true ∧ deps m ≤ 59 then .ok (.bl (!eqTs l m)) S else opNe0 (.ref n) (.lst m) S := rfl
theorem ixN_int {n : Nat} {i : Int} (a : 0 ≤ i) (b : i < n) : ixN n i = some i.toNat := by unfold ixN; rw [if_pos a, if_pos b]
theorem e_putTn {f : String} {t : T} : putT f t [] = [(f, t)] := rfl
theorem e_putTc {f h : String} {t x : T} {r : List (String × T)} : putT f t ((h, x) :: r) = if h = f then (h, t) :: r else (h, x) :: putT f t r := rfl
theorem e_lookn {f : String} : List.lookup f ([] : List (String × T)) = none := rfl
theorem e_lookc {f h : String} {x : T} {r : List (String × T)} : List.lookup f ((h, x) :: r) = if f = h then some x else List.lookup f r := by
  rw [List.lookup_cons]
  by_cases c : f = h
  · rw [if_pos c, beq_iff_eq.mpr c]
  · rw [if_neg c, beq_eq_false_iff_ne.mpr c]
theorem e_ogetG {α : Type} {x : α} {S : Sto} : oget (some x) S = .ok x S := rfl
theorem ix_kdK (hK : X.K = K := by rfl) (hw : X.w = w := by rfl) : IxR X (rIxD K w) := by subst hK; subst hw; exact ix_kdict
theorem aConGet {E : XS} {a b : Expr} {ea eb : AE} {pos : Pos} (u : Up2 K (opConGet x tbl) (rIxD K w)) (ha : PE X a (LE K E ea)) (hb : PE X b (LE K E eb)) (hs : PlainIx b := by exact fun _ _ => rfl) (hK : X.K = K := by rfl) (hw : X.w = w := by rfl) : PE X (.Subscript a b pos) (LE K E (m2 (opConGet x tbl) ea eb)) :=
  PE.weak (pe_ix (ix_kdK hK hw) ha hb hs) fun _ _ _ h => LE.op2 u h
end
section
variable {X : Cx} {K : PySem.W.Frag} {E : XS}
theorem aPar {i j : Nat} {x y : Str} {a b : Expr} {ra : AA} {px py pt pos : Pos} {kt k2 pt2} (hN : X.N.Nodup) (h : PA X [a, b] (LA K E ra)) (hc : X.calm = true := by rfl) (hi : X.N[i]? = some x := by rfl) (hj : X.N[j]? = some y := by rfl) (hij : i ≠ j := by decide)
    (hx : X.env.scope.names.lookup x = some .local := by rfl) (hy : X.env.scope.names.lookup y = some .local := by rfl)
    (hw : swappedStores [.Tuple [.Name x px, .Name y py] kt pt] (.Tuple [a, b] k2 pt2) X.env = pure (some [x, y]) := by rfl)
    (hs : swapsWithSole [.Tuple [.Name x px, .Name y py] kt pt] (.Tuple [a, b] k2 pt2) pos.line X.env = pure false := by rfl) :
    PS X (.Assign [.Tuple [.Name x px, .Name y py] kt pt] (.Tuple [a, b] k2 pt2) pos) (LS K E (mPar i j ra)) :=
  PS.weak (ps_par hc hN hi hj hij hx hy h hw hs) fun D σ H ⟨st, S, g, w, sl, p⟩ => LA.run (f := fun ts S => match ts with
    | [t, u] => .nx ((st.set i (some t)).set j (some u)) S
    | _ => .bad) w sl p fun ts S1 vs H1 g1 w1 sl1 x1 r1 p1 => by
    split at p1
    · cases r1 with
      | cons a r1 =>
        cases r1 with
        | cons b r1 =>
          cases r1
          exact ⟨_, _, rfl, p1 _ H1 g1 w1 (.refl _ _ _) ((sl1.set i a).set j b)⟩
    · exact p1.elim
def parK (i j : Nat) (st : Slots) (ts : List T) (S : Sto) : RS := match ts with
  | [t, u] => .nx ((st.set i (some t)).set j (some u)) S
  | _ => .bad
theorem e_Par {i j : Nat} {ra : AA} {st : Slots} {S : Sto} : mPar i j ra st S = (ra st S).stm st (parK i j st) := rfl
theorem e_parK {i j : Nat} {st : Slots} {t u : T} {S : Sto} : parK i j st [t, u] S = .nx ((st.set i (some t)).set j (some u)) S := rfl
end
end Ab

namespace Ab
open PySem PySem.Spec PyProof.Rows L2 Sp
/-! ## try .. except C as e: return what isinstance tells of e -/
def lkX {β : Type} (z : String) : List (String × β) → Option β
  | [] => none
  | (k, b) :: r => if k = z then some b else lkX z r
theorem lkX_nil {β : Type} {z : String} : lkX z ([] : List (String × β)) = none := rfl
theorem lkX_cons {β : Type} {z k : String} {b : β} {r : List (String × β)} : lkX z ((k, b) :: r) = if k = z then some b else lkX z r := rfl
theorem tb_nil {β : Type} {P : String → β → Prop} : ∀ (x : String) (k : β), lkX x ([] : List (String × β)) = some k → P x k := fun _ _ h => nomatch h
theorem tb_cons {β : Type} {P : String → β → Prop} {c : String} {b : β} {tb : List (String × β)} (h : P c b) (t : ∀ x k, lkX x tb = some k → P x k) : ∀ x k, lkX x ((c, b) :: tb) = some k → P x k := by
  intro x k e
  rw [lkX_cons] at e
  by_cases q : c = x
  · subst q
    rw [if_pos rfl] at e
    cases e
    exact h
  · rw [if_neg q] at e
    exact t x k e
def TBx (K : PySem.W.Frag) (tb : List (String × Bool)) (cls : Value) (d : Option Addr) (x : String) : Prop := lkX x tb = some true ∧ cls = cR K x ∧ d = none
def LX (K : PySem.W.Frag) (Z : String → Prop) (i : Nat) (a : Addr) (ea : String → AE) : TE := fun σ H Q => ∃ x, Z x ∧ σ[i]? = some (some (.ref a)) ∧ LE K XS0 (ea x) σ H Q
def LXA (K : PySem.W.Frag) (Z : String → Prop) (i : Nat) (a : Addr) (ra : String → AA) : TA := fun σ H Q => ∃ x, Z x ∧ σ[i]? = some (some (.ref a)) ∧ LA K XS0 (ra x) σ H Q
def LXS (K : PySem.W.Frag) (Z : String → Prop) (i : Nat) (a : Addr) (s : String → AS) : TS := fun D σ H => ∃ x, Z x ∧ σ[i]? = some (some (.ref a)) ∧ LS K XS0 (s x) D σ H
def mIsX (tc : List (String × Bool)) : String → AE := fun x => match lkX x tc with
  | some b => mC (.bl b)
  | none => fun _ _ => .bad
section
variable {X : Cx} {K : PySem.W.Frag} {Z : String → Prop} {i : Nat} {a : Addr} {e : Expr} {es : List Expr} {pos : Pos}
theorem axC {ea : AE} (h : PE X e (LE K XS0 ea)) : PE X e (LX K Z i a fun _ => ea) := PE.weak h fun σ H Q ⟨_, _, _, p⟩ => p
theorem axIs {tb tc : List (String × Bool)} {cls : Value} {d : Option Addr} {C : Str}
    (h : PE X e (tCB (rIsG K a cls d) (tCons (tVar i) (tCons (tC (.ref (He.ga K C))) tNil)))) (hE : ∀ x k, lkX x tb = some k → ExcC K (He.ga K (.ofString x)))
    (hk : ∀ x k, lkX x tc = some k → PySem.W.kitOne K (.ref (He.ga K (.ofString x))) (.ref (He.ga K C)) = some k) : PE X e (LX K (TBx K tb cls d) i a (mIsX tc)) :=
  PE.weak h fun σ H Q ⟨x, ⟨h1, h2, h3⟩, h4, st, S, g, w, sl, p⟩ => by
    unfold mIsX at p
    cases q : lkX x tc with
    | none => simp only [q] at p; exact p.elim
    | some b =>
      simp only [q] at p
      exact ⟨.ref a, h4, ⟨_, _, b, h2, h3, hE x _ h1, rfl, hk x b q, p.val w (.bl b)⟩⟩
theorem axNil : PA X [] (LXA K Z i a fun _ => mNil) := PA.weak aNil fun σ H Q ⟨_, _, _, p⟩ => p
theorem axCons {ea : String → AE} {ra : String → AA} (ha : PE X e (LX K Z i a ea)) (hr : PA X es (LXA K Z i a ra)) (hs : starEach (e :: es) X.env = (false, eval e X.env) :: starEach es X.env := by rfl) : PA X (e :: es) (LXA K Z i a fun x => mCons (ea x) (ra x)) :=
  PA.weak (pa_cons ha hr hs) fun σ H Q ⟨x, h1, h2, st, S, g, w, sl, p⟩ => ⟨x, h1, h2, LE.bind (f := fun y st S => (ra x st S).bind fun xs S => .ok (y :: xs) S) w sl p fun t S1 v H1 g1 w1 sl1 x1 r1 p1 =>
    ⟨x, h1, h2, LA.bind (f := fun xs _ S => .ok (t :: xs) S) w1 sl1 p1 fun ts S2 vs H2 g2 w2 sl2 x2 r2 p2 => p2.val (v := v :: vs) w2 (.cons (r1.mono x2.le) r2)⟩⟩
theorem axLst (fz : Bool) {ra : String → AA} (h : PA X es (LXA K Z i a ra)) : PE X (.List es pos) (LX K Z i a fun x => mN (opLst fz) (ra x)) :=
  PE.weak (pe_lst h) fun σ H Q ⟨x, h1, h2, h⟩ => ⟨x, h1, h2, LA.opN (r := fun xs H Q => xs.length ≤ sizeLine ∧ ∀ p, H p = none → Q (.ref p) (upd H p (.lst xs))) (fun {E S H g xs vs Q} W rx p => by
    unfold opLst at p
    split at p
    · rename_i c
      exact ⟨by rw [← rx.length]; exact c, Post.newLst p W rx⟩
    · exact p.elim) h⟩
theorem axRet {ea : String → AE} (h : PE X e (LX K Z i a ea)) : PSs X [.Return (some e) pos] (LXS K Z i a fun x => mRet (ea x)) :=
  pss_one (PS.weak (ps_ret h) fun D σ H ⟨x, h1, h2, st, S, g, w, sl, p⟩ => ⟨x, h1, h2, LE.run (f := fun t S => .rt t S) w sl p fun t S1 v H1 g1 w1 sl1 x1 r1 p1 => p1 v H1 g1 w1 (.refl _ _ _) r1⟩)
end
/-- try: b except c as e: return .. -/
def mTryA (i : Nat) (tb : List (String × Bool)) (b : AS) (s : String → AS) : AS := fun st S => match b st S with
  | .exc x st S => (match lkX x tb with
    | some true => if i < st.length then (match s x (st.set i none) S with
      | .rt t S => .rt t S
      | _ => .bad) else .bad
    | some false => .exc x st S
    | none => .bad)
  | r => r
section
variable {X : Cx} {K : PySem.W.Frag} {E : XS} {body suite : List Stmt} {b₀ : Stmt} {np pos pos' : Pos} {b : AS} {s : String → AS} {n : Str}
theorem aTryAs {c : String} {cS : Str} {tb : List (String × Bool)} (i : Nat) (hN : X.N.Nodup) (hf : cS = Str.ofString c) (hs : X.stack = X.env :: X.outer) (hfr : X.env.frame = some X.env.locals) (hm : X.mg cS = some (.ref (He.ga K cS))) (tk : Takes X (wx E)) (ht : ∀ x k, lkX x tb = some k → PySem.W.exmOne K (cR K x) (.ref (He.ga K cS)) = some k)
    (hb : ∀ (W : WX) (pn : List (Addr × Obj)) (xe : Value → Shared → Prop), Takes (X.tr pn xe) W → PassesOwn (model X.prog X.w) X.A X.env xe → PSs (X.tr pn xe) body (LS K (fun σ c d H => W c d σ H) b))
    (hsu : ∀ (a : Addr) (oe : Obj) (cls : Value) (d : Option Addr) (pn : List (Addr × Obj)), Zc cls d oe → (∃ vs, oe.data = .fields vs) → PSs (X.suite a ((a, oe) :: pn)) (b₀ :: suite) (LXS K (TBx K tb cls d) i a s))
    (hi : X.N[i]? = some n := by rfl) (hln : X.env.kindOf n = some .local := by rfl) (hg : Gl X cS := by rfl) (hdb : (cS == ("__debug__" : Str)) = false := by decide) (hK : X.K = K := by rfl) :
    PS X (.Try body [.ExceptHandler (some (.Name cS np)) (some n) (b₀ :: suite) pos'] [] [] pos) (LS K E (mTryA i tb b s)) := by
  subst hf hK
  refine PS.weak (ps_try_as (i := i) (c := .ref (He.ga X.K (.ofString c))) (tb := fun W => LS X.K (fun σ c d H => W c d σ H) b) (ts := fun a cls d => LXS X.K (TBx X.K tb cls d) i a s) (Wout := wx E) hs hfr hN hi hln ⟨hg, hdb, .inl hm⟩ tk hb hsu) fun D σ H ⟨st, S, g, w, sl, p⟩ => ⟨st, S, g, w, sl, ?_⟩
  unfold mTryA at p
  cases z : b st S with
  | exc x st' S' =>
    rw [z] at p
    intro σ' H' g' w' x' sl'
    cases q : lkX x tb with
    | none => simp only [q] at p; exact p.elim
    | some k =>
      refine ⟨k, ht x k q, fun e a _ => ?_, fun e => ?_⟩
      · subst e
        simp only [q] at p
        by_cases hl : i < st'.length
        · rw [if_pos hl] at p
          refine ⟨x, ⟨q, rfl, rfl⟩, List.getElem?_set_self (by rw [← sl'.1]; exact hl), st'.set i none, S', g', w', sl'.unset i _, ?_⟩
          have p' := PostS.trans p x'
          cases y : s x (st'.set i none) S' with
          | exc _ _ _ => rw [y] at p'; exact p'.elim
          | nx a b => rw [y] at p'; exact p'.elim
          | br a b => rw [y] at p'; exact p'.elim
          | ct a b => rw [y] at p'; exact p'.elim
          | rt a b => rw [y] at p'; exact p'
          | bad => rw [y] at p'; exact p'
        · rw [if_neg hl] at p; exact p.elim
      · subst e
        simp only [q] at p
        exact p σ' H' g' w' x' sl'
  | nx a b => rw [z] at p; exact p
  | br a b => rw [z] at p; exact p
  | ct a b => rw [z] at p; exact p
  | rt a b => rw [z] at p; exact p
  | bad => rw [z] at p; exact p
end
/-! evaluation -/
def tyK (tb : List (String × Bool)) (s : String → AS) (i : Nat) : RS → RS
  | .exc x st S => (match lkX x tb with
    | some true => if i < st.length then (match s x (st.set i none) S with
      | .rt t S => .rt t S
      | _ => .bad) else .bad
    | some false => .exc x st S
    | none => .bad)
  | r => r
def rtK : RS → RS
  | .rt t S => .rt t S
  | _ => .bad
section
variable {i : Nat} {tb : List (String × Bool)} {b : AS} {s : String → AS} {st : Slots} {S : Sto} {x : String} {t : T}
theorem e_TryA : mTryA i tb b s st S = tyK tb s i (b st S) := rfl
theorem e_tyNx : tyK tb s i (.nx st S) = .nx st S := rfl
theorem e_tyRt : tyK tb s i (.rt t S) = .rt t S := rfl
theorem e_tyBr : tyK tb s i (.br st S) = .br st S := rfl
theorem e_tyCt : tyK tb s i (.ct st S) = .ct st S := rfl
def tyC (i : Nat) (s : String → AS) (x : String) (st : Slots) (S : Sto) : Option Bool → RS
  | some true => if i < st.length then rtK (s x (st.set i none) S) else .bad
  | some false => .exc x st S
  | none => .bad
theorem e_tyEx : tyK tb s i (.exc x st S) = tyC i s x st S (lkX x tb) := by
  show (match lkX x tb with
    | some true => _
    | some false => _
    | none => _) = _
  cases lkX x tb with
  | none => rfl
  | some k => cases k <;> rfl
theorem e_tyC1 : tyC i s x st S (some true) = if i < st.length then rtK (s x (st.set i none) S) else .bad := rfl
theorem e_tyC0 : tyC i s x st S (some false) = .exc x st S := rfl
theorem e_rtK : rtK (.rt t S) = .rt t S := rfl
def isxK (o : Option Bool) : AE := match o with
  | some b => mC (.bl b)
  | none => fun _ _ => .bad
theorem e_IsX {tc : List (String × Bool)} : mIsX tc x st S = isxK (lkX x tc) st S := by
  unfold mIsX isxK
  cases lkX x tc <;> rfl
theorem e_isxK {k : Bool} : isxK (some k) st S = .ok (.bl k) S := rfl
end
theorem e_opSlTk {fz : Bool} {ts : List T} {l h : Option Int} {S : Sto} : opSl fz (.tupk ts) l h S = if (cutT ts l h).length < ts.length then .ok (.tup (cutT ts l h)) S else .bad := rfl
/-! ## NAME.index(..) of a tuple of texts of the module -/
def ixS (z : String) : List String → Option Nat
  | [] => none
  | s :: r => if s = z then some 0 else (ixS z r).map (· + 1)
theorem ixS_nil {z : String} : ixS z [] = none := rfl
theorem ixS_cons {z s : String} {r : List String} : ixS z (s :: r) = if s = z then some 0 else (ixS z r).map (· + 1) := rfl
theorem ixS_ok {z : String} : ∀ {ss : List String} {j : Nat}, ixS z ss = some j → ss[j]? = some z ∧ ∀ m, m < j → ss[m]? ≠ some z
  | [], _, h => nomatch h
  | s :: r, j, h => by
    rw [ixS_cons] at h
    by_cases q : s = z
    · rw [if_pos q] at h
      cases h
      exact ⟨by rw [q]; rfl, fun m hm => nomatch hm⟩
    · rw [if_neg q] at h
      obtain ⟨k, hk, rfl⟩ := Option.map_eq_some_iff.mp h
      obtain ⟨h1, h2⟩ := ixS_ok hk
      refine ⟨by rw [List.getElem?_cons_succ]; exact h1, fun m hm => ?_⟩
      cases m with
      | zero => rw [List.getElem?_cons_zero]; exact fun e => q (Option.some.inj e)
      | succ m => rw [List.getElem?_cons_succ]; exact h2 m (by omega)
def ndB (x : Str) (K : PySem.W.Frag) : Bool := match K.lookup (He.ga K x) with
  | some ⟨.type c, none, _, _⟩ => decide (c = "tuple")
  | _ => false
theorem ndB_ok {x : Str} {K : PySem.W.Frag} (h : ndB x K = true) : ∃ o, K.lookup (He.ga K x) = some o ∧ o.cls = .type "tuple" ∧ o.dict = none := by
  unfold ndB at h
  cases q : K.lookup (He.ga K x) with
  | none => rw [q] at h; cases h
  | some o =>
    obtain ⟨oc, od, dt, osl⟩ := o
    rw [q] at h
    cases oc with
    | type c =>
      cases od with
      | none => exact ⟨_, rfl, congrArg Value.type (of_decide_eq_true h), rfl⟩
      | some _ => cases h
    | _ => cases od <;> cases h
def tixK (ss : List String) : T → Sto → R T
  | .str z, S => (match ixS z ss with
    | some j => .ok (.int (j : Nat)) S
    | none => .bad)
  | _, _ => .bad
def mTIx (ss : List String) (a : AE) : AE := fun st S => (a st S).bind (tixK ss)
section
variable {X : Cx} {K : PySem.W.Frag} {E : XS} {e : Expr} {ea : AE} {np apos cpos : Pos}
theorem aTIx {x : Str} {ss : List String} (hl : ndB x K = true) (hs : He.tupB K x (ss.map fun s => He.Dv.str (.ofString s)) = true) (gx : X.mg x = some (.ref (He.ga K x))) (ha : PE X e (LE K E ea)) (hgl : Gl X x := by rfl) (hdb : (x == ("__debug__" : Str)) = false := by decide) (hK : X.K = K := by rfl)
    (hbase : attributeBase (.Name x np) "index" X.env (eval (.Name x np) X.env) = eval (.Name x np) X.env := by rfl)
    (hfew : ((backTo cpos (starEach [e] X.env)).all (fun x => !x.1) && (backToKw cpos (keywordEach [] X.env)).all (fun x => x.1.isSome)
      && decide (([e] : List Expr).length + ([] : List Keyword).length + (if ([] : List Keyword).isEmpty then 0 else 1) < 30)) = true := by rfl)
    (hline : (apos.endLine == cpos.line) = true := by rfl) (hst : starEach [e] X.env = (false, eval e X.env) :: starEach [] X.env := by rfl) (hplain : (backTo cpos (starEach [] X.env)).any (·.1) = false := by rfl) :
    PE X (.Call (.Attribute (.Name x np) "index" apos) [e] [] cpos) (LE K E (mTIx ss ea)) := by
  subst hK
  refine PE.weak (pe_bm PySem.F.plainAttrs_tuple PySem.F.slot_tuple_index PySem.F.type_tuple_index mt_tup_index (pe_globR hgl gx hdb) (pa_cons ha pa_nil hst) hbase hfew hline hst hplain) fun σ H Q ⟨st, S, g, w, sl, p⟩ => ⟨.inr (.inl ⟨rfl, ndB_ok hl⟩), ?_⟩
  refine LE.bind (f := fun t _ S => tixK ss t S) w sl p fun t S1 v H1 g1 w1 sl1 x1 r1 p1 => ?_
  cases r1 with
  | str z =>
    unfold tixK at p1
    simp only at p1
    cases q : ixS z ss with
    | none => simp only [q] at p1; exact p1.elim
    | some j =>
      simp only [q] at p1
      obtain ⟨h1, h2⟩ := ixS_ok q
      refine ⟨_, ss.map Str.ofString, _, j, rfl, rfl, ?_, ?_, ?_, p1.val w1 (.int _)⟩
      · have := He.tupB_ok hs H1
        rw [List.map_map] at this ⊢
        exact this
      · rw [List.getElem?_map, h1]; rfl
      · intro m hm e
        rw [List.getElem?_map] at e
        obtain ⟨u, hu, q⟩ := Option.map_eq_some_iff.mp e
        exact h2 m hm (by rw [hu, ofString_inj q])
  | _ => exact p1.elim
end
section
variable {ss : List String} {a : AE} {st : Slots} {S : Sto} {z : String}
def tixO (S : Sto) : Option Nat → R T
  | some j => .ok (.int (j : Nat)) S
  | none => .bad
theorem e_TIx : mTIx ss a st S = (a st S).bind (tixK ss) := rfl
theorem e_tixK : tixK ss (.str z) S = tixO S (ixS z ss) := by
  show (match ixS z ss with
    | some j => _
    | none => _) = _
  cases ixS z ss <;> rfl
theorem e_tixO {j : Nat} : tixO S (some j) = .ok (.int (j : Nat)) S := rfl
end
/-! ## isinstance of an own object and a built-in type: False -/
def isoB (C : Str) (n : String) (K : PySem.W.Frag) : Bool :=
  He.eqO (PySem.W.findIn K (.ref (He.ga K C)) "__class__") (some (some (.builtin "object.__class__"))) && (He.eqO (PySem.W.specialIn K (.builtin "object.__class__") "__get__") (some (some (.builtin "getset_descriptor.__get__"))) &&
  (decide (PySem.W.takesIn K (.builtin "object.__class__") = some true) && (decide (PySem.W.mroIn K (He.ga K C) (.type "object") = some true) && decide (PySem.W.kitOne K (.ref (He.ga K C)) (.type n) = some false))))
def isoK (c n m : String) (S : Sto) (xs : List T) : Option O → R T
  | some (.obj d _) => if d = c ∧ m = n then .ok (.bl false) S else .bad
  | _ => opIsi xs S
def opIsiO (c n : String) : List T → Sto → R T
  | [.ref i, .ty m], S => isoK c n m S [.ref i, .ty m] S[i]?
  | xs, S => opIsi xs S
section
variable {K : PySem.W.Frag}
theorem up_isiO {c n : String} (cl : Cls K (He.ga K (.ofString c))) (h : isoB (.ofString c) n K = true) : UpN K (opIsiO c n) (rIsi K) := by
  intro E S H g xs vs Q W rx p
  unfold opIsiO at p
  split at p
  · rename_i i m
    cases hS : S[i]? with
    | none => rw [hS] at p; exact up_isi W rx p
    | some o =>
      rw [hS] at p
      cases o with
      | obj d fs =>
        change Post K E S H g (Rp K) (if d = c ∧ m = n then R.ok (.bl false) S else .bad) Q at p
        split at p
        · rename_i hc
          obtain ⟨rfl, rfl⟩ := hc
          cases rx with
          | cons r1 rx =>
            cases rx with
            | cons r2 rx =>
              cases rx
              cases r2
              obtain ⟨a, rfl, hm, dx, ws, h1, _⟩ := r1.refH W hS (fun z => nomatch z)
              obtain ⟨q1, q⟩ := He.ba h
              obtain ⟨q2, q⟩ := He.ba q
              obtain ⟨q3, q⟩ := He.ba q
              obtain ⟨q4, q5⟩ := He.ba q
              exact ⟨_, _, _, _, _, rfl, .ty m, .base (.ins h1 cl (He.eqO_ok q1) (He.eqO_ok q2) (of_decide_eq_true q3) (of_decide_eq_true q4)), of_decide_eq_true q5, p.val W (.bl _)⟩
        · exact p.elim
      | _ => exact up_isi W rx p
  · exact up_isi W rx p
end
section
variable {S : Sto} {c n m d : String} {i : Nat} {fs : List (String × T)} {xs l : List T}
theorem e_isiOR : opIsiO c n [.ref i, .ty m] S = isoK c n m S [.ref i, .ty m] S[i]? := rfl
theorem e_isiOL : opIsiO c n [.lst l, .ty m] S = opIsi [.lst l, .ty m] S := rfl
theorem e_isoKo : isoK c n m S xs (some (.obj d fs)) = if d = c ∧ m = n then .ok (.bl false) S else .bad := rfl
theorem e_isoKl : isoK c n m S xs (some (.lst l)) = opIsi xs S := rfl
end
-- simp set: lkX_nil, lkX_cons, e_TryA, e_tyNx, e_tyRt, e_tyBr, e_tyCt, e_tyEx, e_tyC1, e_tyC0, e_rtK, e_IsX, e_isxK, e_TIx, e_tixK, e_tixO, ixS_nil, ixS_cons, e_isiOR, e_isiOL, e_isoKo, e_isoKl
end Ab

namespace Ab
open PySem PySem.Spec PyProof.Rows L2 Sp
/-! ## sorted of tuples with distinct ints at their heads -/
section
variable {prog : Program} {w : World} {A : Around} {s : Shared}
def IsHd (h : Heap) (v : Value) (x : Int) : Prop := ∃ (a : Addr) (o : Obj) (t : Tok) (r : List Value) (n : Nat), v = .ref a ∧ h.get? a = some o ∧ o.cls = .type "tuple" ∧ o.data = .seq (Value.int x t :: r).toArray n
theorem lex_same {b fin : Bool} {Q : Bool → Shared → Prop} (hq : Q fin s) : ∀ (l : List Value) (i : Nat), PySem.W.KatLex prog w A b fin Q (l.zip l) i s
  | [], _ => PySem.W.kat_nil hq
  | v :: l, i => PySem.W.kat_cons (SeqAt.EqAt.same v prog w _ _ (PySem.W.kat_yes (lex_same hq l (i + 1))))
theorem hd_cmp {vs : List Value} {k : Value → Int} (hp : ∀ v ∈ vs, IsHd s.heap v (k v)) (hu : ∀ v ∈ vs, ∀ u ∈ vs, k v = k u → v = u) : SrtO.Cmp prog w A s (tuples' true) (fun p => p.1 ∈ vs) (SrtO.lt2 fun v u => decide (k v < k u)) := by
  intro p q hm hm'
  have h1 := hp _ hm
  have h2 := hp _ hm'
  have h3 := hu _ hm _ hm'
  show wpAny (model prog w) A (keyLt' (tuples' true) p.1 q.1) (fun r s' => s' = s ∧ r = decide (k p.1 < k q.1)) (fun _ _ => False) s
  by_cases e : k p.1 = k q.1
  · have e2 : decide (k p.1 < k q.1) = false := decide_eq_false (by omega)
    rw [e2, ← h3 e]
    obtain ⟨a, o, t, r, n, ea, ho, hc, hd⟩ := h1
    rw [ea]
    refine PySem.W.kat_lt ho hd ho hd ?_
    exact lex_same ⟨rfl, decide_eq_false (Nat.lt_irrefl _)⟩ _ 0
  · generalize k p.1 = x at h1 e ⊢
    generalize k q.1 = x' at h2 e ⊢
    obtain ⟨a, o, t, r, n, ea, ho, hc, hd⟩ := h1
    obtain ⟨a', o', t', r', n', ea', ho', hc', hd'⟩ := h2
    rw [ea, ea']
    refine PySem.W.kat_lt ho hd ho' hd' ?_
    show PySem.W.KatLex prog w A true _ _ ((.int x t, .int x' t') :: r.zip r') 0 s
    refine PySem.W.kat_cons (SeqAt.EqAt.int_int x t x' t' prog w _ _ ?_)
    have ne : (x == x') = false := beq_false_of_ne e
    rw [ne]
    exact PySem.W.kat_no (oneLt_int ⟨rfl, rfl⟩)
theorem hd_firsts {h : Heap} : ∀ {vs : List Value}, (∀ v ∈ vs, ∃ x, IsHd h v x) → ∃ fs : List Value, PySem.W.KatTups h vs fs ∧ fs.length = vs.length ∧ ∀ f ∈ fs, ∃ x t, f = Value.int x t
  | [], _ => ⟨[], PySem.W.KatTups.nil, rfl, fun f hf => nomatch hf⟩
  | v :: vs, hp => by
    obtain ⟨fs, f1, f2, f3⟩ := hd_firsts (vs := vs) fun u hu => hp u (List.mem_cons_of_mem _ hu)
    obtain ⟨x, a, o, t, r, n, rfl, ho, hc, hd⟩ := hp v List.mem_cons_self
    refine ⟨.int x t :: fs, PySem.W.KatTups.cons ho hc hd rfl f1, by simp [f2], fun f hf => ?_⟩
    rcases List.mem_cons.mp hf with rfl | hf
    · exact ⟨x, t, rfl⟩
    · exact f3 f hf
theorem swo_int {α : Type} (k : α → Int) : SrtO.Swo fun v u => decide (k v < k u) := by
  constructor
  · intro x y h
    have := of_decide_eq_true h
    exact decide_eq_false (by omega)
  · intro x y z h1 h2
    have a := of_decide_eq_false h1
    have b := of_decide_eq_false h2
    exact decide_eq_false (by omega)
theorem hd_sorted {E : Value → Shared → Prop} {l : Addr} {vs : List Value} {k : Value → Int} {Q : Value → Shared → Prop} (hl : s.heap.IsList l vs.toArray) (hz : vs.length ≤ sizeLine) (hp : ∀ v ∈ vs, IsHd s.heap v (k v)) (hu : ∀ v ∈ vs, ∀ u ∈ vs, k v = k u → v = u)
    (h : ∀ (h' : Heap) (d : Addr) (out : List Value), SrtO.Srtd (fun v u => decide (k v < k u)) out → out.Perm vs → (∀ b o, s.heap.get? b = some o → h'.get? b = some o) → s.heap.objs.size ≤ d → (∃ n, h'.get? d = some (seqObj "list" out.toArray n)) → Q (.ref d) { s with heap := h' }) :
    wpAny (model prog w) A (call (.builtin "sorted") [.ref l]) Q E s := by
  refine SrtO.sorted_ord (swo_int k) hl hz (fun h2 h₁ a ha kk => ?_) fun out hs hb => ?_
  · intro h' keep
    have hp' : ∀ v ∈ vs, IsHd h' v (k v) := fun v hm => by
      obtain ⟨b, o, t, r, n, e, ho, hc, hd⟩ := hp v hm
      have h3 := (kk b o ho).2
      refine ⟨b, o, t, r, n, e, keep b o (fun z => ?_) h3, hc, hd⟩
      subst z
      rw [h3] at ha
      cases ha
      exact absurd (Value.type.inj hc) (by decide)
    obtain ⟨fs, f1, f2, f3⟩ := hd_firsts fun v hm => ⟨_, hp' v hm⟩
    refine ⟨tuples' true, fun Q E hq => ?_, hd_cmp hp' hu⟩
    refine PySem.W.kat_kind (T := .type "int") f1 (by omega) (fun f hm => ?_) (by rfl) ?_
    · obtain ⟨x, t, rfl⟩ := f3 f hm
      exact PySem.W.Looks.now
    · rw [show (Value.type "int" != Value.type "tuple") = true from by decide +kernel]
      exact hq
  · exact h _ _ out hs hb.perm (fun b o e => PyProof.Rows.sortedAll_old e) (Nat.le_succ _) (PyProof.Rows.sortedAll_at s.heap vs out.toArray)
end
def rSortedH (K : PySem.W.Frag) : List V → Hp → VK → Prop := fun vs H Q => ∃ (a : Addr) (xs : List V) (k : V → Int), vs = [V.ref a] ∧ SqL K H a xs ∧ (∀ x ∈ xs, ∃ t r, x = V.ref t ∧ H t = some (.tup (.int (k x) :: r))) ∧ (∀ x ∈ xs, ∀ y ∈ xs, k x = k y → x = y) ∧
  ∀ ys p, SrtO.Srtd (fun v u => decide (k v < k u)) ys → ys.Perm xs → H p = none → Q (.ref p) (upd H p (.lst ys))
theorem cr_sortedHK {X : Cx} (K : PySem.W.Frag) (hK : X.K = K := by rfl) : CallR X (.builtin "sorted") (rSortedH K) := by
  subst hK
  intro pins s σ H vs us Q I r h
  obtain ⟨a, xs, k, rfl, hs, hx, hu, q⟩ := h
  obtain ⟨its, rv, hl, hz⟩ := I.list hs
  obtain ⟨u, rfl, ru⟩ := vals1 r
  cases (show u = Value.ref a from ru)
  obtain ⟨e1, e2⟩ := refs_back rv fun x m => let ⟨t, _, e, _⟩ := hx x m; ⟨t, e⟩
  have mem : ∀ v ∈ its, backV v ∈ xs := fun v hv => by rw [e1]; exact List.mem_map.mpr ⟨v, hv, rfl⟩
  refine hd_sorted (k := fun u => k (backV u)) hl.isList (by rw [← rv.length]; exact hz) (fun v hv => ?_) (fun v hv u hu' e => ?_) fun h' d out h1 h2 kp hd hn => ?_
  · obtain ⟨t, rfl⟩ := e2 v hv
    obtain ⟨t', r', e, ht⟩ := hx _ (mem _ hv)
    cases e
    obtain ⟨_, its2, r2, o, ho, hc, n, hd⟩ := I.hok _ _ ht
    cases r2 with
    | cons ri rr =>
      obtain ⟨t1, rfl⟩ := ri
      exact ⟨t, o, t1, _, n, rfl, ho, hc, hd⟩
  · obtain ⟨t, rfl⟩ := e2 v hv
    obtain ⟨t', rfl⟩ := e2 u hu'
    have := hu _ (mem _ hv) _ (mem _ hu') e
    cases this
    rfl
  · have h3 : ∀ u ∈ out, ∃ a, u = Value.ref a := fun u hu => e2 u (h2.mem_iff.mp hu)
    obtain ⟨n, hn⟩ := hn
    have hb : (out.map backV).Perm xs := by rw [e1]; exact h2.map _
    refine ⟨.ref d, upd H d (.lst (out.map backV)), I.laid (t' := s.toks) kp hd ⟨?_, out, n, vals_back h3, hn⟩, rfl, q _ d (SrtO.srtd_map h1) hb (I.hok.fresh hd)⟩
    rw [hb.length_eq]
    exact hz
/-! the same over trees -/
def hdsOf : List T → Option (List (Int × T))
  | [] => some []
  | .tup (.int i :: r) :: ts => if keyb (.int i :: r) = true then (hdsOf ts).map ((i, .tup (.int i :: r)) :: ·) else none
  | _ => none
def insH (p : Int × T) : List (Int × T) → List (Int × T)
  | [] => [p]
  | q :: qs => if p.1 ≤ q.1 then p :: q :: qs else q :: insH p qs
def sortH : List (Int × T) → List (Int × T)
  | [] => []
  | p :: ps => insH p (sortH ps)
theorem insH_perm (p : Int × T) : ∀ l, (insH p l).Perm (p :: l)
  | [] => .refl _
  | q :: qs => by
    unfold insH
    split
    · exact .refl _
    · exact ((insH_perm p qs).cons q).trans (.swap p q qs)
theorem sortH_perm : ∀ l, (sortH l).Perm l
  | [] => .refl _
  | p :: ps => (insH_perm p (sortH ps)).trans ((sortH_perm ps).cons p)
theorem insH_asc (p : Int × T) : ∀ l : List (Int × T), (l.map (·.1)).Pairwise (· ≤ ·) → ((insH p l).map (·.1)).Pairwise (· ≤ ·)
  | [], _ => by simp [insH]
  | q :: qs, h => by
    unfold insH
    rw [List.map_cons] at h
    obtain ⟨h1, h2⟩ := List.pairwise_cons.mp h
    split
    · rename_i c
      rw [List.map_cons, List.map_cons]
      refine List.pairwise_cons.mpr ⟨fun x hx => ?_, h⟩
      rcases List.mem_cons.mp hx with rfl | hx
      · exact c
      · exact Int.le_trans c (h1 x hx)
    · rename_i c
      rw [List.map_cons]
      refine List.pairwise_cons.mpr ⟨fun x hx => ?_, insH_asc p qs h2⟩
      rcases List.mem_cons.mp (((insH_perm p qs).map (·.1)).mem_iff.mp hx) with rfl | hx
      · show q.1 ≤ p.1; omega
      · exact h1 x hx
theorem sortH_asc : ∀ l, ((sortH l).map (·.1)).Pairwise (· ≤ ·)
  | [] => .nil
  | p :: ps => insH_asc p _ (sortH_asc ps)
theorem asc_uniq : ∀ {l m : List Int}, l.Perm m → l.Pairwise (· ≤ ·) → m.Pairwise (· ≤ ·) → l = m
  | [], _, p, _, _ => (List.nil_perm.mp p).symm
  | a :: l, [], p, _, _ => (List.cons_ne_nil _ _ (List.perm_nil.mp p)).elim
  | a :: l, b :: m, p, h1, h2 => by
    obtain ⟨q1, q2⟩ := List.pairwise_cons.mp h1
    obtain ⟨q3, q4⟩ := List.pairwise_cons.mp h2
    have e : a = b := by
      rcases List.mem_cons.mp (p.mem_iff.mp List.mem_cons_self) with e | e
      · exact e
      · rcases List.mem_cons.mp (p.mem_iff.mpr (List.mem_cons_self (a := b) (l := m))) with e' | e'
        · exact e'.symm
        · have a1 := q1 b e'; have a2 := q3 a e; omega
    subst e
    rw [asc_uniq ((List.perm_cons a).mp p) q2 q4]
def opSortH (fz : Bool) : List T → Sto → R T
  | [x], S => match (lkL S x).bind hdsOf with
    | some l => if (l.map (·.1)).Nodup then mkL fz ((sortH l).map (·.2)) S else .bad
    | none => .bad
  | _, _ => .bad
section
variable {K : PySem.W.Frag}
/-- the int at the head of the tuple at v -/
def hdAt (H : Hp) (v : V) : Int := match v with
  | .ref t => (match H t with
    | some (.tup (.int i :: _)) => i
    | _ => 0)
  | _ => 0
def IsH (K : PySem.W.Frag) (g : G) (H : Hp) (p : Int × T) (x : V) : Prop := Rp K g p.2 x ∧ ∃ t r, x = .ref t ∧ H t = some (.tup (.int p.1 :: r)) ∧ hdAt H x = p.1
theorem hds_rp {S : Sto} {H : Hp} {g : G} (W : Wd K S H g) : ∀ {ts : List T} {vs : List V} {l : List (Int × T)}, hdsOf ts = some l → Rps K g ts vs → l.map (·.1) = vs.map (hdAt H) ∧ (∀ x ∈ vs, ∃ p ∈ l, IsH K g H p x) ∧ l.length = vs.length
  | [], vs, l, e, r => by
    cases r; cases e
    exact ⟨rfl, (fun x hx => nomatch hx), rfl⟩
  | t :: ts, vs, l, e, r => by
    unfold hdsOf at e
    split at e
    · rename_i h; cases h
    · rename_i i r0 ts0 h
      cases h
      split at e
      · rename_i hk
        obtain ⟨m, hm, rfl⟩ := Option.map_eq_some_iff.mp e
        cases r with
        | cons r1 rr =>
          obtain ⟨h1, h2, h3⟩ := hds_rp W hm rr
          have r1' := r1
          cases r1 with
          | @tup _ ad _ a b c =>
            have e3 := W.sub _ _ (b hk)
            cases c with
            | cons c1 c2 =>
              cases c1
              have hd : hdAt H (.ref ad) = i := by unfold hdAt; simp only [e3]
              refine ⟨by rw [List.map_cons, List.map_cons, h1, hd], fun x hx => ?_, by simp [h3]⟩
              rcases List.mem_cons.mp hx with rfl | hx
              · exact ⟨_, List.mem_cons_self, r1', _, _, rfl, e3, hd⟩
              · obtain ⟨p, hp, q⟩ := h2 x hx
                exact ⟨p, List.mem_cons_of_mem _ hp, q⟩
      · cases e
    · cases e
theorem nodup_fst {l : List (Int × T)} (h : (l.map (·.1)).Nodup) : ∀ {p q : Int × T}, p ∈ l → q ∈ l → p.1 = q.1 → p = q := by
  induction l with
  | nil => intro p q hp; cases hp
  | cons a l ih =>
    intro p q hp hq e
    rw [List.map_cons, List.nodup_cons] at h
    rcases List.mem_cons.mp hp with ep | hp2
    · rcases List.mem_cons.mp hq with eq | hq2
      · rw [ep, eq]
      · subst ep; exact (h.1 (List.mem_map.mpr ⟨q, hq2, e.symm⟩)).elim
    · rcases List.mem_cons.mp hq with eq | hq2
      · subst eq; exact (h.1 (List.mem_map.mpr ⟨p, hp2, e⟩)).elim
      · exact ih h.2 hp2 hq2 e
theorem nodup_map_inj {α β : Type} {f : α → β} : ∀ {l : List α}, (l.map f).Nodup → ∀ {x y : α}, x ∈ l → y ∈ l → f x = f y → x = y
  | [], _, _, _, hx, _, _ => nomatch hx
  | a :: l, h, x, y, hx, hy, e => by
    rw [List.map_cons, List.nodup_cons] at h
    rcases List.mem_cons.mp hx with ex | hx2
    · rcases List.mem_cons.mp hy with ey | hy2
      · rw [ex, ey]
      · subst ex; exact (h.1 (List.mem_map.mpr ⟨y, hy2, e.symm⟩)).elim
    · rcases List.mem_cons.mp hy with ey | hy2
      · subst ey; exact (h.1 (List.mem_map.mpr ⟨x, hx2, e⟩)).elim
      · exact nodup_map_inj h.2 hx2 hy2 e
theorem Rps.hds {g : G} {H : Hp} {l : List (Int × T)} (nd : (l.map (·.1)).Nodup) : ∀ {A : List (Int × T)} {ys : List V}, A.map (·.1) = ys.map (hdAt H) → (∀ p ∈ A, p ∈ l) → (∀ y ∈ ys, ∃ p ∈ l, IsH K g H p y) → Rps K g (A.map (·.2)) ys
  | [], [], _, _, _ => .nil
  | [], _ :: _, e, _, _ => by cases e
  | _ :: _, [], e, _, _ => by cases e
  | a :: A, y :: ys, e, ha, hy => by
    rw [List.map_cons, List.map_cons] at e
    injection e with e1 e2
    obtain ⟨p, hp, r, _, _, _, _, hd⟩ := hy y List.mem_cons_self
    have : a = p := nodup_fst nd (ha a List.mem_cons_self) hp (by rw [e1, hd])
    subst this
    exact .cons r (Rps.hds nd e2 (fun q hq => ha q (List.mem_cons_of_mem _ hq)) fun z hz => hy z (List.mem_cons_of_mem _ hz))
theorem up_sortH (fz : Bool) : UpN K (opSortH fz) (rSortedH K) := by
  intro E S H g xs vs Q W rx p
  unfold opSortH at p
  split at p
  · obtain ⟨v, rfl, r⟩ := rx.one
    split at p
    · rename_i l e
      split at p
      · rename_i nd
        obtain ⟨ts, e1, e2⟩ := Option.bind_eq_some_iff.mp e
        obtain ⟨a, ws, rfl, h, r1⟩ := lkL_rp W e1 r
        obtain ⟨h1, h2, h3⟩ := hds_rp W e2 r1
        refine ⟨a, ws, hdAt H, rfl, h, fun x hx => ?_, fun x hx y hy e => ?_, fun ys q srt pm hq => ?_⟩
        · obtain ⟨p, hp, _, t, r, rfl, e, hd⟩ := h2 x hx
          exact ⟨t, r, rfl, by rw [hd]; exact e⟩
        · have nd' : (ws.map (hdAt H)).Nodup := by rw [← h1]; exact nd
          exact nodup_map_inj nd' hx hy e
        · have e3 : (sortH l).map (·.1) = ys.map (hdAt H) := asc_uniq (((sortH_perm l).map _).trans (by rw [h1]; exact (pm.map _).symm)) (sortH_asc l) (List.pairwise_map.mpr (srt.imp fun {x y} a => by have := of_decide_eq_false a; omega))
          exact Post.newLst p W (Rps.hds nd e3 (fun p hp => (sortH_perm l).mem_iff.mp hp) fun y hy => h2 y (pm.mem_iff.mp hy)) q hq
      · exact p.elim
    · exact p.elim
  · exact p.elim
end
section
variable {fz : Bool} {S : Sto} {t : T}
def srtHK (fz : Bool) (S : Sto) (l : List (Int × T)) : R T := if (l.map (·.1)).Nodup then mkL fz ((sortH l).map (·.2)) S else .bad
theorem e_sortH : opSortH fz [t] S = pget ((lkL S t).bind hdsOf) (srtHK fz S) := by simp only [opSortH]; cases (lkL S t).bind hdsOf <;> rfl
theorem e_srtHK {l : List (Int × T)} : srtHK fz S l = if (l.map (·.1)).Nodup then mkL fz ((sortH l).map (·.2)) S else .bad := rfl
end
-- simp set: e_sortH, e_srtHK
end Ab

namespace Ab
open PySem PySem.Spec PyProof.Rows L2 Sp
/-! ## max(xs, default=d) of ints -/
def rMaxDf (K : PySem.W.Frag) : List V → List V → Hp → VK → Prop := fun vs zs H Q => ∃ (a : Addr) (ns : List Int) (d : V), vs = [V.ref a] ∧ zs = [d] ∧ SqL K H a (ns.map V.int) ∧ (ns = [] → Q d H) ∧ ∀ m, m ∈ ns → (∀ x ∈ ns, x ≤ m) → Q (.int m) H
theorem ints_hold {h : Heap} : ∀ {vs : List Value} {ns : List Int}, IntsAre vs ns → PySem.W.HoldAll (α := Int) h vs ns
  | _, _, .nil => ⟨[], .nil⟩
  | _, _, .cons i t r => by
    obtain ⟨as, q⟩ := ints_hold (h := h) r
    exact ⟨[] ++ as, .cons (.int i t) q⟩
theorem maxOf_int (y : Int) : ∀ ys : List Int, PySem.W.maxOf y ys ∈ y :: ys ∧ ∀ x ∈ y :: ys, x ≤ PySem.W.maxOf y ys := by
  intro ys
  induction ys generalizing y with
  | nil => exact ⟨List.mem_cons_self, fun x hx => by rw [List.mem_singleton.mp hx]; exact Int.le_refl _⟩
  | cons z zs ih =>
    have e : PySem.W.maxOf y (z :: zs) = PySem.W.maxOf (if y < z then z else y) zs := by
      show PySem.W.maxOf (if PySem.W.DatumOrd.lt y z = true then z else y) zs = _
      congr 1
      by_cases c : y < z
      · rw [if_pos c, if_pos (by exact decide_eq_true c)]
      · rw [if_neg c, if_neg (by exact fun h => c (of_decide_eq_true h))]
    rw [e]
    obtain ⟨h1, h2⟩ := ih (if y < z then z else y)
    by_cases c : y < z
    · rw [if_pos c] at h1 h2 ⊢
      refine ⟨List.mem_cons_of_mem _ h1, fun x hx => ?_⟩
      rcases List.mem_cons.mp hx with rfl | hx
      · exact Int.le_trans (Int.le_of_lt c) (h2 z List.mem_cons_self)
      · exact h2 x hx
    · rw [if_neg c] at h1 h2 ⊢
      refine ⟨?_, fun x hx => ?_⟩
      · rcases List.mem_cons.mp h1 with h | h
        · rw [h]; exact List.mem_cons_self
        · exact List.mem_cons_of_mem _ (List.mem_cons_of_mem _ h)
      · rcases List.mem_cons.mp hx with rfl | hx
        · exact h2 x List.mem_cons_self
        · rcases List.mem_cons.mp hx with rfl | hx
          · exact Int.le_trans (Int.not_lt.mp c) (h2 y List.mem_cons_self)
          · exact h2 x (List.mem_cons_of_mem _ hx)
theorem cr_maxDf {X : Cx} (hc : X.calm = true) (hu : X.A.units + 64 < cLine) : CallRK X (.builtin "max") ["default"] (rMaxDf X.K) := by
  intro pins s σ H xs zs us ws Q I r rz h
  obtain ⟨a, ns, d, rfl, rfl, hs, h0, h1⟩ := h
  obtain ⟨its, rv, hl, _⟩ := I.list hs
  rw [Vals.ref1 r]
  obtain ⟨dv, rfl, rd⟩ := vals1 rz
  refine PySem.W.max_list_datum_default (α := Int) (xs := ns) (I.ok.hd hc) hl.isList (by simpa using ints_hold rv.ints) (by show X.A.units + 1 + 0 < cLine; omega) (fun e h' tk k => ⟨d, H, I.kept k, rd, h0 e⟩) fun y ys i v h' tk e _ hv k => ?_
  obtain ⟨as, hv⟩ := hv
  have hv' : Reads h' v (.int (PySem.W.maxOf y ys)) as := hv
  cases hv' with
  | int i t =>
    subst e
    obtain ⟨m1, m2⟩ := maxOf_int y ys
    exact ⟨.int _, H, I.kept k, ⟨t, rfl⟩, h1 _ m1 m2⟩
def maxDK (d : Int) (x : T) (S : Sto) : R T := match (lkL S x).bind intsOf with
  | some [] => .ok (.int d) S
  | some (i :: is) => .ok (.int (maxI (i :: is))) S
  | none => .bad
def mMaxD (d : Int) (a : AE) : AE := fun st S => (a st S).bind (maxDK d)
section
variable {X : Cx} {K : PySem.W.Frag} {E : XS} {e : Expr} {ea : AE} {pos p kpos cpos : Pos} {d : Int} {j : Nat}
theorem aMaxD (d : Int) (hu : X.A.units + 64 < cLine) (hm : X.mg "max" = none) (ha : PE X e (LE K E ea)) (hK : X.K = K := by rfl) (hc : X.calm = true := by rfl) (hg : Gl X "max" := by rfl)
    (hv : bootBuiltins "max" = some (.builtin "max") := by decide +kernel) (hst : starEach [e] X.env = (false, eval e X.env) :: starEach [] X.env := by rfl)
    (he : backTo pos (starEach [e] X.env) = (false, eval e X.env) :: backTo pos (starEach [] X.env) := by rfl) (hpl : (backTo pos (starEach [e] X.env)).any (·.1) = false := by rfl)
    (hall : (backToKw pos (keywordEach [⟨some "default", .Constant (.int d) j cpos, kpos⟩] X.env)).all (·.1.isSome) = true := by rfl) (hnone : (backToKw pos (keywordEach [⟨some "default", .Constant (.int d) j cpos, kpos⟩] X.env)).any (·.1.isNone) = false := by rfl) (hks : (backToKw pos (keywordEach [⟨some "default", .Constant (.int d) j cpos, kpos⟩] X.env)).filterMap (·.1) = [Str.ofString "default"] := by rfl) :
    PE X (.Call (.Name "max" p) [e] [⟨some "default", .Constant (.int d) j cpos, kpos⟩] pos) (LE K E (mMaxD d ea)) := by
  subst hK
  refine PE.weak (pe_callBK (cr_maxDf hc hu) hg hm hv (pa_cons ha pa_nil hst) (pk_cons pe_int pk_nil) (by decide) (by decide) he hpl hall hnone hks) fun σ H Q ⟨st, S, g, w, sl, p⟩ => ?_
  refine LE.bind (f := fun t _ S => maxDK d t S) w sl p fun t S1 v H1 g1 w1 sl1 x1 r1 p1 => ?_
  unfold maxDK at p1
  cases q : (lkL S1 t).bind intsOf with
  | none => simp only [q] at p1; exact p1.elim
  | some ns =>
    obtain ⟨ts, e1, e2⟩ := Option.bind_eq_some_iff.mp q
    obtain ⟨a, ws, rfl, h, r2⟩ := lkL_rp w1 e1 r1
    obtain ⟨e3, _⟩ := intsOf_rp e2 r2
    subst e3
    cases ns with
    | nil =>
      simp only [q] at p1
      exact ⟨a, [], .int d, rfl, rfl, h, fun _ => p1.val w1 (.int _), (fun m hm _ => nomatch hm)⟩
    | cons i is =>
      simp only [q] at p1
      refine ⟨a, i :: is, .int d, rfl, rfl, h, (fun e => nomatch e), fun m hm hy => ?_⟩
      obtain ⟨m1, m2⟩ := maxI_mem i is
      have : m = maxI (i :: is) := Int.le_antisymm (m2 m hm) (hy _ m1)
      subst this
      exact p1.val w1 (.int _)
end
/-! ## sorted(d), d a dict of int keys -/
def rSortedDI (K : PySem.W.Frag) : List V → Hp → VK → Prop := fun xs H Q => ∃ (a : Addr) (kvs : List (Key × V)) (ks : List Int), xs = [.ref a] ∧ Rd H a (.dK kvs) ∧ kvs.map (·.1) = ks.map Sum.inl ∧ ks.length ≤ sizeLine ∧
  ∀ (ys : List Int) (p : Addr), ys.Perm ks → ys.Pairwise (· ≤ ·) → H p = none → Q (.ref p) (upd H p (.lst (ys.map V.int)))
theorem cr_sortedDI {X : Cx} (K : PySem.W.Frag) (calm : X.calm = true := by rfl) : CallR X (.builtin "sorted") (rSortedDI K) := by
  intro pins s σ H args vals Q I rel q
  obtain ⟨a, kvs, ks, rfl, hd, hks, size, q⟩ := q
  obtain ⟨u, rfl, ru⟩ := vals1 rel
  cases ru
  obtain ⟨z, lo, ents, same, dd⟩ := dk_rd I.hok hd
  obtain ⟨ep, place⟩ := dd.dictAt
  have keys : ents.map (·.1) = ks.map Sum.inl := by
    rw [← hks]; exact same.keys.symm
  have len : ents.length = ks.length := by
    simpa using congrArg List.length keys
  have few : ents.length ≤ sizeLine := len ▸ size
  refine Calls.call_function_entry kind_sorted plain_sorted entry_sorted (args_sorted1 _) ?_
  unfold Builtin.«sorted»
  refine wpAny_bind (m := checkCount "sorted" 1 1 _) (wpAny_pure ?_)
  refine wpAny_bind (PySem.W.kdu_collect (A := X.A.in1)
    (PySem.W.kdl_dict (knd := mixKind X.prog X.w) (kvs := ents) (ep := ep) lo) (I.ok.hd calm) place few ?_)
  intro h1 tk acc kp got
  have many : acc.toList.length = ks.length := by
    rw [Array.length_toList, got.1, len]
  have allI : IntsAre acc.toList ks := ints_each many fun j v at_ => by
    obtain ⟨k, x, at1, at2⟩ := got.2 j v (by rw [← Array.getElem?_toList]; exact at_)
    have at3 : (ks.map Sum.inl)[j]? = some k := by
      rw [← keys, List.getElem?_map, at1]; rfl
    rw [List.getElem?_map] at at3
    obtain ⟨y, hy, rfl⟩ := Option.map_eq_some_iff.mp at3
    rcases keyIs_shape (show keyIs (Sum.inl y) v = true from at2) with ⟨i, t, ei, ev⟩ | ⟨_, _, ei, _⟩
    · cases ei; exact ⟨y, t, hy, ev⟩
    · cases ei
  have I1 : Inv X pins σ H { s with heap := h1, toks := tk } := I.kept kp
  refine wpAny_bind (wpAny_newList ?_ (by rw [many]; exact size))
  have new : (h1.push (seqObj "list" acc.toList.toArray 0)).get? h1.objs.size = some (seqObj "list" acc.toList.toArray 0) := Heap.get?_push_size _ rfl
  refine wpAny_bind (wpAny_holding (wpAny_call_entry slot_list_sort ⟨_, new, rfl⟩ entry_list_sort
    (SrtO.list_sort_ord (s := { s with heap := h1.push (seqObj "list" acc.toList.toArray 0), toks := tk }) SrtO.swo_int new (by rw [many]; exact size)
      (fun two => SrtO.ints_sortable allI two) fun out o1 o2 => ⟨_, rfl, ?_⟩) (args_list_sort _)))
  obtain ⟨g1, g2, g3⟩ := SrtO.ints_out allI o1 o2
  obtain ⟨ep2, there⟩ := sortedHeap_at (vs := acc.toList) (out := out.toArray) new
  have fits : ((out.map SrtO.iv).map V.int).length ≤ sizeLine := by
    rw [List.length_map, g2.length_eq]; exact size
  refine wpAny_pure ⟨_, rfl, .ref h1.objs.size, upd H h1.objs.size (.lst ((out.map SrtO.iv).map V.int)), I1.laid (t' := tk) ?_ (Nat.le_refl _) ⟨fits, out, ep2, vals_of_ints g1, there⟩, rfl, q _ _ g2 g3 (I1.hok.fresh (Nat.le_refl _))⟩
  intro b u eb
  have lt : b < h1.objs.size := Heap.lt_size eb
  rw [sortedHeap_old (Nat.ne_of_lt lt) (by rw [size_push']; exact Nat.lt_succ_of_lt lt)]
  exact Heap.get?_push_of_some _ eb
def opSortD (fz : Bool) : List T → Sto → R T
  | [x], S => match dOf S x with
    | some (false, ps) => (match intsOf (ps.map (·.1)) with
      | some l => if l.length ≤ sizeLine then mkL fz ((sortI l).map .int) S else .bad
      | none => .bad)
    | _ => .bad
  | _, _ => .bad
theorem keys_inl : ∀ {kvs : List (Key × V)} {l : List Int}, (kvs.map fun kv => kV kv.1) = l.map V.int → kvs.map (·.1) = l.map Sum.inl
  | [], [], _ => rfl
  | [], _ :: _, e => by cases e
  | _ :: _, [], e => by cases e
  | (k, v) :: kvs, i :: l, e => by
    rw [List.map_cons, List.map_cons] at e
    injection e with e1 e2
    rw [List.map_cons, List.map_cons, keys_inl e2]
    congr 1
    cases k with
    | inl j => cases e1; rfl
    | inr z => cases e1
theorem up_sortD {K : PySem.W.Frag} (fz : Bool) : UpN K (opSortD fz) (rSortedDI K) := by
  intro E S H g xs vs Q W rx p
  unfold opSortD at p
  split at p
  · obtain ⟨v, rfl, r⟩ := rx.one
    split at p
    · rename_i ps e
      split at p
      · rename_i l e2
        split at p
        · rename_i hl
          obtain ⟨a, u, rfl, h, kvs, rfl, rr⟩ := dOf_rp W e r
          obtain ⟨e3, _⟩ := intsOf_rp e2 rr.keys
          refine ⟨a, kvs, l, rfl, h, keys_inl e3, hl, fun ns' q perm srt hq => ?_⟩
          have : ns' = sortI l := sorted_same (perm.trans (sortI_perm l).symm) srt (sortI_sorted l)
          subst this
          exact Post.newLst p W (Rps.ints _) q hq
        · exact p.elim
      · exact p.elim
    · exact p.elim
  · exact p.elim
section
variable {fz : Bool} {S : Sto} {t : T} {d i : Int} {is l : List Int} {a : AE} {st : Slots} {ps : List (T × T)}
def maxDO (d : Int) (S : Sto) : Option (List Int) → R T
  | some [] => .ok (.int d) S
  | some (i :: is) => .ok (.int (maxI (i :: is))) S
  | none => .bad
theorem e_MaxD : mMaxD d a st S = (a st S).bind (maxDK d) := rfl
theorem e_maxDK : maxDK d t S = maxDO d S ((lkL S t).bind intsOf) := by
  unfold maxDK maxDO
  cases (lkL S t).bind intsOf with
  | none => rfl
  | some l => cases l <;> rfl
theorem e_maxDn : maxDO d S (some []) = .ok (.int d) S := rfl
theorem e_maxDc : maxDO d S (some (i :: is)) = .ok (.int (maxI (i :: is))) S := rfl
def srtDL (fz : Bool) (S : Sto) (l : List Int) : R T := if l.length ≤ sizeLine then mkL fz ((sortI l).map .int) S else .bad
def srtDK (fz : Bool) (S : Sto) : Bool × List (T × T) → R T
  | (false, ps) => pget (intsOf (ps.map (·.1))) (srtDL fz S)
  | _ => .bad
theorem e_sortD : opSortD fz [t] S = pget (dOf S t) (srtDK fz S) := by
  simp only [opSortD]
  generalize dOf S t = o
  rcases o with _ | ⟨_ | _, ps⟩
  · rfl
  · show _ = pget (intsOf (ps.map (·.1))) (srtDL fz S)
    simp only
    cases intsOf (ps.map (·.1)) <;> rfl
  · rfl
theorem e_srtDK : srtDK fz S (false, ps) = pget (intsOf (ps.map (·.1))) (srtDL fz S) := rfl
theorem e_srtDL : srtDL fz S l = if l.length ≤ sizeLine then mkL fz ((sortI l).map .int) S else .bad := rfl
end
theorem tb_one {β : Type} {P : String → β → Prop} {c : String} {b : β} (h : P c b) : ∀ x k, List.lookup x [(c, b)] = some k → P x k := by
  intro x k e
  unfold List.lookup at e
  cases q : x == c with
  | true =>
    rw [q] at e
    have hx : x = c := by simpa using q
    subst hx
    injection e with e
    subst e
    exact h
  | false =>
    rw [q] at e
    cases e
-- simp set: e_MaxD, e_maxDK, e_maxDn, e_maxDc, e_sortD, e_srtDK, e_srtDL
end Ab

namespace Ab
open PySem PySem.Spec PyProof.Rows L2 Sp
/-! ## loops that may end early -/
/-- a step goes on (P), ends the def with a value (Q), or breaks (B) -/
def GoesR (P : Slots → Sto → Prop) (Q : T → Sto → Prop) (B : Slots → Sto → Prop) : RS → Prop
  | .nx st S => P st S
  | .ct st S => P st S
  | .rt t S => Q t S
  | .br st S => B st S
  | _ => False
def EndsR (P : Slots → Sto → Prop) (Q : T → Sto → Prop) : RS → Prop
  | .nx st S => P st S
  | .rt t S => Q t S
  | _ => False
theorem forL_stop {ck : Option (Nat × O)} {g : MG} {b : AS} {t : T} {ts : List T} {st : Slots} {S : Sto} (h : okC ck S) {P : Slots → Sto → Prop} {Q : T → Sto → Prop} {B : Slots → Sto → Prop} (e : GoesR P Q B (fstep g b t st S)) : (∃ st' S', forL ck g b (t :: ts) st S = forL ck g b ts st' S' ∧ P st' S') ∨ EndsR B Q (forL ck g b (t :: ts) st S) := by
  rw [forL_cons _ _ _ _ _ _ _ h]
  unfold fstep fsB at e
  unfold forB forN
  cases q : (g t st S).only with
  | nx st1 S1 =>
    rw [q] at e
    simp only at e ⊢
    cases q2 : b st1 S1 with
    | nx st2 S2 => rw [q2] at e; exact .inl ⟨st2, S2, rfl, e⟩
    | ct st2 S2 => rw [q2] at e; exact .inl ⟨st2, S2, rfl, e⟩
    | rt t2 S2 => rw [q2] at e; exact .inr e
    | br st2 S2 => rw [q2] at e; exact .inr e
    | exc => rw [q2] at e; exact e.elim
    | bad => rw [q2] at e; exact e.elim
  | ct st1 S1 => exfalso; revert q; cases g t st S <;> intro q <;> cases q
  | rt st1 S1 => exfalso; revert q; cases g t st S <;> intro q <;> cases q
  | br st1 S1 => exfalso; revert q; cases g t st S <;> intro q <;> cases q
  | exc => rw [q] at e; exact e.elim
  | bad => rw [q] at e; exact e.elim
theorem forL_gen {ck : Option (Nat × O)} {g : MG} {b : AS} {l : List T} {st : Slots} {S : Sto} (P : List T → Slots → Sto → Prop) (Q : T → Sto → Prop) (B : Slots → Sto → Prop) (h0 : P [] st S) (hck : ∀ pre st S, P pre st S → okC ck S)
    (h : ∀ pre t suf st S, l = pre ++ t :: suf → P pre st S → GoesR (P (pre ++ [t])) Q B (fstep g b t st S)) : EndsR (fun st S => P l st S ∨ B st S) Q (forL ck g b l st S) := by
  have go : ∀ (suf pre : List T) (st : Slots) (S : Sto), l = pre ++ suf → P pre st S → EndsR (fun st S => P l st S ∨ B st S) Q (forL ck g b suf st S) := by
    intro suf
    induction suf with
    | nil => intro pre st S e p; rw [List.append_nil] at e; subst e; rw [forL_nil _ _ _ _ _ (hck _ _ _ p)]; exact .inl p
    | cons t suf ih =>
      intro pre st S e p
      rcases forL_stop (ts := suf) (hck _ _ _ p) (h pre t suf st S e p) with ⟨st1, S1, e1, p1⟩ | h1
      · rw [e1]
        exact ih (pre ++ [t]) st1 S1 (by rw [e]; simp) p1
      · cases q : forL ck g b (t :: suf) st S with
        | nx st2 S2 => rw [q] at h1; exact .inr h1
        | rt t2 S2 => rw [q] at h1; exact h1
        | br => rw [q] at h1; exact h1.elim
        | ct => rw [q] at h1; exact h1.elim
        | exc => rw [q] at h1; exact h1.elim
        | bad => rw [q] at h1; exact h1.elim
  exact go l [] st S rfl h0
theorem use_gen {C : RS → Prop} {ck : Option (Nat × O)} {g : MG} {b : AS} {l : List T} {st : Slots} {S : Sto} (P : List T → Slots → Sto → Prop) (Q : T → Sto → Prop) (B : Slots → Sto → Prop) (h0 : P [] st S) (hck : ∀ pre st S, P pre st S → okC ck S)
    (h : ∀ pre t suf st S, l = pre ++ t :: suf → P pre st S → GoesR (P (pre ++ [t])) Q B (fstep g b t st S))
    (k1 : ∀ st' S', P l st' S' ∨ B st' S' → C (.nx st' S')) (k2 : ∀ t S', Q t S' → C (.rt t S')) : C (forL ck g b l st S) := by
  have e := forL_gen P Q B h0 hck h
  cases q : forL ck g b l st S with
  | nx st2 S2 => rw [q] at e; exact k1 _ _ e
  | rt t2 S2 => rw [q] at e; exact k2 _ _ e
  | br => rw [q] at e; exact e.elim
  | ct => rw [q] at e; exact e.elim
  | exc => rw [q] at e; exact e.elim
  | bad => rw [q] at e; exact e.elim
theorem use_rngR {C : RS → Prop} {g : MG} {b : AS} {i j : Int} {st : Slots} {S : Sto} (P : Nat → Slots → Sto → Prop) (Q : T → Sto → Prop) (B : Slots → Sto → Prop) (h0 : P 0 st S)
    (h : ∀ (k : Nat) st S, k < (j - i).toNat → P k st S → GoesR (P (k + 1)) Q B (fstep g b (.int (i + k)) st S))
    (k1 : ∀ st' S', P (j - i).toNat st' S' ∨ B st' S' → C (.nx st' S')) (k2 : ∀ t S', Q t S' → C (.rt t S')) : C (forL none g b (rngT i j) st S) := by
  refine use_gen (fun pre st S => P pre.length st S) Q B h0 (fun _ _ _ _ => trivial) (fun pre t suf st S e p => ?_) (fun st' S' h => k1 st' S' (by rw [rngT_len] at h; exact h)) k2
  have hl : pre.length < (j - i).toNat := by rw [← rngT_len, e]; simp
  have ht : t = .int (i + (pre.length : Nat)) := by
    have e1 : (rngT i j)[pre.length]? = some t := by rw [e]; simp
    unfold rngT at e1
    rw [List.getElem?_map, List.getElem?_range hl] at e1
    exact (Option.some.inj e1).symm
  subst ht
  have := h pre.length st S hl p
  have e2 : (pre ++ [(T.int (i + (pre.length : Nat)))]).length = pre.length + 1 := by simp
  show GoesR (fun st S => P _ st S) _ _ _
  rw [e2]
  exact this
/-! ## a try, evaluated -/
section
variable {tb : List (String × Bool)} {b s : AS} {st : Slots} {S : Sto} {x : String} {t : T}
def trnK : RS → RS := RS.nox
def trcK (s : AS) (x : String) (st : Slots) (S : Sto) : Option Bool → RS
  | some true => trnK (s st S)
  | some false => .exc x st S
  | none => .bad
def tryK (tb : List (String × Bool)) (s : AS) : RS → RS
  | .exc x st S => trcK s x st S (lkX x tb)
  | r => r
theorem lookup_lkX : ∀ tb : List (String × Bool), tb.lookup x = lkX x tb
  | [] => rfl
  | (k, v) :: r => by
    rw [lkX_cons, List.lookup_cons, lookup_lkX r]
    by_cases c : k = x
    · subst c; simp
    · rw [if_neg c]
      have : (x == k) = false := by simp [Ne.symm c]
      rw [this]
theorem e_Try : mTry tb b s st S = tryK tb s (b st S) := by
  unfold mTry tryK
  cases b st S with
  | exc x st' S' =>
    show (match tb.lookup x with
      | some true => (s st' S').nox
      | some false => RS.exc x st' S'
      | none => .bad) = trcK s x st' S' (lkX x tb)
    rw [lookup_lkX]
    cases lkX x tb with
    | none => rfl
    | some k => cases k <;> rfl
  | _ => rfl
theorem e_tryNx : tryK tb s (.nx st S) = .nx st S := rfl
theorem e_tryRt : tryK tb s (.rt t S) = .rt t S := rfl
theorem e_tryBr : tryK tb s (.br st S) = .br st S := rfl
theorem e_tryCt : tryK tb s (.ct st S) = .ct st S := rfl
theorem e_tryEx : tryK tb s (.exc x st S) = trcK s x st S (lkX x tb) := rfl
theorem e_tryC1 : trcK s x st S (some true) = trnK (s st S) := rfl
theorem e_tryC0 : trcK s x st S (some false) = .exc x st S := rfl
theorem e_trnN : trnK (.nx st S) = .nx st S := rfl
theorem e_trnR : trnK (.rt t S) = .rt t S := rfl
theorem e_trnB : trnK (.br st S) = .br st S := rfl
theorem e_trnC : trnK (.ct st S) = .ct st S := rfl
end
end Ab

namespace Ab
open PySem PySem.Spec PyProof.Rows L2 Sp
/-! ## dict comprehensions, whatever the kind of their keys -/
def em (b : Bool) : HO := if b = true then .dT [] else .dK []
theorem em_ok {P : Program} {w : World} {H : Hp} (b : Bool) (hp : Heap) (hb : sysModules < hp.objs.size) : ObjOk P w H (hp.push { cls := .type "dict", data := .dict #[] }) hp.objs.size (em b) := by
  cases b with
  | false => exact dk_empty hp hb
  | true => exact dt_empty hp hb
section
variable {X : Cx}
/-- D[y] = v within a comprehension -/
theorem put_run {pl : List (Addr × Obj)} {σ : TSt} {H H' : Hp} {s : Shared} {Er : Value → Shared → Prop} {D : Addr} {y v : V} {u r : Value} {Q : Unit → Shared → Prop} (hu : X.A.units + 1 < cLine) (J : Inv X pl σ H s) (g : DPut H D y v H') (ry : RelV y u) (rv : RelV v r) (k : ∀ s', Inv X pl σ H' s' → Q () s') :
    wpAny (model X.prog X.w) X.A (dictSet D u r) Q Er s := by
  rcases g with ⟨kvs, kk, e, rfl, l, rfl⟩ | ⟨kvs, kk, c, e, rfl, ec, l, rfl⟩
  · exact d_dictSet J e l ry rv k
  · cases (show u = Value.ref c from ry)
    obtain ⟨z, hd, xs, rel, dd⟩ := dt_of J.hok e
    have z1 : xs.length ≤ sizeLine := by rw [← Paired.length rel]; exact z
    have z2 : (putK kvs kk v).length ≤ sizeLine := by have := length_putK kvs kk v; omega
    refine wpAny_dictSet_heap (hsz := z1) (Nat.lt_of_succ_lt hu) (key_of J.hok ec) dd fun h1 dd' hs => k _ ?_
    obtain ⟨q, es, ep, hq, a2, a3, a4, _, a5⟩ := dd'
    refine d_write J (by rw [e]; exact True.intro) hs ⟨q, hq⟩ ⟨z2, hd, _, (rel.put kk ec rv).keeps fun i ys ei => ?_, q, es, ep, hq, a2, a3, a4, a5⟩
    rw [upd_ne (ne_of ei e (fun z => nomatch z))]
    exact ei
/-- {k: v for target in iter if ..}: D the new dict, of the kind b -/
def tDcG (b : Bool) (wi : TI) (tgt : TG) (tt : TT) (tk tv : TE) (vs : List Nat) : TE := fun σ H Q => wi σ H fun J H1 => ∀ D, H1 D = none → ∃ W : Nat → Nat → Hp → Prop, (∃ m, W 0 m (upd H1 D (em b))) ∧ ∀ i m H, W i m H →
  (J.stop i H ∧ Q (.ref D) H) ∨ (J.go i H ∧ ∃ Nx : Hp → Prop, (∀ H', Nx H' → ∃ m', m' < m ∧ W (i + 1) m' H') ∧ ∀ x H', J.yld i H x H' → tgt x (wipe σ vs) H' fun σ2 H2 => wipe σ2 vs = wipe σ vs ∧ tt σ2 H2 fun c H3 =>
    if c = true then tk σ2 H3 fun y H4 => tv σ2 H4 fun z H5 => ∃ H6, DPut H5 D y z H6 ∧ Nx H6 else Nx H3)
variable {b : Bool} {kx vx tg iter : Expr} {ifs : List Expr} {scope : Scope} {own : List (Str × Nat)} {wi : TI} {tgt : TG} {tt : TT} {tk tv : TE}
theorem dcG0 {pos pos' : Pos} {use : Option (Value → Sem Unit)} {Qf : Value → Shared → Prop} {pl : List (Addr × Obj)} {s : Shared} {σ : TSt} {H : Hp} {Q : VK} (hu : X.A.units + 1 < cLine) (hc : X.calm = true) (hN : X.N.Nodup) (J0 : Inv X pl σ H s) (hi : PI X tg iter wi) (ok : BlkOk X.N X.env.scope scope own)
    (pg : ∀ (s : Shared) (H : Hp) (C : Addr) (cl : List (Str × Addr)) (fp : List Addr), PG (X.blk s H scope (compEnvC scope cl C X.env) fp) tg tgt) (pt : ∀ (s : Shared) (H : Hp) (C : Addr) (cl : List (Str × Addr)) (fp : List Addr), PTs (X.blk s H scope (compEnvC scope cl C X.env) fp) ifs tt)
    (pk : ∀ (s : Shared) (H : Hp) (C : Addr) (cl : List (Str × Addr)) (fp : List Addr), PE (X.blk s H scope (compEnvC scope cl C X.env) fp) kx tk) (pe : ∀ (s : Shared) (H : Hp) (C : Addr) (cl : List (Str × Addr)) (fp : List Addr), PE (X.blk s H scope (compEnvC scope cl C X.env) fp) vx tv)
    (hs : ∀ x, foldedSetIterable iter X.env x = pure x) (h : tDcG b wi tgt tt tk tv (own.map (·.2)) σ H Q)
    (fin0 : ∀ D C s' m H', Inv X pl σ H' s' → Q (.ref D) H' → s'.heap.Ns C m → FpOk X pl H' C → compPost (model X.prog X.w) X.A X.xe use Qf (.ref D) C (.ok .next) s') :
    wpAny (model X.prog X.w) X.A (comprehension (.DictComp kx vx [⟨tg, iter, ifs, 0⟩] scope pos) scope X.env pos' newDict false (eval iter X.env) use) Qf X.xe s := by
  have fr0 : ∀ y ∈ scope.names, y.2 = .free → ∃ c, X.env.cells.lookup y.1 = some c := fun y hy e => (ok.free y hy e).elim (fun k => J0.ok.has _ (.inl k)) fun k => J0.ok.has _ (.inr k)
  refine wpAny_comprehension_free (use := use) rfl hs (closure_ok fr0) ok.kind (fun y hy e => by rw [ok.uniq y hy, e]) (thn (hi.run pl s σ H _ J0 h) fun xv s1 hx => thn hx fun itv s2 h2 => ?_)
  obtain ⟨it, fp, tn, J, H2, rfl, J2, TT, st2, f2, q⟩ := h2
  refine wpAny_newObj_type (newEnv_comp ?_)
  obtain ⟨D, hD⟩ : ∃ D, s2.heap.objs.size = D := ⟨_, rfl⟩
  rw [hD]
  have hDn : H2 D = none := J2.hok.fresh (Nat.le_of_eq hD)
  obtain ⟨W, ⟨m0, w0⟩, turn⟩ := q D hDn
  obtain ⟨s3, hs3⟩ : ∃ s3 : Shared, ({ s2 with heap := s2.heap.push { cls := .type "dict", data := .dict #[] } } : Shared) = s3 := ⟨_, rfl⟩
  rw [hs3]
  have J3 : Inv X pl σ (upd H2 D (em b)) s3 := by
    rw [← hs3]
    exact J2.laid (t' := s2.toks) (fun c o e => Heap.get?_push_of_some _ e) (Nat.le_of_eq hD) (hD ▸ em_ok b s2.heap J2.big)
  have h3 : s3.heap = s2.heap.push { cls := .type "dict", data := .dict #[] } := by rw [← hs3]
  have f3 : ∀ c ∈ fp, FpOk X pl (upd H2 D (em b)) c ∧ c < s3.heap.objs.size := fun c hc' => by
    obtain ⟨o, e, _⟩ := TT.obj _ _ st2 c hc'
    have hlt := Heap.lt_size e
    exact ⟨⟨by rw [upd_ne (by rw [← hD]; exact Nat.ne_of_lt hlt)]; exact (f2 c hc').1, (f2 c hc').2⟩, by rw [h3, Heap.size_push]; exact Nat.lt_succ_of_lt hlt⟩
  have st3 : tn 0 s3.heap := TT.keep _ _ _ st2 fun c _ o e => by rw [h3]; exact Heap.get?_push_of_some _ e
  have J4 := block_start J3 ok hN f3
  have pg := pg s3 (upd H2 D (em b)) s3.heap.objs.size (cellsFrom (s3.heap.objs.size + 1) scope.names (cloFrom X.env.cells scope.names [])) fp
  have pt := pt s3 (upd H2 D (em b)) s3.heap.objs.size (cellsFrom (s3.heap.objs.size + 1) scope.names (cloFrom X.env.cells scope.names [])) fp
  have pk := pk s3 (upd H2 D (em b)) s3.heap.objs.size (cellsFrom (s3.heap.objs.size + 1) scope.names (cloFrom X.env.cells scope.names [])) fp
  have pe := pe s3 (upd H2 D (em b)) s3.heap.objs.size (cellsFrom (s3.heap.objs.size + 1) scope.names (cloFrom X.env.cells scope.names [])) fp
  show codeAny _ _ (.compStart (.DictComp kx vx [⟨tg, iter, ifs, 0⟩] scope pos) 0 (.ref it) (.ref D) (compEnvC scope (cellsFrom (s3.heap.objs.size + 1) scope.names (cloFrom X.env.cells scope.names [])) s3.heap.objs.size X.env)) (compPost (model X.prog X.w) X.A X.xe use Qf (.ref D) s3.heap.objs.size) { s3 with heap := pushCells (s3.heap.push { cls := .type "dict", data := .dict #[] }) scope.names }
  have nfp : ∀ c ∈ fp, (upd H2 D (em b)) c = none := fun c hc' => (f3 c hc').1.1
  generalize hce : compEnvC scope (cellsFrom (s3.heap.objs.size + 1) scope.names (cloFrom X.env.cells scope.names [])) s3.heap.objs.size X.env = ce at J4 pg pt pk pe ⊢
  have cL : ce.locals = s3.heap.objs.size := by subst hce; rfl
  generalize hH3 : upd H2 D (em b) = H3 at J3 J4 pg pt pk pe w0 nfp f3
  generalize hs4 : ({ s3 with heap := pushCells (s3.heap.push { cls := .type "dict", data := .dict #[] }) scope.names } : Shared) = s4 at J4 ⊢
  have st4 : tn 0 s4.heap := TT.keep _ _ _ st3 fun c _ o e => by rw [← hs4]; exact pushCells_keeps _ _ _ _ (Heap.get?_push_of_some _ e)
  have stat : ∀ {σ' : TSt} {H' : Hp} {s' : Shared}, Inv (X.blk s3 H3 scope ce fp) [] σ' H' s' → (∀ c ∈ fp, H' c = none) → ∀ c ∈ fp, FpOk (X.blk s3 H3 scope ce fp) [] H' c := fun {σ' H' s'} J' hn c hc' => ⟨hn c hc', (J'.ok.exf c hc').1, J'.ok.exfs c hc', .inl hc', fun x a e => (J'.ok.exf c hc').2 x a e, fun p hp => by cases (show p ∈ ([] : List (Addr × Obj)) from hp)⟩
  have loop : codeAny (model X.prog X.w) X.A (.compLoop (.DictComp kx vx [⟨tg, iter, ifs, 0⟩] scope pos) 0 (.ref it) (.ref D) ce) (compPost (model X.prog X.w) X.A X.xe use Qf (.ref D) s3.heap.objs.size) s4 := by
    refine compLoop_anyD (fun n s' => ∃ i H', Inv (X.blk s3 H3 scope ce fp) [] (wipe σ (own.map (·.2))) H' s' ∧ tn i s'.heap ∧ (∀ c ∈ fp, H' c = none) ∧ W i n H') ?_ m0 ⟨0, H3, J4, st4, nfp, w0⟩
    rintro n s5 ⟨i, H5, J5, st5, n5, w5⟩
    rcases turn i n H5 w5 with ⟨stp, qq⟩ | ⟨go, Nx, hNx, step⟩
    · refine thnF (TT.done (X.blk s3 H3 scope ce fp) rfl rfl rfl hc i [] s5 _ H5 (fun _ _ => False) J5 (stat J5 n5) st5 stp) fun r s6 ⟨hr, J6⟩ => ?_
      subst hr
      have J7 : Inv X pl σ H5 s6 := J3.call' (ch := fp) J6.os J6.base J6.hok J6.bare fun c hc' => let z := (f3 c hc').1; ⟨z.2.2.2.1, z.2.1, z.2.2.2.2.1, z.2.2.2.2.2⟩
      have nC : H5 s3.heap.objs.size = none := cL ▸ (show H5 ce.locals = none from J6.free)
      obtain ⟨m, hn, _⟩ := J6.loc
      have hn : s6.heap.Ns s3.heap.objs.size m := cL ▸ (show s6.heap.Ns ce.locals m from hn)
      exact fin0 D s3.heap.objs.size s6 m H5 J7 qq hn (J3.fpOk (Nat.le_refl _) nC)
    · refine thnF (TT.item (X.blk s3 H3 scope ce fp) rfl rfl rfl hc i [] s5 _ H5 (fun _ _ => False) J5 (stat J5 n5) st5 go) fun r s6 ⟨u, hr, h6⟩ => ?_
      subst hr
      refine thnF h6 fun _ s7 ⟨x, H7, J7, r7, y7, st7, n7⟩ => ?_
      refine thnF (pg.run _ s7 _ H7 x u _ (J7.pinned (stat J7 n7) (TT.obj _ _ st7)) r7 (step x H7 y7)) fun _ s8 ⟨σ8, H8, J8, hw8, q8⟩ => ?_
      refine thnF (pt.run _ s8 σ8 H8 _ J8 q8) fun c s9 ⟨H9, J9, q9⟩ => ?_
      have fin : ∀ {s' : Shared} {H' : Hp}, Inv (X.blk s3 H3 scope ce fp) ([] ++ pinsAt fp s7.heap) σ8 H' s' → Nx H' → ∃ m, m < n ∧ ∃ i H', Inv (X.blk s3 H3 scope ce fp) [] (wipe σ (own.map (·.2))) H' s' ∧ tn i s'.heap ∧ (∀ c ∈ fp, H' c = none) ∧ W i m H' := fun {s' H'} J' nx => by
        obtain ⟨m', hm, w'⟩ := hNx H' nx
        have pin' : ∀ c ∈ fp, ∀ o, s7.heap.get? c = some o → s'.heap.get? c = some o ∧ H' c = none := fun c hc' o e => let z := J'.pin (c, o) (List.mem_append_right _ (List.mem_append_right _ (mem_pinsAt hc' e))); ⟨z.1, z.2.1⟩
        refine ⟨m', hm, i + 1, H', (J'.unpinned (pins := [])).weak (by rw [← hw8, wipe_length]) (fun j v e => (wipe_some (hw8 ▸ e)).1), TT.keep _ _ _ st7 fun c hc' o e => (pin' c hc' o e).1, fun c hc' => ?_, w'⟩
        obtain ⟨o, e, _⟩ := TT.obj _ _ st7 c hc'
        exact (pin' c hc' o e).2
      cases c with
      | false =>
        simp only [Bool.false_eq_true, if_false] at q9 ⊢
        exact fin J9 q9
      | true =>
        simp only [if_true] at q9 ⊢
        refine thnF (pk.run _ s9 σ8 H9 _ J9 q9) fun z s10 ⟨yk, H10, J10, r10, q10⟩ => ?_
        refine thnF (pe.run _ s10 σ8 H10 _ J10 q10) fun z2 s11 ⟨yv, H11, J11, r11, H12, g12, nx⟩ => ?_
        exact put_run (X := X.blk s3 H3 scope ce fp) hu J11 g12 r10 r11 fun s12 J12 => fin J12 nx
  exact codeAny_compStart_dict loop (TT.self X.A 0 _ _ _ st4 loop)
theorem dcG {pos : Pos} (hu : X.A.units + 1 < cLine) (hc : X.calm = true) (hN : X.N.Nodup) (hi : PI X tg iter wi) (ok : BlkOk X.N X.env.scope scope own)
    (pg : ∀ (s : Shared) (H : Hp) (C : Addr) (cl : List (Str × Addr)) (fp : List Addr), PG (X.blk s H scope (compEnvC scope cl C X.env) fp) tg tgt) (pt : ∀ (s : Shared) (H : Hp) (C : Addr) (cl : List (Str × Addr)) (fp : List Addr), PTs (X.blk s H scope (compEnvC scope cl C X.env) fp) ifs tt)
    (pk : ∀ (s : Shared) (H : Hp) (C : Addr) (cl : List (Str × Addr)) (fp : List Addr), PE (X.blk s H scope (compEnvC scope cl C X.env) fp) kx tk) (pe : ∀ (s : Shared) (H : Hp) (C : Addr) (cl : List (Str × Addr)) (fp : List Addr), PE (X.blk s H scope (compEnvC scope cl C X.env) fp) vx tv)
    (hs : ∀ x, foldedSetIterable iter X.env x = pure x) : PE X (.DictComp kx vx [⟨tg, iter, ifs, 0⟩] scope pos) (tDcG b wi tgt tt tk tv (own.map (·.2))) := by
  refine ⟨fun pl s σ H Q J0 h => ?_⟩
  rw [arm_eval_DictComp]
  refine dcG0 hu hc hN J0 hi ok pg pt pk pe hs h fun D C s' m H' J' q hn f => ⟨m, hn, fun h'' sb => ?_⟩
  obtain ⟨a0, a1, a2, a3, a4, a5⟩ := f
  exact ⟨.ref D, H', J'.turned (t' := s'.toks) (fun c o hc' e => (sb.2 c hc').trans e) a0 a1 a3 a4 a5, rfl, q⟩
theorem setDcG {i : Nat} {y : Str} {py pos spos : Pos} (hu : X.A.units + 1 < cLine) (hc : X.calm = true) (hN : X.N.Nodup) (hy : X.N[i]? = some y) (hyl : X.env.scope.names.lookup y = some .local)
    (hsw : swapsWith (.DictComp kx vx [⟨tg, iter, ifs, 0⟩] scope pos) (some (.Name y py)) spos.line X.env = pure true) (hi : PI X tg iter wi) (ok : BlkOk X.N X.env.scope scope own)
    (pg : ∀ (s : Shared) (H : Hp) (C : Addr) (cl : List (Str × Addr)) (fp : List Addr), PG (X.blk s H scope (compEnvC scope cl C X.env) fp) tg tgt) (pt : ∀ (s : Shared) (H : Hp) (C : Addr) (cl : List (Str × Addr)) (fp : List Addr), PTs (X.blk s H scope (compEnvC scope cl C X.env) fp) ifs tt)
    (pk : ∀ (s : Shared) (H : Hp) (C : Addr) (cl : List (Str × Addr)) (fp : List Addr), PE (X.blk s H scope (compEnvC scope cl C X.env) fp) kx tk) (pe : ∀ (s : Shared) (H : Hp) (C : Addr) (cl : List (Str × Addr)) (fp : List Addr), PE (X.blk s H scope (compEnvC scope cl C X.env) fp) vx tv)
    (hs : ∀ x, foldedSetIterable iter X.env x = pure x) : PS X (.Assign [.Name y py] (.DictComp kx vx [⟨tg, iter, ifs, 0⟩] scope pos) spos) (tAsg (tDcG b wi tgt tt tk tv (own.map (·.2))) (gName i)) := by
  refine ⟨fun pl s σ H D J0 h => ?_⟩
  rw [exec_Assign_Name_used _ _ _ _ hsw]
  refine wpAny_bind (wpAny_standAt (wpAny_bind ?_))
  show wpAny _ X.A (do let _ ← comprehension (.DictComp kx vx [⟨tg, iter, ifs, 0⟩] scope pos) scope X.env (firstIterPos [⟨tg, iter, ifs, 0⟩] pos) newDict false (eval iter X.env) (some (assign (.Name y py) X.env))) _ _ s
  have h : tDcG b wi tgt tt tk tv (own.map (·.2)) σ H (fun x H1 => gName i x σ H1 D.nx) := h
  refine wpAny_bind (thn (dcG0 (Qf := fun _ s' => SP X pl D .next s') hu hc hN J0 hi ok pg pt pk pe hs h fun M C s' m H' J' q hn f => ?_) fun _ s' hq => wpAny_pure (wpAny_pure hq))
  show wpAny _ _ (assign (.Name y py) X.env (.ref M)) _ _ _
  refine wpAny_assign_Name (store_ok2 (v := V.ref M) J' hN hy (.inl hyl) rfl (fun s2 J2 ⟨a, sb, ha⟩ => ?_) (.inr hyl))
  obtain ⟨a0, a1, a2, a3, a4, a5⟩ := f
  refine ⟨m, hn.sameBut sb (ha.elim (fun z => z ▸ a1) fun z e => a4 y a z e.symm), fun h3 sb3 => ?_⟩
  exact ⟨_, H', J2.turned (t' := s2.toks) (fun c o hc' e => (sb3.2 c hc').trans e) a0 a1 a3 a4 a5, q⟩
end
end Ab

namespace Ab
open PySem PySem.Spec PyProof.Rows L2 Sp
/-! ## frozen dicts: walked, built by comprehensions and displays -/
section
variable {K : PySem.W.Frag} {S : Sto} {H : Hp} {g : G}
theorem tup_free (W : Wd K S H g) {q : Addr} {vs : List V} (hq : H q = some (.tup vs)) : ¬ lv g S q := fun ⟨n, o, e, d, m⟩ => by
  have ok := W.cell n o q e d m
  cases o with
  | lst => obtain ⟨_, h, _⟩ := ok; rw [hq] at h; cases h
  | dct b => cases b <;> (obtain ⟨_, h, _⟩ := ok; rw [hq] at h; cases h)
  | lck b => cases b <;> (obtain ⟨_, _, h, _⟩ := ok; rw [hq] at h; cases h)
  | obj => obtain ⟨_, _, h, _⟩ := ok; rw [hq] at h; cases h
  | dead => exact d rfl
/-- a tuple that lies in the heap is a value -/
theorem Wd.adoptT (W : Wd K S H g) {q : Addr} {vs : List V} (hq : H q = some (.tup vs)) : ∃ g', Wd K S H g' ∧ Ext S H g S H g' ∧ g'.F q = some (.tup vs) := by
  cases hF : g.F q with
  | some u =>
    have := W.sub q u hF
    rw [hq] at this
    cases this
    exact ⟨g, W, .refl S H g, hF⟩
  | none =>
    refine ⟨g.put q (.tup vs), W.adopt hq hF (tup_free W hq), ⟨G.le_put hF, fun _ _ _ => rfl, fun a o e nt f l => ⟨e, ?_, l⟩, fun _ _ _ _ e _ => ⟨rfl, e⟩⟩, upd_same⟩
    show upd _ _ _ _ = _
    rw [upd_ne (fun z => by subst z; rw [hq] at e; cases e; exact nt _ rfl)]
    exact f
theorem KRs.rps {g : G} : ∀ {ts : List T} {ks : List Key}, KRs ts ks → Rps K g ts (ks.map kV)
  | _, _, .nil => .nil
  | _, _, .cons h r => .cons h.rp (KRs.rps r)
theorem Rpk.at : ∀ {ps : List (T × T)} {kvs : List (Key × V)} {i : Nat} {k : Key} {v : V}, Rpk K g ps kvs → kvs[i]? = some (k, v) → ∃ t x, ps[i]? = some (t, x) ∧ KR t k ∧ Rp K g x v
  | _, _, 0, _, _, .cons h r _, e => by cases e; exact ⟨_, _, rfl, h, r⟩
  | _, _, i + 1, _, _, .cons _ _ r, e => Rpk.at (i := i) r (by simpa using e)
  | _, _, _, _, _, .nil, e => by simp at e
theorem Rpt.at : ∀ {ps : List (T × T)} {kvs : List (List Key × V)} {i : Nat} {k : List Key} {v : V}, Rpt K g ps kvs → kvs[i]? = some (k, v) → ∃ ts x, ps[i]? = some (.tup ts, x) ∧ KRs ts k ∧ Rp K g x v
  | _, _, 0, _, _, .cons h r _, e => by cases e; exact ⟨_, _, rfl, h, r⟩
  | _, _, i + 1, _, _, .cons _ _ r, e => Rpt.at (i := i) r (by simpa using e)
  | _, _, _, _, _, .nil, e => by simp at e
theorem lt_at {α : Type} {l : List α} {i : Nat} {x : α} (h : l[i]? = some x) : i < l.length := (List.getElem?_eq_some_iff.mp h).1
theorem wlk_keys {a : Addr} {od : Obj} {kvs : List (Key × V)} {ps : List (T × T)} {S0 : Sto} {H0 : Hp} {g0 : G} (h : g0.F a = some (.frz od (.dK kvs))) (r : Rpk K g0 ps kvs) : Wlk K (Itk a od kvs) S0 H0 g0 ⟨ps.map (·.1), none⟩ := by
  have hl : (ps.map (·.1)).length = kvs.length := by rw [List.length_map, r.length]
  refine ⟨fun i S H g t W le _ ht => ⟨⟨W.sub _ _ (le.le.F _ _ h), ?_⟩, fun v H' y => ?_⟩, fun i S H g W le _ hi => ⟨W.sub _ _ (le.le.F _ _ h), ?_⟩⟩
  · have := lt_at (show (ps.map (·.1))[i]? = some t from ht); omega
  · obtain ⟨rfl, k, x, e, rfl⟩ := y
    obtain ⟨t', x', e', hk, _⟩ := r.at e
    have ht' : (ps.map (·.1))[i]? = some t := ht
    rw [List.getElem?_map, e'] at ht'
    cases ht'
    exact ⟨g, W, .refl _ _ _, hk.rp⟩
  · have hi' : (ps.map (·.1)).length ≤ i := hi
    omega
theorem wlk_keysT {a : Addr} {od : Obj} {kvs : List (List Key × V)} {ps : List (T × T)} {S0 : Sto} {H0 : Hp} {g0 : G} (h : g0.F a = some (.frz od (.dT kvs))) (r : Rpt K g0 ps kvs) : Wlk K (Itkt a od kvs) S0 H0 g0 ⟨ps.map (·.1), none⟩ := by
  have hl : (ps.map (·.1)).length = kvs.length := by rw [List.length_map, r.length]
  refine ⟨fun i S H g t W le _ ht => ⟨⟨W.sub _ _ (le.le.F _ _ h), ?_⟩, fun v H' y => ?_⟩, fun i S H g W le _ hi => ⟨W.sub _ _ (le.le.F _ _ h), ?_⟩⟩
  · have := lt_at (show (ps.map (·.1))[i]? = some t from ht); omega
  · obtain ⟨rfl, k, x, q, e, rfl, hq⟩ := y
    obtain ⟨ts, x', e', hk, _⟩ := r.at e
    have ht' : (ps.map (·.1))[i]? = some t := ht
    rw [List.getElem?_map, e'] at ht'
    cases ht'
    obtain ⟨g', w', x', hF⟩ := W.adoptT hq
    exact ⟨g', w', x', .tup (.inl (.inl hF)) (fun _ => hF) (KRs.rps hk)⟩
  · have hi' : (ps.map (·.1)).length ≤ i := hi
    omega
theorem wlk_lck {n : Nat} {b : Bool} {a : Addr} {od : Obj} {kvs : List (Key × V)} {ps : List (T × T)} {S0 : Sto} {H0 : Hp} {g0 : G} (hS : S0[n]? = some (.lck b ps)) (hm : g0.mu[n]? = some a) (h : H0 a = some (.frz od (.dK kvs))) (r : Rpk K g0 ps kvs) : Wlk K (Itk a od kvs) S0 H0 g0 ⟨ps.map (·.1), none⟩ := by
  have hl : (ps.map (·.1)).length = kvs.length := by rw [List.length_map, r.length]
  have here : ∀ {S H g}, Ext S0 H0 g0 S H g → H a = some (.frz od (.dK kvs)) := fun le => (le.lk n b ps a hS hm).1.trans h
  refine ⟨fun i S H g t W le _ ht => ⟨⟨here le, ?_⟩, fun v H' y => ?_⟩, fun i S H g W le _ hi => ⟨here le, ?_⟩⟩
  · have := lt_at (show (ps.map (·.1))[i]? = some t from ht); omega
  · obtain ⟨rfl, k, x, e, rfl⟩ := y
    obtain ⟨t', x', e', hk, _⟩ := r.at e
    have ht' : (ps.map (·.1))[i]? = some t := ht
    rw [List.getElem?_map, e'] at ht'
    cases ht'
    exact ⟨g, W, .refl _ _ _, hk.rp⟩
  · have hi' : (ps.map (·.1)).length ≤ i := hi
    omega
theorem wlk_lckT {n : Nat} {b : Bool} {a : Addr} {od : Obj} {kvs : List (List Key × V)} {ps : List (T × T)} {S0 : Sto} {H0 : Hp} {g0 : G} (hS : S0[n]? = some (.lck b ps)) (hm : g0.mu[n]? = some a) (h : H0 a = some (.frz od (.dT kvs))) (r : Rpt K g0 ps kvs) : Wlk K (Itkt a od kvs) S0 H0 g0 ⟨ps.map (·.1), none⟩ := by
  have hl : (ps.map (·.1)).length = kvs.length := by rw [List.length_map, r.length]
  have here : ∀ {S H g}, Ext S0 H0 g0 S H g → H a = some (.frz od (.dT kvs)) := fun le => (le.lk n b ps a hS hm).1.trans h
  refine ⟨fun i S H g t W le _ ht => ⟨⟨here le, ?_⟩, fun v H' y => ?_⟩, fun i S H g W le _ hi => ⟨here le, ?_⟩⟩
  · have := lt_at (show (ps.map (·.1))[i]? = some t from ht); omega
  · obtain ⟨rfl, k, x, q, e, rfl, hq⟩ := y
    obtain ⟨ts, x', e', hk, _⟩ := r.at e
    have ht' : (ps.map (·.1))[i]? = some t := ht
    rw [List.getElem?_map, e'] at ht'
    cases ht'
    obtain ⟨g', w', x', hF⟩ := W.adoptT hq
    exact ⟨g', w', x', .tup (.inl (.inl hF)) (fun _ => hF) (KRs.rps hk)⟩
  · have hi' : (ps.map (·.1)).length ≤ i := hi
    omega
/-- the keys of a dict that stays while it is walked -/
def keysK (S : Sto) : T → R Itm
  | .dct _ ps => .ok ⟨ps.map (·.1), none⟩ S
  | .ref n => (match S[n]? with
    | some (.lck _ ps) => .ok ⟨ps.map (·.1), none⟩ S
    | _ => .bad)
  | _ => .bad
def itK (a : AE) : AI := fun st S => (a st S).bind fun x S => keysK S x
theorem aItK {X : Cx} {E : XS} {tg iter : Expr} {ea : AE} (h : PE X iter (LE K E ea)) : PI X tg iter (LI K E (itK ea)) := by
  refine PI.weak (pi_keys h) fun σ H R ⟨st, S, g, w, sl, p⟩ => ?_
  refine LI.run (f := fun x S => keysK S x) w sl p fun t S1 v H1 g1 w1 sl1 x1 r1 p1 => ?_
  cases t with
  | dct b ps =>
    cases r1 with
    | dct hF r => exact ⟨_, _, rfl, .inl ⟨_, w1.sub _ _ hF, p1 _ g1 _ w1 (.refl _ _ _) (wlk_keys hF r)⟩⟩
    | dctT hF r => exact ⟨_, _, rfl, .inr ⟨_, w1.sub _ _ hF, p1 _ g1 _ w1 (.refl _ _ _) (wlk_keysT hF r)⟩⟩
  | ref n =>
    cases r1 with
    | ref hm =>
      unfold keysK at p1
      cases z : S1[n]? with
      | none => simp only [z] at p1
      | some o =>
        simp only [z] at p1
        cases o with
        | lck b ps =>
          have ok := w1.cell n _ _ z (fun z => nomatch z) hm
          cases b with
          | false =>
            obtain ⟨od, kvs, h, r⟩ := ok
            exact ⟨_, _, rfl, .inl ⟨_, h, p1 _ g1 _ w1 (.refl _ _ _) (wlk_lck z hm h r)⟩⟩
          | true =>
            obtain ⟨od, kvs, h, r⟩ := ok
            exact ⟨_, _, rfl, .inr ⟨_, h, p1 _ g1 _ w1 (.refl _ _ _) (wlk_lckT z hm h r)⟩⟩
        | _ => exact p1.elim
  | _ => exact p1.elim
end
end Ab

namespace Ab
open PySem PySem.Spec PyProof.Rows L2 Sp
section
variable {K : PySem.W.Frag} {S S1 S' : Sto} {H H1 H' : Hp} {g g1 g' : G} {D : Addr} {u u' : HO}
/-- an object under construction stands free; the base is the state ahead of it -/
structure FreeO (S1 : Sto) (H1 : Hp) (g1 : G) (D : Addr) (S : Sto) (H : Hp) (g : G) (u : HO) : Prop where
  ext : Ext S1 H1 g1 S H g
  new : H1 D = none
  at_ : H D = some u
  nt : ∀ vs, u ≠ .tup vs
  F : g.F D = none
  l : ¬ lv g S D
theorem FreeO.start (w1 : Wd K S1 H1 g1) (hD : H1 D = none) (nt : ∀ vs, u ≠ .tup vs) : FreeO S1 H1 g1 D S1 (upd H1 D u) g1 u ∧ Wd K S1 (upd H1 D u) g1 := by
  have neD : ∀ {b x}, H1 b = some x → b ≠ D := fun e => ne_of_none e hD
  refine ⟨⟨⟨.refl g1, fun b x e => ?_, fun b x e _ h l => ⟨by rw [upd_ne (neD e)]; exact e, h, l⟩, fun n b ps a e m => ⟨by obtain ⟨_, z⟩ := (w1.cell n _ a e (fun z => nomatch z) m).there (fun z => nomatch z); rw [upd_ne (neD z)], e⟩⟩, hD, upd_same, nt, ?_, fun l => ?_⟩, w1.len, fun b x e => ?_, fun n x b e d m => (w1.cell n x b e d m).mono (.refl g1) ?_, w1.off, w1.inj⟩
  · obtain ⟨_, z⟩ := w1.FH e
    rw [upd_ne (neD z)]
  · cases q : g1.F D with
    | none => rfl
    | some x => obtain ⟨_, e⟩ := w1.FH q; rw [hD] at e; cases e
  · obtain ⟨_, e⟩ := w1.lvH l
    rw [hD] at e; cases e
  · rw [upd_ne (neD (w1.sub b x e))]; exact w1.sub b x e
  · obtain ⟨_, e⟩ := (w1.cell n x b e d m).there d
    rw [upd_ne (neD e)]
theorem FreeO.step (f : FreeO S1 H1 g1 D S H g u) (x : Ext S H g S' H' g') : FreeO S1 H1 g1 D S' H' g' u :=
  let ⟨a, b, c⟩ := x.fr D _ f.at_ f.nt f.F f.l
  ⟨f.ext.trans x, f.new, a, f.nt, b, c⟩
theorem FreeO.put (f : FreeO S1 H1 g1 D S H g u) (w : Wd K S H g) (w1 : Wd K S1 H1 g1) (nt : ∀ vs, u' ≠ .tup vs) : FreeO S1 H1 g1 D S (upd H D u') g u' ∧ Wd K S (upd H D u') g := by
  have neD : ∀ {b x}, H1 b = some x → b ≠ D := fun e => ne_of_none e f.new
  have neF : ∀ {b x}, g.F b = some x → b ≠ D := fun {b x} e z => by rw [z, f.F] at e; cases e
  refine ⟨⟨⟨f.ext.le, fun b x e => ?_, fun b x e t h l => ?_, fun n b ps a e m => ⟨by obtain ⟨_, z⟩ := (w1.cell n _ a e (fun z => nomatch z) m).there (fun z => nomatch z); rw [upd_ne (neD z)]; exact (f.ext.lk n b ps a e m).1, (f.ext.lk n b ps a e m).2⟩⟩, f.new, upd_same, nt, f.F, f.l⟩, w.len, fun b x e => ?_, fun n x b e d m => (w.cell n x b e d m).mono (.refl g) ?_, w.off, w.inj⟩
  · obtain ⟨_, z⟩ := w1.FH e
    rw [upd_ne (neD z)]; exact f.ext.fz b x e
  · rw [upd_ne (neD e)]; exact f.ext.fr b x e t h l
  · rw [upd_ne (neF e)]; exact w.sub b x e
  · rw [upd_ne]
    rintro rfl
    exact f.l ⟨n, x, e, d, m⟩
theorem DR.dict {b : Bool} {ps : List (T × T)} (r : DR K g b ps u) : (∃ kvs, u = .dK kvs) ∨ ∃ kvs, u = .dT kvs := by
  cases b with
  | false => obtain ⟨kvs, rfl, _⟩ := r; exact .inl ⟨kvs, rfl⟩
  | true => obtain ⟨kvs, rfl, _⟩ := r; exact .inr ⟨kvs, rfl⟩
theorem DR.mut {b : Bool} {ps : List (T × T)} (r : DR K g b ps u) : Mut (some u) := by
  rcases r.dict with ⟨_, rfl⟩ | ⟨_, rfl⟩ <;> exact True.intro
theorem DR.mono {b : Bool} {ps : List (T × T)} (r : DR K g b ps u) (l : GLe g g') : DR K g' b ps u := by
  cases b with
  | false => obtain ⟨kvs, rfl, r⟩ := r; exact ⟨kvs, rfl, r.mono l⟩
  | true => obtain ⟨kvs, rfl, r⟩ := r; exact ⟨kvs, rfl, r.mono l⟩
theorem FreeO.doneF {K : PySem.W.Frag} {S S1 : Sto} {H H1 : Hp} {g g1 : G} {D : Addr} {u : HO} {b : Bool} {ps : List (T × T)} {E : XK} {Q : VK} (f : FreeO S1 H1 g1 D S H g u) (w : Wd K S H g) (r : DR K g b ps u) (p : Post K E S1 H1 g1 (Rp K) (mkD false b ps S) Q) : Q (.ref D) H := by
  have ok : OR K (g.snoc D) H D (.dct b ps) := by
    have r := r.mono (G.le_snoc (g := g) (p := D))
    cases b with
    | false => obtain ⟨kvs, rfl, r'⟩ := r; exact ⟨kvs, f.at_, r'⟩
    | true => obtain ⟨kvs, rfl, r'⟩ := r; exact ⟨kvs, f.at_, r'⟩
  obtain ⟨w2, m, lv2⟩ := w.adoptH (o := .dct b ps) f.F f.l (fun z => nomatch z) ok
  have neD : ∀ {b x}, H1 b = some x → b ≠ D := fun e => ne_of_none e f.new
  refine p _ H _ w2 ⟨f.ext.le.trans G.le_snoc, f.ext.fz, fun c x ec nt h l => ?_, fun n b ps a e m => ⟨(f.ext.lk n b ps a e m).1, by rw [List.getElem?_append_left (List.getElem?_eq_some_iff.mp (f.ext.lk n b ps a e m).2).1]; exact (f.ext.lk n b ps a e m).2⟩⟩ (.ref m)
  obtain ⟨a1, a2, a3⟩ := f.ext.fr c x ec nt h l
  exact ⟨a1, a2, fun z => (lv2 c z).elim (neD ec) a3⟩
/-- the new dict is handed out -/
theorem FreeO.done {b : Bool} {ps : List (T × T)} {fz : Bool} {E : XK} {Q : VK} (f : FreeO S1 H1 g1 D S H g u) (w : Wd K S H g) (w1 : Wd K S1 H1 g1) (r : DR K g b ps u) (p : Post K E S1 H1 g1 (Rp K) (mkD fz b ps S) Q) :
    Q (.ref D) H ∨ ∃ d x, V.ref D = .ref d ∧ H d = some x ∧ Mut (some x) ∧ ∀ od, Q (.ref D) (upd H d (.frz od x)) := by
  cases fz with
  | true =>
    refine .inr ⟨D, u, rfl, f.at_, r.mut, fun od => ?_⟩
    obtain ⟨f2, w2⟩ := f.put (u' := .frz od u) w w1 (fun _ z => nomatch z)
    have le := G.le_put (ho := .frz od u) f2.F
    have neD : ∀ {b x}, H1 b = some x → b ≠ D := fun e => ne_of_none e f2.new
    have e : (g.put D (.frz od u)).F D = some (.frz od u) := upd_same
    refine p _ _ _ (w2.adopt f2.at_ f2.F f2.l) ⟨f2.ext.le.trans le, f2.ext.fz, fun c x ec nt h l => ?_, f2.ext.lk⟩ ?_
    · obtain ⟨a1, a2, a3⟩ := f2.ext.fr c x ec nt h l
      exact ⟨a1, by show upd _ _ _ _ = _; rw [upd_ne (neD ec)]; exact a2, a3⟩
    · have r := r.mono le
      cases b with
      | false => obtain ⟨kvs, rfl, r⟩ := r; exact .dct e r
      | true => obtain ⟨kvs, rfl, r⟩ := r; exact .dctT e r
  | false =>
    exact .inl (f.doneF w r p)
end
/-! displays -/
def dispD (ks ts : List T) : List (T × T) := (ks.zip ts).foldl (fun acc p => putD p.1 p.2 acc) []
def mDisp (fz : Bool) (ks : List T) (ra : AA) : AE := fun st S => (ra st S).bind fun ts S => mkD fz false (dispD ks ts) S
section
variable {X : Cx} {K : PySem.W.Frag} {E : XS} {pos : Pos}
structure DPs (X : Cx) (K : PySem.W.Frag) (E : XS) (pos : Pos) (keys : List (Option Expr)) (values : List Expr) (ks : List Key) (ra : AA) : Prop where
  ex : ∃ trs, PPs X pos keys values trs ∧ ∀ σ H Q, (∃ st S g, Wd K S H g ∧ Sl K g st σ ∧ Post K (E σ) S H g (Rps K) (ra st S) (fun vs H' => Q ((ks.map kV).zip vs) H')) → tPairs trs σ H Q
theorem dNil : DPs X K E pos [] [] [] mNil := ⟨[], pps_nil, fun σ H Q ⟨st, S, g, w, sl, p⟩ => p.val (v := []) w .nil⟩
theorem dCons {k v : Expr} {ks' : List (Option Expr)} {vs : List Expr} {kk : Key} {ks : List Key} {ea : AE} {ra : AA} (hk : PE X k (tC (kV kk))) (hv : PE X v (LE K E ea)) (hr : DPs X K E pos ks' vs ks ra) : DPs X K E pos (some k :: ks') (v :: vs) (kk :: ks) (mCons ea ra) := by
  obtain ⟨trs, h1, h2⟩ := hr.ex
  refine ⟨_, pps_cons hk hv h1, fun σ H Q ⟨st, S, g, w, sl, p⟩ => ?_⟩
  show (LE K E ea) σ H fun y H2 => tPairs trs σ H2 fun ps H3 => Q ((kV kk, y) :: ps) H3
  refine LE.bind (f := fun x st S => (ra st S).bind fun xs S => .ok (x :: xs) S) w sl p fun t S1 v H1 g1 w1 sl1 x1 r1 p1 => ?_
  refine h2 σ H1 (fun ps H3 => Q ((kV kk, v) :: ps) H3) ⟨st, S1, g1, w1, sl1, p1.bind (f := fun xs S => .ok (t :: xs) S) fun ts S2 vs H2 g2 w2 x2 r2 p2 => ?_⟩
  exact p2.val (v := v :: vs) w2 (.cons (r1.mono x2.le) r2)
theorem disp_rp {g : G} : ∀ {kts : List T} {ks : List Key} {ts : List T} {vs : List V} {ps : List (T × T)} {kvs : List (Key × V)}, KRs kts ks → Rps K g ts vs → Rpk K g ps kvs → Rpk K g ((kts.zip ts).foldl (fun acc p => putD p.1 p.2 acc) ps) (mergeK kvs (ks.zip vs))
  | [], _, _, _, _, _, .nil, _, r => by simpa [mergeK] using r
  | _ :: _, _, _, _, _, _, .cons _ _, .nil, r => by simpa [mergeK] using r
  | _ :: kts, _ :: ks, _, _, _, _, .cons h hs, .cons a as, r => disp_rp (kts := kts) (ks := ks) hs as (r.put h a)
theorem zip_kV : ∀ (ks : List Key) (vs : List V), (ks.map kV).zip vs = (ks.zip vs).map fun kv => (kV kv.1, kv.2)
  | [], _ => rfl
  | _ :: _, [] => rfl
  | k :: ks, v :: vs => by rw [List.map_cons, List.zip_cons_cons, List.zip_cons_cons, List.map_cons, zip_kV ks vs]
theorem aDisp (fz : Bool) {keys : List (Option Expr)} {values : List Expr} {kts : List T} {ks : List Key} {ra : AA} (kr : KRs kts ks) (h : DPs X K E pos keys values ks ra) (hall : keys.all (·.isSome) = true := by rfl) (hl : keys.length = values.length := by rfl) (h0 : keys ≠ [] := by exact fun z => nomatch z)
    (h15 : keys.length ≤ 15 := by decide) (hk15 : ks.length ≤ 15 := by decide) : PE X (.Dict keys values pos) (LE K E (mDisp fz kts ra)) := by
  obtain ⟨trs, h1, h2⟩ := h.ex
  refine PE.weak (pe_fz (pe_disp h1 hall hl h0 h15)) fun σ H Q ⟨st, S, g, w, sl, p⟩ => fun D hD => ?_
  obtain ⟨f0, w0⟩ := FreeO.start (u := .dK []) w hD (fun _ z => nomatch z)
  refine h2 σ _ _ ⟨st, S, g, w0, sl, ?_⟩
  have p : Post K (E σ) S H g (Rp K) ((ra st S).bind fun ts S => mkD fz false (dispD kts ts) S) Q := p
  cases z : ra st S with
  | bad => rw [z] at p; exact p.elim
  | exc c S' => rw [z] at p; exact fun H' g' w' x' => p H' g' w' (f0.ext.trans x')
  | ok ts S1 =>
    rw [z] at p
    intro vs H1 g1 w1 x1 r1
    have f1 := f0.step x1
    refine ⟨f1.at_, ks.zip vs, zip_kV ks vs, Nat.le_trans (by rw [List.length_zip]; exact Nat.min_le_left _ _) hk15, ?_⟩
    obtain ⟨f2, w2⟩ := f1.put (u' := .dK (mergeK [] (ks.zip vs))) w1 w (fun _ z => nomatch z)
    exact f2.done w2 w (show DR K g1 false (dispD kts ts) _ from ⟨_, rfl, disp_rp kr r1 .nil⟩) p
end
end Ab

namespace Ab
open PySem PySem.Spec PyProof.Rows L2 Sp
/-! ## dict comprehensions -/
open Classical in
noncomputable def dcL (b : Bool) (ck : Option (Nat × O)) (i : Nat) (c : AT) (k e : AE) (st : Slots) : List T → List (T × T) → Sto → R (List (T × T))
  | [], acc, S => if okC ck S then .ok acc S else .bad
  | t :: ts, acc, S => if okC ck S then ((c (st.set i (some t)) S).nox.bind fun q S => if q = true then ((k (st.set i (some t)) S).nox.bind fun y S => (e (st.set i (some t)) S).nox.bind fun z S => if keyOk b y = true ∧ acc.length < sizeLine then dcL b ck i c k e st ts (putD y z acc) S else .bad) else dcL b ck i c k e st ts acc S) else .bad
noncomputable def mDc (fz : Bool) (kd : Slots → Sto → Bool) (it : AI) (i : Nat) (c : AT) (k e : AE) : AE := fun st S => (it st S).bind fun x S1 => (dcL (kd st S) x.ck i c k e st x.l [] S1).bind fun l S2 => mkD fz (kd st S) l S2
/-- of the kind of the dict in a slot -/
def kdV (j : Nat) : Slots → Sto → Bool := fun st S => match st[j]? with
  | some (some x) => ((dOf S x).map (·.1)).getD false
  | _ => false
def kdC (b : Bool) : Slots → Sto → Bool := fun _ _ => b
section
variable {K : PySem.W.Frag} {S S1 : Sto} {H H1 : Hp} {g g1 : G} {D : Addr} {u : HO} {b : Bool}
theorem em_dr : DR K g b [] (em b) := by
  cases b with
  | false => exact ⟨[], rfl, .nil⟩
  | true => exact ⟨[], rfl, .nil⟩
theorem em_nt : ∀ vs, em b ≠ .tup vs := fun vs z => by cases b <;> cases z
theorem FreeO.dput (f : FreeO S1 H1 g1 D S H g u) (w : Wd K S H g) (w1 : Wd K S1 H1 g1) {acc : List (T × T)} (r : DR K g b acc u) {y z : T} {yv zv : V} (hk : keyOk b y = true) (hl : acc.length < sizeLine) (ry : Rp K g y yv) (rz : Rp K g z zv) :
    ∃ u', DPut H D yv zv (upd H D u') ∧ DR K g b (putD y z acc) u' ∧ FreeO S1 H1 g1 D S (upd H D u') g u' ∧ Wd K S (upd H D u') g := by
  cases b with
  | false =>
    obtain ⟨kvs, rfl, r⟩ := r
    obtain ⟨k, kr, rfl⟩ := isKey_kr (g := g) hk ry
    obtain ⟨f2, w2⟩ := f.put (u' := .dK (putK kvs k zv)) w w1 (fun _ z => nomatch z)
    exact ⟨_, .k f.at_ (by rw [← r.length]; exact hl), ⟨_, rfl, r.put kr rz⟩, f2, w2⟩
  | true =>
    obtain ⟨kvs, rfl, r⟩ := r
    cases y with
    | tup ts =>
      cases ry with
      | tup h1 h2 rr =>
        have e := w.sub _ _ (h2 hk)
        have hk' : ts.all isKey = true := (Bool.and_eq_true _ _ ▸ (show (!ts.isEmpty && ts.all isKey) = true from hk)).2
        obtain ⟨ks, kr, rfl⟩ := keys_kr hk' rr
        obtain ⟨f2, w2⟩ := f.put (u' := .dT (putK kvs ks zv)) w w1 (fun _ z => nomatch z)
        exact ⟨_, .t f.at_ e (by rw [← r.length]; exact hl), ⟨_, rfl, r.put kr rz⟩, f2, w2⟩
    | _ => cases hk
end
section
variable {X : Cx} {K : PySem.W.Frag} {E : XS} {kx vx tg iter : Expr} {ifs : List Expr} {scope : Scope} {pos spos : Pos} {it : AI} {et : AT} {ek ev : AE} {i : Nat} {x : Str} {fz : Bool} {kd : Slots → Sto → Bool}
theorem dc_post {σ : TSt} {H : Hp} {Q Qz : VK} (fin : ∀ {S1 : Sto} {H1 : Hp} {g1 : G} {D : Addr} {S : Sto} {H : Hp} {g : G} {u : HO} {b : Bool} {ps : List (T × T)}, FreeO S1 H1 g1 D S H g u → Wd K S H g → Wd K S1 H1 g1 → DR K g b ps u → Post K (E σ) S1 H1 g1 (Rp K) (mkD fz b ps S) Q → Qz (.ref D) H) (h : LE K E (mDc fz kd it i et ek ev) σ H Q) : ∃ b, tDcG b (LI K E it) (gName i) (LT K XS0 et) (LE K XS0 ek) (LE K XS0 ev) [i] σ H Qz := by
  obtain ⟨st, S, g, w, sl, p⟩ := h
  obtain ⟨b, hb⟩ : ∃ b, kd st S = b := ⟨_, rfl⟩
  refine ⟨b, st, S, g, w, sl, ?_⟩
  have p0 : Post K (E σ) S H g (Rp K) ((it st S).bind fun x S1 => (dcL (kd st S) x.ck i et ek ev st x.l [] S1).bind fun l S2 => mkD fz (kd st S) l S2) Q := p
  rw [hb] at p0
  cases z : it st S with
  | bad => rw [z] at p0; exact p0
  | exc c S' => rw [z] at p0; exact p0
  | ok x S1 =>
    rw [z] at p0
    intro H1 g1 J w1 x1 wk D hD
    have sl1 := sl.mono x1.le
    have pB : Post K (E σ) S1 H1 g1 (Rp K) ((dcL b x.ck i et ek ev st x.l [] S1).bind fun l S => mkD fz b l S) Q := Post.trans p0 x1
    obtain ⟨f0, w0⟩ := FreeO.start (u := em b) w1 hD em_nt
    refine ⟨fun k m H => ∃ S g acc u, Wd K S H g ∧ FreeO S1 H1 g1 D S H g u ∧ DR K g b acc u ∧ k ≤ x.l.length ∧ m = x.l.length - k ∧ Post K (E σ) S1 H1 g1 (Rp K) ((dcL b x.ck i et ek ev st (x.l.drop k) acc S).bind fun l S => mkD fz b l S) Q,
      ⟨_, S1, g1, [], _, w0, f0, em_dr, Nat.zero_le _, rfl, pB⟩, ?_⟩
    rintro k m H2 ⟨S2, g2, acc, u2, w2, f2, r2, hk, rfl, p2⟩
    by_cases hlt : k < x.l.length
    · obtain ⟨t, ht⟩ : ∃ t, x.l[k]? = some t := ⟨_, List.getElem?_eq_getElem hlt⟩
      have hd : x.l.drop k = t :: x.l.drop (k + 1) := by
        rw [List.drop_eq_getElem_cons hlt]
        congr
        have := List.getElem?_eq_getElem hlt
        rw [ht] at this
        exact (Option.some.inj this).symm
      rw [hd] at p2
      unfold dcL at p2
      by_cases hck : okC x.ck S2
      · rw [if_pos hck] at p2
        obtain ⟨k1, k2⟩ := wk.go k S2 H2 g2 t w2 f2.ext hck ht
        refine .inr ⟨k1, fun H => ∃ S g acc u, Wd K S H g ∧ FreeO S1 H1 g1 D S H g u ∧ DR K g b acc u ∧ Post K (E σ) S1 H1 g1 (Rp K) ((dcL b x.ck i et ek ev st (x.l.drop (k + 1)) acc S).bind fun l S => mkD fz b l S) Q,
          fun H' ⟨S', g', acc', u', a1, a2, a3, a4⟩ => ⟨_, by omega, S', g', acc', u', a1, a2, a3, hlt, rfl, a4⟩, fun v H3 y => ?_⟩
        obtain ⟨g3, w3, x3, rt⟩ := k2 v H3 y
        have f3 := f2.step x3
        have r3 := r2.mono x3.le
        have sl3 : Sl K g3 (st.set i (some t)) ((wipe σ [i]).set i (some v)) := by
          have := ((sl1.mono f3.ext.le).unset i none).set i rt
          rw [List.set_set] at this
          exact this
        show wipe ((wipe σ [i]).set i (some v)) [i] = wipe σ [i] ∧ _
        refine ⟨by show ((σ.set i none).set i (some v)).set i none = σ.set i none; rw [List.set_set, List.set_set], st.set i (some t), S2, g3, w3, sl3, ?_⟩
        cases zc : et (st.set i (some t)) S2 with
        | bad => rw [zc] at p2; exact p2
        | exc c S' => rw [zc] at p2; exact p2.elim
        | ok q S4 =>
          rw [zc] at p2
          intro q' H4 g4 w4 x4 eb
          cases (show q = q' from eb)
          have f4 := f3.step x4
          simp only [R.nox, R.bind] at p2
          cases q with
          | false =>
            rw [if_neg Bool.false_ne_true] at p2 ⊢
            exact ⟨S4, g4, acc, u2, w4, f4, r3.mono x4.le, p2⟩
          | true =>
            rw [if_pos rfl] at p2 ⊢
            refine ⟨st.set i (some t), S4, g4, w4, sl3.mono x4.le, ?_⟩
            cases zk : ek (st.set i (some t)) S4 with
            | bad => rw [zk] at p2; exact p2
            | exc c S' => rw [zk] at p2; exact p2.elim
            | ok y S5 =>
              rw [zk] at p2
              intro yv H5 g5 w5 x5 ry
              have f5 := f4.step x5
              simp only [R.nox, R.bind] at p2
              refine ⟨st.set i (some t), S5, g5, w5, (sl3.mono x4.le).mono x5.le, ?_⟩
              cases ze : ev (st.set i (some t)) S5 with
              | bad => rw [ze] at p2; exact p2
              | exc c S' => rw [ze] at p2; exact p2.elim
              | ok zt S6 =>
                rw [ze] at p2
                intro zv H6 g6 w6 x6 rz
                have f6 := f5.step x6
                have r6 := ((r3.mono x4.le).mono x5.le).mono x6.le
                simp only [R.nox, R.bind] at p2
                by_cases hs : keyOk b y = true ∧ acc.length < sizeLine
                · rw [if_pos hs] at p2
                  obtain ⟨u7, dp, r7, f7, w7⟩ := f6.dput w6 w1 r6 hs.1 hs.2 (ry.mono x6.le) rz
                  exact ⟨_, dp, S6, g6, _, u7, w7, f7, r7, p2⟩
                · rw [if_neg hs] at p2; exact p2.elim
      · rw [if_neg hck] at p2; exact p2.elim
    · have e : k = x.l.length := by omega
      rw [List.drop_eq_nil_of_le (by omega)] at p2
      unfold dcL at p2
      by_cases hck : okC x.ck S2
      · rw [if_pos hck] at p2
        exact .inl ⟨wk.stop k S2 H2 g2 w2 f2.ext hck (by omega), fin f2 w2 w1 r2 p2⟩
      · rw [if_neg hck] at p2; exact p2.elim
theorem aDc (fz : Bool) (kd : Slots → Sto → Bool) (hu : X.A.units + 1 < cLine) (hc : X.calm = true) (hN : X.N.Nodup) (hi : PI X tg iter (LI K E it)) (ok : BlkOk X.N X.env.scope scope [(x, i)])
    (hg : ∀ (s : Shared) (H : Hp) (C : Addr) (cl : List (Str × Addr)) (fp : List Addr), PG (X.blk s H scope (compEnvC scope cl C X.env) fp) tg (gName i)) (ht : ∀ (s : Shared) (H : Hp) (C : Addr) (cl : List (Str × Addr)) (fp : List Addr), PTs (X.blk s H scope (compEnvC scope cl C X.env) fp) ifs (LT K XS0 et))
    (hk : ∀ (s : Shared) (H : Hp) (C : Addr) (cl : List (Str × Addr)) (fp : List Addr), PE (X.blk s H scope (compEnvC scope cl C X.env) fp) kx (LE K XS0 ek)) (he : ∀ (s : Shared) (H : Hp) (C : Addr) (cl : List (Str × Addr)) (fp : List Addr), PE (X.blk s H scope (compEnvC scope cl C X.env) fp) vx (LE K XS0 ev)) (hs : ∀ x, foldedSetIterable iter X.env x = pure x := by intro _; rfl) : PE X (.DictComp kx vx [⟨tg, iter, ifs, 0⟩] scope pos) (LE K E (mDc fz kd it i et ek ev)) :=
  PE.weak (t := tFz fun σ H Q => ∃ b, tDcG b (LI K E it) (gName i) (LT K XS0 et) (LE K XS0 ek) (LE K XS0 ev) [i] σ H Q) (pe_fz ⟨fun pl s σ H Q I ⟨b, h⟩ => (dcG (b := b) (own := [(x, i)]) hu hc hN hi ok hg ht hk he hs).run pl s σ H Q I h⟩) fun σ H Q h => dc_post (fun f w w1 r p => f.done w w1 r p) h
theorem aSetDc (kd : Slots → Sto → Bool) {j : Nat} {y : Str} {py : Pos} (hu : X.A.units + 1 < cLine) (hc : X.calm = true) (hN : X.N.Nodup) (hi : PI X tg iter (LI K E it)) (ok : BlkOk X.N X.env.scope scope [(x, i)])
    (hg : ∀ (s : Shared) (H : Hp) (C : Addr) (cl : List (Str × Addr)) (fp : List Addr), PG (X.blk s H scope (compEnvC scope cl C X.env) fp) tg (gName i)) (ht : ∀ (s : Shared) (H : Hp) (C : Addr) (cl : List (Str × Addr)) (fp : List Addr), PTs (X.blk s H scope (compEnvC scope cl C X.env) fp) ifs (LT K XS0 et))
    (hk : ∀ (s : Shared) (H : Hp) (C : Addr) (cl : List (Str × Addr)) (fp : List Addr), PE (X.blk s H scope (compEnvC scope cl C X.env) fp) kx (LE K XS0 ek)) (he : ∀ (s : Shared) (H : Hp) (C : Addr) (cl : List (Str × Addr)) (fp : List Addr), PE (X.blk s H scope (compEnvC scope cl C X.env) fp) vx (LE K XS0 ev))
    (hsw : swapsWith (.DictComp kx vx [⟨tg, iter, ifs, 0⟩] scope pos) (some (.Name y py)) spos.line X.env = pure true) (hy : X.N[j]? = some y := by rfl) (hyl : X.env.scope.names.lookup y = some .local := by rfl) (hs : ∀ x, foldedSetIterable iter X.env x = pure x := by intro _; rfl) :
    PS X (.Assign [.Name y py] (.DictComp kx vx [⟨tg, iter, ifs, 0⟩] scope pos) spos) (LS K E (mSet j (mDc false kd it i et ek ev))) :=
  PS.weak (t := fun D σ H => ∃ b, tAsg (tDcG b (LI K E it) (gName i) (LT K XS0 et) (LE K XS0 ek) (LE K XS0 ev) [i]) (gName j) D σ H) ⟨fun pl s σ H D I ⟨b, h⟩ => (setDcG (b := b) (own := [(x, i)]) hu hc hN hy hyl hsw hi ok hg ht hk he hs).run pl s σ H D I h⟩ fun D σ H ⟨st, S, g, w, sl, p⟩ =>
    dc_post (fun f w w1 r p => f.doneF w r p) (LE.run (f := fun t S => .nx (st.set j (some t)) S) w sl p fun t S1 v H1 g1 w1 sl1 x1 r1 p1 => p1 _ H1 g1 w1 (.refl _ _ _) (sl1.set j r1))
end
end Ab

namespace Ab
open PySem PySem.Spec PyProof.Rows L2 Sp
/-! ## dict(l) of a list of pairs -/
def pairG : T → Option (T × T)
  | .tup [k, v] => some (k, v)
  | _ => none
def pairsG : List T → Option (List (T × T))
  | [] => some []
  | t :: ts => match pairG t, pairsG ts with
    | some p, some ps => some (p :: ps)
    | _, _ => none
def putAll (ps acc : List (T × T)) : List (T × T) := ps.foldl (fun acc p => putD p.1 p.2 acc) acc
def opDictL (fz b : Bool) : List T → Sto → R T
  | [x], S => match (lkL S x).bind pairsG with
    | some ps => if ps.all (fun p => keyOk b p.1) = true then mkD fz b (putAll ps []) S else .bad
    | none => .bad
  | _, _ => .bad
def mDictL (fz : Bool) (kd : Slots → Sto → Bool) (ra : AA) : AE := fun st S => (ra st S).bind fun xs S1 => opDictL fz (kd st S) xs S1
section
variable {K : PySem.W.Frag} {S : Sto} {H : Hp} {g : G}
theorem pairG_some {t : T} {p : T × T} (h : pairG t = some p) : t = .tup [p.1, p.2] := by
  unfold pairG at h
  split at h
  · cases h; rfl
  · cases h
theorem pairs_rpK (W : Wd K S H g) : ∀ {l : List T} {ps : List (T × T)} {vs : List V}, pairsG l = some ps → ps.all (fun p => keyOk false p.1) = true → Rps K g l vs → ∃ (as : List Addr) (kvs : List (Key × V)), vs = as.map V.ref ∧ Paired (fun p kv => SqT K H p [kV kv.1, kv.2]) as kvs ∧ Rpk K g ps kvs
  | [], ps, _, e, _, .nil => by cases e; exact ⟨[], [], rfl, .nil, .nil⟩
  | t :: l, ps, _, e, ha, .cons h r => by
    unfold pairsG at e
    split at e
    · rename_i p ps' e1 e2
      cases e
      rw [List.all_cons, Bool.and_eq_true] at ha
      obtain ⟨as, kvs, rfl, pr, rr⟩ := pairs_rpK W e2 ha.2 r
      rw [pairG_some e1] at h
      obtain ⟨a, vs2, rfl, hs, r2⟩ := h.tupH W
      obtain ⟨x, y, rfl, rx, ry⟩ := r2.two
      obtain ⟨k, kr, rfl⟩ := isKey_kr (g := g) ha.1 rx
      exact ⟨a :: as, (k, y) :: kvs, rfl, .cons hs pr, .cons kr ry rr⟩
    · cases e
/-- pairs whose keys are tuples -/
abbrev TupPr (K : PySem.W.Frag) (H : Hp) : List Addr → List (List Key × Addr × V) → Prop := Paired fun p x => SqT K H p [.ref x.2.1, x.2.2] ∧ H x.2.1 = some (.tup (x.1.map kV))
theorem pairs_rpT (W : Wd K S H g) : ∀ {l : List T} {ps : List (T × T)} {vs : List V}, pairsG l = some ps → ps.all (fun p => keyOk true p.1) = true → Rps K g l vs → ∃ (as : List Addr) (xs : List (List Key × Addr × V)), vs = as.map V.ref ∧ TupPr K H as xs ∧ Rpt K g ps (xs.map fun x => (x.1, x.2.2))
  | [], ps, _, e, _, .nil => by cases e; exact ⟨[], [], rfl, .nil, .nil⟩
  | t :: l, ps, _, e, ha, .cons h r => by
    unfold pairsG at e
    split at e
    · rename_i p ps' e1 e2
      cases e
      rw [List.all_cons, Bool.and_eq_true] at ha
      obtain ⟨as, xs, rfl, pr, rr⟩ := pairs_rpT W e2 ha.2 r
      rw [pairG_some e1] at h
      obtain ⟨a, vs2, rfl, hs, r2⟩ := h.tupH W
      obtain ⟨x, y, rfl, rx, ry⟩ := r2.two
      obtain ⟨pk, pv⟩ := p
      have hk : keyOk true pk = true := ha.1
      cases pk with
      | tup ts =>
        cases rx with
        | @tup _ b _ h1 h2 rk =>
          have e := W.sub _ _ (h2 hk)
          have hk' : ts.all isKey = true := (Bool.and_eq_true _ _ ▸ (show (!ts.isEmpty && ts.all isKey) = true from hk)).2
          obtain ⟨ks, kr, rfl⟩ := keys_kr hk' rk
          exact ⟨a :: as, (ks, b, y) :: xs, rfl, .cons ⟨hs, e⟩ pr, .cons kr ry rr⟩
      | _ => cases hk
    · cases e
theorem merge_rpK : ∀ {ps : List (T × T)} {kvs : List (Key × V)} {acc : List (T × T)} {avs : List (Key × V)}, Rpk K g ps kvs → Rpk K g acc avs → Rpk K g (putAll ps acc) (mergeK avs kvs)
  | [], [], _, _, .nil, r => r
  | _ :: ps, _ :: kvs, _, _, .cons hk h hs, r => merge_rpK (ps := ps) (kvs := kvs) hs (r.put hk h)
def mergeT (acc more : List (List Key × V)) : List (List Key × V) := more.foldl (fun acc kv => putK acc kv.1 kv.2) acc
theorem merge_rpT : ∀ {ps : List (T × T)} {kvs : List (List Key × V)} {acc : List (T × T)} {avs : List (List Key × V)}, Rpt K g ps kvs → Rpt K g acc avs → Rpt K g (putAll ps acc) (mergeT avs kvs)
  | [], [], _, _, .nil, r => r
  | _ :: ps, _ :: kvs, _, _, .cons hk h hs, r => merge_rpT (ps := ps) (kvs := kvs) hs (r.put hk h)
theorem mergeT_len : ∀ (more acc : List (List Key × V)), (mergeT acc more).length ≤ acc.length + more.length
  | [], acc => by show acc.length ≤ acc.length + 0; omega
  | p :: r, acc => by
    have a1 := mergeT_len r (putK acc p.1 p.2)
    have a2 := length_putK acc p.1 p.2
    have a3 : mergeT acc (p :: r) = mergeT (putK acc p.1 p.2) r := rfl
    rw [a3, List.length_cons]; omega
end
section
variable {X : Cx}
theorem tups_of {pl : List (Addr × Obj)} {σ : TSt} {H : Hp} {s : Shared} (J : Inv X pl σ H s) : ∀ {as : List Addr} {xs : List (List Key × Addr × V)}, TupPr X.K H as xs →
    ∃ prs : List (List Key × Addr × Value), KT H (xs.map fun x => (x.1, x.2.2)) prs ∧ prs.length = as.length ∧ ∀ (j : Nat) (x : List Key × Addr × Value), prs[j]? = some x → ∃ b, as[j]? = some b ∧ s.heap.IsTuple b #[.ref x.2.1, x.2.2] ∧ H x.2.1 = some (.tup (x.1.map kV))
  | _, _, .nil => ⟨[], .nil, rfl, fun j x e => by simp at e⟩
  | a :: as, x :: xs, .cons h t => by
    obtain ⟨prs, r, hl, hp⟩ := tups_of J t
    obtain ⟨its, rv, ht, _⟩ := J.tuple h.1
    obtain ⟨u, y, ei, ru, ry⟩ := vals2 rv
    subst ei
    obtain rfl : u = Value.ref x.2.1 := ru
    refine ⟨(x.1, x.2.1, y) :: prs, .cons ⟨rfl, h.2, ry⟩ r, by rw [List.length_cons, List.length_cons, hl], fun j z e => ?_⟩
    cases j with
    | zero => cases e; exact ⟨a, rfl, ht, h.2⟩
    | succ j => exact hp j z (by simpa using e)
theorem kt_merge {H : Hp} : ∀ {more : List (List Key × V)} {rs : List (List Key × Addr × Value)} {acc : List (List Key × V)} {xs : List (List Key × Addr × Value)}, KT H more rs → KT H acc xs → KT H (mergeT acc more) (storedAllH xs rs)
  | [], [], _, _, .nil, r => r
  | p :: more, q :: rs, _, _, .cons h hs, r => kt_merge (more := more) (rs := rs) hs (by have z := KT.put r p.1 h.2.1 h.2.2; show KT H (putK _ p.1 p.2) (storedH _ q.1 q.2.1 q.2.2); rw [h.1] at z ⊢; exact z)
def rDictT (K : PySem.W.Frag) : List V → Hp → VK → Prop := fun vs H Q => ∃ (a : Addr) (as : List Addr) (xs : List (List Key × Addr × V)), vs = [.ref a] ∧ SqL K H a (as.map V.ref) ∧ TupPr K H as xs ∧ ∀ q, H q = none → Q (.ref q) (upd H q (.dT (mergeT [] (xs.map fun x => (x.1, x.2.2)))))
theorem c_dictT (hcalm : X.calm = true) (hu : X.A.units + 64 < cLine) : CallR X (.type "dict") (rDictT X.K) := by
  intro pl s σ H vs us Q J r q
  obtain ⟨a, as, xs, rfl, hq, hp, q⟩ := q
  obtain ⟨u, rfl, rx⟩ := vals1 r
  cases rx
  obtain ⟨its, rv, pls, hz⟩ := J.list hq
  obtain rfl := refs_at rv
  rw [List.length_map] at hz
  obtain ⟨prs, kt, hl, hpr⟩ := tups_of J hp
  obtain ⟨o, n, ho, hc, hd, hdat⟩ := pls
  have ok : PlainSeq "list" s.heap a (as.map Value.ref).toArray ∧ PairItems s.heap (as.map Value.ref).toArray (fun j => as.getD j 0) (prs.map fun x => (Value.ref x.2.1, x.2.2)) := by
    refine ⟨⟨o, n, ho, hc, hd, hdat⟩, by simp [hl], fun j k v e => ?_⟩
    rw [List.getElem?_map] at e
    obtain ⟨x, ex, exv⟩ := Option.map_eq_some_iff.mp e
    cases exv
    obtain ⟨b, eb, tb, _⟩ := hpr j x ex
    have hj : as.getD j 0 = b := by rw [List.getD_eq_getElem?_getD, eb]; rfl
    refine ⟨by simp [eb], ?_⟩
    show PairAt s.heap (as.getD j 0) _ _
    rw [hj]
    exact .inl tb
  have hn : (prs.map fun x => (Value.ref x.2.1, x.2.2)).length ≤ sizeLine := by rw [List.length_map, hl]; exact hz
  refine call_dict_pairsH (knd := tupleKind (mixKind X.prog X.w)) (ps := prs) (PairArg.list a (as.map Value.ref).toArray (fun j => as.getD j 0) (prs.map fun x => (Value.ref x.2.1, x.2.2))) (J.ok.hd hcalm) (by show X.A.units + 1 + 1 < cLine; omega) ok ⟨by rw [List.length_map], fun i key v e => ?_⟩ (fun h' hk x hx => ?_) hn fun h' tk hd' hk => ?_
  · have e' : (prs.map fun x => (Value.ref x.2.1, x.2.2))[i]? = some (key, v) := e
    rw [List.getElem?_map] at e'
    obtain ⟨x, ex, exv⟩ := Option.map_eq_some_iff.mp e'
    cases exv
    exact ⟨x.1, x.2.1, ex, rfl⟩
  · obtain ⟨j, ej⟩ := List.mem_iff_getElem?.mp hx
    obtain ⟨_, _, _, eb⟩ := hpr j x ej
    obtain ⟨o', its, n', h1, h2, h3, h4⟩ := key_of (P := X.prog) (w := X.w) J.hok eb
    exact ⟨o', its, n', hk _ _ (Nat.ne_of_lt (Heap.lt_size h1)) (fun z => nomatch z) h1, h2, h3, h4⟩
  · obtain ⟨q', es, ep, hq', a2, a3, a4, _, a5⟩ := hd'
    have hlen : (mergeT [] (xs.map fun x => (x.1, x.2.2))).length ≤ sizeLine := by
      refine Nat.le_trans (mergeT_len _ _) ?_
      have := Paired.length kt
      rw [List.length_nil, Nat.zero_add, this, hl]
      exact hz
    refine ⟨.ref s.heap.objs.size, upd H s.heap.objs.size (.dT (mergeT [] (xs.map fun x => (x.1, x.2.2)))), J.laid (t' := tk) (fun b o e => hk b o (fun z => nomatch z) e) (Nat.le_refl _) ?_, rfl, q _ (J.hok.fresh (Nat.le_refl _))⟩
    have hn' := J.hok.fresh (Nat.le_refl s.heap.objs.size)
    exact ⟨hlen, beq_eq_false_iff_ne.mpr (Nat.ne_of_gt J.big), _, (kt_merge kt .nil).keeps fun c ys ec => by rw [upd_ne (ne_of_none ec hn')]; exact ec, q', es, ep, hq', a2, a3, a4, a5⟩
end
end Ab

namespace Ab
open PySem PySem.Spec PyProof.Rows L2 Sp
theorem aDictL {X : Cx} {K : PySem.W.Frag} {E : XS} {e : Expr} {es : List Expr} {pos : Pos} {ra : AA} (fz : Bool) (kd : Slots → Sto → Bool) {x : Str} {p : Pos} (hc : X.calm = true) (hu : X.A.units + 64 < cLine) (hm : X.mg "dict" = none) (ha : PA X (e :: es) (LA K E ra)) (hK : X.K = K := by rfl) (hg : Gl X "dict" := by rfl) (he : starEach (e :: es) X.env = (false, eval e X.env) :: starEach es X.env := by rfl) (hpl : (backTo pos (starEach es X.env)).any (·.1) = false := by rfl) :
    PE X (.Call (.Name "dict" p) (e :: es) [] pos) (LE K E (mDictL fz kd ra)) := by
  subst hK
  refine PE.weak (pe_fz (pe_callTy (or_call (call_dictP hc) (c_dictT hc hu)) hg hm (by decide +kernel) ha (by decide) (by decide) he hpl)) fun σ H Q ⟨st, S, g, w, sl, p⟩ => ?_
  refine LA.bind (f := fun x _ S1 => opDictL fz (kd st S) x S1) w sl p fun t S1 v H1 g1 w1 sl1 x1 r1 p1 => ?_
  unfold opDictL at p1
  split at p1
  · obtain ⟨v, rfl, rx⟩ := r1.one
    split at p1
    · rename_i ps e
      obtain ⟨l, e1, e2⟩ := Option.bind_eq_some_iff.mp e
      split at p1
      · rename_i hall
        obtain ⟨a, vs, rfl, hs, rl⟩ := lkL_rp w1 e1 rx
        cases hb : kd st S with
        | false =>
          rw [hb] at hall p1
          obtain ⟨as, kvs, rfl, pr, rr⟩ := pairs_rpK w1 e2 hall rl
          exact .inl ⟨a, as, kvs, rfl, hs, pr, Post.newD p1 w1 (show DR X.K g1 false _ _ from ⟨_, rfl, merge_rpK rr .nil⟩)⟩
        | true =>
          rw [hb] at hall p1
          obtain ⟨as, xs, rfl, pr, rr⟩ := pairs_rpT w1 e2 hall rl
          exact .inr ⟨a, as, xs, rfl, hs, pr, Post.newD p1 w1 (show DR X.K g1 true _ _ from ⟨_, rfl, merge_rpT rr .nil⟩)⟩
      · exact p1.elim
    · exact p1.elim
  · exact p1.elim
/-! ## == of dicts and of what holds them -/
section
variable {prog : Program} {w : World} {K : Type} [DecidableEq K] {knd : HeapKind prog w K} {A : Around} {s : Shared}
theorem sameH {nm : String} {a b : Addr} {xa xb : List (K × Addr × Value)} {Er : Value → Shared → Prop} {Q : Bool → Shared → Prop} (hu : knd.room A) (ha : (a == sysModules) = false) (hb : (b == sysModules) = false) (da : s.heap.DictOfH knd a xa) (db : s.heap.DictOfH knd b xb) (hl : xa.length = xb.length)
    (hits : ∀ (i : Nat) (k : K) (p : Addr × Value), xa[i]? = some (k, p) → ∃ (j : Nat) (q : Addr × Value), xb[j]? = some (k, q) ∧ SeqAt.EqP prog w A s p.2 q.2 true) (h : Q true s) : wpAny (model prog w) A (Builtin.Dict.samePairs nm a b) Q Er s := by
  obtain ⟨oa, es, ep, g1, _, g2, g3, g4, g5⟩ := da
  obtain ⟨ob, fs, fp, k1, _, k2, k3, k4, k5⟩ := db
  have na : es.size = xa.length := size_of_entries g3
  have nb : fs.size = xb.length := size_of_entries k3
  unfold Builtin.Dict.samePairs Builtin.Dict.showsAll
  rw [if_neg (by rw [ha]; exact Bool.false_ne_true), if_neg (by rw [hb]; exact Bool.false_ne_true)]
  refine wpAny_bind (wpAny_pure (wpAny_bind (wpAny_pure (wpAny_bind (wpAny_dictEntries g1 g2 ?_)))))
  dsimp only
  refine wpAny_bind (wpAny_dictEntries k1 k2 ?_)
  rw [if_neg (by rw [na, nb, hl]; simp)]
  refine wpAny_bind (wpAny_dictEpoch g1 g2 (wpAny_bind ?_))
  rw [Std.Legacy.Range.forIn_eq_forIn_range']
  simp only [Std.Legacy.Range.size, Nat.sub_zero, Nat.add_sub_cancel, Nat.div_one]
  refine wpAny_forIn_list _ (fun rest q s' => s' = s ∧ q = (none, ()) ∧ ∃ i, rest = List.range' i (es.size - i) ∧ i ≤ es.size) _ ?_ ?_ _ _ ⟨rfl, rfl, 0, by simp, Nat.zero_le _⟩
  · rintro x rest q s' ⟨rfl, rfl, i, hr, hi⟩
    have lt : i < es.size := by
      rcases Nat.lt_or_ge i es.size with c | c
      · exact c
      · rw [Nat.sub_eq_zero_of_le c] at hr; simp at hr
    obtain ⟨rfl, hrest⟩ : x = i ∧ rest = List.range' (i + 1) (es.size - (i + 1)) := by
      rw [show es.size - i = (es.size - (i + 1)) + 1 by omega, List.range'_succ] at hr
      injection hr with h1 h2
      exact ⟨h1, h2⟩
    refine wpAny_bind (wpAny_dictEntries g1 g2 ?_)
    obtain ⟨⟨k, p⟩, hx⟩ : ∃ z, xa[x]? = some z := ⟨_, List.getElem?_eq_getElem (by omega)⟩
    have ee : es[x]? = some (entryOfKey knd (k, p)) := by rw [entry_at g3 x, hx]; rfl
    rw [ee]
    obtain ⟨j, q2, hj, heq⟩ := hits x k p hx
    have his : knd.is s'.heap k p.1 := g4 _ (List.mem_of_getElem? hx)
    show wpAny _ _ (holding [Value.ref p.1, p.2] _ >>= _) _ _ _
    refine wpAny_bind (wpAny_holding (wpAny_bind (wpAny_dictFind_heap hu his k1 k2 k3 k4 k5 (fun hn => absurd hj (hn j q2)) fun j' p' hj' => ?_)))
    have jj := idxH_unique k5 hj hj'
    subst jj
    rw [hj] at hj'
    cases hj'
    refine wpAny_bind (wpAny_dictEntries k1 k2 ?_)
    have ef : fs[j]? = some (entryOfKey knd (k, q2)) := by rw [entry_at k3 j, hj]; rfl
    rw [ef]
    refine wpAny_holding (heq _ _ ?_)
    show wpAny _ _ (if (!true) = true then _ else _) _ _ _
    rw [if_neg (by decide)]
    refine wpAny_bind (wpAny_dictEpoch g1 g2 ?_)
    rw [if_neg (by simp)]
    exact wpAny_pure ⟨rfl, rfl, x + 1, hrest, lt⟩
  · rintro q s' ⟨rfl, rfl, i, hr, hi⟩
    exact wpAny_pure h
theorem rcH {a b : Addr} {xa xb : List (K × Addr × Value)} (ha : (a == sysModules) = false) (hb : (b == sysModules) = false) (da : s.heap.DictOfH knd a xa) (db : s.heap.DictOfH knd b xb) (hr : knd.room A.in1) (hu : A.units < cLine) (hl : xa.length = xb.length)
    (hits : ∀ (i : Nat) (k : K) (p : Addr × Value), xa[i]? = some (k, p) → ∃ (j : Nat) (q : Addr × Value), xb[j]? = some (k, q) ∧ SeqAt.EqP prog w A.in1 s p.2 q.2 true) (Er Q : Value → Shared → Prop) (h : Q (.bool true) s) : wpAny (model prog w) A (richCompare .Eq (.ref a) (.ref b)) Q Er s := by
  refine wpAny_richCompare_same_room (op := .Eq) da.typeIs db.typeIs PySem.F.slot_dict_eq (wpAny_call_entry PySem.F.slot_dict_eq da.typeIs PySem.F.entry_dict_eq ?_ (PySem.F.args_dict_eq_2 _ _)) hu
  show wpAny _ _ (Builtin.Dict.dictSlotArgs "__eq__" ⟨[.ref a, .ref b], []⟩ >>= _) _ _ s
  refine wpAny_bind ?_
  unfold Builtin.Dict.dictSlotArgs
  refine wpAny_bind (wpAny_notOrdered_dict da.typeIs ?_)
  show wpAny _ _ (pure (Value.ref a, Value.ref b)) _ _ s
  refine wpAny_pure (wpAny_bind (wpAny_isInstance (T := "dict") db.typeIs PySem.F.sub_dict_dict ?_))
  simp only [Bool.not_true, Bool.false_eq_true, if_false]
  refine wpAny_bind (wpAny_pure (wpAny_bind (wpAny_pure ?_)))
  exact wpAny_bind (sameH hr ha hb da db hl hits (wpAny_pure ⟨_, rfl, (fun x => nomatch x), h⟩))
end
end Ab

namespace Ab
open PySem PySem.Spec PyProof.Rows L2 Sp
/-! tuples whose items are equal -/
open AutoSeq1 (wpAny_loadPart')
theorem tupEq_in {P : Program} {w : World} (a1 a2 : Addr) (xs ys : Array Value) (n1 n2 : Nat) (d1 d2 : Option Addr) (z1 z2 : Array (Option Value)) (hsz : xs.size = ys.size) : MeetsIn P w (Builtin.«tuple.__eq__» ⟨[.ref a1, .ref a2], []⟩)
    (fun A R s => s.heap.get? a1 = some { cls := .type "tuple", dict := d1, data := .seq xs n1, slots := z1 } ∧ s.heap.get? a2 = some { cls := .type "tuple", dict := d2, data := .seq ys n2, slots := z2 } ∧
      (∀ j (h1 : j < xs.size) (h2 : j < ys.size), SeqAt.EqP P w A.in1 s xs[j] ys[j] true) ∧ R (.ok (.ret (.bool true))) s) := by
  intro A R sh hh
  obtain ⟨hp, gg, dd, tk, os⟩ := sh
  obtain ⟨h1, h2, he, hR⟩ := hh
  have sub := AutoSeq1.sub_tuple_tuple
  have zl : (xs.toList.zip ys.toList).length = xs.size := by simp [hsz]
  wp_walk using wpAny_loadPart' h1, wpAny_loadPart' h2, wpAny_forIn_list _ (fun rest q s' => q.1 = none ∧ s' = ⟨hp, gg, dd, tk, os⟩ ∧ ∃ i, rest = (xs.toList.zip ys.toList).drop i) _
  case turn =>
    rintro ⟨y, x⟩ rest q s' ⟨hq, rfl, i, hz⟩
    have lt : i < (xs.toList.zip ys.toList).length := by
      rcases Nat.lt_or_ge i (xs.toList.zip ys.toList).length with c | c
      · exact c
      · rw [List.drop_of_length_le c] at hz; cases hz
    have i1 : i < xs.size := zl ▸ lt
    have i2 : i < ys.size := hsz ▸ i1
    rw [List.drop_eq_getElem_cons lt] at hz
    injection hz with hyx hrest
    have hy : y = xs[i] := by have := congrArg Prod.fst hyx; simpa using this
    have hx : x = ys[i] := by have := congrArg Prod.snd hyx; simpa using this
    subst hy hx
    refine wpAny_bind (he i i1 i2 _ _ ?_)
    wp_walk
    exact ⟨rfl, rfl, i + 1, hrest⟩
  case fin =>
    rintro ⟨q1, q2⟩ s' ⟨hq, rfl, i, hz⟩
    simp only at hq
    subst hq
    wp_walk
    simpa [Builtin.Tuple.tupleCompareSizes, hsz] using hR
  case h => exact ⟨rfl, rfl, 0, rfl⟩
theorem rcTup {P : Program} {w : World} {A : Around} {s : Shared} {a1 a2 : Addr} {xs ys : Array Value} (t1 : s.heap.IsTuple a1 xs) (t2 : s.heap.IsTuple a2 ys) (hsz : xs.size = ys.size) (hu : A.units < cLine)
    (he : ∀ j (h1 : j < xs.size) (h2 : j < ys.size), SeqAt.EqP P w A.in1 s xs[j] ys[j] true) (Er Q : Value → Shared → Prop) (q : Q (.bool true) s) : wpAny (model P w) A (richCompare .Eq (.ref a1) (.ref a2)) Q Er s := by
  obtain ⟨⟨c1, d1, data1, z1⟩, o1, e1, n1, f1⟩ := t1
  obtain ⟨⟨c2, d2, data2, z2⟩, o2, e2, n2, f2⟩ := t2
  simp only at e1 f1 e2 f2
  subst e1 f1 e2 f2
  have ty1 : s.TypeIs (.ref a1) "tuple" := ⟨_, o1, rfl⟩
  have ty2 : s.TypeIs (.ref a2) "tuple" := ⟨_, o2, rfl⟩
  exact wpAny_richCompare_same_room (op := .Eq) ty1 ty2 PySem.F.slot_tuple_eq (call_meetsIn PySem.F.slot_tuple_eq ty1 PySem.F.entry_tuple_eq (PySem.F.args_tuple_eq_2 _ _) (tupEq_in a1 a2 xs ys n1 n2 d1 d2 z1 z2 hsz) ⟨o1, o2, he, show Value.bool true ≠ Value.notImplemented ∧ Q (.bool true) s from ⟨(fun x => nomatch x), q⟩⟩) hu
/-- equal as Python has it: dicts whatever the order of their keys -/
def TEqN : Nat → T → T → Prop
  | 0 => fun _ _ => False
  | n + 1 => fun x y => match x, y with
    | .non, .non => True
    | .bl a, .bl b => a = b
    | .int a, .int b => a = b
    | .str a, .str b => a = b
    | .tup l, .tup m => l.length = m.length ∧ ∀ (i : Nat) t u, l[i]? = some t → m[i]? = some u → TEqN n t u
    | .lst l, .lst m => l.length = m.length ∧ ∀ (i : Nat) t u, l[i]? = some t → m[i]? = some u → TEqN n t u
    | .dct a ps, .dct b qs => a = b ∧ ps.length = qs.length ∧ ∀ k t, (k, t) ∈ ps → ∃ u, getT k qs = some u ∧ TEqN n t u
    | _, _ => False
section
variable {X : Cx} {pl : List (Addr × Obj)} {σ : TSt} {H : Hp} {s : Shared} {S : Sto} {g : G}
theorem vals_at : ∀ {vs : List V} {us : List Value} {i : Nat} {v : V}, Vals vs us → vs[i]? = some v → ∃ u, us[i]? = some u ∧ RelV v u
  | _, _, 0, _, .cons h _, e => by cases e; exact ⟨_, rfl, h⟩
  | _, _, i + 1, _, .cons _ r, e => vals_at (i := i) r (by simpa using e)
  | _, _, _, _, .nil, e => by simp at e
theorem vals_at' : ∀ {vs : List V} {us : List Value} {i : Nat} {u : Value}, Vals vs us → us[i]? = some u → ∃ v, vs[i]? = some v ∧ RelV v u
  | _, _, 0, _, .cons h _, e => by cases e; exact ⟨_, rfl, h⟩
  | _, _, i + 1, _, .cons _ r, e => vals_at' (i := i) r (by simpa using e)
  | _, _, _, _, .nil, e => by simp at e
abbrev EqIH (X : Cx) (s : Shared) (g : G) (A : Around) (n : Nat) : Prop := ∀ x y v w u u', TEqN n x y → Rp X.K g x v → Rp X.K g y w → RelV v u → RelV w u' → SeqAt.EqP X.prog X.w A s u u' true
theorem items_eq {A : Around} {n : Nat} (ih : EqIH X s g A n) {l m : List T} {vs ws : List V} {us us' : List Value} (hl : l.length = m.length) (h : ∀ (i : Nat) t u, l[i]? = some t → m[i]? = some u → TEqN n t u) (r1 : Rps X.K g l vs) (r2 : Rps X.K g m ws) (q1 : Vals vs us) (q2 : Vals ws us') :
    us.toArray.size = us'.toArray.size ∧ ∀ j (h1 : j < us.toArray.size) (h2 : j < us'.toArray.size), SeqAt.EqP X.prog X.w A s us.toArray[j] us'.toArray[j] true := by
  have e1 := r1.length; have e2 := r2.length; have e3 := q1.length; have e4 := q2.length
  refine ⟨by simp; omega, fun j h1 h2 => ?_⟩
  have h1' : j < us.length := by simpa using h1
  have h2' : j < us'.length := by simpa using h2
  obtain ⟨v, hv, rv⟩ := vals_at' q1 (List.getElem?_eq_getElem h1')
  obtain ⟨w, hw, rw'⟩ := vals_at' q2 (List.getElem?_eq_getElem h2')
  obtain ⟨t, ht, rt⟩ := r1.get' hv
  obtain ⟨u, hu, ru⟩ := r2.get' hw
  have := ih t u v w _ _ (h j t u ht hu) rt ru rv rw'
  simpa using this
theorem getK_at : ∀ {ps : List (T × T)} {kvs : List (Key × V)} {p : Key × V}, Rpk X.K g ps kvs → p ∈ kvs → ∃ t x, (t, x) ∈ ps ∧ KR t p.1 ∧ Rp X.K g x p.2
  | _, _, _, .cons h r rs, hm => by
    rcases List.mem_cons.mp hm with rfl | hm
    · exact ⟨_, _, List.mem_cons_self, h, r⟩
    · obtain ⟨t, x, a, b, c⟩ := getK_at rs hm
      exact ⟨t, x, List.mem_cons_of_mem _ a, b, c⟩
theorem hits_eq {A : Around} {n : Nat} (ih : EqIH X s g A n) {qs : List (T × T)} {ls : List (Key × V)} {vb : List (Key × Value)} (rq : Rpk X.K g qs ls) (kb : KV ls vb) : ∀ {ps : List (T × T)} {ks : List (Key × V)} {va : List (Key × Value)}, Rpk X.K g ps ks → KV ks va → (∀ k t, (k, t) ∈ ps → ∃ u, getT k qs = some u ∧ TEqN n t u) →
    PySem.W.KeqHitsP X.prog X.w A s vb va true
  | _, _, _, .nil, .nil, _ => .nil
  | (k, t) :: ps, (kk, v) :: ks, (kk', u) :: va, .cons hk r rs, .cons h hs, he => by
    obtain ⟨y, hy, te⟩ := he k t List.mem_cons_self
    obtain ⟨yv, e1, ry⟩ := (rq.get hk).1 y hy
    have rr : RelO (some yv) (valueAt vb kk) := by rw [← e1]; exact kb.val kk
    obtain ⟨z, hz, rz⟩ := rr.some_of
    have h1 : kk = kk' := h.1
    rw [← h1]
    show PySem.W.KeqHitsP X.prog X.w A s vb ((kk, u) :: va) (true && true)
    exact .hit hz (ih _ _ _ _ _ _ te r ry h.2 rz) (hits_eq ih rq kb rs hs fun k' t' hm => he k' t' (List.mem_cons_of_mem _ hm))
theorem frz_at (W : Wd X.K S H g) {a : Addr} {od : Obj} {u : HO} (h : g.F a = some (.frz od u)) : Rd H a u := .inr ⟨od, W.sub _ _ h⟩
theorem kt_at {H : Hp} : ∀ {kvs : List (List Key × V)} {xs : List (List Key × Addr × Value)} {i : Nat} {x : List Key × Addr × Value}, KT H kvs xs → xs[i]? = some x → ∃ v, kvs[i]? = some (x.1, v) ∧ RelV v x.2.2
  | _ :: _, _ :: _, 0, _, .cons h _, e => by cases e; exact ⟨_, by rw [← h.1]; rfl, h.2.2⟩
  | _ :: kvs, _ :: xs, i + 1, _, .cons _ r, e => kt_at (kvs := kvs) (xs := xs) (i := i) r (by simpa using e)
  | [], [], _, _, .nil, e => by simp at e
theorem atKey_get {xs : List (List Key × Addr × Value)} {k : List Key} {p : Addr × Value} (h : atKey xs k = some p) : ∃ j : Nat, xs[j]? = some (k, p) := by
  unfold atKey at h
  obtain ⟨x, hx, e⟩ := Option.map_eq_some_iff.mp h
  have hm := List.mem_of_find?_eq_some hx
  have hk := List.find?_some hx
  obtain ⟨j, hj⟩ := List.mem_iff_getElem?.mp hm
  exact ⟨j, by rw [hj, ← e]; simp only [decide_eq_true_eq] at hk; rw [← hk]⟩
theorem rpt_mem : ∀ {ps : List (T × T)} {kvs : List (List Key × V)} {i : Nat} {k : List Key} {v : V}, Rpt X.K g ps kvs → kvs[i]? = some (k, v) → ∃ ts x, (.tup ts, x) ∈ ps ∧ KRs ts k ∧ Rp X.K g x v := fun r e => by
  obtain ⟨ts, x, a, b, c⟩ := r.at e
  exact ⟨ts, x, List.mem_of_getElem? a, b, c⟩
/-- trees that are equal compare equal, wherever they lie -/
theorem rc_run (J : Inv X pl σ H s) (W : Wd X.K S H g) {n : Nat} {A : Around} (hu : A.units + 1 < cLine) (ih : EqIH X s g A.in1 n) {x y : T} {a b : Addr} (h : TEqN (n + 1) x y) (rx : Rp X.K g x (.ref a)) (ry : Rp X.K g y (.ref b)) : ∀ (Er Q : Value → Shared → Prop), Q (.bool true) s → wpAny (model X.prog X.w) A (richCompare .Eq (.ref a) (.ref b)) Q Er s := by
  have hu0 : A.units < cLine := by omega
  cases x with
  | tup l =>
    cases y with
    | tup m =>
      obtain ⟨a', vs, e1, h1, r1⟩ := rx.tupH W
      obtain ⟨b', ws, e2, h2, r2⟩ := ry.tupH W
      cases e1; cases e2
      obtain ⟨us, q1, t1, _⟩ := J.tuple h1
      obtain ⟨us', q2, t2, _⟩ := J.tuple h2
      obtain ⟨sz, he⟩ := items_eq ih h.1 h.2 r1 r2 q1 q2
      exact rcTup t1 t2 sz hu0 he
    | _ => exact h.elim
  | lst l =>
    cases y with
    | lst m =>
      obtain ⟨a', vs, e1, h1, r1⟩ := rx.lstH W
      obtain ⟨b', ws, e2, h2, r2⟩ := ry.lstH W
      cases e1; cases e2
      obtain ⟨us, q1, t1, _⟩ := J.list (SqL.of h1)
      obtain ⟨us', q2, t2, _⟩ := J.list (SqL.of h2)
      obtain ⟨sz, he⟩ := items_eq ih h.1 h.2 r1 r2 q1 q2
      intro E Q q
      refine SeqAt.rcP_lists (e := fun _ => true) t1.isList t2.isList sz hu0 (fun j k1 k2 => he j k1 k2) E Q ?_
      rw [show ((List.range us.toArray.size).all fun _ => true) = true from List.all_eq_true.mpr fun _ _ => rfl]
      exact q
    | _ => exact h.elim
  | dct c ps =>
    cases y with
    | dct d qs =>
      obtain ⟨rfl, hl, he⟩ := h
      cases rx with
      | dct f1 r1 =>
        cases ry with
        | dct f2 r2 =>
          obtain ⟨_, ya, va, ra, da⟩ := dk_rd J.hok (frz_at W f1)
          obtain ⟨_, yb, vb, rb, db⟩ := dk_rd J.hok (frz_at W f2)
          have hits := hits_eq ih r2 rb r1 ra he
          intro E Q q
          refine PySem.W.rcP_dicts (knd := mixKind X.prog X.w) (r := true) ya yb da db hu0 (fun _ => hits) E Q ?_
          have e : va.length = vb.length := by have := ra.length; have := rb.length; have := r1.length; have := r2.length; omega
          rw [show (va.length == vb.length && true) = true by rw [e]; simp]
          exact q
      | dctT f1 r1 =>
        cases ry with
        | dctT f2 r2 =>
          obtain ⟨_, ya, xa, ra, da⟩ := dt_rd J.hok (frz_at W f1)
          obtain ⟨_, yb, xb, rb, db⟩ := dt_rd J.hok (frz_at W f2)
          intro E Q q
          have e : xa.length = xb.length := by have := Paired.length ra; have := Paired.length rb; have := r1.length; have := r2.length; omega
          refine rcH (knd := tupleKind (mixKind X.prog X.w)) ya yb da db (tupleKind_room_in1 hu) hu0 e (fun i k p hi => ?_) E Q q
          obtain ⟨v, hv, rv⟩ := kt_at ra hi
          obtain ⟨ts, t, hm, kr, rt⟩ := rpt_mem r1 hv
          obtain ⟨y, hy, te⟩ := he _ _ hm
          obtain ⟨yv, e1, ry⟩ := (r2.get kr).1 y hy
          have rr : RelO (some yv) ((atKey xb k).map (·.2)) := by rw [← e1]; exact rb.val k
          obtain ⟨z, hz, rz⟩ := rr.some_of
          obtain ⟨p', hp', hz'⟩ := Option.map_eq_some_iff.mp hz
          obtain ⟨j, hj⟩ := atKey_get hp'
          exact ⟨j, p', hj, ih _ _ _ _ _ _ te rt ry rv (by rw [hz']; exact rz)⟩
    | _ => exact h.elim
  | non => cases rx
  | bl _ => cases rx
  | int _ => cases rx
  | str _ => cases rx
  | tupk _ => exact (show False from by cases y <;> exact h).elim
  | scr _ => exact (show False from by cases y <;> exact h).elim
  | ref _ => exact (show False from by cases y <;> exact h).elim
  | ty _ => cases rx
  | con _ => exact (show False from by cases y <;> exact h).elim
theorem eq_run (J : Inv X pl σ H s) (W : Wd X.K S H g) : ∀ (n : Nat) (A : Around), A.units + n < cLine → EqIH X s g A n
  | 0, _, _, _, _, _, _, _, _, h, _, _, _, _ => h.elim
  | n + 1, A, hu, x, y, v, w, u, u', h, rx, ry, ru, ru' => by
    have ih := eq_run J W n A.in1 (by show A.units + 1 + n < cLine; omega)
    have flat : ∀ z : V, flatB z = true → RelV z u → RelV z u' → SeqAt.EqP X.prog X.w A s u u' true := fun z f a b => (eqAt_same a b f).eqP
    have refs : ∀ a b, v = .ref a → w = .ref b → SeqAt.EqP X.prog X.w A s u u' true := fun a b ea eb => by
      subst ea eb
      cases (show u = Value.ref a from ru)
      cases (show u' = Value.ref b from ru')
      by_cases e : a = b
      · subst e; exact (SeqAt.EqAt.same _).eqP
      · have z := rc_run J W (A := A) (by omega) ih h rx ry
        exact SeqAt.eqP_refs e z
    cases x with
    | non => cases y with
      | non => cases rx; cases ry; exact flat .non rfl ru ru'
      | _ => exact h.elim
    | bl a => cases y with
      | bl b => cases rx; cases ry; cases (show a = b from h); exact flat (.bl a) rfl ru ru'
      | _ => exact h.elim
    | int a => cases y with
      | int b => cases rx; cases ry; cases (show a = b from h); exact flat (.int a) rfl ru ru'
      | _ => exact h.elim
    | str a => cases y with
      | str b => cases rx; cases ry; cases (show a = b from h); exact flat (.str (.ofString a)) rfl ru ru'
      | _ => exact h.elim
    | tup l => cases y with
      | tup m => cases rx; cases ry; exact refs _ _ rfl rfl
      | _ => exact h.elim
    | lst l => cases y with
      | lst m => cases rx; cases ry; exact refs _ _ rfl rfl
      | _ => exact h.elim
    | dct c ps => cases y with
      | dct d qs => cases rx <;> cases ry <;> exact refs _ _ rfl rfl
      | _ => exact h.elim
    | _ => exact (show False from by cases y <;> exact h).elim
end
end Ab

namespace Ab
open PySem PySem.Spec PyProof.Rows L2 Sp
/-! ## locks -/
section
variable {K : PySem.W.Frag} {S S' : Sto} {H H' : Hp} {g g' : G} {n : Nat} {b : Bool} {ps : List (T × T)} {d : Addr}
theorem lck_in (W : Wd K S H g) (hn : S[n]? = some (.dct b ps)) (hm : g.mu[n]? = some d) : ∃ u, H d = some u ∧ Mut (some u) ∧ DR K g b ps u ∧ ∀ od, Wd K (S.set n (.lck b ps)) (upd H d (.frz od u)) g ∧ Ext S H g (S.set n (.lck b ps)) (upd H d (.frz od u)) g := by
  have ok := W.cell n _ _ hn (fun z => nomatch z) hm
  cases b with
  | false =>
    obtain ⟨kvs, h, r⟩ := ok
    exact ⟨_, h, True.intro, ⟨kvs, rfl, r⟩, fun od => W.write (ho := .frz od (.dK kvs)) (o' := .lck false ps) hn (fun z => nomatch z) hm (fun z => nomatch z) ⟨od, kvs, upd_same, r⟩⟩
  | true =>
    obtain ⟨kvs, h, r⟩ := ok
    exact ⟨_, h, True.intro, ⟨kvs, rfl, r⟩, fun od => W.write (ho := .frz od (.dT kvs)) (o' := .lck true ps) hn (fun z => nomatch z) hm (fun z => nomatch z) ⟨od, kvs, upd_same, r⟩⟩
theorem lck_out {od : Obj} {u : HO} (W : Wd K S H g) (hn : S[n]? = some (.dct b ps)) (hm : g.mu[n]? = some d) (hu : H d = some u) (dr : DR K g b ps u)
    (W' : Wd K S' H' g') (x : Ext (S.set n (.lck b ps)) (upd H d (.frz od u)) g S' H' g') : H' d = some (.frz od u) ∧ Wd K (S'.set n (.dct b ps)) (upd H' d u) g' ∧ Ext S H g (S'.set n (.dct b ps)) (upd H' d u) g' := by
  have hl := (List.getElem?_eq_some_iff.mp hn).1
  obtain ⟨e1, e2⟩ := x.lk n b ps d (List.getElem?_set_self hl) hm
  have hd : H' d = some (.frz od u) := by rw [e1, upd_same]
  have hm' := x.le.mu _ _ hm
  have hl' := (List.getElem?_eq_some_iff.mp e2).1
  have ok : OR K g' (upd H' d u) d (.dct b ps) := by
    cases b with
    | false => obtain ⟨kvs, rfl, r⟩ := dr; exact ⟨kvs, upd_same, r.mono x.le⟩
    | true => obtain ⟨kvs, rfl, r⟩ := dr; exact ⟨kvs, upd_same, r.mono x.le⟩
  have la : lv g S d := ⟨n, _, hn, (fun z => nomatch z), hm⟩
  have neL : ∀ {a}, ¬ lv g S a → a ≠ d := fun h z => h (by rw [z]; exact la)
  have lvs : ∀ a, lv g (S.set n (.lck b ps)) a → lv g S a := fun a ⟨m, o, e, dd, mm⟩ => by
    by_cases z : n = m
    · subst z; exact ⟨n, _, hn, (fun z => nomatch z), mm⟩
    · rw [List.getElem?_set_ne z] at e; exact ⟨m, o, e, dd, mm⟩
  have lvs' : ∀ a, lv g' (S'.set n (.dct b ps)) a → lv g' S' a := fun a ⟨m, o, e, dd, mm⟩ => by
    by_cases z : n = m
    · subst z; exact ⟨n, _, e2, (fun z => nomatch z), mm⟩
    · rw [List.getElem?_set_ne z] at e; exact ⟨m, o, e, dd, mm⟩
  refine ⟨hd, W'.wr e2 (fun z => nomatch z) hm' (fun z => nomatch z) ok, x.le, fun a o e => ?_, fun a o e nt f l => ?_, fun m c qs a e mm => ?_⟩
  · have ne : a ≠ d := fun z => by subst z; rw [W.off _ la] at e; cases e
    rw [upd_ne ne, x.fz a o e, upd_ne ne]
  · have ne := neL l
    obtain ⟨a1, a2, a3⟩ := x.fr a o (by rw [upd_ne ne]; exact e) nt f (fun z => l (lvs a z))
    exact ⟨by rw [upd_ne ne]; exact a1, a2, fun z => a3 (lvs' a z)⟩
  · have nm : n ≠ m := fun z => by subst z; rw [hn] at e; cases e
    have ne : a ≠ d := fun z => by subst z; exact nm (W.inj n m _ _ _ hn (fun z => nomatch z) e (fun z => nomatch z) hm mm)
    obtain ⟨a1, a2⟩ := x.lk m c qs a (by rw [List.getElem?_set_ne nm]; exact e) mm
    exact ⟨by rw [upd_ne ne, a1, upd_ne ne], by rw [List.getElem?_set_ne nm]; exact a2⟩
end
/-- a dict's handle is locked while a statement runs, then opened -/
def unlk (n : Nat) (o : O) : RS → RS
  | .nx st S => .nx st (S.set n o)
  | .rt t S => .rt t (S.set n o)
  | .br st S => .br st (S.set n o)
  | .ct st S => .ct st (S.set n o)
  | r => r
def lkO (n : Nat) (s : AS) (st : Slots) (S : Sto) : Option O → RS
  | some (.dct b ps) => unlk n (.dct b ps) (s st (S.set n (.lck b ps)))
  | _ => .bad
def lkT (s : AS) (st : Slots) (S : Sto) : T → RS
  | .ref n => lkO n s st S S[n]?
  | _ => s st S
def lkR (s : AS) (st : Slots) (S : Sto) : R T → RS
  | .ok t _ => lkT s st S t
  | _ => .bad
/-- e tells the handle -/
def mLock (e : AE) (s : AS) : AS := fun st S => lkR s st S (e st S)
def unlkE (n : Nat) (o : O) : R T → R T
  | .ok t S => .ok t (S.set n o)
  | r => r
def lkOE (n : Nat) (a : AE) (st : Slots) (S : Sto) : Option O → R T
  | some (.dct b ps) => unlkE n (.dct b ps) (a st (S.set n (.lck b ps)))
  | _ => .bad
def lkTE (a : AE) (st : Slots) (S : Sto) : T → R T
  | .ref n => lkOE n a st S S[n]?
  | _ => a st S
def lkRE (a : AE) (st : Slots) (S : Sto) : R T → R T
  | .ok t _ => lkTE a st S t
  | _ => .bad
def mLockE (e a : AE) : AE := fun st S => lkRE a st S (e st S)
section
variable {X : Cx} {K : PySem.W.Frag} {E : XS} {s : Stmt} {e : Expr} {as : AS} {ea : AE}
theorem aLock (sel : AE) (h : PS X s (LS K E as)) : PS X s (LS K E (mLock sel as)) := by
  refine ⟨fun pl sh σ H D I hw => ?_⟩
  obtain ⟨st, S, g, w, sl, p⟩ := hw
  have pass : PostS K E S H g (as st S) D → wpAny (model X.prog X.w) X.A (exec s X.env) (fun f s' => SP X pl D f s') X.xe sh := fun p => h.run pl sh σ H D I ⟨st, S, g, w, sl, p⟩
  unfold mLock lkR at p
  cases z : sel st S with
  | bad => rw [z] at p; exact p.elim
  | exc c S' => rw [z] at p; exact p.elim
  | ok t S0 =>
    rw [z] at p
    unfold lkT at p
    cases t with
    | ref n =>
      simp only at p
      unfold lkO at p
      cases zn : S[n]? with
      | none => rw [zn] at p; exact p.elim
      | some o =>
        rw [zn] at p
        cases o with
        | dct b ps =>
          simp only at p
          have hlen : n < g.mu.length := by rw [w.len]; exact (List.getElem?_eq_some_iff.mp zn).1
          have hm : g.mu[n]? = some g.mu[n] := List.getElem?_eq_getElem hlen
          obtain ⟨u, hu, mu, dr, hod⟩ := lck_in w zn hm
          refine (ps_lock h).run pl sh σ H D I ⟨g.mu[n], u, hu, mu, fun od => ⟨st, S.set n (.lck b ps), g, (hod od).1, sl, ?_⟩⟩
          cases r : as st (S.set n (.lck b ps)) with
          | nx st' S' => rw [r] at p; exact fun σ' H' g' w' x' sl' => let ⟨q1, q2, q3⟩ := lck_out w zn hm hu dr w' x'; ⟨q1, p σ' _ g' q2 q3 sl'⟩
          | rt t S' => rw [r] at p; exact fun v H' g' w' x' rt => let ⟨q1, q2, q3⟩ := lck_out w zn hm hu dr w' x'; ⟨q1, p v _ g' q2 q3 rt⟩
          | br st' S' => rw [r] at p; exact fun σ' H' g' w' x' sl' => let ⟨q1, q2, q3⟩ := lck_out w zn hm hu dr w' x'; ⟨q1, p σ' _ g' q2 q3 sl'⟩
          | ct st' S' => rw [r] at p; exact fun σ' H' g' w' x' sl' => let ⟨q1, q2, q3⟩ := lck_out w zn hm hu dr w' x'; ⟨q1, p σ' _ g' q2 q3 sl'⟩
          | exc c st' S' => rw [r] at p; exact fun σ' H' g' w' x' sl' => p σ' H' g' w' ((hod od).2.trans x') sl'
          | bad => rw [r] at p; exact p
        | _ => exact p.elim
    | _ => exact pass p
theorem aLockE (sel : AE) (h : PE X e (LE K E ea)) : PE X e (LE K E (mLockE sel ea)) := by
  refine ⟨fun pl sh σ H Q I hw => ?_⟩
  obtain ⟨st, S, g, w, sl, p⟩ := hw
  have p : Post K (E σ) S H g (Rp K) (mLockE sel ea st S) Q := p
  have pass : Post K (E σ) S H g (Rp K) (ea st S) Q → _ := fun p => h.run pl sh σ H Q I ⟨st, S, g, w, sl, p⟩
  unfold mLockE lkRE at p
  cases z : sel st S with
  | bad => rw [z] at p; exact p.elim
  | exc c S' => rw [z] at p; exact p.elim
  | ok t S0 =>
    rw [z] at p
    unfold lkTE at p
    cases t with
    | ref n =>
      simp only at p
      unfold lkOE at p
      cases zn : S[n]? with
      | none => rw [zn] at p; exact p.elim
      | some o =>
        rw [zn] at p
        cases o with
        | dct b ps =>
          simp only at p
          have hlen : n < g.mu.length := by rw [w.len]; exact (List.getElem?_eq_some_iff.mp zn).1
          have hm : g.mu[n]? = some g.mu[n] := List.getElem?_eq_getElem hlen
          obtain ⟨u, hu, mu, dr, hod⟩ := lck_in w zn hm
          refine (pe_lock h).run pl sh σ H Q I ⟨g.mu[n], u, hu, mu, fun od => ⟨st, S.set n (.lck b ps), g, (hod od).1, sl, ?_⟩⟩
          cases r : ea st (S.set n (.lck b ps)) with
          | ok t S' => rw [r] at p; exact fun v H' g' w' x' rt => let ⟨q1, q2, q3⟩ := lck_out w zn hm hu dr w' x'; ⟨q1, p v _ g' q2 q3 rt⟩
          | exc c S' => rw [r] at p; exact fun H' g' w' x' => p H' g' w' ((hod od).2.trans x')
          | bad => rw [r] at p; exact p
        | _ => exact p.elim
    | _ => exact pass p
end
end Ab

namespace Ab
open PySem PySem.Spec PyProof.Rows L2 Sp
/-! ## frozen dicts compared -/
section
variable {prog : Program} {w : World} {K : Type} [DecidableEq K] {knd : PySem.KeyKind prog w K} {A : Around} {E : Value → Shared → Prop} {s : Shared}
theorem neDct {a b : Addr} {ka kb : List (K × Value)} {r : Bool} (ha : (a == sysModules) = false) (hb : (b == sysModules) = false)
    (da : s.heap.DictOf knd a ka) (db : s.heap.DictOf knd b kb) (hu : A.units < cLine) (hits : ka.length = kb.length → PySem.W.KeqHitsP prog w A.in1 s kb ka r) (E Q : Value → Shared → Prop) (h : Q (.bool (!(ka.length == kb.length && r))) s) : wpAny (model prog w) A (compareOp .NotEq (.ref a) (.ref b)) Q E s := by
  refine wpAny_richCompare_same_room (op := .NotEq) da.typeIs db.typeIs PySem.F.slot_dict_ne (wpAny_call_entry PySem.F.slot_dict_ne da.typeIs PySem.F.entry_dict_ne ?_ (PySem.F.args_dict_ne_2 _ _)) hu
  show wpAny _ _ (Builtin.Dict.dictSlotArgs "__ne__" ⟨[.ref a, .ref b], []⟩ >>= _) _ _ s
  refine wpAny_bind ?_
  unfold Builtin.Dict.dictSlotArgs
  refine wpAny_bind (wpAny_notOrdered_dict da.typeIs ?_)
  show wpAny _ _ (pure (Value.ref a, Value.ref b)) _ _ s
  refine wpAny_pure ?_
  refine wpAny_bind (wpAny_isInstance (T := "dict") db.typeIs PySem.F.sub_dict_dict ?_)
  simp only [Bool.not_true, Bool.false_eq_true, if_false]
  refine wpAny_bind (wpAny_pure (wpAny_bind (wpAny_pure ?_)))
  refine wpAny_bind (PySem.W.samePairsP ha hb da db hits ?_)
  refine wpAny_pure ⟨_, rfl, ?_, ?_⟩
  · exact fun x => nomatch x
  · simpa using h
end
def rNeF (K : PySem.W.Frag) : R2 := fun x y H Q => ∃ S g n ps qs, Wd K S H g ∧ n ≤ 50 ∧ TEqN (n + 1) (.dct false ps) (.dct false qs) ∧ Rp K g (.dct false ps) x ∧ Rp K g (.dct false qs) y ∧ Q (.bl false) H
def rEqF (K : PySem.W.Frag) : R2 := fun x y H Q => ∃ S g n ps qs, Wd K S H g ∧ n ≤ 50 ∧ TEqN (n + 1) (.dct false ps) (.dct false qs) ∧ Rp K g (.dct false ps) x ∧ Rp K g (.dct false qs) y ∧ Q (.bl true) H
theorem op_eqF {X : Cx} (hu : X.A.units + 64 < cLine) : OpR X (compareOp .Eq) (rEqF X.K) := by
  intro pins s σ H x y v u Q I rx ry ⟨S, g, n, ps, qs, w, hn, h, r1, r2, q⟩
  have ih := eq_run I w n X.A.in1 (by show X.A.units + 1 + n < cLine; omega)
  cases r1 with
  | dct f1 r1 =>
    cases r2 with
    | dct f2 r2 =>
      cases rx; cases ry
      exact rc_run I w (by omega) ih h (.dct f1 r1) (.dct f2 r2) _ _ ⟨.bl true, H, I, rfl, q⟩
theorem op_neF {X : Cx} (hu : X.A.units + 64 < cLine) : OpR X (compareOp .NotEq) (rNeF X.K) := by
  intro pins s σ H x y v u Q I rx ry ⟨S, g, n, ps, qs, w, hn, h, r1, r2, q⟩
  have ih := eq_run I w n X.A.in1 (by show X.A.units + 1 + n < cLine; omega)
  cases r1 with
  | dct f1 r1 =>
    cases r2 with
    | dct f2 r2 =>
      cases rx; cases ry
      obtain ⟨_, ya, va, ra, da⟩ := dk_rd I.hok (frz_at w f1)
      obtain ⟨_, yb, vb, rb, db⟩ := dk_rd I.hok (frz_at w f2)
      have hits := hits_eq ih r2 rb r1 ra h.2.2
      refine neDct (knd := mixKind X.prog X.w) (r := true) ya yb da db (by omega) (fun _ => hits) _ _ ?_
      have e : va.length = vb.length := by have := ra.length; have := rb.length; have := r1.length; have := r2.length; have := h.2.1; omega
      rw [show (!(va.length == vb.length && true)) = false by rw [e]; simp]
      exact ⟨.bl false, H, I, rfl, q⟩
open Classical in
noncomputable def eqF (b : Bool) (x y : T) (S : Sto) : R T := match x, y with
  | .dct false ps, .dct false qs => if ∃ n, n ≤ 50 ∧ TEqN (n + 1) (.dct false ps) (.dct false qs) then .ok (.bl b) S else .bad
  | _, _ => .bad
noncomputable def opEqF (x y : T) (S : Sto) : R T := eqF true x y S
noncomputable def opNeF (x y : T) (S : Sto) : R T := eqF false x y S
theorem up_eqF {K : PySem.W.Frag} : Up2 K opEqF (rEqF K) := by
  intro E S H g x y v w Q W rx ry p
  unfold opEqF eqF at p
  split at p
  · split at p
    · rename_i c
      obtain ⟨n, hn, h⟩ := c
      exact ⟨S, g, n, _, _, W, hn, h, rx, ry, p.val W (.bl _)⟩
    · exact p.elim
  · exact p.elim
theorem up_neF {K : PySem.W.Frag} : Up2 K opNeF (rNeF K) := by
  intro E S H g x y v w Q W rx ry p
  unfold opNeF eqF at p
  split at p
  · split at p
    · rename_i c
      obtain ⟨n, hn, h⟩ := c
      exact ⟨S, g, n, _, _, W, hn, h, rx, ry, p.val W (.bl _)⟩
    · exact p.elim
  · exact p.elim
theorem op_eqFK (K : PySem.W.Frag) {X : Cx} (hu : X.A.units + 64 < cLine) (h : X.K = K := by rfl) : OpR X (compareOp .Eq) (rEqF K) := by subst h; exact op_eqF hu
theorem op_neFK (K : PySem.W.Frag) {X : Cx} (hu : X.A.units + 64 < cLine) (h : X.K = K := by rfl) : OpR X (compareOp .NotEq) (rNeF K) := by subst h; exact op_neF hu
/-! text keys of a display -/
theorem dConsS {X : Cx} {K : PySem.W.Frag} {E : XS} {pos : Pos} {x : Str} {j p1} {v : Expr} {ks' : List (Option Expr)} {vs : List Expr} {ks : List Key} {ea : AE} {ra : AA} (z : String) (hv : PE X v (LE K E ea)) (hr : DPs X K E pos ks' vs ks ra) (h : x = Str.ofString z := by rfl) :
    DPs X K E pos (some (.Constant (.str x) j p1) :: ks') (v :: vs) (.inr x :: ks) (mCons ea ra) := dCons (kk := .inr x) pe_str hv hr
/-! d.pop(k), tuples as keys -/
section
variable {K : PySem.W.Frag} {g : G}
theorem Rpt.drop {k : List T} {kk : List Key} (hk : KRs k kk) : ∀ {ps : List (T × T)} {kvs : List (List Key × V)}, Rpt K g ps kvs → Rpt K g (dropD (.tup k) ps) (dropK kvs kk)
  | _, _, .nil => .nil
  | _, _, .cons (ks := a) (x := x) (kk := ka) (v := v) (ps := ps) (kvs := kvs) h r rr => by
    have e0 : kEq (.tup a) (.tup k) = decide (ka = kk) := KRs.eq h hk
    have ih := Rpt.drop hk rr
    unfold dropD dropK at ih ⊢
    rw [List.filter_cons, List.filter_cons]
    by_cases c : ka = kk
    · rw [e0, decide_eq_true c, if_neg (by simp), if_neg (by simp [c])]; exact ih
    · rw [e0, decide_eq_false c, if_pos (by rfl), if_pos (by simp [c])]; exact .cons h r ih
end
def rPopT1 : V → List V → Hp → VK → Prop := fun x xs H Q => ∃ (a : Addr) (kvs : List (List L2.Key × V)) (k : List L2.Key) (b : Addr) (v : V), x = .ref a ∧ xs = [.ref b] ∧ H a = some (.dT kvs) ∧ H b = some (.tup (k.map kV)) ∧ valV kvs k = some v ∧ Q v (upd H a (.dT (dropK kvs k)))
theorem mt_popT1 {X : Cx} (hu : X.A.units + 1 < cLine) : MtR X "dict.pop" rPopT1 := by
  intro pins s σ H x xs v us Q I rx rxs h
  obtain ⟨a, kvs, k, b, v0, rfl, rfl, ha, hb, ev, q⟩ := h
  cases rx
  obtain ⟨u1, rfl, r1⟩ := vals1 rxs
  cases r1
  obtain ⟨z, hd, xs', rel, dd⟩ := dt_of I.hok ha
  have hz : xs'.length ≤ sizeLine := by rw [← Paired.length rel]; exact z
  have r := rel.val k
  rw [ev] at r
  obtain ⟨z1, hz1, rz⟩ := RelO.some_of r
  obtain ⟨p, hp, rfl⟩ := Option.map_eq_some_iff.mp hz1
  refine call_pop_heap (knd := tupleKind (mixKind X.prog X.w)) (.inl rfl) (PySem.F.args_dict_pop_2 _ _) (tupleKind_room_in1 hu) (key_of I.hok hb) hd dd hp (fun h' dd' hs => ?_) hz
  obtain ⟨o, es, ep, hq, h2, h3, h4, _, h5⟩ := dd'
  have I2 : Inv X pins σ (upd H a (.dT (dropK kvs k))) { s with heap := h', toks := s.toks + (tupleKind (mixKind X.prog X.w)).draws k } :=
    d_write I (by rw [ha]; exact True.intro) hs ⟨o, hq⟩ ⟨Nat.le_trans (dropK_le kvs k) z, hd, _, (L2.DX.KT_drop k rel).keeps (fun c ys ec => (by rw [upd_ne (ne_of ec ha (fun z => nomatch z))]; exact ec)), o, es, ep, hq, h2, h3, h4, h5⟩
  exact ⟨v0, _, I2, rz, q⟩
def isH (S : Sto) : T → Bool
  | .ref n => match S[n]? with
    | some (.dct _ _) => true
    | _ => false
  | _ => false
def popTO (n : Nat) (k : T) (S : Sto) : Option O → R T
  | some (.dct true ps) => if keyOk true k = true then (match getT k ps with
    | some t => .ok t (S.set n (.dct true (dropD k ps)))
    | none => .bad) else .bad
  | _ => .bad
def opPopT : T → List T → Sto → R T
  | .ref n, [k], S => popTO n k S S[n]?
  | _, _, _ => .bad
def mMH (f : T → List T → Sto → R T) (o : AE) (a : AA) : AE := fun st S => (o st S).bind fun x S => if isH S x = true then (a st S).bind fun xs S => f x xs S else .bad
theorem isH_ty {K : PySem.W.Frag} {g : G} {S : Sto} {H : Hp} {x : T} {v : V} (W : Wd K S H g) (r : Rp K g x v) (h : isH S x = true) : tyV K "dict" v H := by
  unfold isH at h
  split at h
  · split at h
    · rename_i b ps q
      cases b with
      | false => obtain ⟨a, rfl, m, vs, h1, _⟩ := r.refH W q (fun z => nomatch z); exact .inr (.inr (.inl ⟨rfl, .inl ⟨vs, h1⟩⟩))
      | true => obtain ⟨a, rfl, m, vs, h1, _⟩ := r.refH W q (fun z => nomatch z); exact .inr (.inr (.inl ⟨rfl, .inr ⟨vs, h1⟩⟩))
    · cases h
  · cases h
theorem up_popT {K : PySem.W.Frag} : UpM K opPopT rPopT1 := by
  intro E S H g x xs v vs Q W rx rxs p
  unfold opPopT at p
  split at p
  · rename_i n k S
    obtain ⟨w, rfl, rk⟩ := rxs.one
    unfold popTO at p
    split at p
    · rename_i ps q
      split at p
      · rename_i hk
        split at p
        · rename_i t e
          obtain ⟨a, rfl, m, kvs, h1, r1⟩ := rx.refH W q (fun z => nomatch z)
          cases rk with
          | tup h0 hf h2 =>
            have hk' : keyb _ = true := hk
            obtain ⟨kk, k1, rfl⟩ := keys_kr (by unfold keyb at hk'; exact (Bool.and_eq_true_iff.mp hk').2) h2
            obtain ⟨vv, e1, e2⟩ := (r1.get k1).1 t e
            obtain ⟨w', x'⟩ := W.write (ho := .dT (dropK kvs kk)) (o' := .dct true (dropD (.tup _) ps)) q (fun z => nomatch z) m (fun z => nomatch z) ⟨_, upd_same, r1.drop k1⟩
            exact ⟨a, kvs, kk, _, vv, rfl, rfl, h1, tup_wd W (hf hk'), e1, p _ _ _ w' x' (e2.mono x'.le)⟩
          | _ => cases hk
        · exact p.elim
      · exact p.elim
    · exact p.elim
  · exact p.elim
section
variable {X : Cx} {K : PySem.W.Frag} {E : XS} {o i : Expr} {apos cpos : Pos} {eo ei : AE}
theorem aPopT (hu : X.A.units + 1 < cLine) (ho : PE X o (LE K E eo)) (hi : PE X i (LE K E ei)) (hK : X.K = K := by rfl)
    (hbase : attributeBase o "pop" X.env (eval o X.env) = eval o X.env := by rfl)
    (hfew : ((backTo cpos (starEach [i] X.env)).all (fun x => !x.1) && (backToKw cpos (keywordEach [] X.env)).all (fun x => x.1.isSome)
      && decide (([i] : List Expr).length + ([] : List Keyword).length + (if ([] : List Keyword).isEmpty then 0 else 1) < 30)) = true := by rfl)
    (hline : (apos.endLine == cpos.line) = true := by rfl) (hs : starEach [i] X.env = (false, eval i X.env) :: starEach [] X.env := by rfl) (hplain : (backTo cpos (starEach [] X.env)).any (·.1) = false := by rfl) :
    PE X (.Call (.Attribute o "pop" apos) [i] [] cpos) (LE K E (mMH opPopT eo (mCons ei mNil))) := by
  subst hK
  refine PE.weak (pe_bm PySem.F.plainAttrs_dict PySem.F.slot_dict_pop PySem.F.type_dict_pop (mt_popT1 hu) ho (aCons hi aNil hs) hbase hfew hline hs hplain) fun σ H Q ⟨st, S, g, w, sl, p⟩ => LE.bind (f := fun x st S => if isH S x = true then ((mCons ei mNil) st S).bind fun xs S => opPopT x xs S else .bad) w sl p fun x S1 v H1 g1 w1 sl1 x1 r1 p1 => ?_
  split at p1
  · rename_i c
    exact ⟨isH_ty w1 r1 c, LA.bind (f := fun xs _ S => opPopT x xs S) w1 sl1 p1 fun xs S2 vs H2 g2 w2 sl2 x2 r2 p2 => up_popT w2 (r1.mono x2.le) r2 p2⟩
  · exact p1.elim
end
end Ab

namespace Ab
open PySem PySem.Spec PyProof.Rows L2 Sp
theorem swD_true {kx vx : Expr} {gs : List Comprehension} {scope : Scope} {pos py : Pos} {y : Str} {l : Nat} {env : Env} (hk : env.scope.kind = .function) (hy : env.scope.names.lookup y = some .local) (hl : (py.line == pos.line) = true)
    (ha : (scope.names.any fun (n, k) => n == y && (k == .local || k == .cell)) = false) : swapsWith (.DictComp kx vx gs scope pos) (some (.Name y py)) l env = pure true := by
  have ky : env.kindOf y = some .local := hy
  have hb : env.blockKind = .function := by unfold Env.blockKind; rw [hk]; rfl
  unfold swapsWith
  simp only [hb, ky, ha, Expr.pos, hl]
  rfl
section
variable {a o e i : AE} {x : AS} {ra : AA} {st : Slots} {S : Sto} {n : Nat} {t k : T} {ts : List T} {ps qs : List (T × T)} {fz bb : Bool} {kts : List T} {c : String} {u : O} {f : T → List T → Sto → R T}
def itKK (x : T) (S : Sto) : R Itm := keysK S x
def keysO (S : Sto) : Option O → R Itm
  | some (.lck _ ps) => .ok ⟨ps.map (·.1), none⟩ S
  | _ => .bad
theorem e_itK : itK a st S = (a st S).bind itKK := rfl
theorem e_itKd : itKK (.dct bb ps) S = .ok ⟨ps.map (·.1), none⟩ S := rfl
theorem e_itKr : itKK (.ref n) S = keysO S S[n]? := by unfold itKK keysK; simp only; unfold keysO; rfl
theorem e_keysO : keysO S (some (.lck bb ps)) = .ok ⟨ps.map (·.1), none⟩ S := rfl
def dspK (fz : Bool) (kts : List T) (ts : List T) (S : Sto) : R T := mkD fz false (dispD kts ts) S
theorem e_Disp : mDisp fz kts ra st S = (ra st S).bind (dspK fz kts) := rfl
theorem e_dspK : dspK fz kts ts S = mkD fz false (dispD kts ts) S := rfl
theorem e_Lock : mLock a x st S = lkR x st S (a st S) := rfl
theorem e_lkSR : lkR x st S (.ok t S) = lkT x st S t := rfl
theorem e_lkTr : lkT x st S (.ref n) = lkO n x st S S[n]? := rfl
theorem e_lkTd : lkT x st S (.dct bb ps) = x st S := rfl
theorem e_lkO : lkO n x st S (some (.dct bb ps)) = unlk n (.dct bb ps) (x st (S.set n (.lck bb ps))) := rfl
theorem e_ulNx : unlk n u (.nx st S) = .nx st (S.set n u) := rfl
theorem e_ulRt : unlk n u (.rt t S) = .rt t (S.set n u) := rfl
theorem e_ulBr : unlk n u (.br st S) = .br st (S.set n u) := rfl
theorem e_ulCt : unlk n u (.ct st S) = .ct st (S.set n u) := rfl
theorem e_LockE : mLockE a e st S = lkRE e st S (a st S) := rfl
theorem e_lkRE : lkRE e st S (.ok t S) = lkTE e st S t := rfl
theorem e_lkTEr : lkTE e st S (.ref n) = lkOE n e st S S[n]? := rfl
theorem e_lkTEd : lkTE e st S (.dct bb ps) = e st S := rfl
theorem e_lkOE : lkOE n e st S (some (.dct bb ps)) = unlkE n (.dct bb ps) (e st (S.set n (.lck bb ps))) := rfl
theorem e_uleO : unlkE n u (.ok t S) = .ok t (S.set n u) := rfl
def mhL (f : T → List T → Sto → R T) (x : T) (xs : List T) (S : Sto) : R T := f x xs S
def mhO (r : R T) : Option O → R T
  | some (.dct _ _) => r
  | _ => .bad
def mhK (f : T → List T → Sto → R T) (ra : AA) (st : Slots) (x : T) (S : Sto) : R T := if isH S x = true then (ra st S).bind (mhL f x) else .bad
theorem e_MH : mMH f o ra st S = (o st S).bind (mhK f ra st) := rfl
theorem e_mhKr : mhK f ra st (.ref n) S = mhO ((ra st S).bind (mhL f (.ref n))) S[n]? := by
  unfold mhK
  have e : isH S (.ref n) = (match S[n]? with
    | some (.dct _ _) => true
    | _ => false) := rfl
  rw [e]
  generalize (ra st S).bind (mhL f (.ref n)) = r
  generalize S[n]? = z
  cases z with
  | none => rfl
  | some u => cases u <;> rfl
theorem e_mhO {r : R T} : mhO r (some (.dct bb ps)) = r := rfl
theorem e_mhL : mhL f t ts S = f t ts S := rfl
theorem e_popT : opPopT (.ref n) [k] S = popTO n k S S[n]? := rfl
def popTG (n : Nat) (k : T) (ps : List (T × T)) (S : Sto) : Option T → R T
  | some t => .ok t (S.set n (.dct true (dropD k ps)))
  | none => .bad
theorem e_popTO : popTO n k S (some (.dct true ps)) = if keyOk true k = true then popTG n k ps S (getT k ps) else .bad := by
  unfold popTO popTG
  rfl
theorem e_popTG : popTG n k ps S (some t) = .ok t (S.set n (.dct true (dropD k ps))) := rfl
theorem e_neF {m : Nat} (hm : m ≤ 50) (h : TEqN (m + 1) (.dct false ps) (.dct false qs)) : opNeF (.dct false ps) (.dct false qs) S = .ok (.bl false) S := if_pos ⟨m, hm, h⟩
theorem e_eqF {m : Nat} (hm : m ≤ 50) (h : TEqN (m + 1) (.dct false ps) (.dct false qs)) : opEqF (.dct false ps) (.dct false qs) S = .ok (.bl true) S := if_pos ⟨m, hm, h⟩
end
end Ab

namespace Ab
open PySem PySem.Spec PyProof.Rows L2 Sp
/-! ## sorted of tuples: a text at the head, ints behind it -/
abbrev TK := Str × List Int
def ltTI (p q : TK) : Bool := if p.1 = q.1 then decide (p.2 < q.2) else decide (p.1.cps.toList < q.1.cps.toList)
theorem cps_inj {a b : Str} (h : a.cps.toList = b.cps.toList) : a = b := by
  cases a; cases b
  simp only [Str.mk.injEq]
  exact Array.toList_inj.mp h
theorem tiSwo : SrtO.Swo ltTI := by
  constructor
  · rintro ⟨a, i⟩ ⟨b, j⟩ h
    unfold ltTI at *
    by_cases c : a = b
    · rw [if_pos c] at h
      rw [if_pos c.symm]
      have := of_decide_eq_true h
      exact decide_eq_false (List.lt_asymm this)
    · rw [if_neg c] at h
      rw [if_neg (Ne.symm c)]
      have := of_decide_eq_true h
      exact decide_eq_false (List.lt_asymm this)
  · rintro ⟨a, i⟩ ⟨b, j⟩ ⟨c, k⟩ h1 h2
    unfold ltTI at *
    simp only at *
    by_cases e1 : b = a
    · rw [if_pos e1] at h1
      by_cases e2 : c = b
      · rw [if_pos e2] at h2
        rw [if_pos (e2.trans e1)]
        have a1 := of_decide_eq_false h1
        have a2 := of_decide_eq_false h2
        exact decide_eq_false (List.not_lt.mpr (List.le_trans (List.not_lt.mp a1) (List.not_lt.mp a2)))
      · rw [if_neg e2] at h2
        subst e1
        rw [if_neg e2]
        exact h2
    · rw [if_neg e1] at h1
      by_cases e2 : c = b
      · subst e2
        rw [if_neg e1]
        exact h1
      · rw [if_neg e2] at h2
        have a1 := of_decide_eq_false h1
        have a2 := of_decide_eq_false h2
        have a3 := List.le_trans (List.not_lt.mp a1) (List.not_lt.mp a2)
        by_cases e3 : c = a
        · subst e3
          exact (e1 (cps_inj (List.le_antisymm (List.not_lt.mp a2) (List.not_lt.mp a1)))).elim
        · rw [if_neg e3]
          exact decide_eq_false (List.not_lt.mpr a3)
theorem tiTot {p q : TK} (h1 : ltTI p q = false) (h2 : ltTI q p = false) : p = q := by
  obtain ⟨a, i⟩ := p
  obtain ⟨b, j⟩ := q
  unfold ltTI at *
  simp only at *
  by_cases c : a = b
  · subst c
    rw [if_pos rfl] at h1 h2
    have a1 := of_decide_eq_false h1
    have a2 := of_decide_eq_false h2
    rw [List.le_antisymm (List.not_lt.mp a2) (List.not_lt.mp a1)]
  · rw [if_neg c] at h1
    rw [if_neg (Ne.symm c)] at h2
    have a1 := of_decide_eq_false h1
    have a2 := of_decide_eq_false h2
    exact (c (cps_inj (List.le_antisymm (List.not_lt.mp a2) (List.not_lt.mp a1)))).elim
theorem srt_uniq {κ : Type} {lt : κ → κ → Bool} (tot : ∀ x y, lt x y = false → lt y x = false → x = y) : ∀ {l m : List κ}, l.Perm m → SrtO.Srtd lt l → SrtO.Srtd lt m → l = m
  | [], _, p, _, _ => (List.nil_perm.mp p).symm
  | a :: l, [], p, _, _ => (List.cons_ne_nil _ _ (List.perm_nil.mp p)).elim
  | a :: l, b :: m, p, h1, h2 => by
    obtain ⟨q1, q2⟩ := List.pairwise_cons.mp h1
    obtain ⟨q3, q4⟩ := List.pairwise_cons.mp h2
    have e : a = b := by
      rcases List.mem_cons.mp (p.mem_iff.mp List.mem_cons_self) with e | e
      · exact e
      · rcases List.mem_cons.mp (p.mem_iff.mpr (List.mem_cons_self (a := b) (l := m))) with e' | e'
        · exact e'.symm
        · exact tot _ _ (q3 a e) (q1 b e')
    subst e
    rw [srt_uniq tot ((List.perm_cons a).mp p) q2 q4]
section
variable {prog : Program} {w : World} {A : Around} {s : Shared}
def IsTI (h : Heap) (v : Value) (k : TK) : Prop := ∃ (a : Addr) (o : Obj) (t : Tok) (r : List Value) (n : Nat), v = .ref a ∧ h.get? a = some o ∧ o.cls = .type "tuple" ∧ o.data = .seq (Value.str k.1 t :: r).toArray n ∧ IntsAre r k.2
theorem lex_ti {Q : Bool → Shared → Prop} {b : Bool} : ∀ {xs ys : List Value} {ns ms : List Int} (i : Nat), IntsAre xs ns → IntsAre ys ms → Q (decide (ns < ms)) s → PySem.W.KatLex prog w A b (decide (ns.length < ms.length)) Q (xs.zip ys) i s
  | _, _, _, _, i, .nil, .nil, h => PySem.W.kat_nil (by rw [show decide (([] : List Int).length < ([] : List Int).length) = decide (([] : List Int) < []) from by decide]; exact h)
  | _, _, _, _, i, .nil, .cons _ _ _, h => PySem.W.kat_nil (by
      rw [decide_eq_true (by simp)]
      rw [decide_eq_true (List.nil_lt_cons _ _)] at h
      exact h)
  | _, _, _, _, i, .cons _ _ _, .nil, h => PySem.W.kat_nil (by
      rw [decide_eq_false (by simp)]
      rw [decide_eq_false (List.not_lt_nil _)] at h
      exact h)
  | _, _, _, _, i, .cons (ns := ns) n t r, .cons (ns := ms) m u r', h => by
    refine PySem.W.kat_cons (SeqAt.EqAt.int_int n t m u prog w _ _ ?_)
    by_cases e : n = m
    · subst e
      rw [show (n == n) = true from beq_self_eq_true n]
      refine PySem.W.kat_yes ?_
      have hl : decide ((n :: ns).length < (n :: ms).length) = decide (ns.length < ms.length) := by simp
      rw [hl]
      refine lex_ti (i + 1) r r' ?_
      have : decide (n :: ns < n :: ms) = decide (ns < ms) := by simp [List.cons_lt_cons_iff]
      rw [this] at h
      exact h
    · rw [beq_false_of_ne e]
      refine PySem.W.kat_no (TS.oneLt_ints _ ?_)
      have : decide (n :: ns < m :: ms) = decide (n < m) := by simp [List.cons_lt_cons_iff, e]
      rw [this] at h
      exact h
theorem ti_cmp {vs : List Value} {k : Value → TK} (hp : ∀ v ∈ vs, IsTI s.heap v (k v)) : SrtO.Cmp prog w A s (tuples' true) (fun p => p.1 ∈ vs) (SrtO.lt2 fun v u => ltTI (k v) (k u)) := by
  intro p q hm hm'
  have h1 := hp _ hm
  have h2 := hp _ hm'
  show wpAny (model prog w) A (keyLt' (tuples' true) p.1 q.1) (fun r s' => s' = s ∧ r = ltTI (k p.1) (k q.1)) (fun _ _ => False) s
  generalize k p.1 = x at h1 ⊢
  generalize k q.1 = y at h2 ⊢
  obtain ⟨a, i⟩ := x
  obtain ⟨b, j⟩ := y
  obtain ⟨a1, o, t, r, n, ea, ho, hc, hd, hi⟩ := h1
  obtain ⟨a2, o', t', r', n', ea', ho', hc', hd', hi'⟩ := h2
  rw [ea, ea']
  refine PySem.W.kat_lt ho hd ho' hd' ?_
  have sz : decide ((Value.str a t :: r).toArray.size < (Value.str b t' :: r').toArray.size) = decide (i.length < j.length) := by
    have e1 := hi.length
    have e2 := hi'.length
    simp [e1, e2]
  rw [sz]
  show PySem.W.KatLex prog w A true _ _ ((.str a t, .str b t') :: r.zip r') 0 s
  refine PySem.W.kat_cons (SeqAt.EqAt.str_str a t b t' prog w _ _ ?_)
  unfold ltTI
  simp only
  by_cases e : a = b
  · subst e
    rw [if_pos rfl, show (a == a) = true from beq_self_eq_true a]
    exact PySem.W.kat_yes (lex_ti 1 hi hi' ⟨rfl, rfl⟩)
  · rw [if_neg e, beq_false_of_ne e]
    exact PySem.W.kat_no (oneLt_str ⟨rfl, rfl⟩)
theorem ti_firsts {h : Heap} : ∀ {vs : List Value}, (∀ v ∈ vs, ∃ x, IsTI h v x) → ∃ fs : List Value, PySem.W.KatTups h vs fs ∧ fs.length = vs.length ∧ ∀ f ∈ fs, ∃ x t, f = Value.str x t
  | [], _ => ⟨[], PySem.W.KatTups.nil, rfl, fun f hf => nomatch hf⟩
  | v :: vs, hp => by
    obtain ⟨fs, f1, f2, f3⟩ := ti_firsts (vs := vs) fun u hu => hp u (List.mem_cons_of_mem _ hu)
    obtain ⟨x, a, o, t, r, n, rfl, ho, hc, hd, _⟩ := hp v List.mem_cons_self
    refine ⟨.str x.1 t :: fs, PySem.W.KatTups.cons ho hc hd rfl f1, by simp [f2], fun f hf => ?_⟩
    rcases List.mem_cons.mp hf with rfl | hf
    · exact ⟨x.1, t, rfl⟩
    · exact f3 f hf
theorem swo_by {α β : Type} {lt : β → β → Bool} (O : SrtO.Swo lt) (k : α → β) : SrtO.Swo fun v u => lt (k v) (k u) := ⟨fun x y h => O.asym _ _ h, fun x y z h1 h2 => O.tr _ _ _ h1 h2⟩
theorem ti_sorted {E : Value → Shared → Prop} {l : Addr} {vs : List Value} {k : Value → TK} {Q : Value → Shared → Prop} (hl : s.heap.IsList l vs.toArray) (hz : vs.length ≤ sizeLine) (hp : ∀ v ∈ vs, IsTI s.heap v (k v))
    (h : ∀ (h' : Heap) (d : Addr) (out : List Value), SrtO.Srtd (fun v u => ltTI (k v) (k u)) out → out.Perm vs → (∀ b o, s.heap.get? b = some o → h'.get? b = some o) → s.heap.objs.size ≤ d → (∃ n, h'.get? d = some (seqObj "list" out.toArray n)) → Q (.ref d) { s with heap := h' }) :
    wpAny (model prog w) A (call (.builtin "sorted") [.ref l]) Q E s := by
  refine SrtO.sorted_ord (swo_by tiSwo k) hl hz (fun h2 h₁ a ha kk => ?_) fun out hs hb => ?_
  · intro h' keep
    have hp' : ∀ v ∈ vs, IsTI h' v (k v) := fun v hm => by
      obtain ⟨b, o, t, r, n, e, ho, hc, hd, hi⟩ := hp v hm
      have h3 := (kk b o ho).2
      refine ⟨b, o, t, r, n, e, keep b o (fun z => ?_) h3, hc, hd, hi⟩
      subst z
      rw [h3] at ha
      cases ha
      exact absurd (Value.type.inj hc) (by decide)
    obtain ⟨fs, f1, f2, f3⟩ := ti_firsts fun v hm => ⟨_, hp' v hm⟩
    refine ⟨tuples' true, fun Q E hq => ?_, ti_cmp hp'⟩
    refine PySem.W.kat_kind (T := .type "str") f1 (by omega) (fun f hm => ?_) (by rfl) ?_
    · obtain ⟨x, t, rfl⟩ := f3 f hm
      exact PySem.W.Looks.now
    · rw [show (Value.type "str" != Value.type "tuple") = true from by decide +kernel]
      exact hq
  · exact h _ _ out hs hb.perm (fun b o e => PyProof.Rows.sortedAll_old e) (Nat.le_succ _) (PyProof.Rows.sortedAll_at s.heap vs out.toArray)
end
def rSortedTI (K : PySem.W.Frag) : List V → Hp → VK → Prop := fun vs H Q => ∃ (a : Addr) (xs : List V) (k : V → TK), vs = [V.ref a] ∧ SqL K H a xs ∧ (∀ x ∈ xs, ∃ t, x = V.ref t ∧ H t = some (.tup (.str (k x).1 :: (k x).2.map V.int))) ∧
  ∀ ys p, SrtO.Srtd (fun v u => ltTI (k v) (k u)) ys → ys.Perm xs → H p = none → Q (.ref p) (upd H p (.lst ys))
theorem vals_ints : ∀ {l : List Int} {us : List Value}, Vals (l.map V.int) us → IntsAre us l
  | [], _, .nil => .nil
  | _ :: _, _, .cons h r => by
    obtain ⟨t, rfl⟩ := h
    exact .cons _ _ (vals_ints r)
theorem cr_sortedTIK {X : Cx} (K : PySem.W.Frag) (hK : X.K = K := by rfl) : CallR X (.builtin "sorted") (rSortedTI K) := by
  subst hK
  intro pins s σ H vs us Q I r h
  obtain ⟨a, xs, k, rfl, hs, hx, q⟩ := h
  obtain ⟨its, rv, hl, hz⟩ := I.list hs
  obtain ⟨u, rfl, ru⟩ := vals1 r
  cases (show u = Value.ref a from ru)
  obtain ⟨e1, e2⟩ := refs_back rv fun x m => let ⟨t, e, _⟩ := hx x m; ⟨t, e⟩
  have mem : ∀ v ∈ its, backV v ∈ xs := fun v hv => by rw [e1]; exact List.mem_map.mpr ⟨v, hv, rfl⟩
  refine ti_sorted (k := fun u => k (backV u)) hl.isList (by rw [← rv.length]; exact hz) (fun v hv => ?_) fun h' d out h1 h2 kp hd hn => ?_
  · obtain ⟨t, rfl⟩ := e2 v hv
    obtain ⟨t', e, ht⟩ := hx _ (mem _ hv)
    cases e
    obtain ⟨_, its2, r2, o, ho, hc, n, hd⟩ := I.hok _ _ ht
    cases r2 with
    | cons ri rr =>
      obtain ⟨t1, rfl⟩ := ri
      exact ⟨t, o, t1, _, n, rfl, ho, hc, hd, vals_ints rr⟩
  · have h3 : ∀ u ∈ out, ∃ a, u = Value.ref a := fun u hu => e2 u (h2.mem_iff.mp hu)
    obtain ⟨n, hn⟩ := hn
    have hb : (out.map backV).Perm xs := by rw [e1]; exact h2.map _
    refine ⟨.ref d, upd H d (.lst (out.map backV)), I.laid (t' := s.toks) kp hd ⟨?_, out, n, vals_back h3, hn⟩, rfl, q _ d (SrtO.srtd_map h1) hb (I.hok.fresh hd)⟩
    rw [hb.length_eq]
    exact hz
end Ab

namespace Ab
open PySem PySem.Spec PyProof.Rows L2 Sp
abbrev SK := String × List Int
def skT (k : SK) : T := .tup (.str k.1 :: k.2.map T.int)
def skE (k : SK) : TK := (Str.ofString k.1, k.2)
def skOf : T → Option SK
  | .tup (.str s :: r) => (intsOf r).map fun is => (s, is)
  | _ => none
def sksOf : List T → Option (List SK)
  | [] => some []
  | t :: ts => match skOf t, sksOf ts with
    | some k, some ks => some (k :: ks)
    | _, _ => none
def insTI (p : SK) : List SK → List SK
  | [] => [p]
  | q :: qs => if ltTI (skE q) (skE p) = false then p :: q :: qs else q :: insTI p qs
def sortTI : List SK → List SK
  | [] => []
  | p :: ps => insTI p (sortTI ps)
theorem insTI_perm (p : SK) : ∀ l, (insTI p l).Perm (p :: l)
  | [] => .refl _
  | q :: qs => by
    unfold insTI
    split
    · exact .refl _
    · exact ((insTI_perm p qs).cons q).trans (.swap p q qs)
theorem sortTI_perm : ∀ l, (sortTI l).Perm l
  | [] => .refl _
  | p :: ps => (insTI_perm p (sortTI ps)).trans ((sortTI_perm ps).cons p)
theorem insTI_asc (p : SK) : ∀ l : List SK, SrtO.Srtd ltTI (l.map skE) → SrtO.Srtd ltTI ((insTI p l).map skE)
  | [], _ => List.pairwise_singleton _ _
  | q :: qs, h => by
    unfold insTI
    rw [List.map_cons] at h
    obtain ⟨h1, h2⟩ := List.pairwise_cons.mp h
    split
    · rename_i c
      rw [List.map_cons, List.map_cons]
      refine List.pairwise_cons.mpr ⟨fun x hx => ?_, h⟩
      rcases List.mem_cons.mp hx with e | hx
      · rw [e]; exact c
      · exact tiSwo.tr _ _ _ c (h1 x hx)
    · rename_i c
      rw [List.map_cons]
      refine List.pairwise_cons.mpr ⟨fun x hx => ?_, insTI_asc p qs h2⟩
      rcases List.mem_cons.mp (((insTI_perm p qs).map skE).mem_iff.mp hx) with e | hx
      · rw [e]
        exact tiSwo.asym _ _ (by simpa using c)
      · exact h1 x hx
theorem sortTI_asc : ∀ l, SrtO.Srtd ltTI ((sortTI l).map skE)
  | [] => List.Pairwise.nil
  | p :: ps => insTI_asc p _ (sortTI_asc ps)
theorem skE_inj {a b : SK} (h : skE a = skE b) : a = b := by
  obtain ⟨a1, a2⟩ := a
  obtain ⟨b1, b2⟩ := b
  unfold skE at h
  have h1 := congrArg Prod.fst h
  have h2 := congrArg Prod.snd h
  simp only at h1 h2
  rw [ofString_iff] at h1
  rw [h1, h2]
def opSortTI (fz : Bool) : List T → Sto → R T
  | [x], S => match (lkL S x).bind sksOf with
    | some l => if l.all (fun k => keyb (.str k.1 :: k.2.map T.int)) = true then mkL fz ((sortTI l).map skT) S else .bad
    | none => .bad
  | _, _ => .bad
theorem intsOf_eq : ∀ {r : List T} {is : List Int}, intsOf r = some is → r = is.map T.int
  | [], is, h => by cases h; rfl
  | t :: r, is, h => by
    cases t <;> simp [intsOf] at h
    obtain ⟨m, hm, rfl⟩ := h
    rw [intsOf_eq hm]; rfl
theorem skOf_eq {t : T} {k : SK} (h : skOf t = some k) : t = skT k := by
  unfold skOf at h
  split at h
  · obtain ⟨is, hi, rfl⟩ := Option.map_eq_some_iff.mp h
    rw [intsOf_eq hi]; rfl
  · cases h
theorem sksOf_eq : ∀ {ts : List T} {l : List SK}, sksOf ts = some l → ts = l.map skT
  | [], l, h => by cases h; rfl
  | t :: ts, l, h => by
    unfold sksOf at h
    split at h
    · rename_i k ks h1 h2
      cases h
      rw [List.map_cons, ← skOf_eq h1, ← sksOf_eq h2]
    · cases h
section
variable {K : PySem.W.Frag}
def vI : V → Int
  | .int i => i
  | _ => 0
def skAt (H : Hp) (v : V) : TK := match v with
  | .ref t => (match H t with
    | some (.tup (.str s :: r)) => (s, r.map vI)
    | _ => (Str.ofString "", []))
  | _ => (Str.ofString "", [])
theorem ints_rp {g : G} : ∀ {is : List Int} {vs : List V}, Rps K g (is.map T.int) vs → vs = is.map V.int
  | [], _, .nil => rfl
  | _ :: _, _, .cons (.int _) r => by rw [ints_rp r]; rfl
theorem sk_rp {S : Sto} {H : Hp} {g : G} (W : Wd K S H g) {k : SK} {v : V} (hk : keyb (.str k.1 :: k.2.map T.int) = true) (r : Rp K g (skT k) v) : ∃ t, v = .ref t ∧ H t = some (.tup (.str (Str.ofString k.1) :: k.2.map V.int)) ∧ skAt H v = skE k := by
  unfold skT at r
  cases r with
  | @tup _ ad _ a b c =>
    have e3 := W.sub _ _ (b hk)
    cases c with
    | cons c1 c2 =>
      cases c1
      rw [ints_rp c2] at e3
      refine ⟨ad, rfl, e3, ?_⟩
      unfold skAt
      simp only [e3]
      unfold skE
      rw [List.map_map]
      congr 1
      conv => rhs; rw [← List.map_id k.2]
      exact List.map_congr_left fun _ _ => rfl
theorem sks_rp {S : Sto} {H : Hp} {g : G} (W : Wd K S H g) : ∀ {l : List SK} {vs : List V}, l.all (fun k => keyb (.str k.1 :: k.2.map T.int)) = true → Rps K g (l.map skT) vs → l.map skE = vs.map (skAt H) ∧ ∀ v ∈ vs, ∃ k ∈ l, Rp K g (skT k) v ∧ ∃ t, v = .ref t ∧ H t = some (.tup (.str (Str.ofString k.1) :: k.2.map V.int)) ∧ skAt H v = skE k
  | [], _, _, .nil => ⟨rfl, fun v h => nomatch h⟩
  | k :: l, _, hk, .cons r rr => by
    rw [List.all_cons, Bool.and_eq_true] at hk
    obtain ⟨h1, h2⟩ := sks_rp W hk.2 rr
    obtain ⟨t, e1, e2, e3⟩ := sk_rp W hk.1 r
    refine ⟨by rw [List.map_cons, List.map_cons, h1, e3], fun v hv => ?_⟩
    rcases List.mem_cons.mp hv with e | hv
    · subst e; exact ⟨k, List.mem_cons_self, r, t, e1, e2, e3⟩
    · obtain ⟨k', hm, q⟩ := h2 v hv
      exact ⟨k', List.mem_cons_of_mem _ hm, q⟩
theorem sks_back {g : G} {H : Hp} : ∀ {A : List SK} {ys : List V}, A.map skE = ys.map (skAt H) → (∀ y ∈ ys, ∃ k : SK, Rp K g (skT k) y ∧ skAt H y = skE k) → Rps K g (A.map skT) ys
  | [], [], _, _ => .nil
  | [], _ :: _, e, _ => by cases e
  | _ :: _, [], e, _ => by cases e
  | a :: A, y :: ys, e, hy => by
    rw [List.map_cons, List.map_cons] at e
    injection e with e1 e2
    obtain ⟨k, r, ek⟩ := hy y List.mem_cons_self
    have : a = k := skE_inj (e1.trans ek)
    subst this
    exact .cons r (sks_back e2 fun z hz => hy z (List.mem_cons_of_mem _ hz))
theorem up_sortTI (fz : Bool) : UpN K (opSortTI fz) (rSortedTI K) := by
  intro E S H g xs vs Q W rx p
  unfold opSortTI at p
  split at p
  · obtain ⟨v, rfl, r⟩ := rx.one
    split at p
    · rename_i l e
      split at p
      · rename_i hk
        obtain ⟨ts, e1, e2⟩ := Option.bind_eq_some_iff.mp e
        obtain ⟨a, ws, rfl, h, r1⟩ := lkL_rp W e1 r
        rw [sksOf_eq e2] at r1
        obtain ⟨h1, h2⟩ := sks_rp W hk r1
        refine ⟨a, ws, skAt H, rfl, h, fun x hx => ?_, fun ys q srt pm hq => ?_⟩
        · obtain ⟨k, _, _, t, rfl, e, hd⟩ := h2 x hx
          exact ⟨t, rfl, by rw [hd]; exact e⟩
        · have e3 : (sortTI l).map skE = ys.map (skAt H) := srt_uniq (fun x y a b => tiTot a b) (((sortTI_perm l).map _).trans (by rw [h1]; exact (pm.map _).symm)) (sortTI_asc l) (List.pairwise_map.mpr srt)
          exact Post.newLst p W (sks_back e3 fun y hy => let ⟨k, _, r, _, _, _, ek⟩ := h2 y (pm.mem_iff.mp hy); ⟨k, r, ek⟩) q hq
      · exact p.elim
    · exact p.elim
  · exact p.elim
end
section
variable {fz : Bool} {S : Sto} {t : T}
def srtTK (fz : Bool) (S : Sto) (l : List SK) : R T := if l.all (fun k => keyb (.str k.1 :: k.2.map T.int)) = true then mkL fz ((sortTI l).map skT) S else .bad
theorem e_sortTI : opSortTI fz [t] S = pget ((lkL S t).bind sksOf) (srtTK fz S) := by simp only [opSortTI]; cases (lkL S t).bind sksOf <;> rfl
theorem e_srtTK {l : List SK} : srtTK fz S l = if l.all (fun k => keyb (.str k.1 :: k.2.map T.int)) = true then mkL fz ((sortTI l).map skT) S else .bad := rfl
end
end Ab

namespace Ab
open PySem PySem.Spec PyProof.Rows L2 Sp
/-! ## d.setdefault(k, x), ints, texts or tuples as keys -/
def rSetdA : V → List V → Hp → VK → Prop := fun x xs H Q =>
  (∃ (a : Addr) (kvs : List (Key × V)) (k : Key) (d : V), x = .ref a ∧ xs = [kV k, d] ∧ H a = some (.dK kvs) ∧ kvs.length < sizeLine ∧ (∀ v, valV kvs k = some v → Q v H) ∧ (valV kvs k = none → Q d (upd H a (.dK (putK kvs k d))))) ∨
  (∃ (a : Addr) (kvs : List (List Key × V)) (k : List Key) (b : Addr) (d : V), x = .ref a ∧ xs = [.ref b, d] ∧ H a = some (.dT kvs) ∧ H b = some (.tup (k.map kV)) ∧ kvs.length < sizeLine ∧ (∀ v, valV kvs k = some v → Q v H) ∧ (valV kvs k = none → Q d (upd H a (.dT (putK kvs k d)))))
theorem mt_setd {X : Cx} (hu : X.A.units + 1 < cLine) : MtR X "dict.setdefault" rSetdA := by
  intro pins s σ H x xs v us Q I rx rxs h
  rcases h with ⟨a, kvs, k, d, rfl, rfl, ha, hl, q1, q2⟩ | ⟨a, kvs, k, b, d, rfl, rfl, ha, hb, hl, q1, q2⟩
  · cases rx
    obtain ⟨u1, u2, rfl, r1, r2⟩ := vals2 rxs
    refine d_setd I ha r1 r2 hl (fun v hv w' s' I' r => ⟨v, H, I', r, q1 v hv⟩) fun hn w' s' I' r => ⟨d, _, I', r, q2 hn⟩
  · cases rx
    obtain ⟨u1, u2, rfl, r1, r2⟩ := vals2 rxs
    cases r1
    obtain ⟨z, hd, xs', rel, dd⟩ := dt_of I.hok ha
    have hz : xs'.length ≤ sizeLine := by rw [← Paired.length rel]; exact z
    have hl2 : (putK kvs k d).length ≤ sizeLine := by have := length_putK kvs k d; omega
    refine call_setdefault_heap (hsz := hz) (knd := tupleKind (mixKind X.prog X.w)) (tupleKind_room_in1 hu) (key_of I.hok hb) hd dd (fun p hp => ?_) fun hn h' dd' hs => ?_
    · have r := rel.val k
      rw [hp] at r
      obtain ⟨v0, ev, rv⟩ : ∃ v0, valV kvs k = some v0 ∧ RelV v0 p.2 := by
        cases ev : valV kvs k with
        | none =>
          rw [ev] at r
          exact (show False from r).elim
        | some v0 =>
          rw [ev] at r
          exact ⟨v0, rfl, r⟩
      exact ⟨v0, H, I.tok _, rv, q1 v0 ev⟩
    · have r := rel.val k
      rw [hn] at r
      have e : valV kvs k = none := by
        cases ev : valV kvs k with
        | none => rfl
        | some v0 =>
          rw [ev] at r
          exact (show False from r).elim
      obtain ⟨q, es, ep, hq, h2, h3, h4, _, h5⟩ := dd'
      have I2 : Inv X pins σ (upd H a (.dT (putK kvs k d))) { s with heap := h', toks := s.toks + (tupleKind (mixKind X.prog X.w)).draws k } :=
        d_write I (by rw [ha]; exact True.intro) hs ⟨q, hq⟩ ⟨hl2, hd, _, (rel.put k hb r2).keeps (fun c ys ec => by rw [upd_ne (ne_of ec ha (fun z => nomatch z))]; exact ec), q, es, ep, hq, h2, h3, h4, h5⟩
      exact ⟨d, _, I2, r2, q2 e⟩
def setdG (n : Nat) (b : Bool) (k t : T) (ps : List (T × T)) (S : Sto) : Option T → R T
  | some u => .ok u S
  | none => .ok t (S.set n (.dct b (putD k t ps)))
def setdO (n : Nat) (k t : T) (S : Sto) : Option O → R T
  | some (.dct b ps) => if keyOk b k = true ∧ ps.length < sizeLine then setdG n b k t ps S (getT k ps) else .bad
  | _ => .bad
def opSetd : T → List T → Sto → R T
  | .ref n, [k, t], S => setdO n k t S S[n]?
  | _, _, _ => .bad
theorem up_setd {K : PySem.W.Frag} : UpM K opSetd rSetdA := by
  intro E S H g x xs v vs Q W rx rxs p
  unfold opSetd at p
  split at p
  · rename_i n k t
    obtain ⟨w1, w2, rfl, rk, rt⟩ := rxs.two
    unfold setdO at p
    split at p
    · rename_i b ps q
      split at p
      · rename_i c
        cases b with
        | false =>
          obtain ⟨a, rfl, m, kvs, h1, r1⟩ := rx.refH W q (fun z => nomatch z)
          obtain ⟨kk, h2, rfl⟩ := isKey_kr c.1 rk
          refine .inl ⟨a, kvs, kk, w2, rfl, rfl, h1, by rw [← r1.length]; exact c.2, fun v hv => ?_, fun hn => ?_⟩
          · cases e : getT k ps with
            | none => rw [(r1.get h2).2 e] at hv; cases hv
            | some u =>
              obtain ⟨vv, e1, e2⟩ := (r1.get h2).1 u e
              rw [e1] at hv
              cases hv
              rw [e] at p
              exact p.val W e2
          · cases e : getT k ps with
            | some u =>
              obtain ⟨vv, e1, e2⟩ := (r1.get h2).1 u e
              rw [e1] at hn; cases hn
            | none =>
              rw [e] at p
              obtain ⟨w', x'⟩ := W.write (ho := .dK (putK kvs kk w2)) (o' := .dct false (putD k t ps)) q (fun z => nomatch z) m (fun z => nomatch z) ⟨_, upd_same, r1.put h2 rt⟩
              exact p _ _ _ w' x' (rt.mono x'.le)
        | true =>
          obtain ⟨a, rfl, m, kvs, h1, r1⟩ := rx.refH W q (fun z => nomatch z)
          cases rk with
          | tup h0 hf h2 =>
            have hk' : keyb _ = true := c.1
            obtain ⟨kk, k1, rfl⟩ := keys_kr (by unfold keyb at hk'; exact (Bool.and_eq_true_iff.mp hk').2) h2
            refine .inr ⟨a, kvs, kk, _, w2, rfl, rfl, h1, tup_wd W (hf hk'), by rw [← r1.length]; exact c.2, fun v hv => ?_, fun hn => ?_⟩
            · cases e : getT (.tup _) ps with
              | none => rw [(r1.get k1).2 e] at hv; cases hv
              | some u =>
                obtain ⟨vv, e1, e2⟩ := (r1.get k1).1 u e
                rw [e1] at hv
                cases hv
                rw [e] at p
                exact p.val W e2
            · cases e : getT (.tup _) ps with
              | some u =>
                obtain ⟨vv, e1, e2⟩ := (r1.get k1).1 u e
                rw [e1] at hn; cases hn
              | none =>
                rw [e] at p
                obtain ⟨w', x'⟩ := W.write (ho := .dT (putK kvs kk w2)) (o' := .dct true (putD (.tup _) t ps)) q (fun z => nomatch z) m (fun z => nomatch z) ⟨_, upd_same, r1.put k1 rt⟩
                exact p _ _ _ w' x' (rt.mono x'.le)
          | _ => cases c.1
      · exact p.elim
    · exact p.elim
  · exact p.elim
section
variable {X : Cx} {K : PySem.W.Frag} {E : XS} {o i j : Expr} {apos cpos : Pos} {eo ei ej : AE}
theorem aSetd (hu : X.A.units + 1 < cLine) (ho : PE X o (LE K E eo)) (hi : PE X i (LE K E ei)) (hj : PE X j (LE K E ej)) (hK : X.K = K := by rfl)
    (hbase : attributeBase o "setdefault" X.env (eval o X.env) = eval o X.env := by rfl)
    (hfew : ((backTo cpos (starEach [i, j] X.env)).all (fun x => !x.1) && (backToKw cpos (keywordEach [] X.env)).all (fun x => x.1.isSome)
      && decide (([i, j] : List Expr).length + ([] : List Keyword).length + (if ([] : List Keyword).isEmpty then 0 else 1) < 30)) = true := by rfl)
    (hline : (apos.endLine == cpos.line) = true := by rfl) (hs : starEach [i, j] X.env = (false, eval i X.env) :: starEach [j] X.env := by rfl) (hs2 : starEach [j] X.env = (false, eval j X.env) :: starEach [] X.env := by rfl)
    (hplain : (backTo cpos (starEach [j] X.env)).any (·.1) = false := by rfl) :
    PE X (.Call (.Attribute o "setdefault" apos) [i, j] [] cpos) (LE K E (mMH opSetd eo (mCons ei (mCons ej mNil)))) := by
  subst hK
  refine PE.weak (pe_bm PySem.F.plainAttrs_dict PySem.F.slot_dict_setdefault PySem.F.type_dict_setdefault (mt_setd hu) ho (aCons hi (aCons hj aNil hs2) hs) hbase hfew hline hs hplain) fun σ H Q ⟨st, S, g, w, sl, p⟩ => LE.bind (f := fun x st S => if isH S x = true then ((mCons ei (mCons ej mNil)) st S).bind fun xs S => opSetd x xs S else .bad) w sl p fun x S1 v H1 g1 w1 sl1 x1 r1 p1 => ?_
  split at p1
  · rename_i c
    exact ⟨isH_ty w1 r1 c, LA.bind (f := fun xs _ S => opSetd x xs S) w1 sl1 p1 fun xs S2 vs H2 g2 w2 sl2 x2 r2 p2 => up_setd w2 (r1.mono x2.le) r2 p2⟩
  · exact p1.elim
end
end Ab

namespace Ab
open PySem PySem.Spec PyProof.Rows L2 Sp
/-! ## for k, v in d.items(), tuples as keys -/
section
variable {X : Cx} {pins : List (Addr × Obj)} {σ : L2.St} {H : Hp} {s : Shared} {d : Addr} {o : Obj}
theorem frzTv {kvs : List (List Key × V)} (I : Inv X pins σ H s) (h : H d = some (.frz o (.dT kvs))) :
    (d == sysModules) = false ∧ s.heap.get? d = some o ∧ o.ExactDict ∧ ∃ (es : Array DictEntry) (ep : Nat), o.data = .dict es ep ∧ es.size = kvs.length ∧
      ∀ (i : Nat) (k : List Key) (v : V), kvs[i]? = some (k, v) → ∃ (en : DictEntry) (q : Addr), es[i]? = some en ∧ en.key = .ref q ∧ H q = some (.tup (k.map kV)) ∧ RelV v en.val := by
  obtain ⟨hd, z, hs, xs, pr, o', es, ep, ho, hx, hdt, he, _⟩ := I.hok d _ h
  rw [hd] at ho
  cases ho
  refine ⟨hs, hd, hx, es, ep, hdt, ?_, fun i k v e => ?_⟩
  · have l1 : es.size = xs.length := size_of_entries he
    have l2 : kvs.length = xs.length := Paired.length pr
    omega
  · obtain ⟨b, hb, e1, e2, e3⟩ := paired_get pr e
    have q := entry_at he i
    rw [hb] at q
    exact ⟨_, b.2.1, q, rfl, e2, e3⟩
end
def Itit (d : Addr) (o : Obj) (kvs : List (List Key × V)) : It :=
  ⟨fun i H => H d = some (.frz o (.dT kvs)) ∧ i < kvs.length, fun i H x H' => ∃ (T : Addr) (k : List Key) (v : V) (q : Addr), kvs[i]? = some (k, v) ∧ x = .ref T ∧ H q = some (.tup (k.map kV)) ∧ H T = none ∧ H' = upd H T (.tup [.ref q, v]), fun i H => H d = some (.frz o (.dT kvs)) ∧ kvs.length ≤ i⟩
section
variable {P : Program} {w : World} {K : PySem.W.Frag} {tg : Expr} {d : Addr} {o : Obj} {es : Array DictEntry} {ep : Nat}
theorem turn_itemsT {kvs : List (List Key × V)} {elts : List Expr} {kk : Nat} {tpos : Pos} (it : Addr) (hod : o.data = .dict es ep) :
    Turn P w K (.Tuple elts kk tpos) (Itit d o kvs) [it] it (fun i h => ∃ ok ov, IsItemIter h it d i kvs.length ep ok ov) where
  mem := by simp
  obj := fun i h st b hb => by
    have e : b = it := by simpa using hb
    subst e
    obtain ⟨ok, ov, e⟩ := st
    exact ⟨_, e, fun v z => nomatch z⟩
  keep := fun i h h' st k => let ⟨ok, ov, e⟩ := st; ⟨ok, ov, k it (by simp) _ e⟩
  item := by
    intro X hP hw hK hc i pins s σ H E I hf st hg
    subst hP hw hK
    obtain ⟨hd, hi⟩ := hg
    obtain ⟨hs, hgd, hx, es', ep', hdt, hsz, ent⟩ := frzTv I hd
    obtain ⟨rfl, rfl⟩ := dict_ep hod hdt
    obtain ⟨⟨k, v⟩, hkv⟩ : ∃ p, kvs[i]? = some p := ⟨kvs[i], List.getElem?_eq_getElem hi⟩
    obtain ⟨en, q, hen, hkey, hq, rv⟩ := ent i k v hkv
    obtain ⟨ok, ov, he⟩ := st
    rw [← hsz] at he
    have hlt : it < s.heap.objs.size := Heap.lt_size he
    have hi' : i < es'.size := by omega
    have hen' : es'[i] = en := by rw [Array.getElem?_eq_getElem hi'] at hen; exact Option.some.inj hen
    refine DT.nextI he ⟨o, hgd, hx, hdt⟩ hi' fun h' ho hT hz hk => ?_
    rw [hen'] at ho hT
    refine ⟨_, rfl, wpAny_letOwnedTupleGo_items (s := { s with heap := h' }) ho fun h'' he' sb => ?_⟩
    have hT2 : h''.get? s.heap.objs.size = some { cls := .type "tuple", data := .seq #[en.key, en.val] } := (sb.2 _ (Nat.ne_of_gt hlt)).trans hT
    have new : ObjOk X.prog X.w (upd H s.heap.objs.size (.tup [.ref q, v])) h'' s.heap.objs.size (.tup [.ref q, v]) :=
      ⟨by show 2 ≤ sizeLine; decide, [en.key, en.val], .cons hkey (.cons rv .nil), ⟨_, hT2, rfl, _, rfl⟩⟩
    have I1 : Inv X pins σ (upd H s.heap.objs.size (.tup [.ref q, v])) { s with heap := h'' } :=
      I.turnedNew (t' := s.toks) (ch := [it]) (fun b ob hb e => (sb.2 b (by simpa using hb)).trans (hk b ob (by simpa using hb) e)) hf (Nat.le_refl _) new
    refine ⟨.ref s.heap.objs.size, _, I1, rfl, ⟨_, k, v, q, hkv, rfl, hq, I.hok.fresh (Nat.le_refl _), rfl⟩, ⟨en.key, en.val, ?_⟩, fun b hb => ?_⟩
    · rw [← hsz]; exact he'
    · have e : b = it := by simpa using hb
      rw [e, upd_ne (Nat.ne_of_lt hlt)]
      exact (hf it (by simp)).1
  done := by
    intro X hP hw hK hc i pins s σ H E I hf st hg
    subst hP hw hK
    obtain ⟨hd, hi⟩ := hg
    obtain ⟨f0, f1, f2, f3, f4, f5⟩ := hf it (by simp)
    obtain ⟨hs, hgd, hx, es', ep', hdt, hsz, ent⟩ := frzTv I hd
    obtain ⟨rfl, rfl⟩ := dict_ep hod hdt
    obtain ⟨ok, ov, he⟩ := st
    rw [← hsz] at he
    exact DT.endI (I.ok.hd hc) he ⟨o, hgd, hx, hdt⟩ (by omega) fun h' eb => ⟨rfl, I.turned (t' := s.toks) (fun b ob hb e => eb b ob hb e) f0 f1 f3 f4 f5⟩
  self := fun A i s Q E st h => let ⟨_, _, e⟩ := st; PySem.W.kcp_self e h
end
/-- d.items() of a locked dict with tuples as keys -/
def iItemsT (td : TE) : TI := fun σ H R => td σ H fun x H1 => ∃ d o kvs, x = .ref d ∧ H1 d = some (.frz o (.dT kvs)) ∧ R (Itit d o kvs) H1
theorem pi_itemsT {X : Cx} {e : Expr} {td : TE} {apos cpos : Pos} {elts : List Expr} {kk : Nat} {tpos : Pos} (he : PE X e td) (hbase : attributeBase e "items" X.env (eval e X.env) = eval e X.env := by rfl) (hline : (apos.endLine == cpos.line) = true := by rfl) :
    PI X (.Tuple elts kk tpos) (.Call (.Attribute e "items" apos) [] [] cpos) (iItemsT td) := by
  refine ⟨fun pins s σ H R I h => ?_⟩
  refine wpAny_Call_method (T := "dict") (id := "dict.items") hbase rfl hline PySem.F.plainAttrs_dict PySem.F.slot_dict_items PySem.F.type_dict_items (thn (he.run pins s σ H _ I h) fun u s1 ⟨x, H1, I1, rx, d, o, kvs, ex, hd, q⟩ => ?_)
  subst ex
  obtain rfl : u = Value.ref d := rx
  obtain ⟨hs, hgd, hx, es, ep, hdt, hsz, ent⟩ := frzTv I1 hd
  have raw : DT.Raw s1.heap d es ep := ⟨o, hgd, hx, hdt⟩
  refine ⟨raw.typeIs, fun a e => by cases e; exact ⟨o, hgd, hx.2.1⟩, ?_⟩
  have I2 : Inv X pins σ H1 { s1 with heap := s1.heap.push { cls := .type "dict_items", data := .fields #[.ref d] } } := I1.kept (t' := s1.toks) fun b ob q => Heap.get?_push_of_some _ q
  have fin : wpAny (model X.prog X.w) X.A (pyIter (.ref s1.heap.objs.size)) (PIE X pins σ (.Tuple elts kk tpos) R) X.xe { s1 with heap := s1.heap.push { cls := .type "dict_items", data := .fields #[.ref d] } } := by
    refine DT.iterI (d := d) (es := es) (ep := ep) ⟨_, Heap.get?_push_size _ rfl, rfl, rfl⟩ (raw.push _) (pi_one (tk := s1.toks) I2 _ (turn_itemsT _ hdt) ⟨.none, .none, ?_⟩ q)
    rw [← hsz]
    exact Heap.get?_push_size _ rfl
  show wpAny _ _ (callWith cpos (.builtin "dict.items") [.ref d] [] []) _ X.xe s1
  exact method_meetsIn PySem.F.slot_dict_items PySem.F.entry_dict_items rfl (PySem.evalArgs_none ⟨rfl, raw.typeIs, PySem.F.args_dict_items_1 _, _, DT.meetsItems (es := es) (ep := ep) hs, ⟨raw, fin⟩⟩)
end Ab

namespace Ab
open PySem PySem.Spec PyProof.Rows L2 Sp
/-! ## walks over d.items() -/
section
variable {K : PySem.W.Frag} {g : G}
def itmT (p : T × T) : T := .tup [p.1, p.2]
theorem itm_new {S : Sto} {H : Hp} {q p : Addr} {kk : List Key} {ts : List T} {x : T} {v : V} (W : Wd K S H g) (hk : KRs ts kk) (hq : H q = some (.tup (kk.map kV))) (hp : H p = none) (r : ∀ g', Ext S H g S H g' → Rp K g' x v) :
    ∃ g', Wd K S (upd H p (.tup [.ref q, v])) g' ∧ Ext S H g S (upd H p (.tup [.ref q, v])) g' ∧ Rp K g' (itmT (.tup ts, x)) (.ref p) := by
  obtain ⟨g1, w1, x1, hF⟩ := W.adoptT hq
  obtain ⟨w2, x2⟩ := w1.frozen (ho := .tup [.ref q, v]) hp
  have rk : Rp K g1 (.tup ts) (.ref q) := .tup (.inl (.inl hF)) (fun _ => hF) (KRs.rps hk)
  have rx := r g1 x1
  have hF2 : (g1.put p (.tup [.ref q, v])).F p = some (.tup [.ref q, v]) := upd_same
  exact ⟨_, w2, x1.trans x2, .tup (.inl (.inl hF2)) (fun _ => hF2) (.cons (rk.mono x2.le) (.cons (rx.mono x2.le) .nil))⟩
theorem wlk_itemsT {a : Addr} {od : Obj} {kvs : List (List Key × V)} {ps : List (T × T)} {S0 : Sto} {H0 : Hp} {g0 : G} (h : g0.F a = some (.frz od (.dT kvs))) (r : Rpt K g0 ps kvs) : Wlk K (Itit a od kvs) S0 H0 g0 ⟨ps.map itmT, none⟩ := by
  have hl : (ps.map itmT).length = kvs.length := by rw [List.length_map, r.length]
  refine ⟨fun i S H g t W le _ ht => ⟨⟨W.sub _ _ (le.le.F _ _ h), ?_⟩, fun v H' y => ?_⟩, fun i S H g W le _ hi => ⟨W.sub _ _ (le.le.F _ _ h), ?_⟩⟩
  · have := lt_at (show (ps.map itmT)[i]? = some t from ht); omega
  · obtain ⟨T, k, x, q, e, rfl, hq, hT, rfl⟩ := y
    obtain ⟨ts, x', e', hk, rx⟩ := r.at e
    have ht' : (ps.map itmT)[i]? = some t := ht
    rw [List.getElem?_map, e'] at ht'
    cases ht'
    exact itm_new W hk hq hT fun g' le' => rx.mono (le.trans le').le
  · have hi' : (ps.map itmT).length ≤ i := hi
    omega
theorem wlk_ilckT {n : Nat} {b : Bool} {a : Addr} {od : Obj} {kvs : List (List Key × V)} {ps : List (T × T)} {S0 : Sto} {H0 : Hp} {g0 : G} (hS : S0[n]? = some (.lck b ps)) (hm : g0.mu[n]? = some a) (h : H0 a = some (.frz od (.dT kvs))) (r : Rpt K g0 ps kvs) : Wlk K (Itit a od kvs) S0 H0 g0 ⟨ps.map itmT, none⟩ := by
  have hl : (ps.map itmT).length = kvs.length := by rw [List.length_map, r.length]
  have here : ∀ {S H g}, Ext S0 H0 g0 S H g → H a = some (.frz od (.dT kvs)) := fun le => (le.lk n b ps a hS hm).1.trans h
  refine ⟨fun i S H g t W le _ ht => ⟨⟨here le, ?_⟩, fun v H' y => ?_⟩, fun i S H g W le _ hi => ⟨here le, ?_⟩⟩
  · have := lt_at (show (ps.map itmT)[i]? = some t from ht); omega
  · obtain ⟨T, k, x, q, e, rfl, hq, hT, rfl⟩ := y
    obtain ⟨ts, x', e', hk, rx⟩ := r.at e
    have ht' : (ps.map itmT)[i]? = some t := ht
    rw [List.getElem?_map, e'] at ht'
    cases ht'
    exact itm_new W hk hq hT fun g' le' => rx.mono (le.trans le').le
  · have hi' : (ps.map itmT).length ≤ i := hi
    omega
end
/-- the pairs of a tuple-keyed dict that stays while it is walked -/
def itemsO1 (S : Sto) : Option O → R Itm
  | some (.lck true ps) => .ok ⟨ps.map itmT, none⟩ S
  | _ => .bad
def itemsK (S : Sto) : T → R Itm
  | .dct true ps => .ok ⟨ps.map itmT, none⟩ S
  | .ref n => itemsO1 S S[n]?
  | _ => .bad
def itI (a : AE) : AI := fun st S => (a st S).bind fun x S => itemsK S x
theorem aItI {X : Cx} {K : PySem.W.Frag} {E : XS} {e : Expr} {ea : AE} {apos cpos : Pos} {elts : List Expr} {kk : Nat} {tpos : Pos} (h : PE X e (LE K E ea))
    (hbase : attributeBase e "items" X.env (eval e X.env) = eval e X.env := by rfl) (hline : (apos.endLine == cpos.line) = true := by rfl) :
    PI X (.Tuple elts kk tpos) (.Call (.Attribute e "items" apos) [] [] cpos) (LI K E (itI ea)) := by
  refine PI.weak (pi_itemsT h hbase hline) fun σ H R ⟨st, S, g, w, sl, p⟩ => ?_
  refine LI.run (f := fun x S => itemsK S x) w sl p fun t S1 v H1 g1 w1 sl1 x1 r1 p1 => ?_
  cases t with
  | dct b ps =>
    cases r1 with
    | dct hF r => exact p1.elim
    | dctT hF r => exact ⟨_, _, _, rfl, w1.sub _ _ hF, p1 _ g1 _ w1 (.refl _ _ _) (wlk_itemsT hF r)⟩
  | ref n =>
    cases r1 with
    | ref hm =>
      unfold itemsK itemsO1 at p1
      cases z : S1[n]? with
      | none => simp only [z] at p1
      | some o =>
        simp only [z] at p1
        cases o with
        | lck b ps =>
          have ok := w1.cell n _ _ z (fun z => nomatch z) hm
          cases b with
          | false => exact p1.elim
          | true =>
            obtain ⟨od, kvs, h, r⟩ := ok
            exact ⟨_, _, _, rfl, h, p1 _ g1 _ w1 (.refl _ _ _) (wlk_ilckT z hm h r)⟩
        | _ => exact p1.elim
  | _ => exact p1.elim
section
variable {a e i j : AE} {st : Slots} {S : Sto} {n : Nat} {t u k : T} {ps : List (T × T)} {bb : Bool}
def itIK (x : T) (S : Sto) : R Itm := itemsK S x
theorem e_itI : itI a st S = (a st S).bind itIK := rfl
theorem e_itId : itIK (.dct true ps) S = .ok ⟨ps.map itmT, none⟩ S := rfl
theorem e_itIr : itIK (.ref n) S = itemsO1 S S[n]? := rfl
theorem e_itIO : itemsO1 S (some (.lck true ps)) = .ok ⟨ps.map itmT, none⟩ S := rfl
theorem e_setd : opSetd (.ref n) [k, t] S = setdO n k t S S[n]? := rfl
theorem e_setdO : setdO n k t S (some (.dct bb ps)) = if keyOk bb k = true ∧ ps.length < sizeLine then setdG n bb k t ps S (getT k ps) else .bad := rfl
theorem e_setdGs : setdG n bb k t ps S (some u) = .ok u S := rfl
theorem e_setdGn : setdG n bb k t ps S none = .ok t (S.set n (.dct bb (putD k t ps))) := rfl
end
end Ab

namespace Ab
open PySem PySem.Spec PyProof.Rows L2 Sp
/-! ## xs.remove(x), data -/
def rRemD (K : PySem.W.Frag) : V → List V → Hp → VK → Prop := fun x xs H Q => ∃ (l : Addr) (vs : List V) (y : V) (ds : List PyData) (d : PyData) (j : Nat), x = .ref l ∧ xs = [y] ∧ H l = some (.lst vs) ∧ DpAll K H vs ds ∧ Dp K H y d ∧ PyData.canLayAll0 ds = true ∧ d.canLay0 = true ∧ min (PyData.depthAll ds) d.depth ≤ 60 ∧
  SeqAt.dataPlace ds d = some j ∧ Q .non (upd H l (.lst (vs.eraseIdx j)))
theorem mt_remD {X : Cx} (K : PySem.W.Frag) (hu : X.A.units + 64 < cLine) (hK : X.K = K := by rfl) : MtM X "list.remove" (rRemD K) := by
  subst hK
  intro pins s σ H x xs v us Q I rx rxs h
  obtain ⟨l, vs, y, ds, d, j, rfl, rfl, hH, hds, hd, c1, c2, mn, hj, q⟩ := h
  cases rx
  obtain ⟨u, rfl, ru⟩ := rxs.one
  obtain ⟨z, its, n, r, hl, e⟩ := I.lstM hH
  obtain ⟨as, r1⟩ := Dp.readsAll I ds vs its hds r
  obtain ⟨bs, r2⟩ := Dp.reads I d y u hd ru
  refine SeqAt.remove_list_data (l := l) (vs := its.toArray) (xs := ds) (d := d) (j := j) ⟨_, e, rfl, _, rfl⟩ (by simpa using r1) r2 (PyData.plainAll_of_canLay0 _ c1) (PyData.plain_of_canLay0 _ c2) (by omega) hj (by rw [List.size_toArray, ← hl]; exact z) ?_
  have rr := r.eraseIdx j
  refine ⟨.non, _, I.lset (its' := its.eraseIdx j) (t' := s.toks) hH e ?_ rr ?_, rfl, q⟩
  · show its.toArray.eraseIdxIfInBounds j = (its.eraseIdx j).toArray
    rw [List.eraseIdxIfInBounds_toArray]
  · rw [List.length_eraseIdx]; split <;> omega
def remG (n : Nat) (l : List T) (S : Sto) : Option Nat → R T
  | some j => .ok .non (S.set n (.lst (l.eraseIdx j)))
  | none => .bad
def remO (n : Nat) (k : T) (S : Sto) : Option O → R T
  | some (.lst l) => if dat k = true ∧ dats l = true ∧ (dep k ≤ 60 ∨ deps l ≤ 60) then remG n l S (l.findIdx? fun z => eqT z k) else .bad
  | _ => .bad
def opRem : T → List T → Sto → R T
  | .ref n, [k], S => remO n k S S[n]?
  | _, _, _ => .bad
theorem place_toDs {k : T} : ∀ l : List T, SeqAt.dataPlace (toDs l) (toD k) = l.findIdx? fun z => eqT z k
  | [] => rfl
  | t :: l => by
    have ih := place_toDs (k := k) l
    unfold SeqAt.dataPlace at ih ⊢
    rw [toDs, List.findIdx?_cons, List.findIdx?_cons, ih]
    rfl
theorem up_rem {K : PySem.W.Frag} : UpM K opRem (rRemD K) := by
  intro E S H g x xs v vs Q W rx rxs p
  unfold opRem at p
  split at p
  · rename_i n k
    obtain ⟨y, rfl, ry⟩ := rxs.one
    unfold remO at p
    split at p
    · rename_i l q
      split at p
      · rename_i c
        obtain ⟨a, rfl, m, ws, h1, r1⟩ := rx.refH W q (fun z => nomatch z)
        unfold remG at p
        split at p
        · rename_i j ej
          obtain ⟨w', x'⟩ := W.write (ho := .lst (ws.eraseIdx j)) (o' := .lst (l.eraseIdx j)) q (fun z => nomatch z) m (fun z => nomatch z) ⟨_, upd_same, r1.erase j⟩
          refine ⟨a, ws, y, toDs l, toD k, j, rfl, rfl, h1, Rhs.dp (Rps.rh0 W r1) c.2.1, Rh.dp (Rp.rh0 W ry) c.1, canLay_toDs _, canLay_toD _, by rcases c.2.2 with z | z <;> (try unfold dep at z) <;> (try unfold deps at z) <;> omega, by rw [place_toDs]; exact ej, p _ _ _ w' x' .non⟩
        · exact p.elim
      · exact p.elim
    · exact p.elim
  · exact p.elim
section
variable {n : Nat} {k : T} {l : List T} {S : Sto} {j : Nat}
theorem e_rem : opRem (.ref n) [k] S = remO n k S S[n]? := rfl
theorem e_remO : remO n k S (some (.lst l)) = if dat k = true ∧ dats l = true ∧ (dep k ≤ 60 ∨ deps l ≤ 60) then remG n l S (l.findIdx? fun z => eqT z k) else .bad := rfl
theorem e_remG : remG n l S (some j) = .ok .non (S.set n (.lst (l.eraseIdx j))) := rfl
end
end Ab

namespace Ab
open PySem PySem.Spec PyProof.Rows L2 Sp
/-! ## sorted of tuples with distinct ints at their heads and anything behind them -/
def HdP (K : PySem.W.Frag) (H : Hp) (x : V) (i : Int) : Prop := ∃ t r, x = V.ref t ∧ SqT K H t (.int i :: r)
def rSortedG (K : PySem.W.Frag) : List V → Hp → VK → Prop := fun vs H Q => ∃ (a : Addr) (xs : List V) (ks : List Int), vs = [V.ref a] ∧ SqL K H a xs ∧ Paired (HdP K H) xs ks ∧ ks.Nodup ∧
  ∀ (k : V → Int), xs.map k = ks → ∀ ys p, SrtO.Srtd (fun v u => decide (k v < k u)) ys → ys.Perm xs → H p = none → Q (.ref p) (upd H p (.lst ys))
theorem paired_map {K : PySem.W.Frag} {H : Hp} {k : V → Int} (hk : ∀ x i, HdP K H x i → k x = i) : ∀ {xs : List V} {ks : List Int}, Paired (HdP K H) xs ks → xs.map k = ks
  | _, _, .nil => rfl
  | _, _, .cons h t => by rw [List.map_cons, hk _ _ h, paired_map hk t]
theorem paired_mem {K : PySem.W.Frag} {H : Hp} : ∀ {xs : List V} {ks : List Int}, Paired (HdP K H) xs ks → ∀ x ∈ xs, ∃ i, HdP K H x i
  | _, _, .nil, x, h => nomatch h
  | _, _, .cons h t, x, hx => by
    rcases List.mem_cons.mp hx with rfl | hx
    · exact ⟨_, h⟩
    · exact paired_mem t x hx
open Classical in
theorem cr_sortedGK {X : Cx} (K : PySem.W.Frag) (hK : X.K = K := by rfl) : CallR X (.builtin "sorted") (rSortedG K) := by
  subst hK
  intro pins s σ H vs us Q I r h
  obtain ⟨a, xs, ks, rfl, hs, hx, nd, q⟩ := h
  let k : V → Int := fun v => if h : ∃ i, HdP X.K H v i then h.choose else 0
  have hk : ∀ x i, HdP X.K H x i → k x = i := fun x i h => by
    have hh : ∃ i, HdP X.K H x i := ⟨i, h⟩
    show (if h : ∃ i, HdP X.K H x i then h.choose else 0) = i
    rw [dif_pos hh]
    obtain ⟨t, r, e, hq⟩ := hh.choose_spec
    obtain ⟨t', r', e', hq'⟩ := h
    rw [e] at e'
    cases e'
    have := I.tuple_inj hq hq'
    injection this with e1 _
    injection e1
  have km := paired_map hk hx
  have hxx : ∀ x ∈ xs, ∃ t r, x = V.ref t ∧ SqT X.K H t (.int (k x) :: r) := fun x m => by
    obtain ⟨i, h⟩ := paired_mem hx x m
    rw [hk x i h]; exact h
  have hu : ∀ x ∈ xs, ∀ y ∈ xs, k x = k y → x = y := fun x hx1 y hy1 e => nodup_map_inj (by rw [km]; exact nd) hx1 hy1 e
  have q := q k km
  obtain ⟨its, rv, hl, hz⟩ := I.list hs
  obtain ⟨u, rfl, ru⟩ := vals1 r
  cases (show u = Value.ref a from ru)
  obtain ⟨e1, e2⟩ := refs_back rv fun x m => let ⟨t, _, e, _⟩ := hxx x m; ⟨t, e⟩
  have mem : ∀ v ∈ its, backV v ∈ xs := fun v hv => by rw [e1]; exact List.mem_map.mpr ⟨v, hv, rfl⟩
  refine hd_sorted (k := fun u => k (backV u)) hl.isList (by rw [← rv.length]; exact hz) (fun v hv => ?_) (fun v hv u hu' e => ?_) fun h' d out h1 h2 kp hd hn => ?_
  · obtain ⟨t, rfl⟩ := e2 v hv
    obtain ⟨t', r', e, ht⟩ := hxx _ (mem _ hv)
    cases e
    obtain ⟨its2, r2, ⟨o, ho, hc, n, hd⟩, _⟩ := I.tuple ht
    cases r2 with
    | cons ri rr =>
      obtain ⟨t1, rfl⟩ := ri
      exact ⟨t, o, t1, _, n, rfl, ho, hc, hd⟩
  · obtain ⟨t, rfl⟩ := e2 v hv
    obtain ⟨t', rfl⟩ := e2 u hu'
    have := hu _ (mem _ hv) _ (mem _ hu') e
    cases this
    rfl
  · have h3 : ∀ u ∈ out, ∃ a, u = Value.ref a := fun u hu => e2 u (h2.mem_iff.mp hu)
    obtain ⟨n, hn⟩ := hn
    have hb : (out.map backV).Perm xs := by rw [e1]; exact h2.map _
    refine ⟨.ref d, upd H d (.lst (out.map backV)), I.laid (t' := s.toks) kp hd ⟨?_, out, n, vals_back h3, hn⟩, rfl, q _ d (SrtO.srtd_map h1) hb (I.hok.fresh hd)⟩
    rw [hb.length_eq]
    exact hz
def hdsG : List T → Option (List (Int × T))
  | [] => some []
  | .tup (.int i :: r) :: ts => (hdsG ts).map ((i, .tup (.int i :: r)) :: ·)
  | _ => none
def opSortG (fz : Bool) : List T → Sto → R T
  | [x], S => match (lkL S x).bind hdsG with
    | some l => if (l.map (·.1)).Nodup then mkL fz ((sortH l).map (·.2)) S else .bad
    | none => .bad
  | _, _ => .bad
section
variable {K : PySem.W.Frag}
theorem hdsG_rp {S : Sto} {H : Hp} {g : G} (W : Wd K S H g) : ∀ {ts : List T} {vs : List V} {l : List (Int × T)}, hdsG ts = some l → Rps K g ts vs → Paired (HdP K H) vs (l.map (·.1)) ∧ Paired (fun (x : V) (p : Int × T) => Rp K g p.2 x) vs l
  | [], vs, l, e, r => by
    cases r; cases e
    exact ⟨.nil, .nil⟩
  | t :: ts, vs, l, e, r => by
    unfold hdsG at e
    split at e
    · rename_i h; cases h
    · rename_i i r0 ts0 h
      cases h
      obtain ⟨m, hm, rfl⟩ := Option.map_eq_some_iff.mp e
      cases r with
      | cons r1 rr =>
        obtain ⟨h1, h2⟩ := hdsG_rp W hm rr
        have r1' := r1
        cases r1 with
        | @tup _ ad _ a b c =>
          cases c with
          | cons c1 c2 =>
            cases c1
            exact ⟨.cons ⟨ad, _, rfl, SqT.wd W a⟩ h1, .cons r1' h2⟩
    · cases e
theorem paired_at {α β : Type} {F : α → β → Prop} : ∀ {xs : List α} {l : List β}, Paired F xs l → ∀ x ∈ xs, ∃ p ∈ l, F x p ∧ ∀ {γ : Type} (f : α → γ) (g : β → γ), xs.map f = l.map g → f x = g p
  | _, _, .nil, x, h => nomatch h
  | _, _, .cons (a := a) (b := b) h t, x, hx => by
    rcases List.mem_cons.mp hx with rfl | hx
    · exact ⟨b, List.mem_cons_self, h, fun f g e => by rw [List.map_cons, List.map_cons] at e; injection e⟩
    · obtain ⟨p, hp, hf, hg⟩ := paired_at t x hx
      exact ⟨p, List.mem_cons_of_mem _ hp, hf, fun f g e => hg f g (by rw [List.map_cons, List.map_cons] at e; injection e)⟩
theorem Rps.hdsG {g : G} {k : V → Int} {l : List (Int × T)} (nd : (l.map (·.1)).Nodup) : ∀ {A : List (Int × T)} {ys : List V}, A.map (·.1) = ys.map k → (∀ p ∈ A, p ∈ l) → (∀ y ∈ ys, ∃ p ∈ l, Rp K g p.2 y ∧ k y = p.1) → Rps K g (A.map (·.2)) ys
  | [], [], _, _, _ => .nil
  | [], _ :: _, e, _, _ => by cases e
  | _ :: _, [], e, _, _ => by cases e
  | a :: A, y :: ys, e, ha, hy => by
    rw [List.map_cons, List.map_cons] at e
    injection e with e1 e2
    obtain ⟨p, hp, r, hd⟩ := hy y List.mem_cons_self
    have : a = p := nodup_fst nd (ha a List.mem_cons_self) hp (by rw [e1, hd])
    subst this
    exact .cons r (Rps.hdsG nd e2 (fun q hq => ha q (List.mem_cons_of_mem _ hq)) fun z hz => hy z (List.mem_cons_of_mem _ hz))
theorem up_sortG (fz : Bool) : UpN K (opSortG fz) (rSortedG K) := by
  intro E S H g xs vs Q W rx p
  unfold opSortG at p
  split at p
  · obtain ⟨v, rfl, r⟩ := rx.one
    split at p
    · rename_i l e
      split at p
      · rename_i nd
        obtain ⟨ts, e1, e2⟩ := Option.bind_eq_some_iff.mp e
        obtain ⟨a, ws, rfl, h, r1⟩ := lkL_rp W e1 r
        obtain ⟨h1, h2⟩ := hdsG_rp W e2 r1
        refine ⟨a, ws, l.map (·.1), rfl, h, h1, nd, fun k km ys q srt pm hq => ?_⟩
        have e3 : (sortH l).map (·.1) = ys.map k := asc_uniq (((sortH_perm l).map _).trans (by rw [← km]; exact (pm.map _).symm)) (sortH_asc l) (List.pairwise_map.mpr (srt.imp fun {x y} a => by have := of_decide_eq_false a; omega))
        refine Post.newLst p W (Rps.hdsG (k := k) nd e3 (fun p hp => (sortH_perm l).mem_iff.mp hp) fun y hy => ?_) q hq
        obtain ⟨p, hp, hf, hg⟩ := paired_at h2 y (pm.mem_iff.mp hy)
        exact ⟨p, hp, hf, hg k (·.1) km⟩
      · exact p.elim
    · exact p.elim
  · exact p.elim
end
section
variable {fz : Bool} {S : Sto} {t : T}
def srtGK (fz : Bool) (S : Sto) (l : List (Int × T)) : R T := if (l.map (·.1)).Nodup then mkL fz ((sortH l).map (·.2)) S else .bad
theorem e_sortG : opSortG fz [t] S = pget ((lkL S t).bind hdsG) (srtGK fz S) := by simp only [opSortG]; cases (lkL S t).bind hdsG <;> rfl
theorem e_srtGK {l : List (Int × T)} : srtGK fz S l = if (l.map (·.1)).Nodup then mkL fz ((sortH l).map (·.2)) S else .bad := rfl
end
end Ab

namespace Ab
open PySem PySem.Spec PyProof.Rows L2 Sp
/-! ## tuples of three ints: their order, the least of a list -/
abbrev I3 := Int × Int × Int
def t3 (p : I3) : T := .tup [.int p.1, .int p.2.1, .int p.2.2]
def lt3 (a b : I3) : Prop := a.1 < b.1 ∨ (a.1 = b.1 ∧ (a.2.1 < b.2.1 ∨ (a.2.1 = b.2.1 ∧ a.2.2 < b.2.2)))
instance : DecidableRel lt3 := fun _ _ => inferInstanceAs (Decidable (_ ∨ _))
def d3 (p : I3) : PyData := .tuple [.int p.1, .int p.2.1, .int p.2.2]
theorem alike3 (a b : I3) : PySem.W.alike (d3 a) (d3 b) = true := by simp [d3, PySem.W.alike, PySem.W.alikeAll]
theorem dataLt_3 (a b : I3) : PySem.W.dataLt (d3 a) (d3 b) = decide (lt3 a b) := by
  obtain ⟨x, y, z⟩ := a
  obtain ⟨x', y', z'⟩ := b
  have al : ∀ i j : Int, PySem.W.alike (.int i) (.int j) = true := fun i j => by simp [PySem.W.alike]
  have e : PyProof.Rows.lexLt itemOrd (W.keyToksAll []) (W.keyToksAll []) = false := lex_irrefl _
  unfold d3 lt3
  simp only
  rw [PySem.W.dataLt_tuple, PySem.W.dataLt_cons (al _ _), PySem.W.dataLt_cons (al _ _), PySem.W.dataLt_cons (al _ _), e, PySem.W.dataLt_int, PySem.W.dataLt_int, PySem.W.dataLt_int]
  simp only [PyData.eqv, beq_iff_eq]
  by_cases h1 : x = x' <;> by_cases h2 : y = y' <;> by_cases h3 : z = z' <;> simp [h1, h2, h3]
def Tr3 (K : PySem.W.Frag) (H : Hp) (x : V) (p : I3) : Prop := ∃ t, x = V.ref t ∧ SqT K H t [.int p.1, .int p.2.1, .int p.2.2]
theorem Tr3.obj {X : Cx} {pins : List (Addr × Obj)} {σ : L2.St} {H : Hp} {s : Shared} (I : Inv X pins σ H s) {x : V} {p : I3} {v : Value} (h : Tr3 X.K H x p) (r : RelV x v) :
    ∃ t o n a b c, v = .ref t ∧ s.heap.get? t = some o ∧ o.cls = .type "tuple" ∧ o.data = .seq #[.int p.1 a, .int p.2.1 b, .int p.2.2 c] n := by
  obtain ⟨t, rfl, ht⟩ := h
  obtain ⟨its2, r2, ⟨o, ho, hc, n, hd⟩, _⟩ := I.tuple ht
  cases (show v = Value.ref t from r)
  cases r2 with
  | cons r1 r2 =>
    cases r2 with
    | cons r2 r3 =>
      cases r3 with
      | cons r3 r4 =>
        cases r4
        obtain ⟨t1, rfl⟩ := r1
        obtain ⟨t2, rfl⟩ := r2
        obtain ⟨t3, rfl⟩ := r3
        exact ⟨t, o, n, t1, t2, t3, rfl, ho, hc, hd⟩
theorem reads3 {h : Heap} {t : Addr} {o : Obj} {n a b c} {p : I3} (ho : h.get? t = some o) (hc : o.cls = .type "tuple") (hd : o.data = .seq #[.int p.1 a, .int p.2.1 b, .int p.2.2 c] n) : Reads h (.ref t) (d3 p) [] :=
  .tuple (as := []) ho hc hd (.cons (as := []) (bs := []) (.int _ _) (.cons (as := []) (bs := []) (.int _ _) (.cons (as := []) (bs := []) (.int _ _) .nil)))
theorem reads_int {h : Heap} {i j : Int} {t} {bs : List Addr} (r : Reads h (.int i t) (.int j) bs) : i = j := by cases r; rfl
theorem reads3_eq {h : Heap} {t : Addr} {o : Obj} {n a b c} {p q : I3} {bs : List Addr} (ho : h.get? t = some o) (hd : o.data = .seq #[.int p.1 a, .int p.2.1 b, .int p.2.2 c] n) (r : Reads h (.ref t) (d3 q) bs) : p = q := by
  unfold d3 at r
  cases r with
  | tuple h1 h2 h3 h4 =>
    rw [ho] at h1
    cases h1
    rw [hd] at h3
    cases h3
    cases h4 with
    | cons r1 r2 =>
      cases r2 with
      | cons r2 r3 =>
        cases r3 with
        | cons r3 r4 => exact Prod.ext (reads_int r1) (Prod.ext (reads_int r2) (reads_int r3))
def rLt3 (K : PySem.W.Frag) : R2 := fun x y H Q => ∃ a b, Tr3 K H x a ∧ Tr3 K H y b ∧ Q (.bl (decide (lt3 a b))) H
theorem op_lt3 {X : Cx} (hu : X.A.units + 64 < cLine) : OpR X (compareOp .Lt) (rLt3 X.K) := by
  intro pins s σ H x y v u Q I rx ry ⟨a, b, ha, hb, q⟩
  obtain ⟨t, o, n, a1, a2, a3, rfl, ho, hc, hd⟩ := ha.obj I rx
  obtain ⟨t', o', n', b1, b2, b3, rfl, ho', hc', hd'⟩ := hb.obj I ry
  refine PySem.W.lt_data (reads3 ho hc hd) (reads3 ho' hc' hd') (alike3 a b) (fun e => nomatch e) ?_ ?_
  · have : min (d3 a).depth (d3 b).depth ≤ 3 := Nat.le_trans (Nat.min_le_left _ _) (by simp [d3, PyData.depth, PyData.depthAll])
    omega
  · rw [dataLt_3]
    exact ⟨.bl _, H, I, rfl, q⟩
theorem op_lt3K (K : PySem.W.Frag) {X : Cx} (hu : X.A.units + 64 < cLine) (h : X.K = K := by rfl) : OpR X (compareOp .Lt) (rLt3 K) := by subst h; exact op_lt3 hu
def opLt3 : T → T → Sto → R T
  | .tup [.int a, .int b, .int c], .tup [.int d, .int e, .int f], S => .ok (.bl (decide (lt3 (a, b, c) (d, e, f)))) S
  | _, _, _ => .bad
section
variable {K : PySem.W.Frag}
theorem tr3_rp {S : Sto} {H : Hp} {g : G} (W : Wd K S H g) {p : I3} {v : V} (r : Rp K g (t3 p) v) : Tr3 K H v p := by
  unfold t3 at r
  cases r with
  | @tup _ ad _ a b c =>
    cases c with
    | cons c1 c2 =>
      cases c2 with
      | cons c2 c3 =>
        cases c3 with
        | cons c3 c4 =>
          cases c1; cases c2; cases c3; cases c4
          exact ⟨ad, rfl, SqT.wd W a⟩
theorem up_lt3 : Up2 K opLt3 (rLt3 K) := by
  intro E S H g x y v w Q W rx ry p
  unfold opLt3 at p
  split at p
  · exact ⟨_, _, tr3_rp (p := (_, _, _)) W rx, tr3_rp (p := (_, _, _)) W ry, p.val W (.bl _)⟩
  · exact p.elim
end
/-! ### min -/
def min3 (p : I3) (ps : List I3) : I3 := ps.foldl (fun a y => if lt3 y a then y else a) p
theorem minD_3 : ∀ (ps : List I3) (p : I3), PySem.W.minD (d3 p) (ps.map d3) = d3 (min3 p ps)
  | [], _ => rfl
  | q :: ps, p => by
    have ih := minD_3 ps (if lt3 q p then q else p)
    unfold min3 at *
    rw [List.foldl_cons, ← ih]
    show PySem.W.minD (if PySem.W.dataLt (d3 q) (d3 p) then d3 q else d3 p) _ = _
    congr 1
    rw [dataLt_3]
    by_cases c : lt3 q p
    · rw [if_pos c, if_pos (decide_eq_true c)]
    · rw [if_neg c, if_neg (by rw [decide_eq_false c]; exact fun h => nomatch h)]
def rMin3 (K : PySem.W.Frag) : List V → Hp → VK → Prop := fun vs H Q => ∃ (a : Addr) (xs : List V) (p : I3) (ps : List I3), vs = [V.ref a] ∧ SqL K H a xs ∧ Paired (Tr3 K H) xs (p :: ps) ∧ ∀ (i : Nat) x, xs[i]? = some x → (p :: ps)[i]? = some (min3 p ps) → Q x H
theorem reads3_all {X : Cx} {pins : List (Addr × Obj)} {σ : L2.St} {H : Hp} {s : Shared} (I : Inv X pins σ H s) : ∀ {xs : List V} {ps : List I3} {vs : List Value}, Paired (Tr3 X.K H) xs ps → Vals xs vs → ReadsAll s.heap vs (ps.map d3) []
  | _, _, _, .nil, .nil => .nil
  | _, _, _, .cons h t, .cons r rs => by
    obtain ⟨t', o, n, a1, a2, a3, rfl, ho, hc, hd⟩ := h.obj I r
    exact .cons (as := []) (bs := []) (reads3 ho hc hd) (reads3_all I t rs)
theorem depth3 : ∀ ps : List I3, PyData.depthAll (ps.map d3) ≤ 3
  | [] => by simp [PyData.depthAll]
  | p :: ps => by
    have := depth3 ps
    rw [List.map_cons]
    have e : (d3 p).depth ≤ 3 := by simp [d3, PyData.depth, PyData.depthAll]
    unfold PyData.depthAll
    omega
theorem vals_back3 {xs : List V} {vs : List Value} (r : Vals xs vs) : ∀ (i : Nat) (v : Value), vs[i]? = some v → ∃ x, xs[i]? = some x ∧ RelV x v := by
  induction r with
  | nil => intro i v h; simp at h
  | cons h t ih =>
    intro i v hv
    cases i with
    | zero => simp only [List.getElem?_cons_zero, Option.some.injEq] at hv; subst hv; exact ⟨_, rfl, h⟩
    | succ i => exact ih i v (by simpa using hv)
theorem paired_ix {α β : Type} {F : α → β → Prop} {xs : List α} {ys : List β} (p : Paired F xs ys) : ∀ (i : Nat) (x : α), xs[i]? = some x → ∃ y, ys[i]? = some y ∧ F x y := by
  induction p with
  | nil => intro i v h; simp at h
  | cons h t ih =>
    intro i v hv
    cases i with
    | zero => simp only [List.getElem?_cons_zero, Option.some.injEq] at hv; subst hv; exact ⟨_, rfl, h⟩
    | succ i => exact ih i v (by simpa using hv)
theorem cr_min3 {X : Cx} (hc : X.calm = true) (hu : X.A.units + 64 < cLine) : CallR X (.builtin "min") (rMin3 X.K) := by
  intro pins s σ H vs us Q I r h
  obtain ⟨a, xs, p, ps, rfl, hs, hx, q⟩ := h
  obtain ⟨its, rv, hl, hz⟩ := I.list hs
  obtain ⟨u, rfl, ru⟩ := vals1 r
  cases (show u = Value.ref a from ru)
  have ra := reads3_all I hx rv
  have dp := depth3 (p :: ps)
  rw [List.map_cons] at dp ra
  refine PySem.W.min_list_data (x := d3 p) (xs := ps.map d3) (I.ok.hd hc) hl.isList (by simpa using ra) ⟨fun x hx y hy => ?_, fun x hx e => ?_⟩ (by omega) fun i v h' tk bs hv rd k => ?_
  · rw [← List.map_cons (f := d3)] at hx hy
    obtain ⟨p1, _, rfl⟩ := List.mem_map.mp hx
    obtain ⟨p2, _, rfl⟩ := List.mem_map.mp hy
    exact alike3 p1 p2
  · rw [← List.map_cons (f := d3)] at hx
    obtain ⟨p1, _, rfl⟩ := List.mem_map.mp hx
    cases e
  · obtain ⟨x, hx1, rx⟩ := vals_back3 rv i v (by simpa using hv)
    obtain ⟨y, hy1, hxy⟩ := paired_ix hx i x hx1
    obtain ⟨t, o, n, a1, a2, a3, rfl, ho, hc', hd⟩ := hxy.obj I rx
    rw [minD_3] at rd
    have e := reads3_eq (k _ _ ho) hd rd
    rw [e] at hy1
    exact ⟨x, H, I.kept k, rx, q i x hx1 hy1⟩
theorem cr_min3K {X : Cx} (K : PySem.W.Frag) (hc : X.calm = true) (hu : X.A.units + 64 < cLine) (h : X.K = K := by rfl) : CallR X (.builtin "min") (rMin3 K) := by subst h; exact cr_min3 hc hu
def trsOf : List T → Option (List I3)
  | [] => some []
  | .tup [.int a, .int b, .int c] :: ts => (trsOf ts).map ((a, b, c) :: ·)
  | _ => none
def min3K : List I3 → Sto → R T
  | p :: ps, S => .ok (t3 (min3 p ps)) S
  | [], _ => .bad
def opMin3 : List T → Sto → R T
  | [x], S => match (lkL S x).bind trsOf with
    | some l => min3K l S
    | none => .bad
  | _, _ => .bad
section
variable {K : PySem.W.Frag}
theorem trs_rp {S : Sto} {H : Hp} {g : G} (W : Wd K S H g) : ∀ {ts : List T} {vs : List V} {l : List I3}, trsOf ts = some l → Rps K g ts vs → Paired (Tr3 K H) vs l ∧ ts = l.map t3
  | [], vs, l, e, r => by
    cases r; cases e
    exact ⟨.nil, rfl⟩
  | t :: ts, vs, l, e, r => by
    unfold trsOf at e
    split at e
    · rename_i h; cases h
    · rename_i a b c ts0 h
      cases h
      obtain ⟨m, hm, rfl⟩ := Option.map_eq_some_iff.mp e
      cases r with
      | cons r1 rr =>
        obtain ⟨h1, h2⟩ := trs_rp W hm rr
        exact ⟨.cons (tr3_rp (p := (a, b, c)) W r1) h1, by rw [h2]; rfl⟩
    · cases e
theorem up_min3 : UpN K opMin3 (rMin3 K) := by
  intro E S H g xs vs Q W rx p
  unfold opMin3 at p
  split at p
  · obtain ⟨v, rfl, r⟩ := rx.one
    split at p
    · rename_i l e
      obtain ⟨ts, e1, e2⟩ := Option.bind_eq_some_iff.mp e
      obtain ⟨a, ws, rfl, h, r1⟩ := lkL_rp W e1 r
      obtain ⟨h1, h2⟩ := trs_rp W e2 r1
      subst h2
      cases l with
      | nil => exact p.elim
      | cons q qs =>
        refine ⟨a, ws, q, qs, rfl, h, h1, fun i x hx hy => ?_⟩
        obtain ⟨t, ht, rt⟩ := r1.get' hx
        rw [List.getElem?_map, hy] at ht
        have ht : some (t3 (min3 q qs)) = some t := ht
        cases ht
        exact p.val W rt
    · exact p.elim
  · exact p.elim
end
section
variable {S : Sto} {t : T} {a b c d e f : Int} {p : I3} {ps l : List I3}
theorem e_lt3 : opLt3 (.tup [.int a, .int b, .int c]) (.tup [.int d, .int e, .int f]) S = .ok (.bl (decide (lt3 (a, b, c) (d, e, f)))) S := rfl
def min3J (S : Sto) (l : List I3) : R T := min3K l S
theorem e_min3 : opMin3 [t] S = pget ((lkL S t).bind trsOf) (min3J S) := by simp only [opMin3]; cases (lkL S t).bind trsOf <;> rfl
theorem e_min3J : min3J S (p :: ps) = .ok (.tup [.int (min3 p ps).1, .int (min3 p ps).2.1, .int (min3 p ps).2.2]) S := rfl
end
end Ab

namespace Ab
open PySem PySem.Spec PyProof.Rows L2 Sp
/-! ## another name of a def -/
def aliasB (y x : String) (K : PySem.W.Frag) : Bool := decide (He.ga K (.ofString y) = He.ga K (.ofString x))
theorem okd_alias {P : Program} {w : World} {K : PySem.W.Frag} {mg : Str → Option Value} {base : Heap} {y x : String} {k : Nat} {ps : List Str} {sp : L2.Sp} (h : aliasB y x K = true) (O : Okd P w K mg base (.ofString x, none) k ps sp) : Okd P w K mg base (.ofString y, none) k ps sp := by
  have e : He.fAd K (.ofString y, none) = He.fAd K (.ofString x, none) := of_decide_eq_true h
  unfold Okd at *
  rw [e]
  exact O
end Ab

namespace Ab
open PySem PySem.Spec PyProof.Rows L2 Sp

/-! ## repr of data: trees of lists, tuples, dicts that are frozen -/
mutual
def pd : T → PyData
  | .non => .none
  | .bl b => .bool b
  | .int i => .int i
  | .str s => .str (.ofString s)
  | .tup l => .tuple (pds l)
  | .lst l => .list (pds l)
  | .dct _ l => .dict (pdk l)
  | .tupk _ => .none
  | .scr _ => .none
  | .ref _ => .none
  | .ty _ => .none
  | .con _ => .none
def pds : List T → List PyData
  | [] => []
  | t :: r => pd t :: pds r
def pdk : List (T × T) → List (PyData × PyData)
  | [] => []
  | (a, b) :: r => (pd a, pd b) :: pdk r
end
def stShow (s : String) : Bool := decide (reprText (.ofString s) = Str.ofString ("'" ++ s ++ "'")) && decide ((reprText (.ofString s)).length ≤ 102)
mutual
def shw : T → Bool
  | .non => true
  | .bl _ => true
  | .int i => decide (i.natAbs < 10 ^ 100)
  | .str s => stShow s
  | .tup l => shws l
  | .lst l => shws l
  | .dct _ l => shwk l
  | .tupk _ => false
  | .scr _ => false
  | .ref _ => false
  | .ty _ => false
  | .con _ => false
def shws : List T → Bool
  | [] => true
  | t :: r => shw t && shws r
def shwk : List (T × T) → Bool
  | [] => true
  | (a, b) :: r => shw a && shw b && shwk r
end
/-! no list in it; no dict in it -/
mutual
def nol : T → Bool
  | .tup l => nols l
  | .lst _ => false
  | .dct _ l => nolk l
  | .non => true
  | .bl _ => true
  | .int _ => true
  | .str _ => true
  | .tupk _ => true
  | .scr _ => true
  | .ref _ => true
  | .ty _ => true
  | .con _ => true
def nols : List T → Bool
  | [] => true
  | t :: r => nol t && nols r
def nolk : List (T × T) → Bool
  | [] => true
  | (_, b) :: r => nol b && nolk r
end
mutual
def nod : T → Bool
  | .tup l => nods l
  | .lst l => nods l
  | .dct _ _ => false
  | .non => true
  | .bl _ => true
  | .int _ => true
  | .str _ => true
  | .tupk _ => true
  | .scr _ => true
  | .ref _ => true
  | .ty _ => true
  | .con _ => true
def nods : List T → Bool
  | [] => true
  | t :: r => nod t && nods r
end
mutual
def nds : T → Nat
  | .tup l => ndss l + 1
  | .lst l => ndss l + 1
  | .dct _ l => ndsk l + 1
  | .non => 1
  | .bl _ => 1
  | .int _ => 1
  | .str _ => 1
  | .tupk _ => 1
  | .scr _ => 1
  | .ref _ => 1
  | .ty _ => 1
  | .con _ => 1
def ndss : List T → Nat
  | [] => 0
  | t :: r => nds t + ndss r
def ndsk : List (T × T) → Nat
  | [] => 0
  | (a, b) :: r => nds a + nds b + ndsk r
end
mutual
theorem nod_pd : ∀ t : T, nod t = true → (pd t).hasDict = false
  | .non, _ => rfl
  | .bl _, _ => rfl
  | .int _, _ => rfl
  | .str _, _ => rfl
  | .tup l, h => by
    rw [nod] at h
    rw [pd, PyData.hasDict]; exact nods_pd l h
  | .lst l, h => by
    rw [nod] at h
    rw [pd, PyData.hasDict]; exact nods_pd l h
  | .dct _ _, h => by rw [nod] at h; cases h
  | .tupk _, _ => rfl
  | .scr _, _ => rfl
  | .ref _, _ => rfl
  | .ty _, _ => rfl
  | .con _, _ => rfl
theorem nods_pd : ∀ l : List T, nods l = true → PyData.hasDictAll (pds l) = false
  | [], _ => by rw [pds, PyData.hasDictAll]
  | t :: r, h => by
    rw [nods, Bool.and_eq_true] at h
    rw [pds, PyData.hasDictAll, nod_pd t h.1, nods_pd r h.2]; rfl
end
mutual
theorem shw_able : ∀ t : T, shw t = true → (pd t).showable = true
  | .non, _ => rfl
  | .bl _, _ => rfl
  | .int i, h => by
    rw [shw] at h
    have h := of_decide_eq_true h
    rw [pd, PyData.showable]
    refine decide_eq_true ?_
    by_cases h0 : i.natAbs = 0
    · rw [h0]; decide
    · refine (Nat.log2_lt h0).mpr (Nat.lt_of_lt_of_le h ?_)
      decide +kernel
  | .str _, _ => rfl
  | .tup l, h => by
    rw [shw] at h
    rw [pd, PyData.showable]; exact shws_able l h
  | .lst l, h => by
    rw [shw] at h
    rw [pd, PyData.showable]; exact shws_able l h
  | .dct _ l, h => by
    rw [shw] at h
    rw [pd, PyData.showable]; exact shwk_able l h
  | .tupk _, h => by rw [shw] at h; cases h
  | .scr _, h => by rw [shw] at h; cases h
  | .ref _, h => by rw [shw] at h; cases h
  | .ty _, h => by rw [shw] at h; cases h
  | .con _, h => by rw [shw] at h; cases h
theorem shws_able : ∀ l : List T, shws l = true → PyData.showableAll (pds l) = true
  | [], _ => by rw [pds, PyData.showableAll]
  | t :: r, h => by
    rw [shws, Bool.and_eq_true] at h
    rw [pds, PyData.showableAll, shw_able t h.1, shws_able r h.2]; rfl
theorem shwk_able : ∀ l : List (T × T), shwk l = true → PyData.showableKv (pdk l) = true
  | [], _ => by rw [pdk, PyData.showableKv]
  | (a, b) :: r, h => by
    rw [shwk, Bool.and_eq_true, Bool.and_eq_true] at h
    rw [pdk, PyData.showableKv, shw_able a h.1.1, shw_able b h.1.2, shwk_able r h.2]; rfl
end
theorem pds_len : ∀ l : List T, (pds l).length = l.length
  | [] => by rw [pds]; rfl
  | t :: r => by rw [pds, List.length_cons, List.length_cons, pds_len r]
theorem pdk_len : ∀ l : List (T × T), (pdk l).length = l.length
  | [] => by rw [pdk]; rfl
  | (a, b) :: r => by rw [pdk, List.length_cons, List.length_cons, pdk_len r]
/-! ### the text's length -/
mutual
theorem shw_len : ∀ t : T, shw t = true → (pd t).shown.length + 2 ≤ 108 * nds t
  | .non, _ => by rw [pd, PyData.shown_none, nds]; decide +kernel
  | .bl b, _ => by rw [pd, PyData.shown_bool, nds]; cases b <;> decide +kernel
  | .int i, h => by
    rw [shw] at h
    have h := int_text_length_le10 (by decide) (of_decide_eq_true h)
    rw [pd, PyData.shown_int, nds]
    have e : (Str.ofString (toString i)).length = (toString i).length := by
      rw [Str.ofString_eq_toList]
      show (((toString i).toList.map Char.toNat).toArray).size = _
      rw [List.size_toArray, List.length_map]; exact String.length_toList
    rw [e]; omega
  | .str s, h => by
    rw [shw, stShow, Bool.and_eq_true] at h
    have h := of_decide_eq_true h.2
    rw [pd, PyData.shown_str, nds]; omega
  | .tup l, h => by
    rw [shw] at h
    have q := shws_len l h
    rw [pd, PyData.shown, nds]
    have z := tupleText_len_le (PyData.shownAll (pds l))
    rw [PyData.shownAll_length, pds_len] at z
    omega
  | .lst l, h => by
    rw [shw] at h
    have q := shws_len l h
    rw [pd, PyData.shown, nds]
    have z := listText_len_le (PyData.shownAll (pds l))
    rw [PyData.shownAll_length, pds_len] at z
    omega
  | .dct _ l, h => by
    rw [shw] at h
    have q := shwk_len l h
    rw [pd, PyData.shown, nds]
    have z := dictText_len_le (PyData.shownKv (pdk l))
    rw [PyData.shownKv_length, pdk_len] at z
    omega
  | .tupk _, h => by rw [shw] at h; cases h
  | .scr _, h => by rw [shw] at h; cases h
  | .ref _, h => by rw [shw] at h; cases h
  | .ty _, h => by rw [shw] at h; cases h
  | .con _, h => by rw [shw] at h; cases h
theorem shws_len : ∀ l : List T, shws l = true → ((PyData.shownAll (pds l)).map (·.length)).sum + 2 * l.length ≤ 108 * ndss l
  | [], _ => by rw [pds, PyData.shownAll_nil, ndss]; decide
  | t :: r, h => by
    rw [shws, Bool.and_eq_true] at h
    have q1 := shw_len t h.1
    have q2 := shws_len r h.2
    rw [pds, PyData.shownAll_cons, ndss, List.map_cons, List.sum_cons, List.length_cons]
    omega
theorem shwk_len : ∀ l : List (T × T), shwk l = true → ((PyData.shownKv (pdk l)).map (·.length)).sum + 2 * l.length ≤ 108 * ndsk l
  | [], _ => by rw [pdk, PyData.shownKv_nil, ndsk]; decide
  | (a, b) :: r, h => by
    rw [shwk, Bool.and_eq_true, Bool.and_eq_true] at h
    have q1 := shw_len a h.1.1
    have q3 := shw_len b h.1.2
    have q2 := shwk_len r h.2
    rw [pdk, PyData.shownKv_cons, ndsk, List.map_cons, List.sum_cons, List.length_cons]
    have e : ((pd a).shown ++ ": " ++ (pd b).shown).length = (pd a).shown.length + 2 + (pd b).shown.length := by
      rw [strLen_append, strLen_append]; rfl
    rw [e]
    omega
end
end Ab

namespace Ab
open PySem PySem.Spec PyProof.Rows L2 Sp

/-! ### what is shown is the text of a Lean string -/
def Im (x : Str) : Prop := ∃ z : String, x = Str.ofString z
theorem Im.lit (z : String) : Im (Str.ofString z) := ⟨z, rfl⟩
theorem Im.app {x y : Str} (h : Im x) (k : Im y) : Im (x ++ y) := by
  obtain ⟨a, rfl⟩ := h
  obtain ⟨b, rfl⟩ := k
  refine ⟨a ++ b, ?_⟩
  rw [Str.ofString_eq_toList, Str.ofString_eq_toList, Str.ofString_eq_toList]
  show (⟨(a.toList.map Char.toNat).toArray ++ (b.toList.map Char.toNat).toArray⟩ : Str) = _
  rw [String.toList_append, List.map_append]
  simp
theorem Im.join : ∀ {l : List Str}, (∀ x ∈ l, Im x) → Im (Str.join ", " l)
  | [], _ => Im.lit ""
  | [x], h => h x (List.mem_cons_self ..)
  | x :: y :: r, h => ((h x (List.mem_cons_self ..)).app (Im.lit ", ")).app (Im.join (l := y :: r) fun z hz => h z (List.mem_cons_of_mem _ hz))
mutual
theorem shw_im : ∀ t : T, shw t = true → Im (pd t).shown
  | .non, _ => by rw [pd, PyData.shown_none]; exact Im.lit _
  | .bl b, _ => by rw [pd, PyData.shown_bool]; cases b <;> exact Im.lit _
  | .int i, h => by rw [pd, PyData.shown_int]; exact Im.lit _
  | .str s, h => by
    rw [shw, stShow, Bool.and_eq_true] at h
    rw [pd, PyData.shown_str, of_decide_eq_true h.1]; exact Im.lit _
  | .tup l, h => by
    rw [shw] at h
    rw [pd, PyData.shown_tuple]
    refine ((Im.lit "(").app (Im.join (shws_im l h))).app ?_
    split <;> exact Im.lit _
  | .lst l, h => by
    rw [shw] at h
    rw [pd, PyData.shown_list]
    exact ((Im.lit "[").app (Im.join (shws_im l h))).app (Im.lit "]")
  | .dct _ l, h => by
    rw [shw] at h
    rw [pd, PyData.shown_dict]
    exact ((Im.lit "{").app (Im.join (shwk_im l h))).app (Im.lit "}")
  | .tupk _, h => by rw [shw] at h; cases h
  | .scr _, h => by rw [shw] at h; cases h
  | .ref _, h => by rw [shw] at h; cases h
  | .ty _, h => by rw [shw] at h; cases h
  | .con _, h => by rw [shw] at h; cases h
theorem shws_im : ∀ l : List T, shws l = true → ∀ x ∈ PyData.shownAll (pds l), Im x
  | [], _ => by rw [pds, PyData.shownAll_nil]; intro x hx; cases hx
  | t :: r, h => by
    rw [shws, Bool.and_eq_true] at h
    rw [pds, PyData.shownAll_cons]
    intro x hx
    rcases List.mem_cons.mp hx with rfl | hx
    · exact shw_im t h.1
    · exact shws_im r h.2 x hx
theorem shwk_im : ∀ l : List (T × T), shwk l = true → ∀ x ∈ PyData.shownKv (pdk l), Im x
  | [], _ => by rw [pdk, PyData.shownKv_nil]; intro x hx; cases hx
  | (a, b) :: r, h => by
    rw [shwk, Bool.and_eq_true, Bool.and_eq_true] at h
    rw [pdk, PyData.shownKv_cons]
    intro x hx
    rcases List.mem_cons.mp hx with rfl | hx
    · exact ((shw_im a h.1.1).app (Im.lit ": ")).app (shw_im b h.1.2)
    · exact shwk_im r h.2 x hx
end
/-! ### a tree is read off the heap -/
section
variable {X : Cx} {pins : List (Addr × Obj)} {σ : L2.St} {H : Hp} {s : Shared} {S : Sto} {g : G}
theorem KR.reads {h : Heap} {k : T} {kk : Key} {u : Value} (r : KR k kk) (q : keyIs kk u = true) : Reads h u (pd k) [] := by
  cases k with
  | int i =>
    cases (show kk = .inl i from r)
    rcases keyIs_shape q with ⟨j, t, e, rfl⟩ | ⟨x, t, e, rfl⟩
    · cases e; exact Reads.int i t
    · cases e
  | str z =>
    cases (show kk = .inr (.ofString z) from r)
    rcases keyIs_shape q with ⟨j, t, e, rfl⟩ | ⟨x, t, e, rfl⟩
    · cases e
    · cases e; exact Reads.str _ t
  | _ => exact False.elim r
theorem KR.readsV {h : Heap} {k : T} {kk : Key} {u : Value} (r : KR k kk) (q : RelV (kV kk) u) : Reads h u (pd k) [] := by
  cases k with
  | int i =>
    cases (show kk = .inl i from r)
    obtain ⟨t, rfl⟩ := q
    exact Reads.int i t
  | str z =>
    cases (show kk = .inr (.ofString z) from r)
    obtain ⟨t, rfl⟩ := q
    exact Reads.str _ t
  | _ => exact False.elim r
theorem KRs.readsV {h : Heap} : ∀ {ks : List T} {kk : List Key} {us : List Value}, KRs ks kk → Vals (kk.map kV) us → ReadsAll h us (pds ks) []
  | _, _, _, .nil, .nil => by rw [pds]; exact .nil
  | _, _, _, .cons r rr, .cons q qq => by rw [pds]; exact ReadsAll.cons (as := []) (bs := []) (KR.readsV r q) (KRs.readsV rr qq)
theorem keys_reads {h : Heap} {K : PySem.W.Frag} : ∀ {ps : List (T × T)} {kvs : List (Key × V)} {us : List Value}, Rpk K g ps kvs → Paired (fun (p : Key × V) (u : Value) => keyIs p.1 u = true) kvs us → ReadsAll h us ((pdk ps).map (·.1)) []
  | _, _, _, .nil, .nil => by rw [pdk]; exact .nil
  | _, _, _, .cons r _ rr, .cons q qq => by rw [pdk]; exact ReadsAll.cons (as := []) (bs := []) (KR.reads r q) (keys_reads rr qq)
theorem keysT_reads (I : L2.Inv X pins σ H s) {K : PySem.W.Frag} : ∀ {ps : List (T × T)} {kvs : List (List Key × V)} {us : List Value}, Rpt K g ps kvs → Paired (fun (p : List Key × V) (u : Value) => ∃ a, u = .ref a ∧ H a = some (.tup (p.1.map kV))) kvs us → ReadsAll s.heap us ((pdk ps).map (·.1)) []
  | _, _, _, .nil, .nil => by rw [pdk]; exact .nil
  | _, _, _, .cons r _ rr, .cons q qq => by
    rw [pdk]
    refine ReadsAll.cons (as := []) (bs := []) ?_ (keysT_reads I rr qq)
    obtain ⟨a, rfl, e⟩ := q
    obtain ⟨_, its, rv, ⟨o, ho, hc, n, hd⟩⟩ := I.hok a _ e
    rw [pd]
    exact Reads.tuple ho hc hd (KRs.readsV r rv)
mutual
theorem Rp.readsD (W : Wd X.K S H g) (I : L2.Inv X pins σ H s) : ∀ {t : T} {v : V}, Rp X.K g t v → shw t = true → ∀ u : Value, RelV v u → ∃ as, Reads s.heap u (pd t) as ∧ (nol t = true → sysModules ∉ as)
  | _, _, .non, _, u, r => by cases r; exact ⟨[], by rw [pd]; exact Reads.none, fun _ h => nomatch h⟩
  | _, _, .bl b, _, u, r => by cases r; exact ⟨[], by rw [pd]; exact Reads.bool b, fun _ h => nomatch h⟩
  | _, _, .int i, _, u, r => by obtain ⟨t, rfl⟩ := r; exact ⟨[], by rw [pd]; exact Reads.int i t, fun _ h => nomatch h⟩
  | _, _, .str z, _, u, r => by obtain ⟨t, rfl⟩ := r; exact ⟨[], by rw [pd]; exact Reads.str _ t, fun _ h => nomatch h⟩
  | _, _, .ty _, h, _, _ => by rw [shw] at h; cases h
  | _, _, .con _, h, _, _ => by rw [shw] at h; cases h
  | _, _, .ref _, h, _, _ => by rw [shw] at h; cases h
  | _, _, .tupk _ _, h, _, _ => by rw [shw] at h; cases h
  | _, _, .scr _ _, h, _, _ => by rw [shw] at h; cases h
  | _, _, .tup (ts := ts) (vs := vs) q _ rs, h, u, r => by
    rw [shw] at h
    cases r
    obtain ⟨its, rv, ⟨o, ho, hc, n, hd⟩, _⟩ := I.tuple (SqT.sub q W.sub)
    obtain ⟨as, hr, hn⟩ := Rps.readsD W I rs h its rv
    refine ⟨as, ?_, fun z => hn (by rw [nol] at z; exact z)⟩
    rw [pd]; exact Reads.tuple ho hc hd hr
  | _, _, .lst (ts := ts) (a := a) (vs := vs) e rs, h, u, r => by
    rw [shw] at h
    cases r
    obtain ⟨_, its, n, rv, ho⟩ := I.hok _ _ (W.sub _ _ e)
    obtain ⟨as, hr, hn⟩ := Rps.readsD W I rs h its rv
    refine ⟨a :: as, ?_, fun z => by rw [nol] at z; cases z⟩
    rw [pd]; exact Reads.list ho rfl rfl hr
  | _, _, .dct (ps := ps) (a := a) (kvs := kvs) e rs, h, u, r => by
    rw [shw] at h
    cases r
    obtain ⟨e0, _, hsys, vs, kv, o, es, ep, ho, hx, hd, _, pr, _⟩ := I.hok _ _ (W.sub _ _ e)
    have hp : ∀ {es : List DictEntry} {vs : List (Key × Value)} {kvs : List (Key × V)}, KV kvs vs → Pairs (mixKind X.prog X.w) es vs → Paired (fun (p : Key × V) (u : Value) => keyIs p.1 u = true) kvs (es.map (·.key)) ∧ Vals (kvs.map (·.2)) (es.map (·.val)) := by
      intro es vs kvs a b
      induction b generalizing kvs with
      | nil => cases a; exact ⟨.nil, .nil⟩
      | cons k1 k2 _ ih =>
        cases a with
        | cons c cc =>
          obtain ⟨i1, i2⟩ := ih cc
          exact ⟨.cons (by rw [c.1]; exact k1) i1, .cons (by have c2 := c.2; rw [← k2] at c2; exact c2) i2⟩
    obtain ⟨p1, p2⟩ := hp kv pr
    obtain ⟨bs, hr, hn⟩ := Rpk.readsD W I rs h _ p2
    refine ⟨a :: [] ++ bs, ?_, fun z hm => ?_⟩
    · rw [pd]; exact Reads.dict ho hx.1 hd (keys_reads rs p1) hr
    · rw [nol] at z
      rcases List.mem_cons.mp hm with e1 | hm
      · rw [← e1] at hsys; simp at hsys
      · exact hn z hm
  | _, _, .dctT (ps := ps) (a := a) (kvs := kvs) e rs, h, u, r => by
    rw [shw] at h
    cases r
    obtain ⟨e0, _, hsys, xs, kv, o, es, ep, ho, hx, hd, he, _⟩ := I.hok _ _ (W.sub _ _ e)
    have hp : ∀ {xs : List (List Key × Addr × Value)} {kvs : List (List Key × V)}, Paired (fun (p : List Key × V) (q : List Key × Addr × Value) => p.1 = q.1 ∧ H q.2.1 = some (.tup (p.1.map kV)) ∧ RelV p.2 q.2.2) kvs xs →
        Paired (fun (p : List Key × V) (u : Value) => ∃ a, u = .ref a ∧ H a = some (.tup (p.1.map kV))) kvs ((xs.map (entryOfKey (tupleKind (mixKind X.prog X.w)))).map (·.key)) ∧ Vals (kvs.map (·.2)) ((xs.map (entryOfKey (tupleKind (mixKind X.prog X.w)))).map (·.val)) := by
      intro xs kvs a
      induction a with
      | nil => exact ⟨.nil, .nil⟩
      | cons c _ ih => exact ⟨.cons ⟨_, rfl, c.2.1⟩ ih.1, .cons c.2.2 ih.2⟩
    obtain ⟨p1, p2⟩ := hp kv
    rw [← he] at p1 p2
    obtain ⟨bs, hr, hn⟩ := Rpt.readsD W I rs h _ p2
    refine ⟨a :: [] ++ bs, ?_, fun z hm => ?_⟩
    · rw [pd]; exact Reads.dict ho hx.1 hd (keysT_reads I rs p1) hr
    · rw [nol] at z
      rcases List.mem_cons.mp hm with e1 | hm
      · rw [← e1] at hsys; simp at hsys
      · exact hn z hm
theorem Rps.readsD (W : Wd X.K S H g) (I : L2.Inv X pins σ H s) : ∀ {ts : List T} {vs : List V}, Rps X.K g ts vs → shws ts = true → ∀ us : List Value, Vals vs us → ∃ as, ReadsAll s.heap us (pds ts) as ∧ (nols ts = true → sysModules ∉ as)
  | _, _, .nil, _, _, .nil => ⟨[], by rw [pds]; exact .nil, fun _ h => nomatch h⟩
  | _, _, .cons r rr, h, _, .cons q qq => by
    rw [shws, Bool.and_eq_true] at h
    obtain ⟨as, h1, n1⟩ := Rp.readsD W I r h.1 _ q
    obtain ⟨bs, h2, n2⟩ := Rps.readsD W I rr h.2 _ qq
    refine ⟨as ++ bs, by rw [pds]; exact ReadsAll.cons h1 h2, fun z hm => ?_⟩
    rw [nols, Bool.and_eq_true] at z
    rcases List.mem_append.mp hm with hm | hm
    · exact n1 z.1 hm
    · exact n2 z.2 hm
theorem Rpk.readsD (W : Wd X.K S H g) (I : L2.Inv X pins σ H s) : ∀ {ps : List (T × T)} {kvs : List (Key × V)}, Rpk X.K g ps kvs → shwk ps = true → ∀ us : List Value, Vals (kvs.map (·.2)) us → ∃ as, ReadsAll s.heap us ((pdk ps).map (·.2)) as ∧ (nolk ps = true → sysModules ∉ as)
  | _, _, .nil, _, _, .nil => ⟨[], by rw [pdk]; exact .nil, fun _ h => nomatch h⟩
  | _, _, .cons _ r rr, h, _, .cons q qq => by
    rw [shwk, Bool.and_eq_true, Bool.and_eq_true] at h
    obtain ⟨as, h1, n1⟩ := Rp.readsD W I r h.1.2 _ q
    obtain ⟨bs, h2, n2⟩ := Rpk.readsD W I rr h.2 _ qq
    refine ⟨as ++ bs, by rw [pdk]; exact ReadsAll.cons h1 h2, fun z hm => ?_⟩
    rw [nolk, Bool.and_eq_true] at z
    rcases List.mem_append.mp hm with hm | hm
    · exact n1 z.1 hm
    · exact n2 z.2 hm
theorem Rpt.readsD (W : Wd X.K S H g) (I : L2.Inv X pins σ H s) : ∀ {ps : List (T × T)} {kvs : List (List Key × V)}, Rpt X.K g ps kvs → shwk ps = true → ∀ us : List Value, Vals (kvs.map (·.2)) us → ∃ as, ReadsAll s.heap us ((pdk ps).map (·.2)) as ∧ (nolk ps = true → sysModules ∉ as)
  | _, _, .nil, _, _, .nil => ⟨[], by rw [pdk]; exact .nil, fun _ h => nomatch h⟩
  | _, _, .cons _ r rr, h, _, .cons q qq => by
    rw [shwk, Bool.and_eq_true, Bool.and_eq_true] at h
    obtain ⟨as, h1, n1⟩ := Rp.readsD W I r h.1.2 _ q
    obtain ⟨bs, h2, n2⟩ := Rpt.readsD W I rr h.2 _ qq
    refine ⟨as ++ bs, by rw [pdk]; exact ReadsAll.cons h1 h2, fun z hm => ?_⟩
    rw [nolk, Bool.and_eq_true] at z
    rcases List.mem_append.mp hm with hm | hm
    · exact n1 z.1 hm
    · exact n2 z.2 hm
end
end
/-! ### the call -/
def isRf : T → Bool
  | .tup _ => true
  | .lst _ => true
  | .dct _ _ => true
  | _ => false
structure RpOk (t : T) : Prop where
  rf : isRf t = true
  sh : shw t = true
  md : nol t = true ∨ nod t = true
  nd : nds t ≤ 155000
  dp : (pd t).depth ≤ 20
open Classical in
noncomputable def rtx (t : T) : String := if h : ∃ z : String, (pd t).shown = Str.ofString z then choose h else ""
theorem rtx_ok {t : T} (h : shw t = true) : (pd t).shown = Str.ofString (rtx t) := by
  have q : ∃ z : String, (pd t).shown = Str.ofString z := shw_im t h
  unfold rtx
  rw [dif_pos q]
  exact Classical.choose_spec q
/-- handles of lists, in a tuple: as their lists -/
def rs1 (S : Sto) : T → T
  | .ref n => match S[n]? with
    | some (.lst l) => .lst l
    | _ => .ref n
  | t => t
def rsv (S : Sto) : T → T
  | .tup l => .tup (l.map (rs1 S))
  | t => t
section
variable {X : Cx} {pins : List (Addr × Obj)} {σ : L2.St} {H : Hp} {s : Shared} {S : Sto} {g : G}
theorem rs1_reads (W : Wd X.K S H g) (I : L2.Inv X pins σ H s) {t : T} {v : V} (r : Rp X.K g t v) (h : shw (rs1 S t) = true) (u : Value) (ru : RelV v u) : ∃ as, Reads s.heap u (pd (rs1 S t)) as ∧ (nol (rs1 S t) = true → sysModules ∉ as) := by
  cases r with
  | ref e =>
    rename_i n a
    cases q : S[n]? with
    | none => simp only [rs1, q] at h; rw [shw] at h; cases h
    | some o =>
      cases o with
      | lst l =>
        simp only [rs1, q] at h ⊢
        rw [shw] at h
        obtain ⟨vs, e1, rs⟩ := W.cell n _ a q (fun z => nomatch z) e
        cases ru
        obtain ⟨_, its, m, rv, ho⟩ := I.hok _ _ e1
        obtain ⟨as, hr, _⟩ := Rps.readsD W I rs h its rv
        refine ⟨a :: as, ?_, fun z => by rw [nol] at z; cases z⟩
        rw [pd]; exact Reads.list ho rfl rfl hr
      | _ => simp only [rs1, q] at h; rw [shw] at h; cases h
  | _ => exact Rp.readsD W I (by first | exact .non | exact .bl _ | exact .int _ | exact .str _ | exact .ty _ | exact .con _ | (constructor <;> assumption)) h u ru
theorem rs1s_reads (W : Wd X.K S H g) (I : L2.Inv X pins σ H s) : ∀ {ts : List T} {vs : List V}, Rps X.K g ts vs → shws (ts.map (rs1 S)) = true → ∀ us : List Value, Vals vs us → ∃ as, ReadsAll s.heap us (pds (ts.map (rs1 S))) as ∧ (nols (ts.map (rs1 S)) = true → sysModules ∉ as)
  | _, _, .nil, _, _, .nil => ⟨[], by rw [List.map_nil, pds]; exact .nil, fun _ h => nomatch h⟩
  | _, _, .cons r rr, h, _, .cons q qq => by
    rw [List.map_cons, shws, Bool.and_eq_true] at h
    obtain ⟨as, h1, n1⟩ := rs1_reads W I r h.1 _ q
    obtain ⟨bs, h2, n2⟩ := rs1s_reads W I rr h.2 _ qq
    refine ⟨as ++ bs, by rw [List.map_cons, pds]; exact ReadsAll.cons h1 h2, fun z hm => ?_⟩
    rw [List.map_cons, nols, Bool.and_eq_true] at z
    rcases List.mem_append.mp hm with hm | hm
    · exact n1 z.1 hm
    · exact n2 z.2 hm
theorem rsv_reads (W : Wd X.K S H g) (I : L2.Inv X pins σ H s) {t : T} {v : V} (r : Rp X.K g t v) (h : shw (rsv S t) = true) (u : Value) (ru : RelV v u) : ∃ as, Reads s.heap u (pd (rsv S t)) as ∧ (nol (rsv S t) = true → sysModules ∉ as) := by
  cases r with
  | tup q e rs =>
    rename_i ts a vs
    simp only [rsv] at h ⊢
    rw [shw] at h
    cases ru
    obtain ⟨its, rv, ⟨o, ho, hc, n, hd⟩, _⟩ := I.tuple (SqT.sub q W.sub)
    obtain ⟨as, hr, hn⟩ := rs1s_reads W I rs h its rv
    refine ⟨as, ?_, fun z => hn (by rw [nol] at z; exact z)⟩
    rw [pd]; exact Reads.tuple ho hc hd hr
  | ref e => exact Rp.readsD W I (.ref e) h u ru
  | _ => exact Rp.readsD W I (by first | exact .non | exact .bl _ | exact .int _ | exact .str _ | exact .ty _ | exact .con _ | (constructor <;> assumption)) h u ru
end
open Classical in
noncomputable def opRepr : List T → Sto → R T := fun ts S => match ts with
  | [t] => if RpOk (rsv S t) then .ok (.str (rtx (rsv S t))) S else .bad
  | _ => .bad
theorem opRepr_ok {t : T} {S : Sto} (h : RpOk (rsv S t)) : opRepr [t] S = .ok (.str (rtx (rsv S t))) S := if_pos h
def rRepr (K : PySem.W.Frag) : List V → Hp → VK → Prop := fun xs H Q => ∃ (t : T) (S : Sto) (g : G) (v : V), Wd K S H g ∧ Rp K g t v ∧ xs = [v] ∧ RpOk (rsv S t) ∧ Q (.str (.ofString (rtx (rsv S t)))) H
theorem up_repr {K : PySem.W.Frag} : UpN K opRepr (rRepr K) := by
  intro E S H g xs vs Q W r p
  match xs, r, p with
  | [t], .cons (v := v) r .nil, p =>
    by_cases h : RpOk (rsv S t)
    · rw [opRepr_ok h] at p
      exact ⟨t, S, g, v, W, r, rfl, h, p _ H g W (.refl S H g) (.str _)⟩
    · have e : opRepr [t] S = .bad := if_neg h
      rw [e] at p; exact False.elim p
  | [], _, p => exact False.elim p
  | _ :: _ :: _, _, p => exact False.elim p
theorem call_repr {X : Cx} {K : PySem.W.Frag} (hg : X.A.guards = some []) (hu : X.A.units + 64 < cLine) (hK : X.K = K := by rfl) : CallR X (.builtin "repr") (rRepr K) := by
  subst hK
  intro pins s σ H xs us Q I r h
  obtain ⟨t, S, g, v, W, rp, rfl, ok, q⟩ := h
  cases r with
  | cons r1 r2 =>
    cases r2
    rename_i u
    obtain ⟨as, hr, hn⟩ := rsv_reads W I rp ok.sh u r1
    generalize rsv S t = x at ok hr hn q
    obtain ⟨a, rfl⟩ : ∃ a, u = .ref a := by
      have z := ok.rf
      cases x with
      | tup l => rw [pd] at hr; cases hr; exact ⟨_, rfl⟩
      | lst l => rw [pd] at hr; cases hr; exact ⟨_, rfl⟩
      | dct b l => rw [pd] at hr; cases hr; exact ⟨_, rfl⟩
      | _ => cases z
    have hl : (pd x).shown.length ≤ sizeLine := by
      have z := shw_len x ok.sh
      have z2 := ok.nd
      have : sizeLine = 2 ^ 24 := rfl
      omega
    refine repr_of_reads' hr (shw_able x ok.sh) (fun hd => ?_) hg (by have := ok.dp; omega) (fun _ _ e => e) (fun h' u tk hk => ?_) hl
    · rcases ok.md with z | z
      · exact hn z
      · rw [nod_pd x z] at hd; cases hd
    · exact ⟨.str (.ofString (rtx x)), H, I.kept hk, ⟨u, by rw [rtx_ok ok.sh]⟩, q⟩
end Ab

namespace Ab
open PySem PySem.Spec PyProof.Rows L2 Sp

/-! ### defs that run while no repr is under way (they may call repr) -/
structure FnG (P : Program) (w : World) (K : PySem.W.Frag) (mg : Str → Option Value) (base : Heap) (k : Nat) (f : Addr) (fd : FuncData) (ps : List Str) (sp : Sp) : Prop where
  len : ∀ vs H Q E, sp vs H Q E → vs.length = ps.length
  run : ∀ (A : Around) (outer : List Env) (s : Shared) (H : Hp) (args : Args) (us : List Value) (vs : List V) (Q : VK) (E : XK), A.guards = some [] → Room k A → Env0 P w K mg base A outer s H → BindsTo s fd args (ps.zip us) → Vals vs us → sp vs H Q E →
    codeAny (model P w) A (.call (.ref f) args) (CR (L2.CX P w) outer P w H s Q E) s
theorem FunD.okG {P : Program} {w : World} {K : PySem.W.Frag} {mg : Str → Option Value} {base : Heap} {x qual : Str} {params : Arguments} {body : List Stmt} {scope : Scope} {f : Addr} {fd : FuncData} {N ps : List Str} {k : Nat} {sp : Sp}
    (F : FunD K x qual params body scope [] [] f fd) (S : FnScope N ps scope) (len : ∀ vs H Q E, sp vs H Q E → vs.length = ps.length)
    (hbody : ∀ (cdv : Value) (A : Around) (outer : List Env) (s : Shared) (H : Hp) (vs : List V) (Q : VK) (E : XK), (A.deeper (envOfC qual scope s.heap.objs.size f cdv)).guards = some [] → Room k (A.deeper (envOfC qual scope s.heap.objs.size f cdv)) → sp vs H Q E →
      ∃ t, PSs (cxOf (L2.CX P w) P w K mg base N qual scope f cdv A outer s H E) body t ∧ t { nx := fun _ H' => Q .non H', rt := Q } (L2.start N vs) H) : FnG P w K mg base (k + 1) f fd ps sp := by
  obtain ⟨oc, od, dV, kV, doc, pm, an, cdv, ct, osl, rfl, lk, hcd, _, _⟩ := F.ex
  refine ⟨len, fun A outer s H args us vs Q E hG hr e0 hb rv hs => ?_⟩
  have kin : K.In s.heap := e0.mod.kin.keeps fun b o e => (e0.bs b o e).1
  have nl := e0.mod.nolimit.keeps fun b o e => (e0.bs b o e).1
  have kinds : ∀ y ∈ ps.zip us, scope.names.lookup y.1 = some .local ∨ (scope.names.lookup y.1 = some .cell ∧ ((cellsFrom (s.heap.objs.size + 1) scope.names []).lookup y.1).isSome = true) := by
    rintro ⟨n, v⟩ hy
    rcases S.par n (List.of_mem_zip hy).1 with q | q
    · exact .inl q
    · exact .inr ⟨q, PySem.W.cellsFrom_some _ _ _ (.inl q)⟩
  refine codeAny_call_function hr.depth (kin _ _ lk) rfl S.co S.gen rfl (PySem.W.codeRec_of kin hcd) (hb _ _ _ _ (wpAny_newFunctionEnv_cells S.kind kinds ?_))
  rintro env rfl s1 x
  refine ⟨nl.keeps x.toInCall.keep, codeAny_func ?_⟩
  obtain ⟨t, pt, ht⟩ := hbody cdv A outer s H vs Q E hG (hr.deeper _) hs
  refine wpAny_mono (pt.run [] s1 (L2.start N vs) H _ (inv_start S hr.hd e0 (len _ _ _ _ hs) rv x) ht) ?_ fun e s' z => z
  intro fl s' z
  match fl, z with
  | .ret u, ⟨v, _, H', J, r, q⟩ => exact ⟨v, H', J.os, J.bare, J.base, J.hok, r, q⟩
  | .next, ⟨_, H', J, q⟩ => exact ⟨.non, H', J.os, J.bare, J.base, J.hok, rfl, q⟩
  | .brk, ⟨_, _, _, q⟩ => exact False.elim q
  | .cont, ⟨_, _, _, q⟩ => exact False.elim q
def OkdG (P : Program) (w : World) (K : PySem.W.Frag) (mg : Str → Option Value) (base : Heap) (p : Str × Option Str) (k : Nat) (ps : List Str) (sp : Sp) : Prop :=
  ∃ fd, Binds K fd ps [] ∧ PySem.W.keepIn K (.ref (He.fAd K p)) = true ∧ FnG P w K mg base k (He.fAd K p) fd ps sp
section
variable {P : Program} {w : World} {K : PySem.W.Frag} {mg : Str → Option Value} {base : Heap} {fa : List He.Fa} {fn : List He.DefD} {ts : List He.Tab} {exs : List (PySem.W.Frag → Bool)}
theorem okdG (T : Tx fa fn ts exs w K mg) (i : Nat) {at_ : Str × Option Str} {name qual : Str} {params : Arguments} {body : List Stmt} {scope : Scope} {N ps : List Str} {k : Nat} {sp : Sp}
    (e : fn[i]? = some ⟨at_, name, qual, params, body, scope, [], []⟩) (S : FnScope N ps scope)
    (hb : ∀ (kV doc pm : Value) (an : Option Addr) (cdv ct : Value) (us : List Value), us.length = ps.length → bindArgs (PySem.W.fnOf name qual params body scope .none kV doc pm an cdv ct) ⟨us, []⟩ = pure (ps.zip us))
    (len : ∀ vs H Q E, sp vs H Q E → vs.length = ps.length)
    (hbody : ∀ (f : Addr) (cdv : Value) (A : Around) (outer : List Env) (s : Shared) (H : Hp) (vs : List V) (Q : VK) (E : XK), (A.deeper (envOfC qual scope s.heap.objs.size f cdv)).guards = some [] → Room k (A.deeper (envOfC qual scope s.heap.objs.size f cdv)) → sp vs H Q E →
      ∃ t, PSs (cxOf (L2.CX P w) P w K mg base N qual scope f cdv A outer s H E) body t ∧ t { nx := fun _ H' => Q .non H', rt := Q } (start N vs) H) :
    OkdG P w K mg base at_ (k + 1) ps sp := by
  obtain ⟨fd, F⟩ := T.says.d.def_ i e
  exact ⟨fd, F.bindsN hb, F.kp, FunD.okG F S len (hbody _)⟩
end
section
variable {X : Cx} {k n : Nat} {ps : List Str} {f : AF} {x : Str} {p pos : Pos} {e : Expr} {es : List Expr} {ra : AA} {K : PySem.W.Frag} {E : XS}
theorem aCallG (hG : X.A.guards = some []) (O : OkdG X.prog X.w K X.mg X.base (x, none) k ps (spA K n f)) (tk : Takes X (wx E)) (hr : Room k X.A) (hm : X.mg x = some (.ref (He.ga K x))) (ha : PA X (e :: es) (LA K E ra)) (ln : Len ra n) (hg : Gl X x := by rfl) (hK : X.K = K := by rfl) (hdb : (x == ("__debug__" : Str)) = false := by decide)
    (he : starEach (e :: es) X.env = (false, eval e X.env) :: starEach es X.env := by rfl) (hpl : (backTo pos (starEach es X.env)).any (·.1) = false := by rfl) : PE X (.Call (.Name x p) (e :: es) [] pos) (LE K E (mCall f ra)) := by
  subst hK
  obtain ⟨fd, hb, hk, F⟩ := O
  refine PE.weak (t := tCallS (spA X.K n f) E (LA X.K E ra)) ⟨fun pins s σ H Q I h => ?_⟩ fun σ H Q h => LA.call ln h
  refine wpAny_Call_Name_kw (ld_glob I hg hm ?_ hdb)
  refine PySem.W.callWith_K (h₀ := X.base) I.ok.mod.kin hk (thn (ha.run pos pins s σ H _ I h) fun us s1 ⟨vs, H1, I1, r, q⟩ => ⟨I1.kIn, ?_⟩) he hpl
  have b := hb s1 us I1.kIn (by rw [List.append_nil, ← r.length]; exact F.len _ _ _ _ q)
  rw [List.append_nil] at b
  refine wpAny_call (codeAny_mono (F.run X.A X.stack s1 H1 ⟨us, []⟩ us vs Q (E σ) hG hr I1.env0 b r q) fun rr s' z => ?_)
  match rr, z with
  | .error er, z => exact passW tk σ pins H1 s1 er s' I1 z
  | .ok (.ret u), z => exact I1.after z
  | .ok .next, z => exact False.elim z
  | .ok .brk, z => exact False.elim z
  | .ok .cont, z => exact False.elim z
end
/-! ### the law's own call -/
section
variable {P : Program} {w : World} {K : PySem.W.Frag} {mg mb : Str → Option Value} {k : Nat} {fa a : Addr} {fd : FuncData} {x : Str} {sp : Sp} {s₁ : Shared} {vs : List Value} {ns : List Int}
/-- the call from a heap in which at most the script is tracked -/
theorem run_top {H : Hp} (KX : K.In s₁.heap) (hns : s₁.heap.Ns mainGlobals mg) (hb : s₁.heap.Ns builtinsNs mb) (hbb : ∀ x : Str, x ≠ "__name__" → mb x = bootBuiltins x) (hlim : s₁.heap.NoLimit) (hg : s₁.gens = #[])
    (hr : Room k callerA) (F : ∀ base : Heap, K.In base → base.Ns mainGlobals mg → FnG P w K mg base k fa fd [x] sp) (hbind : ∀ (s : Shared) (u : Value), BindsTo s fd ⟨[u], []⟩ [(x, u)])
    (hsp : sp [.ref a] H (fun v _ => v = .bl true) fun _ _ _ => False) (hok : HOk P w H s₁.heap) (hO : Only H) (hA : ∀ b o, s₁.heap.get? b = some o → (H b = none ∨ (∃ z n, o.data = .seq z n) ∧ K.lookup b = none)) :
    codeAny (model P w) callerA (.call (.ref fa) ⟨[.ref a], []⟩) (fun r s' => r = .ok (.ret (.bool true)) ∧ OldK s₁.heap s'.heap ∧ s'.os = s₁.os ∧ AllBare s'.gens) s₁ := by
  have nsK : ∀ {b : Addr} {m : Str → Option Value}, s₁.heap.Ns b m → (hidT s₁.heap H).Ns b m := by
    rintro b m ⟨o, es, ep, e, d, r⟩
    rcases hA b o e with q | ⟨⟨z, n, q⟩, _⟩
    · exact ⟨o, es, ep, hidT_get e q, d, r⟩
    · rw [d] at q; cases q
  have kb : K.In (hidT s₁.heap H) := fun b o e => by
    rcases hA b o (KX b o e) with q | ⟨_, q⟩
    · exact hidT_get (KX b o e) q
    · rw [q] at e; cases e
  obtain ⟨mc, l1, l2⟩ := hlim
  have e0 : Env0 P w K mg (hidT s₁.heap H) callerA [] s₁ H := {
    frames := rfl
    mod := ⟨kb, nsK hns, ⟨mb, nsK hb, hbb⟩, ⟨mc, nsK l1, l2⟩⟩
    bs := fun b o e => of_hidT e
    bsz := Nat.le_of_eq (hidT_size _ _)
    funs := trivial
    frf := fun b hb => nomatch (show b ∈ ([] : List Addr) from hb)
    hok := hok
    bare := .of_eq hg }
  refine codeAny_mono ((F _ kb (nsK hns)).run callerA [] s₁ H ⟨[.ref a], []⟩ [.ref a] [.ref a] _ _ rfl hr e0 (hbind s₁ (.ref a)) (.cons rfl .nil) hsp) fun r s' z => ?_
  match r, z with
  | .error e, z => exact (noX H s₁ e s' z).elim
  | .ok .next, z => exact False.elim z
  | .ok .brk, z => exact False.elim z
  | .ok .cont, z => exact False.elim z
  | .ok (.ret u), ⟨v, H', os, bare, un, hok', r', q⟩ =>
    cases (show v = .bl true from q)
    cases (show u = Value.bool true from r')
    refine ⟨rfl, OldK.of_keep fun b o e => ?_, os, bare⟩
    cases c : H b with
    | none => exact un.keep b o e c (fun z => nomatch (show b ∈ ([] : List Addr) from z)) (by simp)
    | some u =>
      rcases hO b with z | ⟨ob, xs, z⟩
      · rw [c] at z; cases z
      · have z1 := (hok b _ z).1
        have z2 := (hok' b _ (un.frzs b ob _ z)).1
        rw [e] at z1; cases z1
        exact z2
theorem law_callG (KX : K.In s₁.heap) (hns : s₁.heap.Ns mainGlobals mg) (hb : s₁.heap.Ns builtinsNs mb) (hbb : ∀ x : Str, x ≠ "__name__" → mb x = bootBuiltins x) (hlim : s₁.heap.NoLimit) (hg : s₁.gens = #[])
    (ha : s₁.heap.get? a = some { cls := .type "list", data := .seq vs.toArray }) (hi : IntsAre vs ns) (hl : ns.length ≤ sizeLine) (hr : Room k callerA)
    (F : ∀ base : Heap, K.In base → base.Ns mainGlobals mg → FnG P w K mg base k fa fd [x] sp) (hbind : ∀ (s : Shared) (u : Value), BindsTo s fd ⟨[u], []⟩ [(x, u)])
    (hsp : ∀ H : Hp, Only H → SqL K H a (ns.map V.int) → sp [.ref a] H (fun v _ => v = .bl true) fun _ _ _ => False) :
    codeAny (model P w) callerA (.call (.ref fa) ⟨[.ref a], []⟩) (fun r s' => r = .ok (.ret (.bool true)) ∧ OldK s₁.heap s'.heap ∧ s'.os = s₁.os ∧ AllBare s'.gens) s₁ := by
  have rv := L2.vals_ints hi
  cases hk : K.lookup a with
  | some o =>
    obtain rfl : o = _ := Option.some.inj ((KX a o hk).symm.trans ha)
    have sq : SqL K (fun _ => none) a (ns.map V.int) := .inr ⟨_, vs.toArray, _, hk, rfl, rfl, rfl, by rw [List.size_toArray, hi.length]; exact hl, by simpa using rv⟩
    exact run_top (H := fun _ => none) KX hns hb hbb hlim hg hr F hbind (hsp _ (fun _ => .inl rfl) sq) (fun b u z => by cases (show (none : Option HO) = some u from z)) (fun _ => .inl rfl) fun _ _ _ => .inl rfl
  | none =>
    have no : Only (upd (fun _ => none) a (.frz { cls := .type "list", data := .seq vs.toArray } (.lst (ns.map V.int)))) := fun b => by
      by_cases h : b = a
      · subst h; exact .inr ⟨_, _, upd_same⟩
      · exact .inl (upd_ne h)
    refine run_top (H := upd (fun _ => none) a (.frz { cls := .type "list", data := .seq vs.toArray } (.lst (ns.map V.int)))) KX hns hb hbb hlim hg hr F hbind (hsp _ no (.inl (.inr ⟨{ cls := .type "list", data := .seq vs.toArray }, upd_same⟩))) (fun b u z => ?_) no fun b o e => ?_
    · by_cases h : b = a
      · subst h
        rw [upd_same] at z; cases z
        exact ⟨ha, by rw [List.length_map]; exact hl, vs, _, rv, ha⟩
      · rw [upd_ne h] at z; cases z
    · by_cases h : b = a
      · subst h
        rw [ha] at e; cases e
        exact .inr ⟨⟨_, _, rfl⟩, hk⟩
      · exact .inl (upd_ne h)
theorem walk_ofWG {l : PySem.W.OpenLaw} {n k : Nat} {q : Program} {loose : List Str} {XP : (Str → Option Value) → Heap → Prop} {YP : World → Heap → Prop} {d : DefRec} {x : Str}
    (hn : l.most = some n) (hn2 : n ≤ sizeLine) (hdf : d.params.defaults = []) (hr : Room k callerA)
    (F : ∀ (w : World) (mg : Str → Option Value) (fa : Addr) (h : Heap), YP w h → h.Ns mainGlobals mg → mg d.name = some (.ref fa) →
      ∃ (K : PySem.W.Frag) (fd : FuncData) (sp : Sp), K.In h ∧ (∀ (s : Shared) (u : Value), BindsTo s fd ⟨[u], []⟩ [(x, u)]) ∧
        (∀ (H : Hp) (a : Addr) (ns : List Int), ns.length ≤ n → Only H → SqL K H a (ns.map V.int) → sp [.ref a] H (fun v _ => v = .bl true) fun _ _ _ => False) ∧
        ∀ base : Heap, K.In base → base.Ns mainGlobals mg → FnG l.prog w K mg base k fa fd [x] sp) :
    PySem.W.WalkO q loose XP YP l.row.toRowW d [] (fun f vs => PySem.call f vs) := by
  refine Att.attach_call hn hdf fun w s₀ s₁ mg mb fa o pm cd doc a vs ns G Y ho hd hcd hmg hobj hints hlen hg => ?_
  obtain ⟨K, fd, sp, KX, hb, hsp, hF⟩ := F w mg fa _ Y G.T.g hmg
  exact law_callG KX G.T.g G.T.b G.T.builtins G.T.nolimit hg hobj hints (Nat.le_trans hlen hn2) hr hF hb fun H hO hS => hsp H a ns hlen hO hS
end
end Ab

namespace Ab
open PySem PySem.Spec PyProof.Rows L2 Sp

/-! ### xs[::-1], list(range(n)) -/
def opRevL (fz : Bool) (x : T) (S : Sto) : R T := match lkL S x with
  | some l => mkL fz l.reverse S
  | none => .bad
def mRevL (fz : Bool) (a : AE) : AE := m1 (opRevL fz) a
theorem Rps.rev {K : PySem.W.Frag} {g : G} : ∀ {ts : List T} {vs : List V}, Rps K g ts vs → Rps K g ts.reverse vs.reverse
  | _, _, .nil => .nil
  | _, _, .cons r rr => by rw [List.reverse_cons, List.reverse_cons]; exact rr.rev.append (.cons r .nil)
theorem rps_map {K : PySem.W.Frag} {g : G} {α : Type} {f : α → T} {h : α → V} (q : ∀ a, Rp K g (f a) (h a)) : ∀ l : List α, Rps K g (l.map f) (l.map h)
  | [] => .nil
  | a :: l => .cons (q a) (rps_map q l)
def opLRg (fz : Bool) (x : T) (S : Sto) : R T := match x with
  | .int n => if 0 ≤ n ∧ n ≤ 1000 then mkL fz (rngT 0 n) S else .bad
  | _ => .bad
def mLRg (fz : Bool) (a : AE) : AE := m1 (opLRg fz) a
section
variable {K : PySem.W.Frag} {X : Cx} {E : XS} {e : Expr} {pos : Pos} {ea : AE}
theorem aRevL (fz : Bool) {k} {p1 p2 p3 : Pos} (ha : PE X e (LE K E ea)) (hK : X.K = K := by rfl) : PE X (.Subscript e (.Slice none none (some (.UnaryOp .USub (.Constant (.int 1) k p1) p2)) p3) pos) (LE K E (mRevL fz ea)) := by
  subst hK
  refine PE.weak (pe_revL ha) fun σ H Q ⟨st, S, g, w, sl, p⟩ => LE.bind (f := fun x _ S => opRevL fz x S) w sl p fun t S1 v H1 g1 w1 sl1 x1 r1 p1 => ?_
  unfold opRevL at p1
  split at p1
  · rename_i l e
    obtain ⟨a, vs, rfl, h1, rs⟩ := lkL_rp w1 e r1
    exact ⟨a, vs, rfl, h1, Post.newLst p1 w1 rs.rev⟩
  · exact p1.elim
theorem aLRg (fz : Bool) {p q pos2 : Pos} (hml : X.mg "list" = none) (hmr : X.mg "range" = none) (ha : PE X e (LE K E ea)) (hc : X.calm = true := by rfl) (hgl : Gl X "list" := by rfl) (hgr : Gl X "range" := by rfl)
    (n1 : starEach [e] X.env = (false, eval e X.env) :: starEach [] X.env := by rfl) (n2 : starEach [Expr.Call (.Name "range" q) [e] [] pos2] X.env = (false, eval (Expr.Call (.Name "range" q) [e] [] pos2) X.env) :: starEach [] X.env := by rfl) :
    PE X (.Call (.Name "list" p) [.Call (.Name "range" q) [e] [] pos2] [] pos) (LE K E (mLRg fz ea)) := by
  refine PE.weak (pe_listRg hc hgl hml (prg_1 hgr hmr ha n1) n2) fun σ H Q ⟨st, S, g, w, sl, p⟩ => LE.bind (f := fun x _ S => opLRg fz x S) w sl p fun t S1 v H1 g1 w1 sl1 x1 r1 p1 => ?_
  unfold opLRg at p1
  split at p1
  · split at p1
    · rename_i n c
      cases r1
      refine ⟨n, rfl, ⟨by omega, by omega, by omega, by omega, by omega⟩, Post.newLst p1 w1 ?_⟩
      exact rps_map (fun (i : Nat) => .int (0 + (i : Int))) _
    · exact p1.elim
  · exact p1.elim
end
/-- the walk's rules -/
theorem e_revL {fz : Bool} {a : AE} {st : Slots} {S : Sto} : mRevL fz a st S = (a st S).bind (opRevL fz) := rfl
theorem e_lrg {fz : Bool} {a : AE} {st : Slots} {S : Sto} : mLRg fz a st S = (a st S).bind (opLRg fz) := rfl
theorem e_lrg_int {fz : Bool} {n : Int} {S : Sto} (h : 0 ≤ n ∧ n ≤ 1000) : opLRg fz (.int n) S = mkL fz (rngT 0 n) S := if_pos h
theorem e_revL_ref {fz : Bool} {n : Nat} {l : List T} {S : Sto} (h : S[n]? = some (.lst l)) : opRevL fz (.ref n) S = mkL fz l.reverse S := by
  have e : lkL S (.ref n) = some l := by
    show (match S[n]? with | some (.lst l) => some l | _ => none) = some l
    rw [h]
  unfold opRevL
  rw [e]
end Ab

namespace Ab
open PySem PySem.Spec PyProof.Rows L2 Sp
/-! ### != of tuples with dicts in them that are equal -/
open AutoSeq1 (wpAny_loadPart')
theorem tupNe_in {P : Program} {w : World} (a1 a2 : Addr) (xs ys : Array Value) (n1 n2 : Nat) (d1 d2 : Option Addr) (z1 z2 : Array (Option Value)) (hsz : xs.size = ys.size) : MeetsIn P w (Builtin.«tuple.__ne__» ⟨[.ref a1, .ref a2], []⟩)
    (fun A R s => s.heap.get? a1 = some { cls := .type "tuple", dict := d1, data := .seq xs n1, slots := z1 } ∧ s.heap.get? a2 = some { cls := .type "tuple", dict := d2, data := .seq ys n2, slots := z2 } ∧
      (∀ j (h1 : j < xs.size) (h2 : j < ys.size), SeqAt.EqP P w A.in1 s xs[j] ys[j] true) ∧ R (.ok (.ret (.bool false))) s) := by
  intro A R sh hh
  obtain ⟨hp, gg, dd, tk, os⟩ := sh
  obtain ⟨h1, h2, he, hR⟩ := hh
  have sub := AutoSeq1.sub_tuple_tuple
  have zl : (xs.toList.zip ys.toList).length = xs.size := by simp [hsz]
  wp_walk using wpAny_loadPart' h1, wpAny_loadPart' h2, wpAny_forIn_list _ (fun rest q s' => q.1 = none ∧ s' = ⟨hp, gg, dd, tk, os⟩ ∧ ∃ i, rest = (xs.toList.zip ys.toList).drop i) _
  case turn =>
    rintro ⟨y, x⟩ rest q s' ⟨hq, rfl, i, hz⟩
    have lt : i < (xs.toList.zip ys.toList).length := by
      rcases Nat.lt_or_ge i (xs.toList.zip ys.toList).length with c | c
      · exact c
      · rw [List.drop_of_length_le c] at hz; cases hz
    have i1 : i < xs.size := zl ▸ lt
    have i2 : i < ys.size := hsz ▸ i1
    rw [List.drop_eq_getElem_cons lt] at hz
    injection hz with hyx hrest
    have hy : y = xs[i] := by have := congrArg Prod.fst hyx; simpa using this
    have hx : x = ys[i] := by have := congrArg Prod.snd hyx; simpa using this
    subst hy hx
    refine wpAny_bind (he i i1 i2 _ _ ?_)
    wp_walk
    exact ⟨rfl, rfl, i + 1, hrest⟩
  case fin =>
    rintro ⟨q1, q2⟩ s' ⟨hq, rfl, i, hz⟩
    simp only at hq
    subst hq
    wp_walk
    simpa [Builtin.Tuple.tupleCompareSizes, hsz] using hR
  case h => exact ⟨rfl, rfl, 0, rfl⟩
theorem rcTupNe {P : Program} {w : World} {A : Around} {s : Shared} {a1 a2 : Addr} {xs ys : Array Value} (t1 : s.heap.IsTuple a1 xs) (t2 : s.heap.IsTuple a2 ys) (hsz : xs.size = ys.size) (hu : A.units < cLine)
    (he : ∀ j (h1 : j < xs.size) (h2 : j < ys.size), SeqAt.EqP P w A.in1 s xs[j] ys[j] true) (Er Q : Value → Shared → Prop) (q : Q (.bool false) s) : wpAny (model P w) A (compareOp .NotEq (.ref a1) (.ref a2)) Q Er s := by
  obtain ⟨⟨c1, d1, data1, z1⟩, o1, e1, n1, f1⟩ := t1
  obtain ⟨⟨c2, d2, data2, z2⟩, o2, e2, n2, f2⟩ := t2
  simp only at e1 f1 e2 f2
  subst e1 f1 e2 f2
  have ty1 : s.TypeIs (.ref a1) "tuple" := ⟨_, o1, rfl⟩
  have ty2 : s.TypeIs (.ref a2) "tuple" := ⟨_, o2, rfl⟩
  exact wpAny_richCompare_same_room (op := .NotEq) ty1 ty2 PySem.F.slot_tuple_ne (call_meetsIn PySem.F.slot_tuple_ne ty1 PySem.F.entry_tuple_ne (PySem.F.args_tuple_ne_2 _ _) (tupNe_in a1 a2 xs ys n1 n2 d1 d2 z1 z2 hsz) ⟨o1, o2, he, show Value.bool false ≠ Value.notImplemented ∧ Q (.bool false) s from ⟨(fun x => nomatch x), q⟩⟩) hu
def rNeTD (K : PySem.W.Frag) : R2 := fun x y H Q => ∃ S g n l m, Wd K S H g ∧ n ≤ 50 ∧ TEqN (n + 1) (.tup l) (.tup m) ∧ Rp K g (.tup l) x ∧ Rp K g (.tup m) y ∧ Q (.bl false) H
theorem op_neTD {X : Cx} (K : PySem.W.Frag) (hu : X.A.units + 64 < cLine) (hK : X.K = K := by rfl) : OpR X (compareOp .NotEq) (rNeTD K) := by
  subst hK
  intro pins s σ H x y v u Q I rx ry ⟨S, g, n, l, m, w, hn, h, r1, r2, q⟩
  have ih := eq_run I w n X.A.in1 (by show X.A.units + 1 + n < cLine; omega)
  obtain ⟨a', vs, rfl, h1, q1⟩ := r1.tupH w
  obtain ⟨b', ws, rfl, h2, q2⟩ := r2.tupH w
  cases rx; cases ry
  obtain ⟨us, p1, t1, _⟩ := I.tuple h1
  obtain ⟨us', p2, t2, _⟩ := I.tuple h2
  obtain ⟨sz, he⟩ := items_eq ih h.1 h.2 q1 q2 p1 p2
  exact rcTupNe t1 t2 sz (by omega) he _ _ ⟨.bl false, H, I, rfl, q⟩
open Classical in
noncomputable def opNeTD (x y : T) (S : Sto) : R T := match x, y with
  | .tup l, .tup m => if ∃ n, n ≤ 50 ∧ TEqN (n + 1) (.tup l) (.tup m) then .ok (.bl false) S else .bad
  | _, _ => .bad
theorem up_neTD {K : PySem.W.Frag} : Up2 K opNeTD (rNeTD K) := by
  intro E S H g x y v w Q W rx ry p
  unfold opNeTD at p
  split at p
  · split at p
    · rename_i c
      obtain ⟨n, hn, h⟩ := c
      exact ⟨S, g, n, _, _, W, hn, h, rx, ry, p.val W (.bl _)⟩
    · exact p.elim
  · exact p.elim
theorem e_neTD {l m : List T} {S : Sto} {n : Nat} (hn : n ≤ 50) (h : TEqN (n + 1) (.tup l) (.tup m)) : opNeTD (.tup l) (.tup m) S = .ok (.bl false) S := if_pos ⟨n, hn, h⟩
end Ab

namespace Ab
open PySem PySem.Spec PyProof.Rows L2 Sp
/-! ### a caught error handed on: except C as e: return f(e) -/
section
variable {Y : Cx} {K : PySem.W.Frag} {Z : String → Prop} {i : Nat} {a : Addr} {c : Expr} {ss : List Stmt} {r : Stmt} {pos : Pos} {ea eb ec : String → AE}
theorem PostS.rtOnly {E : XS} {S : Sto} {H : Hp} {g : G} {st : Slots} {e : AE} {D D' : L2.Ends} (p : PostS K E S H g (mRet e st S) D) (h : D'.rt = D.rt) : PostS K E S H g (mRet e st S) D' := by
  unfold mRet at p ⊢
  cases q : e st S with
  | ok t S1 =>
    rw [q] at p
    intro v H' g' w x r
    have := p v H' g' w x r
    rw [h]; exact this
  | exc x S1 => rw [q] at p; exact p
  | bad => rw [q] at p; exact p
theorem axIfRet (h1 : PE Y c (LX K Z i a ea)) (h2 : PSs Y ss (LXS K Z i a fun x => mRet (eb x))) (h3 : PSs Y [r] (LXS K Z i a fun x => mRet (ec x)))
    (he : ∀ whole, isTrue c Y.env whole = (do let v ← whole; standAt c.pos; holding [v] (truthy v)) := by intro _; rfl) :
    PSs Y [.If c ss [] pos, r] (LXS K Z i a fun x => mIf (mB (ea x)) (mRet (eb x)) (mRet (ec x))) :=
  PSs.weak (pss_cons (ps_if (pt_val h1 he) h2 pss_nil) h3) fun D σ H ⟨x, hx, hσ, st, S, g, w, sl, p⟩ => by
    refine ⟨x, hx, hσ, LE.tB (LT.run (et := mB (ea x)) (f := fun k S => if k = true then mRet (eb x) st S else mRet (ec x) st S) w sl p fun k S1 H1 g1 w1 sl1 x1 p1 => ?_)⟩
    cases k with
    | true =>
      rw [if_pos rfl] at p1 ⊢
      exact ⟨x, hx, hσ, st, S1, g1, w1, sl1, PostS.rtOnly p1 rfl⟩
    | false =>
      rw [if_neg Bool.false_ne_true] at p1 ⊢
      exact ⟨x, hx, hσ, st, S1, g1, w1, sl1, p1⟩
end
theorem wpA_eq {α : Type} {M : Model} {A A' : Around} {t : Sem α} {Q : α → Shared → Prop} {E : Value → Shared → Prop} {s : Shared} (h : A = A') (r : wpAny M A t Q E s) : wpAny M A' t Q E s := h ▸ r
/-- a def's body runs where an exception is handled, and raises nothing -/
theorem runQ {P : Program} {w : World} {K : PySem.W.Frag} {mg : Str → Option Value} {base : Heap} {x qual : Str} {params : Arguments} {body : List Stmt} {scope : Scope} {f : Addr} {fd : FuncData} {N ps : List Str} {k : Nat}
    (F : FunD K x qual params body scope [] [] f fd) (S : FnScope N ps scope) {A : Around} {outer : List Env} {s : Shared} {H : Hp} {args : Args} {us : List Value} {vs : List V} {Q : VK} {a : Addr} {oe : Obj}
    (hr : L2H.RoomH (k + 1) A) (hh : A.handled = some (.ref a)) (hp : L2H.PinOk outer H s (a, oe)) (e0 : Env0 P w K mg base A outer s H) (hb : BindsTo s fd args (ps.zip us)) (rv : Vals vs us) (hl : vs.length = ps.length)
    (hbody : ∀ cdv : Value, ∃ t, PSs ((cxOf (L2.CX P w) P w K mg base N qual scope f cdv A outer s H (fun _ _ _ => False)).suite a [(a, oe)]) body t ∧ t { nx := fun _ H' => Q .non H', rt := Q } (L2.start N vs) H) :
    codeAny (model P w) A (.call (.ref f) args) (fun r s' => match r with | .ok (.ret u) => CE outer P w H s Q u s' | _ => False) s := by
  obtain ⟨oc, od, dV, kV, doc, pm, an, cdv, ct, osl, rfl, lk, hcd, _, _⟩ := F.ex
  have kin : K.In s.heap := e0.mod.kin.keeps fun b o e => (e0.bs b o e).1
  have nl := e0.mod.nolimit.keeps fun b o e => (e0.bs b o e).1
  have kinds : ∀ y ∈ ps.zip us, scope.names.lookup y.1 = some .local ∨ (scope.names.lookup y.1 = some .cell ∧ ((cellsFrom (s.heap.objs.size + 1) scope.names []).lookup y.1).isSome = true) := by
    rintro ⟨n, v⟩ hy
    rcases S.par n (List.of_mem_zip hy).1 with q | q
    · exact .inl q
    · exact .inr ⟨q, PySem.W.cellsFrom_some _ _ _ (.inl q)⟩
  refine codeAny_call_function hr.depth (kin _ _ lk) rfl S.co S.gen rfl (PySem.W.codeRec_of kin hcd) (hb _ _ _ _ (wpAny_newFunctionEnv_cells S.kind kinds ?_))
  rintro env rfl s1 z
  refine ⟨nl.keeps z.toInCall.keep, codeAny_func ?_⟩
  obtain ⟨t, pt, ht⟩ := hbody cdv
  have I := L2H.inv_startH (CX := L2.CX P w) (E := fun _ _ _ => False) (f := f) (cd := cdv) (qual := qual) S hp e0 hl rv z
  have hA : (A.deeper (envOfC qual scope s.heap.objs.size f cdv)).mark (some (.ref a)) = A.deeper (envOfC qual scope s.heap.objs.size f cdv) := by
    obtain ⟨hd, dp, fr, gs, un⟩ := A
    cases (show hd = some (.ref a) from hh)
    rfl
  have I' : Inv ((cxOf (L2.CX P w) P w K mg base N qual scope f cdv A outer s H (fun _ _ _ => False)).suite a [(a, oe)]) [] (L2.start N vs) H s1 :=
    ⟨⟨I.ok.mod, I.ok.kind, I.ok.glob, I.ok.blt, I.ok.above, I.ok.inj, I.ok.has, I.ok.cab, (fun q => Bool.noConfusion (show false = true from q)), I.ok.frames, I.ok.stk, I.ok.exf, I.ok.bs, I.ok.bsz, I.ok.noex, I.ok.exfs, I.ok.funs, I.ok.frf⟩,
      I.os, I.bare, I.base, I.loc, I.cell, I.free, I.freeC, I.pin, I.hok, I.len⟩
  have run := pt.run [] s1 (L2.start N vs) H _ I' ht
  refine wpAny_mono (wpA_eq hA run) ?_ fun e s' q => False.elim q
  intro fl s' q
  match fl, q with
  | .ret u, ⟨v, _, H', J, r, q⟩ => exact ⟨v, H', J.os, J.bare, J.base, J.hok, r, q⟩
  | .next, ⟨_, H', J, q⟩ => exact ⟨.non, H', J.os, J.bare, J.base, J.hok, rfl, q⟩
  | .brk, ⟨_, _, _, q⟩ => exact False.elim q
  | .cont, ⟨_, _, _, q⟩ => exact False.elim q
def cX (n : Nat) (s : String → AS) (x : String) : AE := fun _ S => match s x (List.replicate n none) S with
  | .rt t S' => .ok t S'
  | _ => .bad
/-- the call in the suite -/
theorem axCall1 {X : Cx} {K : PySem.W.Frag} {tb : List (String × Bool)} {cls : Value} {d : Option Addr} {i k : Nat} {a : Addr} {oe : Obj} {pn : List (Addr × Obj)} {x n : Str} {p p2 pos : Pos} {sx : String → AS}
    {name qual : Str} {params : Arguments} {body : List Stmt} {scope : Scope} {fd : FuncData} {N : List Str} {ps : List Str}
    (F : FunD X.K name qual params body scope [] [] (He.ga X.K x) fd) (hk : PySem.W.keepIn X.K (.ref (He.ga X.K x)) = true) (S : FnScope N ps scope) (hN : ps.length = 1)
    (hb : ∀ (kV doc pm : Value) (an : Option Addr) (cdv ct : Value) (us : List Value), us.length = ps.length → bindArgs (PySem.W.fnOf name qual params body scope .none kV doc pm an cdv ct) ⟨us, []⟩ = pure (ps.zip us))
    (hbody : ∀ (A : Around) (outer : List Env) (s : Shared) (H : Hp) (cdv : Value), PSs ((cxOf (L2.CX X.prog X.w) X.prog X.w X.K X.mg X.base N qual scope (He.ga X.K x) cdv A outer s H (fun _ _ _ => False)).suite a [(a, oe)]) body (LXS K (TBx K tb cls d) 0 a sx))
    (hr : L2H.RoomH (k + 1) X.A) (hm : X.mg x = some (.ref (He.ga X.K x))) (hi : X.N[i]? = some n := by rfl) (hL : Vis X.env.scope n := by exact .inl rfl) (hdn : (n == ("__debug__" : Str)) = false := by decide) (hcd : (n == ("__classdict__" : Str)) = false := by decide) (hg : Gl X x := by rfl) (hdb : (x == ("__debug__" : Str)) = false := by decide)
    (he : starEach [Expr.Name n p2] X.env = (false, eval (.Name n p2) X.env) :: starEach [] X.env := by rfl) (hpl : (backTo pos (starEach [] X.env)).any (·.1) = false := by rfl) :
    PE (X.suite a ((a, oe) :: pn)) (.Call (.Name x p) [.Name n p2] [] pos) (LX K (TBx K tb cls d) i a (cX N.length sx)) := by
  refine ⟨fun pins s σ H Q I h => ?_⟩
  obtain ⟨y, hy, hσ, st, S0, g, w, sl, q⟩ := h
  refine wpAny_Call_Name_kw (ld_glob I hg hm ?_ hdb)
  have ha : PA (X.suite a ((a, oe) :: pn)) [.Name n p2] (tCons (tVar i) tNil) := pa_cons (pe_var hi hL hdn hcd) pa_nil he
  refine PySem.W.callWith_K (h₀ := X.base) I.ok.mod.kin hk (thn (ha.run pos pins s σ H (fun vs H1 => vs = [.ref a] ∧ H1 = H) I ⟨.ref a, hσ, rfl, rfl⟩) fun us s1 ⟨vs, H1, I1, r, q1, q2⟩ => ⟨I1.kIn, ?_⟩) he hpl
  subst q1 q2
  have b := (F.bindsN hb) s1 us I1.kIn (by rw [List.append_nil, ← r.length, hN]; rfl)
  rw [List.append_nil] at b
  have P1 := I1.pin (a, oe) (List.mem_append_left _ (List.mem_cons_self ..))
  have hpin : L2H.PinOk X.stack H1 s1 (a, oe) := ⟨P1.1, P1.2.1, fun hm => (List.mem_cons.mp (I1.stkSub a hm)).elim P1.2.2.1 P1.2.2.2.1, P1.2.2.2.2⟩
  have hr' : L2H.RoomH (k + 1) (X.suite a ((a, oe) :: pn)).A := ⟨hr.dp, hr.un⟩
  refine wpAny_call (codeAny_mono (runQ (k := k) (Q := Q) (vs := [.ref a]) (us := us) F S hr' rfl hpin I1.env0 b r (by rw [hN]; rfl) fun cdv => ⟨_, hbody _ _ _ _ cdv, ?_⟩) fun rr s' z => ?_)
  · have hs : (L2.start N [V.ref a])[0]? = some (some (.ref a)) := rfl
    have ln : (List.replicate N.length (none : Option T)).length = (L2.start N [V.ref a]).length := by
      have hpl : ps.length ≤ N.length := by have := congrArg List.length S.pre; rw [List.length_take] at this; omega
      unfold L2.start
      simp; omega
    refine ⟨y, hy, hs, List.replicate N.length none, S0, g, w, ⟨ln, fun j t e => ?_⟩, ?_⟩
    · rw [List.getElem?_replicate] at e
      split at e <;> cases e
    · unfold cX at q
      cases z : sx y (List.replicate N.length none) S0 with
      | rt t S' =>
        rw [z] at q
        exact q
      | _ => rw [z] at q; exact q.elim
  · match rr, z with
    | .ok (.ret u), z => exact I1.after z
theorem axCallT {X : Cx} {K : PySem.W.Frag} {fa : List He.Fa} {fn : List He.DefD} {ts : List He.Tab} {exs : List (PySem.W.Frag → Bool)} {w : World} {mg : Str → Option Value} (T : Tx fa fn ts exs w K mg) (j : Nat)
    {tb : List (String × Bool)} {cls : Value} {d : Option Addr} {i : Nat} {a : Addr} {oe : Obj} {pn : List (Addr × Obj)} {x n : Str} {p p2 pos : Pos} {sx : String → AS}
    {name qual : Str} {params : Arguments} {body : List Stmt} {scope : Scope} {N ps : List Str} (e : fn[j]? = some ⟨(x, none), name, qual, params, body, scope, [], []⟩) (S : FnScope N ps scope) (hN : ps.length = 1)
    (hb : ∀ (kV doc pm : Value) (an : Option Addr) (cdv ct : Value) (us : List Value), us.length = ps.length → bindArgs (PySem.W.fnOf name qual params body scope .none kV doc pm an cdv ct) ⟨us, []⟩ = pure (ps.zip us))
    (hK : X.K = K) (hmg : X.mg = mg)
    (hbody : ∀ (A : Around) (outer : List Env) (s : Shared) (H : Hp) (cdv : Value), PSs ((cxOf (L2.CX X.prog X.w) X.prog X.w K mg X.base N qual scope (He.ga K x) cdv A outer s H (fun _ _ _ => False)).suite a [(a, oe)]) body (LXS K (TBx K tb cls d) 0 a sx))
    (hr : Room 1 X.A) (hm : mg x = some (.ref (He.ga K x))) (hi : X.N[i]? = some n := by rfl) (hL : Vis X.env.scope n := by exact .inl rfl) (hdn : (n == ("__debug__" : Str)) = false := by decide) (hcd : (n == ("__classdict__" : Str)) = false := by decide) (hg : Gl X x := by rfl) (hdb : (x == ("__debug__" : Str)) = false := by decide)
    (he : starEach [Expr.Name n p2] X.env = (false, eval (.Name n p2) X.env) :: starEach [] X.env := by rfl) (hpl : (backTo pos (starEach [] X.env)).any (·.1) = false := by rfl) :
    PE (X.suite a ((a, oe) :: pn)) (.Call (.Name x p) [.Name n p2] [] pos) (LX K (TBx K tb cls d) i a (cX N.length sx)) := by
  obtain ⟨fd, F⟩ := T.says.d.def_ j e
  subst hK hmg
  exact axCall1 (k := 0) F F.kp S hN hb hbody (L2H.roomH_of hr) hm hi hL hdn hcd hg hdb he hpl
theorem e_cX {n : Nat} {s : String → AS} {x : String} {st : Slots} {S : Sto} : cX n s x st S = match s x (List.replicate n none) S with
  | .rt t S' => .ok t S'
  | _ => .bad := rfl
end Ab

namespace K02
open PySem PySem.Spec PyProof.Rows L2 Sp Ab
def top (i : Nat) : Stmt := PySem.Challenge.pw_spindlegate_k02_flash_power.main.body.getD i (.Pass ⟨0, 0, 0, 0⟩)
abbrev s__law_tape : Stmt := top 14
def d__law_tape : He.DefD := ⟨("_law_tape", none), "_law_tape", "_law_tape", defArgs s__law_tape, defBody s__law_tape, defScope s__law_tape, [], []⟩
abbrev s_is_between : Stmt := top 10
def d_is_between : He.DefD := ⟨("is_between", none), "is_between", "is_between", defArgs s_is_between, defBody s_is_between, defScope s_is_between, [], []⟩
abbrev s_Flash___init__ : Stmt := inClass (top 12) 0
def d_Flash___init__ : He.DefD := ⟨("Flash", some "__init__"), "__init__", "Flash.__init__", defArgs s_Flash___init__, defBody s_Flash___init__, defScope s_Flash___init__, [], []⟩
abbrev s__law_at : Stmt := top 15
def d__law_at : He.DefD := ⟨("_law_at", none), "_law_at", "_law_at", defArgs s__law_at, defBody s__law_at, defScope s__law_at, [], []⟩
abbrev s__law_next : Stmt := top 18
def d__law_next : He.DefD := ⟨("_law_next", none), "_law_next", "_law_next", defArgs s__law_next, defBody s__law_next, defScope s__law_next, [], []⟩
abbrev s_Flash_check_block : Stmt := inClass (top 12) 1
def d_Flash_check_block : He.DefD := ⟨("Flash", some "check_block"), "check_block", "Flash.check_block", defArgs s_Flash_check_block, defBody s_Flash_check_block, defScope s_Flash_check_block, [], []⟩
abbrev s_Flash_check_page : Stmt := inClass (top 12) 2
def d_Flash_check_page : He.DefD := ⟨("Flash", some "check_page"), "check_page", "Flash.check_page", defArgs s_Flash_check_page, defBody s_Flash_check_page, defScope s_Flash_check_page, [], []⟩
abbrev s_next_page : Stmt := top 11
def d_next_page : He.DefD := ⟨("next_page", none), "next_page", "next_page", defArgs s_next_page, defBody s_next_page, defScope s_next_page, [], []⟩
abbrev s_Flash_operate : Stmt := inClass (top 12) 4
def d_Flash_operate : He.DefD := ⟨("Flash", some "operate"), "operate", "Flash.operate", defArgs s_Flash_operate, defBody s_Flash_operate, defScope s_Flash_operate, [], []⟩
abbrev s_Flash_program : Stmt := inClass (top 12) 5
def d_Flash_program : He.DefD := ⟨("Flash", some "program"), "program", "Flash.program", defArgs s_Flash_program, defBody s_Flash_program, defScope s_Flash_program, [], []⟩
abbrev s_Flash_fill : Stmt := inClass (top 12) 7
def d_Flash_fill : He.DefD := ⟨("Flash", some "fill"), "fill", "Flash.fill", defArgs s_Flash_fill, defBody s_Flash_fill, defScope s_Flash_fill, [], []⟩
abbrev s_Flash_erase : Stmt := inClass (top 12) 6
def d_Flash_erase : He.DefD := ⟨("Flash", some "erase"), "erase", "Flash.erase", defArgs s_Flash_erase, defBody s_Flash_erase, defScope s_Flash_erase, [], []⟩
abbrev s_Flash_read : Stmt := inClass (top 12) 3
def d_Flash_read : He.DefD := ⟨("Flash", some "read"), "read", "Flash.read", defArgs s_Flash_read, defBody s_Flash_read, defScope s_Flash_read, [], []⟩
abbrev s_Flash_fail_after : Stmt := inClass (top 12) 9
def d_Flash_fail_after : He.DefD := ⟨("Flash", some "fail_after"), "fail_after", "Flash.fail_after", defArgs s_Flash_fail_after, defBody s_Flash_fail_after, defScope s_Flash_fail_after, [], []⟩
abbrev s_Flash_cut : Stmt := inClass (top 12) 10
def d_Flash_cut : He.DefD := ⟨("Flash", some "cut"), "cut", "Flash.cut", defArgs s_Flash_cut, defBody s_Flash_cut, defScope s_Flash_cut, [], []⟩
abbrev s__law_kind : Stmt := top 16
def d__law_kind : He.DefD := ⟨("_law_kind", none), "_law_kind", "_law_kind", defArgs s__law_kind, defBody s__law_kind, defScope s__law_kind, [], []⟩
abbrev s__law_do : Stmt := top 17
def d__law_do : He.DefD := ⟨("_law_do", none), "_law_do", "_law_do", defArgs s__law_do, defBody s__law_do, defScope s__law_do, [], []⟩
abbrev s__law_apply : Stmt := top 19
def d__law_apply : He.DefD := ⟨("_law_apply", none), "_law_apply", "_law_apply", defArgs s__law_apply, defBody s__law_apply, defScope s__law_apply, [], []⟩
abbrev s__law_cut : Stmt := top 21
def d__law_cut : He.DefD := ⟨("_law_cut", none), "_law_cut", "_law_cut", defArgs s__law_cut, defBody s__law_cut, defScope s__law_cut, [], []⟩
abbrev s__law_due : Stmt := top 20
def d__law_due : He.DefD := ⟨("_law_due", none), "_law_due", "_law_due", defArgs s__law_due, defBody s__law_due, defScope s__law_due, [], []⟩
abbrev s_Flash_wear : Stmt := inClass (top 12) 8
def d_Flash_wear : He.DefD := ⟨("Flash", some "wear"), "wear", "Flash.wear", defArgs s_Flash_wear, defBody s_Flash_wear, defScope s_Flash_wear, [], []⟩
abbrev s__law_same : Stmt := top 22
def d__law_same : He.DefD := ⟨("_law_same", none), "_law_same", "_law_same", defArgs s__law_same, defBody s__law_same, defScope s__law_same, [], []⟩
abbrev s_Flash_image : Stmt := inClass (top 12) 11
def d_Flash_image : He.DefD := ⟨("Flash", some "image"), "image", "Flash.image", defArgs s_Flash_image, defBody s_Flash_image, defScope s_Flash_image, [], []⟩
abbrev s_law : Stmt := top 23
def d_law : He.DefD := ⟨("law", none), "law", "law", defArgs s_law, defBody s_law, defScope s_law, [], []⟩
theorem sc__law_tape : FnScope ["_law_script", "_law_tape_here", "_law_k", "_law_value", "_law_step"] ["_law_script"] (defScope s__law_tape) := ⟨rfl, rfl, rfl, by decide +kernel, rfl, by decide +kernel, by decide +kernel⟩
theorem sc_is_between : FnScope ["value", "low", "high"] ["value", "low", "high"] (defScope s_is_between) := ⟨rfl, rfl, rfl, by decide +kernel, rfl, by decide +kernel, by decide +kernel⟩
theorem sc_Flash___init__ : FnScope ["self", "blocks", "block"] ["self", "blocks"] (defScope s_Flash___init__) := ⟨rfl, rfl, rfl, by decide +kernel, rfl, by decide +kernel, by decide +kernel⟩
theorem sc__law_at : FnScope ["_law_tape_here", "_law_k"] ["_law_tape_here", "_law_k"] (defScope s__law_at) := ⟨rfl, rfl, rfl, by decide +kernel, rfl, by decide +kernel, by decide +kernel⟩
theorem sc__law_next : FnScope ["_law_pages", "_law_last", "_law_page"] ["_law_pages"] (defScope s__law_next) := ⟨rfl, rfl, rfl, by decide +kernel, rfl, by decide +kernel, by decide +kernel⟩
theorem sc_Flash_check_block : FnScope ["self", "block"] ["self", "block"] (defScope s_Flash_check_block) := ⟨rfl, rfl, rfl, by decide +kernel, rfl, by decide +kernel, by decide +kernel⟩
theorem sc_Flash_check_page : FnScope ["self", "block", "page"] ["self", "block", "page"] (defScope s_Flash_check_page) := ⟨rfl, rfl, rfl, by decide +kernel, rfl, by decide +kernel, by decide +kernel⟩
theorem sc_next_page : FnScope ["pages", "last", "page"] ["pages"] (defScope s_next_page) := ⟨rfl, rfl, rfl, by decide +kernel, rfl, by decide +kernel, by decide +kernel⟩
theorem sc_Flash_operate : FnScope ["self", "operation"] ["self", "operation"] (defScope s_Flash_operate) := ⟨rfl, rfl, rfl, by decide +kernel, rfl, by decide +kernel, by decide +kernel⟩
theorem sc_Flash_program : FnScope ["self", "block", "page", "record"] ["self", "block", "page", "record"] (defScope s_Flash_program) := ⟨rfl, rfl, rfl, by decide +kernel, rfl, by decide +kernel, by decide +kernel⟩
theorem sc_Flash_fill : FnScope ["self", "block", "content"] ["self", "block", "content"] (defScope s_Flash_fill) := ⟨rfl, rfl, rfl, by decide +kernel, rfl, by decide +kernel, by decide +kernel⟩
theorem sc_Flash_erase : FnScope ["self", "block"] ["self", "block"] (defScope s_Flash_erase) := ⟨rfl, rfl, rfl, by decide +kernel, rfl, by decide +kernel, by decide +kernel⟩
theorem sc_Flash_read : FnScope ["self", "block", "page"] ["self", "block", "page"] (defScope s_Flash_read) := ⟨rfl, rfl, rfl, by decide +kernel, rfl, by decide +kernel, by decide +kernel⟩
theorem sc_Flash_fail_after : FnScope ["self", "count"] ["self", "count"] (defScope s_Flash_fail_after) := ⟨rfl, rfl, rfl, by decide +kernel, rfl, by decide +kernel, by decide +kernel⟩
theorem sc_Flash_cut : FnScope ["self", "choice", "block", "page", "record", "content"] ["self", "choice"] (defScope s_Flash_cut) := ⟨rfl, rfl, rfl, by decide +kernel, rfl, by decide +kernel, by decide +kernel⟩
theorem sc__law_kind : FnScope ["_law_e"] ["_law_e"] (defScope s__law_kind) := ⟨rfl, rfl, rfl, by decide +kernel, rfl, by decide +kernel, by decide +kernel⟩
theorem sc__law_do : FnScope ["_law_flash", "_law_act", "_law_block", "_law_page", "_law_record", "_law_e"] ["_law_flash", "_law_act", "_law_block", "_law_page", "_law_record"] (defScope s__law_do) := ⟨rfl, rfl, rfl, by decide +kernel, rfl, by decide +kernel, by decide +kernel⟩
theorem sc__law_apply : FnScope ["_law_held", "_law_wears", "_law_act", "_law_block", "_law_page", "_law_content"] ["_law_held", "_law_wears", "_law_act", "_law_block", "_law_page", "_law_content"] (defScope s__law_apply) := ⟨rfl, rfl, rfl, by decide +kernel, rfl, by decide +kernel, by decide +kernel⟩
theorem sc__law_cut : FnScope ["_law_held", "_law_wears", "_law_world", "_law_choice", "_law_act", "_law_block", "_law_page", "_law_record", "_law_content"] ["_law_held", "_law_wears", "_law_world", "_law_choice"] (defScope s__law_cut) := ⟨rfl, rfl, rfl, by decide +kernel, rfl, by decide +kernel, by decide +kernel⟩
theorem sc__law_due : FnScope ["_law_held", "_law_wears", "_law_world", "_law_act", "_law_block", "_law_page", "_law_record", "_law_content"] ["_law_held", "_law_wears", "_law_world", "_law_act", "_law_block", "_law_page", "_law_record"] (defScope s__law_due) := ⟨rfl, rfl, rfl, by decide +kernel, rfl, by decide +kernel, by decide +kernel⟩
theorem sc_Flash_wear : FnScope ["self", "block"] ["self", "block"] (defScope s_Flash_wear) := ⟨rfl, rfl, rfl, by decide +kernel, rfl, by decide +kernel, by decide +kernel⟩
theorem sc__law_same : FnScope ["_law_told", "_law_due_here"] ["_law_told", "_law_due_here"] (defScope s__law_same) := ⟨rfl, rfl, rfl, by decide +kernel, rfl, by decide +kernel, by decide +kernel⟩
theorem sc_Flash_image : FnScope ["self", "block"] ["self"] (defScope s_Flash_image) := ⟨rfl, rfl, rfl, by decide +kernel, rfl, by decide +kernel, by decide +kernel⟩
theorem sc_law : FnScope ["_law_script", "_law_tape_here", "_law_flash", "_law_block", "_law_held", "_law_wears", "_law_world", "_law_k", "_law_number", "_law_pick", "_law_act", "_law_page", "_law_count", "_law_due_here", "_law_told", "_law_choice"] ["_law_script"] (defScope s_law) := ⟨rfl, rfl, rfl, by decide +kernel, rfl, by decide +kernel, by decide +kernel⟩
def fn : List He.DefD := [d__law_tape, d_is_between, d_Flash___init__, d__law_at, d__law_next, d_Flash_check_block, d_Flash_check_page, d_next_page, d_Flash_operate, d_Flash_program, d_Flash_fill, d_Flash_erase, d_Flash_read, d_Flash_fail_after, d_Flash_cut, d__law_kind, d__law_do, d__law_apply, d__law_cut, d__law_due, d_Flash_wear, d__law_same, d_Flash_image, d_law]
def fa : List He.Fa := [.free "len", .free "range", .free "abs", .free "int", .free "isinstance", .free "bool", .int "MAX_BLOCKS" 24, .int "MIN_BLOCKS" 8, .glo "is_between", .exc "NotValid", .glo "NotValid", .cls "Flash", .noat "Flash" "blocks", .int "PAGES" 8, .noat "Flash" "held", .noat "Flash" "wears", .noat "Flash" "left", .noat "Flash" "power", .noat "Flash" "broken", .meth "Flash" "check_block", .exc "PowerOff", .glo "PowerOff", .meth "Flash" "check_page", .glo "next_page", .free "tuple", .meth "Flash" "operate", .meth "Flash" "fill", .int "MAX_COUNT" 100000, .str "TORN" "torn", .meth "Flash" "program", .meth "Flash" "erase", .meth "Flash" "read", .meth "Flash" "fail_after", .meth "Flash" "cut", .glo "_law_kind", .exm "NotValid" "SpindleError" true, .exm "PowerOff" "SpindleError" true, .glo "SpindleError", .glo "_law_apply", .glo "_law_next", .free "list", .glo "_law_tape", .mkr "Flash", .glo "Flash", .free "min", .glo "_law_at", .glo "_law_do", .glo "_law_cut", .glo "_law_due", .meth "Flash" "wear", .glo "_law_same", .meth "Flash" "image", .glo "law"]
def ts : List He.Tab := []
def exs : List (PySem.W.Frag → Bool) := [excB "NotValid", excB "PowerOff", kitB2 "NotValid" "PowerOff" false, kitB2 "PowerOff" "PowerOff" true, kitB2 "NotValid" "NotValid" true, kitB2 "PowerOff" "NotValid" false]
def exA (K : PySem.W.Frag) : Bool := exs.all fun f => f K
abbrev RwL : PySem.W.OpenRow := PySem.W.OpenLaw.row PySem.Challenge.rw_spindlegate_k02_flash_power
abbrev hkL : PySem.W.Hook := He.hookX 5 fa fn ts [] exA
def obL (s : PySem.W.SharedT) : He.AlX := He.obsX 5 fa fn ts [] exA (HandSHeadRun.getT s)
theorem obL_eq (s : PySem.W.SharedT) : obL s = hkL.obs s.abs := He.obsX_eq (HandSHeadRun.getT_eq s)
theorem runL (w : World) : HandSHeadRun.RunEq RwL (PySem.W.view RwL.prog [23]) hkL obL 6000 [("SpindleError" : PySem.Str), ("NotValid" : PySem.Str), ("PowerOff" : PySem.Str), ("PAGES" : PySem.Str), ("MIN_BLOCKS" : PySem.Str), ("MAX_BLOCKS" : PySem.Str), ("MAX_COUNT" : PySem.Str), ("TORN" : PySem.Str), ("is_between" : PySem.Str), ("next_page" : PySem.Str), ("Flash" : PySem.Str), ("_law_tape" : PySem.Str), ("_law_at" : PySem.Str), ("_law_kind" : PySem.Str), ("_law_do" : PySem.Str), ("_law_next" : PySem.Str), ("_law_apply" : PySem.Str), ("_law_due" : PySem.Str), ("_law_cut" : PySem.Str), ("_law_same" : PySem.Str)] w := by
  intro os
  kernel_rfl
noncomputable section
def b__law_tape : AS := (mSeq (mSet 1 (mN (opLst false) mNil))
  (mSeq (mFor (itR1 (mCons (mN opLen (mCons (mV 0) mNil)) mNil)) (gN 2) (mSeq (mSet 3 (mN opAbs (mCons (mN opInt (mCons (m2 opIx (mV 0) (mV 2)) mNil)) mNil)))
  (mIf (mB (m2 opGe (mV 3) (m2 opPow (mC (.int 10)) (mC (.int 18))))) (mFor (itR1 (mCons (mC (.int 60)) mNil)) (gN 4) (mIf (mB (m2 opGt (mV 3) (mC (.int 0)))) (mSeq (mExp (mML opApp (mV 1) (mCons (m2 opMod (mV 3) (mC (.int 1000))) mNil)))
  (mSet 3 (m2 opDiv (mV 3) (mC (.int 1000))))) mPass)) (mFor (itR1 (mCons (mC (.int 4)) mNil)) (gN 4) (mSeq (mSet 3 (m2 opMod (m2 opAdd (m2 opAdd (m2 opMul (mV 3) (mC (.int 48271))) (m2 opMul (mC (.int 69621)) (m2 opAdd (mV 2) (mC (.int 1))))) (m2 opMul (mC (.int 7)) (mV 4))) (mC (.int 2147483647))))
  (mSeq (mSet 3 (m2 opMod (m2 opMul (mV 3) (mC (.int 16807))) (mC (.int 2147483647))))
  (mExp (mML opApp (mV 1) (mCons (m2 opMod (m2 opDiv (mV 3) (mC (.int 1000))) (mC (.int 1000))) mNil)))))))))
  (mRet (mFrz (mV 1)))))
def m__law_tape : AF := mDef 1 5 b__law_tape
def b_is_between : AS := (mSeq (mIf (mTOr (mTNot (mB (mN opIsi (mCons (mV 0) (mCons (mC (.ty "int")) mNil))))) (mB (mN opIsi (mCons (mV 0) (mCons (mC (.ty "bool")) mNil))))) (mRet (mC (.bl false))) mPass)
  (mRet (mChain opLe opLe (mV 1) (mV 0) (mV 2))))
def m_is_between : AF := mDef 3 3 b_is_between
def b_Flash___init__ : AS := (mSeq (mIf (mTNot (mB (mCall m_is_between (mCons (mV 1) (mCons (mC (.int 8)) (mCons (mC (.int 24)) mNil)))))) (mRaise "NotValid") mPass)
  (mSeq (mSetF "Flash" "blocks" (mV 0) (mV 1))
  (mSeq (mSetF "Flash" "held" (mV 0) (mLc false (itR1 (mCons (mV 1) mNil)) 2 mYes (m2 (opRep false) (mN (opLst true) (mCons (mC .non) mNil)) (mC (.int 8)))))
  (mSeq (mSetF "Flash" "wears" (mV 0) (m2 (opRep false) (mN (opLst true) (mCons (mC (.int 0)) mNil)) (mV 1)))
  (mSeq (mSetF "Flash" "left" (mV 0) (mC .non))
  (mSeq (mSetF "Flash" "power" (mV 0) (mC (.bl true)))
  (mSetF "Flash" "broken" (mV 0) (mC .non))))))))
def m_Flash___init__ : AF := mDef 2 3 b_Flash___init__
def b__law_at : AS := (mSeq (mIf (mB (m2 opLt (mV 1) (mN opLen (mCons (mV 0) mNil)))) (mRet (m2 opIx (mV 0) (mV 1))) mPass)
  (mRet (mC (.int 0))))
def m__law_at : AF := mDef 2 2 b__law_at
def b__law_next : AS := (mSeq (mSet 1 (mC (.int 0)))
  (mSeq (mFor (itR1 (mCons (mC (.int 8)) mNil)) (gN 2) (mIf (mB (m2 opIsnt (m2 opIx (mV 0) (mV 2)) (mC .non))) (mSet 1 (m2 opAdd (mV 2) (mC (.int 1)))) mPass))
  (mRet (mV 1))))
def m__law_next : AF := mDef 1 3 b__law_next
def b_Flash_check_block : AS := (mIf (mTNot (mB (mCall m_is_between (mCons (mV 1) (mCons (mC (.int 0)) (mCons (m2 opSub (mFld "Flash" "blocks" (mV 0)) (mC (.int 1))) mNil)))))) (mRaise "NotValid") mPass)
def m_Flash_check_block : AF := mDef 2 2 b_Flash_check_block
def b_Flash_check_page : AS := (mSeq (mExp (mMeth "Flash" "check_block" m_Flash_check_block (mV 0) (mCons (mV 1) mNil)))
  (mIf (mTNot (mB (mCall m_is_between (mCons (mV 2) (mCons (mC (.int 0)) (mCons (m2 opSub (mC (.int 8)) (mC (.int 1))) mNil)))))) (mRaise "NotValid") mPass))
def m_Flash_check_page : AF := mDef 3 3 b_Flash_check_page
def b_next_page : AS := (mSeq (mSet 1 (mC (.int 0)))
  (mSeq (mFor (itR1 (mCons (mC (.int 8)) mNil)) (gN 2) (mIf (mB (m2 opIsnt (m2 opIx (mV 0) (mV 2)) (mC .non))) (mSet 1 (m2 opAdd (mV 2) (mC (.int 1)))) mPass))
  (mRet (mV 1))))
def m_next_page : AF := mDef 1 3 b_next_page
def b_Flash_operate : AS := (mSeq (mIf (mTAnd (mB (mFld "Flash" "power" (mV 0))) (mB (m2 opEq (mFld "Flash" "left" (mV 0)) (mC (.int 0))))) (mSeq (mSetF "Flash" "power" (mV 0) (mC (.bl false)))
  (mSeq (mSetF "Flash" "broken" (mV 0) (mV 1))
  (mRaise "PowerOff"))) mPass)
  (mSeq (mIf (mTNot (mB (mFld "Flash" "power" (mV 0)))) (mRaise "PowerOff") mPass)
  (mIf (mB (m2 opIsnt (mFld "Flash" "left" (mV 0)) (mC .non))) (mAugF "Flash" "left" opSub (mV 0) (mC (.int 1))) mPass)))
def m_Flash_operate : AF := mDef 2 2 b_Flash_operate
def b_Flash_program : AS := (mSeq (mExp (mMeth "Flash" "check_page" m_Flash_check_page (mV 0) (mCons (mV 1) (mCons (mV 2) mNil))))
  (mSeq (mIf (mTOr (mTNot (mB (mN opIsi (mCons (mV 3) (mCons (mC (.ty "tuple")) mNil))))) (mB (m2 opNe (mCall m_next_page (mCons (m2 opIx (mFld "Flash" "held" (mV 0)) (mV 1)) mNil)) (mV 2)))) (mRaise "NotValid") mPass)
  (mSeq (mExp (mMeth "Flash" "operate" m_Flash_operate (mV 0) (mCons (mN opTup (mCons (mV 1) (mCons (mV 2) (mCons (mV 3) mNil)))) mNil)))
  (mAsg (mV 3) (gIx (m2 opIx (mFld "Flash" "held" (mV 0)) (mV 1)) (mV 2))))))
def m_Flash_program : AF := mDef 4 4 b_Flash_program
def b_Flash_fill : AS := (mSeq (mAsg (m2 (opRep false) (mN (opLst true) (mCons (mV 2) mNil)) (mC (.int 8))) (gIx (mFld "Flash" "held" (mV 0)) (mV 1)))
  (mAugIx opAddI (mFld "Flash" "wears" (mV 0)) (mV 1) (mC (.int 1))))
def m_Flash_fill : AF := mDef 3 3 b_Flash_fill
def b_Flash_erase : AS := (mSeq (mExp (mMeth "Flash" "check_block" m_Flash_check_block (mV 0) (mCons (mV 1) mNil)))
  (mSeq (mExp (mMeth "Flash" "operate" m_Flash_operate (mV 0) (mCons (mN opTup (mCons (mV 1) (mCons (mC .non) (mCons (mC .non) mNil)))) mNil)))
  (mExp (mMeth "Flash" "fill" m_Flash_fill (mV 0) (mCons (mV 1) (mCons (mC .non) mNil))))))
def m_Flash_erase : AF := mDef 2 2 b_Flash_erase
def b_Flash_read : AS := (mSeq (mExp (mMeth "Flash" "check_page" m_Flash_check_page (mV 0) (mCons (mV 1) (mCons (mV 2) mNil))))
  (mSeq (mIf (mTNot (mB (mFld "Flash" "power" (mV 0)))) (mRaise "PowerOff") mPass)
  (mRet (m2 opIx (m2 opIx (mFld "Flash" "held" (mV 0)) (mV 1)) (mV 2)))))
def m_Flash_read : AF := mDef 3 3 b_Flash_read
def b_Flash_fail_after : AS := (mSeq (mIf (mTAnd (mB (m2 opIsnt (mV 1) (mC .non))) (mTNot (mB (mCall m_is_between (mCons (mV 1) (mCons (mC (.int 0)) (mCons (mC (.int 100000)) mNil))))))) (mRaise "NotValid") mPass)
  (mSetF "Flash" "left" (mV 0) (mV 1)))
def m_Flash_fail_after : AF := mDef 2 2 b_Flash_fail_after
def b_Flash_cut : AS := (mSeq (mIf (mTNot (mB (mCall m_is_between (mCons (mV 1) (mCons (mC (.int 0)) (mCons (mC (.int 2)) mNil)))))) (mRaise "NotValid") mPass)
  (mSeq (mIf (mTAnd (mB (m2 opIsnt (mFld "Flash" "broken" (mV 0)) (mC .non))) (mB (m2 opGt (mV 1) (mC (.int 0))))) (mSeq (mAsg (mFld "Flash" "broken" (mV 0)) (gT 3 (gsC (gN 2) (gsC (gN 3) (gsC (gN 4) gsN)))))
  (mSeq (mSet 5 (m2 opIx (mN (opLst true) (mCons (mC .non) (mCons (mV 4) (mCons (mC (.str "torn")) mNil)))) (mV 1)))
  (mIf (mB (m2 opIs (mV 3) (mC .non))) (mExp (mMeth "Flash" "fill" m_Flash_fill (mV 0) (mCons (mV 2) (mCons (mV 5) mNil)))) (mAsg (mV 5) (gIx (m2 opIx (mFld "Flash" "held" (mV 0)) (mV 2)) (mV 3)))))) mPass)
  (mSeq (mSetF "Flash" "broken" (mV 0) (mC .non))
  (mSeq (mSetF "Flash" "left" (mV 0) (mC .non))
  (mSetF "Flash" "power" (mV 0) (mC (.bl true)))))))
def m_Flash_cut : AF := mDef 2 6 b_Flash_cut
def b__law_do : AS := (mTryA 5 [("NotValid", true), ("PowerOff", true)] (mSeq (mIf (mB (m2 opEq (mV 1) (mC (.str "program")))) (mRet (mMeth "Flash" "program" m_Flash_program (mV 0) (mCons (mV 2) (mCons (mV 3) (mCons (mV 4) mNil))))) mPass)
  (mSeq (mIf (mB (m2 opEq (mV 1) (mC (.str "erase")))) (mRet (mMeth "Flash" "erase" m_Flash_erase (mV 0) (mCons (mV 2) mNil))) mPass)
  (mSeq (mIf (mB (m2 opEq (mV 1) (mC (.str "read")))) (mRet (mMeth "Flash" "read" m_Flash_read (mV 0) (mCons (mV 2) (mCons (mV 3) mNil)))) mPass)
  (mSeq (mIf (mB (m2 opEq (mV 1) (mC (.str "fail")))) (mRet (mMeth "Flash" "fail_after" m_Flash_fail_after (mV 0) (mCons (mV 2) mNil))) mPass)
  (mRet (mMeth "Flash" "cut" m_Flash_cut (mV 0) (mCons (mV 2) mNil))))))) (fun x => mRet (cX 1 (fun x => mIf (mB (mIsX [("NotValid", false), ("PowerOff", true)] x)) (mRet (mN (opLst true) (mCons (mC (.str "refused")) (mCons (mC (.str "off")) mNil)))) (mRet (mN (opLst true) (mCons (mC (.str "refused")) (mCons (mIsX [("NotValid", true), ("PowerOff", false)] x) mNil))))) x)))
def m__law_do : AF := mDef 5 6 b__law_do
def b__law_apply : AS := (mIf (mB (m2 opEq (mV 2) (mC (.str "program")))) (mAsg (mV 5) (gIx (m2 opIx (mV 0) (mV 3)) (mV 4))) (mSeq (mAsg (m2 (opRep false) (mN (opLst true) (mCons (mV 5) mNil)) (mC (.int 8))) (gIx (mV 0) (mV 3)))
  (mAsg (m2 opAdd (m2 opIx (mV 1) (mV 3)) (mC (.int 1))) (gIx (mV 1) (mV 3)))))
def m__law_apply : AF := mDef 6 6 b__law_apply
def b__law_cut : AS := (mSeq (mIf (mB (m2 opNin (mV 3) (mN opTup (mCons (mC (.int 0)) (mCons (mC (.int 1)) (mCons (mC (.int 2)) mNil)))))) (mRet (mN (opLst true) (mCons (mC (.str "refused")) (mCons (mC (.bl true)) mNil)))) mPass)
  (mSeq (mIf (mTAnd (mB (m2 opIsnt (m2 opIx (mV 2) (mC (.int 2))) (mC .non))) (mB (m2 opGt (mV 3) (mC (.int 0))))) (mSeq (mAsg (m2 opIx (mV 2) (mC (.int 2))) (gT 4 (gsC (gN 4) (gsC (gN 5) (gsC (gN 6) (gsC (gN 7) gsN))))))
  (mSeq (mSet 8 (mC (.str "torn")))
  (mSeq (mIf (mB (m2 opEq (mV 3) (mC (.int 1)))) (mSeq (mSet 8 (mC .non))
  (mIf (mB (m2 opEq (mV 4) (mC (.str "program")))) (mSet 8 (mV 7)) mPass)) mPass)
  (mExp (mCall m__law_apply (mCons (mV 0) (mCons (mV 1) (mCons (mV 4) (mCons (mV 5) (mCons (mV 6) (mCons (mV 8) mNil))))))))))) mPass)
  (mSeq (mAsg (mC .non) (gIx (mV 2) (mC (.int 0))))
  (mSeq (mAsg (mC (.bl true)) (gIx (mV 2) (mC (.int 1))))
  (mSeq (mAsg (mC .non) (gIx (mV 2) (mC (.int 2))))
  (mRet (mC .non)))))))
def m__law_cut : AF := mDef 4 9 b__law_cut
def b__law_due : AS := (mSeq (mIf (mB (m2 opEq (mV 3) (mC (.str "read")))) (mSeq (mIf (mTNot (mB (m2 opIx (mV 2) (mC (.int 1))))) (mRet (mN (opLst true) (mCons (mC (.str "refused")) (mCons (mC (.str "off")) mNil)))) mPass)
  (mRet (m2 opIx (m2 opIx (mV 0) (mV 4)) (mV 5)))) mPass)
  (mSeq (mIf (mTAnd (mB (m2 opEq (mV 3) (mC (.str "program")))) (mB (m2 opNe (mCall m__law_next (mCons (m2 opIx (mV 0) (mV 4)) mNil)) (mV 5)))) (mRet (mN (opLst true) (mCons (mC (.str "refused")) (mCons (mC (.bl true)) mNil)))) mPass)
  (mSeq (mIf (mTAnd (mB (m2 opIx (mV 2) (mC (.int 1)))) (mB (m2 opEq (m2 opIx (mV 2) (mC (.int 0))) (mC (.int 0))))) (mSeq (mAsg (mC (.bl false)) (gIx (mV 2) (mC (.int 1))))
  (mSeq (mAsg (mN opTup (mCons (mV 3) (mCons (mV 4) (mCons (mV 5) (mCons (mV 6) mNil))))) (gIx (mV 2) (mC (.int 2))))
  (mRet (mN (opLst true) (mCons (mC (.str "refused")) (mCons (mC (.str "off")) mNil)))))) mPass)
  (mSeq (mIf (mTNot (mB (m2 opIx (mV 2) (mC (.int 1))))) (mRet (mN (opLst true) (mCons (mC (.str "refused")) (mCons (mC (.str "off")) mNil)))) mPass)
  (mSeq (mIf (mB (m2 opIsnt (m2 opIx (mV 2) (mC (.int 0))) (mC .non))) (mAsg (m2 opSub (m2 opIx (mV 2) (mC (.int 0))) (mC (.int 1))) (gIx (mV 2) (mC (.int 0)))) mPass)
  (mSeq (mSet 7 (mC .non))
  (mSeq (mIf (mB (m2 opEq (mV 3) (mC (.str "program")))) (mSet 7 (mV 6)) mPass)
  (mSeq (mExp (mCall m__law_apply (mCons (mV 0) (mCons (mV 1) (mCons (mV 3) (mCons (mV 4) (mCons (mV 5) (mCons (mV 7) mNil))))))))
  (mRet (mC .non))))))))))
def m__law_due : AF := mDef 7 8 b__law_due
def b_Flash_wear : AS := (mSeq (mExp (mMeth "Flash" "check_block" m_Flash_check_block (mV 0) (mCons (mV 1) mNil)))
  (mRet (m2 opIx (mFld "Flash" "wears" (mV 0)) (mV 1))))
def m_Flash_wear : AF := mDef 2 2 b_Flash_wear
def b__law_same : AS := (mSeq (mIf (mB (m2 opIs (mV 1) (mC .non))) (mRet (m2 opIs (mV 0) (mC .non))) mPass)
  (mRet (mAnd (m2 opEq (mN opIsi (mCons (mV 0) (mCons (mC (.ty "tuple")) mNil))) (mN opIsi (mCons (mV 1) (mCons (mC (.ty "tuple")) mNil)))) (m2 opEq (mV 0) (mV 1)))))
def m__law_same : AF := mDef 2 2 b__law_same
def b_Flash_image : AS := (mRet (mLc true (itR1 (mCons (mFld "Flash" "blocks" (mV 0)) mNil)) 1 mYes (mN opTup (mCons (m2 opIx (mFld "Flash" "wears" (mV 0)) (mV 1)) (mCons (mN (opList true) (mCons (m2 opIx (mFld "Flash" "held" (mV 0)) (mV 1)) mNil)) mNil)))))
def m_Flash_image : AF := mDef 1 2 b_Flash_image
def b_law : AS := (mSeq (mSet 1 (mCall m__law_tape (mCons (mV 0) mNil)))
  (mSeq (mSet 2 (mMake "Flash" m_Flash___init__ (mCons (mC (.int 8)) mNil)))
  (mSeq (mSet 4 (mLc false (itR1 (mCons (mC (.int 8)) mNil)) 3 mYes (m2 (opRep false) (mN (opLst true) (mCons (mC .non) mNil)) (mC (.int 8)))))
  (mSeq (mSet 5 (m2 (opRep false) (mN (opLst true) (mCons (mC (.int 0)) mNil)) (mC (.int 8))))
  (mSeq (mSet 6 (mN (opLst false) (mCons (mC .non) (mCons (mC (.bl true)) (mCons (mC .non) mNil)))))
  (mSeq (mIf (mB (m2 opNe (mC (.str "torn")) (mC (.str "torn")))) (mRet (mC (.bl false))) mPass)
  (mSeq (mFor (itR1 (mCons (mN opMin2 (mCons (mC (.int 50)) (mCons (m2 opDiv (mN opLen (mCons (mV 1) mNil)) (mC (.int 2))) mNil))) mNil)) (gN 7) (mSeq (mSet 8 (mCall m__law_at (mCons (mV 1) (mCons (m2 opMul (mC (.int 2)) (mV 7)) mNil))))
  (mSeq (mSet 9 (mCall m__law_at (mCons (mV 1) (mCons (m2 opAdd (m2 opMul (mC (.int 2)) (mV 7)) (mC (.int 1))) mNil))))
  (mSeq (mSet 10 (m2 opIx (mN (opLst true) (mCons (mC (.str "program")) (mCons (mC (.str "program")) (mCons (mC (.str "program")) (mCons (mC (.str "program")) (mCons (mC (.str "erase")) (mCons (mC (.str "read")) (mCons (mC (.str "fail")) (mCons (mC (.str "fail")) (mCons (mC (.str "cut")) (mCons (mC (.str "read")) mNil))))))))))) (m2 opMod (mV 8) (mC (.int 10)))))
  (mSeq (mSet 3 (m2 opIx (mN (opLst true) (mCons (mC (.int 0)) (mCons (mC (.int 7)) (mCons (mC (.int 3)) mNil)))) (m2 opMod (m2 opDiv (mV 8) (mC (.int 10))) (mC (.int 3)))))
  (mSeq (mSet 11 (mCall m__law_next (mCons (m2 opIx (mV 4) (mV 3)) mNil)))
  (mSeq (mIf (mTOr (mB (m2 opEq (mV 10) (mC (.str "read")))) (mB (m2 opEq (m2 opMod (mV 9) (mC (.int 9))) (mC (.int 8))))) (mSet 11 (m2 opMod (mV 9) (mC (.int 8)))) mPass)
  (mSeq (mIf (mB (m2 opGt (mV 11) (mC (.int 7)))) (mSet 11 (mC (.int 7))) mPass)
  (mSeq (mIf (mB (m2 opEq (mV 10) (mC (.str "fail")))) (mSeq (mSet 12 (m2 opIx (mN (opLst true) (mCons (mC .non) (mCons (mC (.int 0)) (mCons (mC (.int 1)) (mCons (mC (.int 2)) (mCons (mC (.int 3)) (mCons (mC (.int 4)) (mCons (mC (.int 5)) (mCons (mC (.int 6)) (mCons (mC (.int 100000)) (mCons (m1 opNeg (mC (.int 1))) (mCons (mC (.int 100001)) (mCons (mC (.str "1")) mNil))))))))))))) (m2 opMod (mV 9) (mC (.int 12)))))
  (mSeq (mSet 13 (mC .non))
  (mSeq (mIf (mB (m2 opGt (m2 opMod (mV 9) (mC (.int 12))) (mC (.int 8)))) (mSet 13 (mN (opLst true) (mCons (mC (.str "refused")) (mCons (mC (.bl true)) mNil)))) (mAsg (mV 12) (gIx (mV 6) (mC (.int 0)))))
  (mSet 14 (mCall m__law_do (mCons (mV 2) (mCons (mC (.str "fail")) (mCons (mV 12) (mCons (mC (.int 0)) (mCons (mC .non) mNil)))))))))) (mIf (mB (m2 opEq (mV 10) (mC (.str "cut")))) (mSeq (mSet 15 (m2 opIx (mN (opLst true) (mCons (mC (.int 0)) (mCons (mC (.int 1)) (mCons (mC (.int 2)) (mCons (mC (.int 0)) (mCons (mC (.int 1)) (mCons (mC (.int 2)) (mCons (mC (.int 3)) (mCons (m1 opNeg (mC (.int 1))) mNil))))))))) (m2 opMod (mV 9) (mC (.int 8)))))
  (mSeq (mSet 13 (mCall m__law_cut (mCons (mV 4) (mCons (mV 5) (mCons (mV 6) (mCons (mV 15) mNil))))))
  (mSet 14 (mCall m__law_do (mCons (mV 2) (mCons (mC (.str "cut")) (mCons (mV 15) (mCons (mC (.int 0)) (mCons (mC .non) mNil))))))))) (mSeq (mSet 13 (mCall m__law_due (mCons (mV 4) (mCons (mV 5) (mCons (mV 6) (mCons (mV 10) (mCons (mV 3) (mCons (mV 11) (mCons (mN opTup (mCons (mV 7) (mCons (mV 9) mNil))) mNil)))))))))
  (mSet 14 (mCall m__law_do (mCons (mV 2) (mCons (mV 10) (mCons (mV 3) (mCons (mV 11) (mCons (mN opTup (mCons (mV 7) (mCons (mV 9) mNil))) mNil))))))))))
  (mSeq (mIf (mTOr (mTNot (mB (mCall m__law_same (mCons (mV 14) (mCons (mV 13) mNil))))) (mB (m2 opNe (mMeth "Flash" "wear" m_Flash_wear (mV 2) (mCons (mV 3) mNil)) (m2 opIx (mV 5) (mV 3))))) (mRet (mC (.bl false))) mPass)
  (mIf (mB (m2 opNe (m2 opIx (mMeth "Flash" "image" m_Flash_image (mV 2) mNil) (mV 3)) (mN opTup (mCons (m2 opIx (mV 5) (mV 3)) (mCons (m2 opIx (mV 4) (mV 3)) mNil))))) (mRet (mC (.bl false))) mPass)))))))))))
  (mRet (m2 opEq (mMeth "Flash" "image" m_Flash_image (mV 2) mNil) (mLc true (itR1 (mCons (mC (.int 8)) mNil)) 3 mYes (mN opTup (mCons (m2 opIx (mV 5) (mV 3)) (mCons (m2 opIx (mV 4) (mV 3)) mNil)))))))))))))
def m_law : AF := mDef 1 16 b_law
end
section
variable {P : Program} {w : World} {K : PySem.W.Frag} {mg : Str → Option Value} {base : Heap}
theorem ok__law_tape (T : Tx fa fn ts exs w K mg) : Okd P w K mg base ("_law_tape", none) 1 ["_law_script"] (spA K 1 m__law_tape) :=
  okd (k := 0) T 0 rfl sc__law_tape (fun _ _ _ _ _ _ us hl => match us, hl with | [_], _ => rfl) (fun vs H Q E h => h.1) (fun f cdv A outer s H vs Q E hr h => aDef (n := 1) (b := b__law_tape) rfl (aSCons (aSet (i := 1) sc__law_tape.nd (aLst false aNil))
      (aSCons (aFor (passes_of rfl) rfl (aItR1 (T.free 1) (aCons (aCallB up_len c_lenU (by rfl) (T.free 0) (by decide +kernel) (aCons (aV 0) aNil)) aNil)) (aGN (i := 2) sc__law_tape.nd) (aSCons (aSet (i := 3) sc__law_tape.nd (aCallB up_abs c_abs (by rfl) (T.free 2) (by decide +kernel) (aCons (aCallTy up_int c_int (by rfl) (T.free 3) (by decide +kernel) (aCons (aIx (aV 0) (aV 2)) aNil)) aNil)))
      (aSOne (aIf (aTCmp up_ge L2.op_ge (aV 3) (aOp up_pow L2.op_pow aInt aInt) (nomark _)) (aSOne (aFor (passes_of rfl) rfl (aItR1 (T.free 1) (aCons aInt aNil)) (aGN (i := 4) sc__law_tape.nd) (aSOne (aIf (aTCmp up_gt L2.op_gt (aV 3) aInt (nomark _)) (aSCons (aExp (aML up_app PySem.F.slot_list_append PySem.F.type_list_append mt_append (aV 1) (aCons (aOp up_mod L2.op_mod (aV 3) aInt) aNil)))
      (aSOne (aSet (i := 3) sc__law_tape.nd (aOp up_div L2.op_fdiv (aV 3) aInt)))) aSNil)))) (aSOne (aFor (passes_of rfl) rfl (aItR1 (T.free 1) (aCons aInt aNil)) (aGN (i := 4) sc__law_tape.nd) (aSCons (aSet (i := 3) sc__law_tape.nd (aOp up_mod L2.op_mod (aOp up_add op_addUK (aOp up_add op_addUK (aOp up_mul op_mulU (aV 3) aInt) (aOp up_mul op_mulU aInt (aOp up_add op_addUK (aV 2) aInt))) (aOp up_mul op_mulU aInt (aV 4))) aInt))
      (aSCons (aSet (i := 3) sc__law_tape.nd (aOp up_mod L2.op_mod (aOp up_mul op_mulU (aV 3) aInt) aInt))
      (aSOne (aExp (aML up_app PySem.F.slot_list_append PySem.F.type_list_append mt_append (aV 1) (aCons (aOp up_mod L2.op_mod (aOp up_div L2.op_fdiv (aV 3) aInt) aInt) aNil))))))))))))
      (aSOne (aRet (aFrz (aV 1)))))) h)
theorem ok_is_between (T : Tx fa fn ts exs w K mg) : Okd P w K mg base ("is_between", none) 1 ["value", "low", "high"] (spA K 3 m_is_between) :=
  okd (k := 0) T 1 rfl sc_is_between (fun _ _ _ _ _ _ us hl => match us, hl with | [_, _, _], _ => rfl) (fun vs H Q E h => h.1) (fun f cdv A outer s H vs Q E hr h => aDef (n := 3) (b := b_is_between) rfl (aSCons (aIf (PW.pt (aTOr (aTNot (aTVal (aCallB up_isi (call_isiK K) (by rfl) (T.free 4) (by decide +kernel) (aCons (aV 0) (aCons (aGlob (pe_bltn (v := .ty "int") rfl (T.free 3) (by decide +kernel) rfl) fun _ => .ty _) aNil))))) (aTOr1 (aTVal (aCallB up_isi (call_isiK K) (by rfl) (T.free 4) (by decide +kernel) (aCons (aV 0) (aCons (aGlob (pe_bltn (v := .ty "bool") rfl (T.free 5) (by decide +kernel) rfl) fun _ => .ty _) aNil))))))) (aSOne (aRet aBl)) aSNil)
      (aSOne (aRet (aChain up_le up_le L2.op_le L2.op_le (aV 1) (aV 0) (aV 2))))) h)
theorem ok_Flash___init__ (T : Tx fa fn ts exs w K mg) : Okd P w K mg base ("Flash", some "__init__") 2 ["self", "blocks"] (spA K 2 m_Flash___init__) :=
  okd (k := 1) T 2 rfl sc_Flash___init__ (fun _ _ _ _ _ _ us hl => match us, hl with | [_, _], _ => rfl) (fun vs H Q E h => h.1) (fun f cdv A outer s H vs Q E hr h => aDef (n := 2) (b := b_Flash___init__) rfl (aSCons (aIf (aTNot (aTVal (aCall (ok_is_between T) (takes_of rfl rfl rfl rfl) (hr.mono (by decide)) (T.glo 8) (aCons (aV 1) (aCons (aGlob (pe_globI rfl (T.int 7)) fun _ => .int _) (aCons (aGlob (pe_globI rfl (T.int 6)) fun _ => .int _) aNil))) (len_cons (len_cons (len_cons len_nil)))))) (aSOne (aRaise (c := "NotValid") rfl rfl (takes_of rfl rfl rfl rfl) (T.exc 9) (T.glo 10))) aSNil)
      (aSCons (aSetF (c := "Flash") (f := "blocks") rfl (T.cls 11) (T.noat 12) (aV 0) (aV 1))
      (aSCons (aSetF (c := "Flash") (f := "held") rfl (T.cls 11) (T.noat 14) (aV 0) (aLc false rfl sc_Flash___init__.nd (aItR1 (T.free 1) (aCons (aV 1) aNil)) (blkOk_by (own := [("block", 2)]) (N := ["self", "blocks", "block"]) (sc := defScope s_Flash___init__) (by decide +kernel)) (fun _ _ _ _ _ => pg_name (i := 2) sc_Flash___init__.nd rfl (Or.inl rfl)) (fun _ _ _ _ _ => aIfN) (fun _ _ _ _ _ => (aRep false (aLst true (aCons aNon aNil)) (aGlob (pe_globI rfl (T.int 13)) fun _ => .int _)))))
      (aSCons (aSetF (c := "Flash") (f := "wears") rfl (T.cls 11) (T.noat 15) (aV 0) (aRep false (aLst true (aCons aInt aNil)) (aV 1)))
      (aSCons (aSetF (c := "Flash") (f := "left") rfl (T.cls 11) (T.noat 16) (aV 0) aNon)
      (aSCons (aSetF (c := "Flash") (f := "power") rfl (T.cls 11) (T.noat 17) (aV 0) aBl)
      (aSOne (aSetF (c := "Flash") (f := "broken") rfl (T.cls 11) (T.noat 18) (aV 0) aNon)))))))) h)
theorem ok__law_at (T : Tx fa fn ts exs w K mg) : Okd P w K mg base ("_law_at", none) 1 ["_law_tape_here", "_law_k"] (spA K 2 m__law_at) :=
  okd (k := 0) T 3 rfl sc__law_at (fun _ _ _ _ _ _ us hl => match us, hl with | [_, _], _ => rfl) (fun vs H Q E h => h.1) (fun f cdv A outer s H vs Q E hr h => aDef (n := 2) (b := b__law_at) rfl (aSCons (aIf (aTCmp up_lt L2.op_lt (aV 1) (aCallB up_len c_lenU (by rfl) (T.free 0) (by decide +kernel) (aCons (aV 0) aNil)) (nomark _)) (aSOne (aRet (aIx (aV 0) (aV 1)))) aSNil)
      (aSOne (aRet aInt))) h)
theorem ok__law_next (T : Tx fa fn ts exs w K mg) : Okd P w K mg base ("_law_next", none) 1 ["_law_pages"] (spA K 1 m__law_next) :=
  okd (k := 0) T 4 rfl sc__law_next (fun _ _ _ _ _ _ us hl => match us, hl with | [_], _ => rfl) (fun vs H Q E h => h.1) (fun f cdv A outer s H vs Q E hr h => aDef (n := 1) (b := b__law_next) rfl (aSCons (aSet (i := 1) sc__law_next.nd aInt)
      (aSCons (aFor (passes_of rfl) rfl (aItR1 (T.free 1) (aCons aInt aNil)) (aGN (i := 2) sc__law_next.nd) (aSOne (aIf (aTCmp up_isnt o_notN (aIx (aV 0) (aV 2)) aNon (nomark _)) (aSOne (aSet (i := 1) sc__law_next.nd (aOp up_add op_addUK (aV 2) aInt))) aSNil)))
      (aSOne (aRet (aV 1))))) h)
theorem ok_Flash_check_block (T : Tx fa fn ts exs w K mg) : Okd P w K mg base ("Flash", some "check_block") 2 ["self", "block"] (spA K 2 m_Flash_check_block) :=
  okd (k := 1) T 5 rfl sc_Flash_check_block (fun _ _ _ _ _ _ us hl => match us, hl with | [_, _], _ => rfl) (fun vs H Q E h => h.1) (fun f cdv A outer s H vs Q E hr h => aDef (n := 2) (b := b_Flash_check_block) rfl (aSOne (aIf (aTNot (aTVal (aCall (ok_is_between T) (takes_of rfl rfl rfl rfl) (hr.mono (by decide)) (T.glo 8) (aCons (aV 1) (aCons aInt (aCons (aOp up_sub L2.op_sub (aFld (c := "Flash") (f := "blocks") rfl (T.cls 11) (T.noat 12) (aV 0)) aInt) aNil))) (len_cons (len_cons (len_cons len_nil)))))) (aSOne (aRaise (c := "NotValid") rfl rfl (takes_of rfl rfl rfl rfl) (T.exc 9) (T.glo 10))) aSNil)) h)
theorem ok_Flash_check_page (T : Tx fa fn ts exs w K mg) : Okd P w K mg base ("Flash", some "check_page") 3 ["self", "block", "page"] (spA K 3 m_Flash_check_page) :=
  okd (k := 2) T 6 rfl sc_Flash_check_page (fun _ _ _ _ _ _ us hl => match us, hl with | [_, _, _], _ => rfl) (fun vs H Q E h => h.1) (fun f cdv A outer s H vs Q E hr h => aDef (n := 3) (b := b_Flash_check_page) rfl (aSCons (aExp (aMeth (c := "Flash") (m := "check_block") rfl (T.cls 11) (T.meth 19) (ok_Flash_check_block T) (takes_of rfl rfl rfl rfl) (hr.mono (by decide)) (aV 0) (aCons (aV 1) aNil) (len_cons len_nil)))
      (aSOne (aIf (aTNot (aTVal (aCall (ok_is_between T) (takes_of rfl rfl rfl rfl) (hr.mono (by decide)) (T.glo 8) (aCons (aV 2) (aCons aInt (aCons (aOp up_sub L2.op_sub (aGlob (pe_globI rfl (T.int 13)) fun _ => .int _) aInt) aNil))) (len_cons (len_cons (len_cons len_nil)))))) (aSOne (aRaise (c := "NotValid") rfl rfl (takes_of rfl rfl rfl rfl) (T.exc 9) (T.glo 10))) aSNil))) h)
theorem ok_next_page (T : Tx fa fn ts exs w K mg) : Okd P w K mg base ("next_page", none) 1 ["pages"] (spA K 1 m_next_page) :=
  okd (k := 0) T 7 rfl sc_next_page (fun _ _ _ _ _ _ us hl => match us, hl with | [_], _ => rfl) (fun vs H Q E h => h.1) (fun f cdv A outer s H vs Q E hr h => aDef (n := 1) (b := b_next_page) rfl (aSCons (aSet (i := 1) sc_next_page.nd aInt)
      (aSCons (aFor (passes_of rfl) rfl (aItR1 (T.free 1) (aCons (aGlob (pe_globI rfl (T.int 13)) fun _ => .int _) aNil)) (aGN (i := 2) sc_next_page.nd) (aSOne (aIf (aTCmp up_isnt o_notN (aIx (aV 0) (aV 2)) aNon (nomark _)) (aSOne (aSet (i := 1) sc_next_page.nd (aOp up_add op_addUK (aV 2) aInt))) aSNil)))
      (aSOne (aRet (aV 1))))) h)
theorem ok_Flash_operate (T : Tx fa fn ts exs w K mg) : Okd P w K mg base ("Flash", some "operate") 1 ["self", "operation"] (spA K 2 m_Flash_operate) :=
  okd (k := 0) T 8 rfl sc_Flash_operate (fun _ _ _ _ _ _ us hl => match us, hl with | [_, _], _ => rfl) (fun vs H Q E h => h.1) (fun f cdv A outer s H vs Q E hr h => aDef (n := 2) (b := b_Flash_operate) rfl (aSCons (aIf (PW.pt (aTAnd (aTVal (aFld (c := "Flash") (f := "power") rfl (T.cls 11) (T.noat 17) (aV 0))) (aTAnd1 (aTCmp up_eq (op_eqM hr.units) (aFld (c := "Flash") (f := "left") rfl (T.cls 11) (T.noat 16) (aV 0)) aInt (nomark _))))) (aSCons (aSetF (c := "Flash") (f := "power") rfl (T.cls 11) (T.noat 17) (aV 0) aBl)
      (aSCons (aSetF (c := "Flash") (f := "broken") rfl (T.cls 11) (T.noat 18) (aV 0) (aV 1))
      (aSOne (aRaise (c := "PowerOff") rfl rfl (takes_of rfl rfl rfl rfl) (T.exc 20) (T.glo 21))))) aSNil)
      (aSCons (aIf (aTNot (aTVal (aFld (c := "Flash") (f := "power") rfl (T.cls 11) (T.noat 17) (aV 0)))) (aSOne (aRaise (c := "PowerOff") rfl rfl (takes_of rfl rfl rfl rfl) (T.exc 20) (T.glo 21))) aSNil)
      (aSOne (aIf (aTCmp up_isnt o_notN (aFld (c := "Flash") (f := "left") rfl (T.cls 11) (T.noat 16) (aV 0)) aNon (nomark _)) (aSOne (aAugF (c := "Flash") (f := "left") up_subI n_sub rfl (T.cls 11) (T.noat 16) (aV 0) aInt)) aSNil)))) h)
theorem ok_Flash_program (T : Tx fa fn ts exs w K mg) : Okd P w K mg base ("Flash", some "program") 4 ["self", "block", "page", "record"] (spA K 4 m_Flash_program) :=
  okd (k := 3) T 9 rfl sc_Flash_program (fun _ _ _ _ _ _ us hl => match us, hl with | [_, _, _, _], _ => rfl) (fun vs H Q E h => h.1) (fun f cdv A outer s H vs Q E hr h => aDef (n := 4) (b := b_Flash_program) rfl (aSCons (aExp (aMeth (c := "Flash") (m := "check_page") rfl (T.cls 11) (T.meth 22) (ok_Flash_check_page T) (takes_of rfl rfl rfl rfl) (hr.mono (by decide)) (aV 0) (aCons (aV 1) (aCons (aV 2) aNil)) (len_cons (len_cons len_nil))))
      (aSCons (aIf (PW.pt (aTOr (aTNot (aTVal (aCallB up_isi (call_isiK K) (by rfl) (T.free 4) (by decide +kernel) (aCons (aV 3) (aCons (aGlob (pe_bltn (v := .ty "tuple") rfl (T.free 24) (by decide +kernel) rfl) fun _ => .ty _) aNil))))) (aTOr1 (aTCmp up_ne (op_neM hr.units) (aCall (ok_next_page T) (takes_of rfl rfl rfl rfl) (hr.mono (by decide)) (T.glo 23) (aCons (aIx (aFld (c := "Flash") (f := "held") rfl (T.cls 11) (T.noat 14) (aV 0)) (aV 1)) aNil) (len_cons len_nil)) (aV 2) (nomark _))))) (aSOne (aRaise (c := "NotValid") rfl rfl (takes_of rfl rfl rfl rfl) (T.exc 9) (T.glo 10))) aSNil)
      (aSCons (aExp (aMeth (c := "Flash") (m := "operate") rfl (T.cls 11) (T.meth 25) (ok_Flash_operate T) (takes_of rfl rfl rfl rfl) (hr.mono (by decide)) (aV 0) (aCons (aTup (aCons (aV 1) (aCons (aV 2) (aCons (aV 3) aNil)))) aNil) (len_cons len_nil)))
      (aSOne (aAsg (aV 3) (aGIx (aIx (aFld (c := "Flash") (f := "held") rfl (T.cls 11) (T.noat 14) (aV 0)) (aV 1)) (aV 2))))))) h)
theorem ok_Flash_fill (T : Tx fa fn ts exs w K mg) : Okd P w K mg base ("Flash", some "fill") 1 ["self", "block", "content"] (spA K 3 m_Flash_fill) :=
  okd (k := 0) T 10 rfl sc_Flash_fill (fun _ _ _ _ _ _ us hl => match us, hl with | [_, _, _], _ => rfl) (fun vs H Q E h => h.1) (fun f cdv A outer s H vs Q E hr h => aDef (n := 3) (b := b_Flash_fill) rfl (aSCons (aAsg (aRep false (aLst true (aCons (aV 2) aNil)) (aGlob (pe_globI rfl (T.int 13)) fun _ => .int _)) (aGIx (aFld (c := "Flash") (f := "held") rfl (T.cls 11) (T.noat 14) (aV 0)) (aV 1)))
      (aSOne (aAugIx up_addI i_add (aFld (c := "Flash") (f := "wears") rfl (T.cls 11) (T.noat 15) (aV 0)) (aV 1) aInt))) h)
theorem ok_Flash_erase (T : Tx fa fn ts exs w K mg) : Okd P w K mg base ("Flash", some "erase") 3 ["self", "block"] (spA K 2 m_Flash_erase) :=
  okd (k := 2) T 11 rfl sc_Flash_erase (fun _ _ _ _ _ _ us hl => match us, hl with | [_, _], _ => rfl) (fun vs H Q E h => h.1) (fun f cdv A outer s H vs Q E hr h => aDef (n := 2) (b := b_Flash_erase) rfl (aSCons (aExp (aMeth (c := "Flash") (m := "check_block") rfl (T.cls 11) (T.meth 19) (ok_Flash_check_block T) (takes_of rfl rfl rfl rfl) (hr.mono (by decide)) (aV 0) (aCons (aV 1) aNil) (len_cons len_nil)))
      (aSCons (aExp (aMeth (c := "Flash") (m := "operate") rfl (T.cls 11) (T.meth 25) (ok_Flash_operate T) (takes_of rfl rfl rfl rfl) (hr.mono (by decide)) (aV 0) (aCons (aTup (aCons (aV 1) (aCons aNon (aCons aNon aNil)))) aNil) (len_cons len_nil)))
      (aSOne (aExp (aMeth (c := "Flash") (m := "fill") rfl (T.cls 11) (T.meth 26) (ok_Flash_fill T) (takes_of rfl rfl rfl rfl) (hr.mono (by decide)) (aV 0) (aCons (aV 1) (aCons aNon aNil)) (len_cons (len_cons len_nil))))))) h)
theorem ok_Flash_read (T : Tx fa fn ts exs w K mg) : Okd P w K mg base ("Flash", some "read") 4 ["self", "block", "page"] (spA K 3 m_Flash_read) :=
  okd (k := 3) T 12 rfl sc_Flash_read (fun _ _ _ _ _ _ us hl => match us, hl with | [_, _, _], _ => rfl) (fun vs H Q E h => h.1) (fun f cdv A outer s H vs Q E hr h => aDef (n := 3) (b := b_Flash_read) rfl (aSCons (aExp (aMeth (c := "Flash") (m := "check_page") rfl (T.cls 11) (T.meth 22) (ok_Flash_check_page T) (takes_of rfl rfl rfl rfl) (hr.mono (by decide)) (aV 0) (aCons (aV 1) (aCons (aV 2) aNil)) (len_cons (len_cons len_nil))))
      (aSCons (aIf (aTNot (aTVal (aFld (c := "Flash") (f := "power") rfl (T.cls 11) (T.noat 17) (aV 0)))) (aSOne (aRaise (c := "PowerOff") rfl rfl (takes_of rfl rfl rfl rfl) (T.exc 20) (T.glo 21))) aSNil)
      (aSOne (aRet (aIx (aIx (aFld (c := "Flash") (f := "held") rfl (T.cls 11) (T.noat 14) (aV 0)) (aV 1)) (aV 2)))))) h)
theorem ok_Flash_fail_after (T : Tx fa fn ts exs w K mg) : Okd P w K mg base ("Flash", some "fail_after") 2 ["self", "count"] (spA K 2 m_Flash_fail_after) :=
  okd (k := 1) T 13 rfl sc_Flash_fail_after (fun _ _ _ _ _ _ us hl => match us, hl with | [_, _], _ => rfl) (fun vs H Q E h => h.1) (fun f cdv A outer s H vs Q E hr h => aDef (n := 2) (b := b_Flash_fail_after) rfl (aSCons (aIf (PW.pt (aTAnd (aTCmp up_isnt o_notN (aV 1) aNon (nomark _)) (aTAnd1 (aTNot (aTVal (aCall (ok_is_between T) (takes_of rfl rfl rfl rfl) (hr.mono (by decide)) (T.glo 8) (aCons (aV 1) (aCons aInt (aCons (aGlob (pe_globI rfl (T.int 27)) fun _ => .int _) aNil))) (len_cons (len_cons (len_cons len_nil))))))))) (aSOne (aRaise (c := "NotValid") rfl rfl (takes_of rfl rfl rfl rfl) (T.exc 9) (T.glo 10))) aSNil)
      (aSOne (aSetF (c := "Flash") (f := "left") rfl (T.cls 11) (T.noat 16) (aV 0) (aV 1)))) h)
theorem ok_Flash_cut (T : Tx fa fn ts exs w K mg) : Okd P w K mg base ("Flash", some "cut") 2 ["self", "choice"] (spA K 2 m_Flash_cut) :=
  okd (k := 1) T 14 rfl sc_Flash_cut (fun _ _ _ _ _ _ us hl => match us, hl with | [_, _], _ => rfl) (fun vs H Q E h => h.1) (fun f cdv A outer s H vs Q E hr h => aDef (n := 2) (b := b_Flash_cut) rfl (aSCons (aIf (aTNot (aTVal (aCall (ok_is_between T) (takes_of rfl rfl rfl rfl) (hr.mono (by decide)) (T.glo 8) (aCons (aV 1) (aCons aInt (aCons aInt aNil))) (len_cons (len_cons (len_cons len_nil)))))) (aSOne (aRaise (c := "NotValid") rfl rfl (takes_of rfl rfl rfl rfl) (T.exc 9) (T.glo 10))) aSNil)
      (aSCons (aIf (PW.pt (aTAnd (aTCmp up_isnt o_notN (aFld (c := "Flash") (f := "broken") rfl (T.cls 11) (T.noat 18) (aV 0)) aNon (nomark _)) (aTAnd1 (aTCmp up_gt L2.op_gt (aV 1) aInt (nomark _))))) (aSCons (aAsg (aFld (c := "Flash") (f := "broken") rfl (T.cls 11) (T.noat 18) (aV 0)) (aGT (n := 3) rfl (aGsC (aGN (i := 2) sc_Flash_cut.nd) (aGsC (aGN (i := 3) sc_Flash_cut.nd) (aGsC (aGN (i := 4) sc_Flash_cut.nd) aGsN)))))
      (aSCons (aSet (i := 5) sc_Flash_cut.nd (aIx (aLst true (aCons aNon (aCons (aV 4) (aCons (aGlob (pe_globS rfl (T.str 28)) fun _ => .str _) aNil)))) (aV 1)))
      (aSOne (aIf (aTCmp up_is o_isN (aV 3) aNon (nomark _)) (aSOne (aExp (aMeth (c := "Flash") (m := "fill") rfl (T.cls 11) (T.meth 26) (ok_Flash_fill T) (takes_of rfl rfl rfl rfl) (hr.mono (by decide)) (aV 0) (aCons (aV 2) (aCons (aV 5) aNil)) (len_cons (len_cons len_nil))))) (aSOne (aAsg (aV 5) (aGIx (aIx (aFld (c := "Flash") (f := "held") rfl (T.cls 11) (T.noat 14) (aV 0)) (aV 2)) (aV 3)))))))) aSNil)
      (aSCons (aSetF (c := "Flash") (f := "broken") rfl (T.cls 11) (T.noat 18) (aV 0) aNon)
      (aSCons (aSetF (c := "Flash") (f := "left") rfl (T.cls 11) (T.noat 16) (aV 0) aNon)
      (aSOne (aSetF (c := "Flash") (f := "power") rfl (T.cls 11) (T.noat 17) (aV 0) aBl)))))) h)
theorem ok__law_do (T : Tx fa fn ts exs w K mg) : Okd P w K mg base ("_law_do", none) 5 ["_law_flash", "_law_act", "_law_block", "_law_page", "_law_record"] (spA K 5 m__law_do) :=
  okd (k := 4) T 16 rfl sc__law_do (fun _ _ _ _ _ _ us hl => match us, hl with | [_, _, _, _, _], _ => rfl) (fun vs H Q E h => h.1) (fun f cdv A outer s H vs Q E hr h => aDef (n := 5) (b := b__law_do) rfl (aSOne (aTryAs (c := "SpindleError") (tb := [("NotValid", true), ("PowerOff", true)]) 5 sc__law_do.nd rfl rfl rfl (T.glo 37) (takes_of rfl rfl rfl rfl) (tb_cons (T.exm 35) (tb_cons (T.exm 36) tb_nil)) (fun W pn xe tk po => (aSCons (aIf (aTCmp up_eq (op_eqM hr.units) (aV 1) aStr (nomark _)) (aSOne (aRet (aMeth (c := "Flash") (m := "program") rfl (T.cls 11) (T.meth 29) (ok_Flash_program T) tk (hr.mono (by decide)) (aV 0) (aCons (aV 2) (aCons (aV 3) (aCons (aV 4) aNil))) (len_cons (len_cons (len_cons len_nil)))))) aSNil)
      (aSCons (aIf (aTCmp up_eq (op_eqM hr.units) (aV 1) aStr (nomark _)) (aSOne (aRet (aMeth (c := "Flash") (m := "erase") rfl (T.cls 11) (T.meth 30) (ok_Flash_erase T) tk (hr.mono (by decide)) (aV 0) (aCons (aV 2) aNil) (len_cons len_nil)))) aSNil)
      (aSCons (aIf (aTCmp up_eq (op_eqM hr.units) (aV 1) aStr (nomark _)) (aSOne (aRet (aMeth (c := "Flash") (m := "read") rfl (T.cls 11) (T.meth 31) (ok_Flash_read T) tk (hr.mono (by decide)) (aV 0) (aCons (aV 2) (aCons (aV 3) aNil)) (len_cons (len_cons len_nil))))) aSNil)
      (aSCons (aIf (aTCmp up_eq (op_eqM hr.units) (aV 1) aStr (nomark _)) (aSOne (aRet (aMeth (c := "Flash") (m := "fail_after") rfl (T.cls 11) (T.meth 32) (ok_Flash_fail_after T) tk (hr.mono (by decide)) (aV 0) (aCons (aV 2) aNil) (len_cons len_nil)))) aSNil)
      (aSOne (aRet (aMeth (c := "Flash") (m := "cut") rfl (T.cls 11) (T.meth 33) (ok_Flash_cut T) tk (hr.mono (by decide)) (aV 0) (aCons (aV 2) aNil) (len_cons len_nil))))))))) (fun a oe cls d pn hz hf => axRet (axCallT T 15 rfl sc__law_kind rfl (fun _ _ _ _ _ _ us hl => match us, hl with | [_], _ => rfl) rfl rfl (fun A outer s H cdv => axIfRet (axIs (tc := [("NotValid", false), ("PowerOff", true)]) (pe_callB (call_isGK K hz hf) (by rfl) (T.free 4) (by decide +kernel) (pa_cons (pe_var (i := 0) rfl (.inl rfl)) (pa_cons (pe_globR rfl (T.glo 21)) pa_nil))) (tb_cons (excB_ok (T.ex 0)) (tb_cons (excB_ok (T.ex 1)) tb_nil)) (tb_cons (kitB2_ok (T.ex 2)) (tb_cons (kitB2_ok (T.ex 3)) tb_nil))) (axRet (axLst true (axCons (axC aStr) (axCons (axC aStr) axNil)))) (axRet (axLst true (axCons (axC aStr) (axCons (axIs (tc := [("NotValid", true), ("PowerOff", false)]) (pe_callB (call_isGK K hz hf) (by rfl) (T.free 4) (by decide +kernel) (pa_cons (pe_var (i := 0) rfl (.inl rfl)) (pa_cons (pe_globR rfl (T.glo 10)) pa_nil))) (tb_cons (excB_ok (T.ex 0)) (tb_cons (excB_ok (T.ex 1)) tb_nil)) (tb_cons (kitB2_ok (T.ex 4)) (tb_cons (kitB2_ok (T.ex 5)) tb_nil))) axNil))))) (hr.mono (by decide)) (T.glo 34))))) h)
theorem ok__law_apply (T : Tx fa fn ts exs w K mg) : Okd P w K mg base ("_law_apply", none) 1 ["_law_held", "_law_wears", "_law_act", "_law_block", "_law_page", "_law_content"] (spA K 6 m__law_apply) :=
  okd (k := 0) T 17 rfl sc__law_apply (fun _ _ _ _ _ _ us hl => match us, hl with | [_, _, _, _, _, _], _ => rfl) (fun vs H Q E h => h.1) (fun f cdv A outer s H vs Q E hr h => aDef (n := 6) (b := b__law_apply) rfl (aSOne (aIf (aTCmp up_eq (op_eqM hr.units) (aV 2) aStr (nomark _)) (aSOne (aAsg (aV 5) (aGIx (aIx (aV 0) (aV 3)) (aV 4)))) (aSCons (aAsg (aRep false (aLst true (aCons (aV 5) aNil)) aInt) (aGIx (aV 0) (aV 3)))
      (aSOne (aAsg (aOp up_add op_addUK (aIx (aV 1) (aV 3)) aInt) (aGIx (aV 1) (aV 3))))))) h)
theorem ok__law_cut (T : Tx fa fn ts exs w K mg) : Okd P w K mg base ("_law_cut", none) 2 ["_law_held", "_law_wears", "_law_world", "_law_choice"] (spA K 4 m__law_cut) :=
  okd (k := 1) T 18 rfl sc__law_cut (fun _ _ _ _ _ _ us hl => match us, hl with | [_, _, _, _], _ => rfl) (fun vs H Q E h => h.1) (fun f cdv A outer s H vs Q E hr h => aDef (n := 4) (b := b__law_cut) rfl (aSCons (aIf (aTCmp up_nin (op_ninM hr.units) (aV 3) (aTup (aCons aInt (aCons aInt (aCons aInt aNil)))) (by with_unfolding_all rfl)) (aSOne (aRet (aLst true (aCons aStr (aCons aBl aNil))))) aSNil)
      (aSCons (aIf (PW.pt (aTAnd (aTCmp up_isnt o_notN (aIx (aV 2) aInt) aNon (nomark _)) (aTAnd1 (aTCmp up_gt L2.op_gt (aV 3) aInt (nomark _))))) (aSCons (aAsg (aIx (aV 2) aInt) (aGT (n := 4) rfl (aGsC (aGN (i := 4) sc__law_cut.nd) (aGsC (aGN (i := 5) sc__law_cut.nd) (aGsC (aGN (i := 6) sc__law_cut.nd) (aGsC (aGN (i := 7) sc__law_cut.nd) aGsN))))))
      (aSCons (aSet (i := 8) sc__law_cut.nd aStr)
      (aSCons (aIf (aTCmp up_eq (op_eqM hr.units) (aV 3) aInt (nomark _)) (aSCons (aSet (i := 8) sc__law_cut.nd aNon)
      (aSOne (aIf (aTCmp up_eq (op_eqM hr.units) (aV 4) aStr (nomark _)) (aSOne (aSet (i := 8) sc__law_cut.nd (aV 7))) aSNil))) aSNil)
      (aSOne (aExp (aCall (ok__law_apply T) (takes_of rfl rfl rfl rfl) (hr.mono (by decide)) (T.glo 38) (aCons (aV 0) (aCons (aV 1) (aCons (aV 4) (aCons (aV 5) (aCons (aV 6) (aCons (aV 8) aNil)))))) (len_cons (len_cons (len_cons (len_cons (len_cons (len_cons len_nil)))))))))))) aSNil)
      (aSCons (aAsg aNon (aGIx (aV 2) aInt))
      (aSCons (aAsg aBl (aGIx (aV 2) aInt))
      (aSCons (aAsg aNon (aGIx (aV 2) aInt))
      (aSOne (aRet aNon))))))) h)
theorem ok__law_due (T : Tx fa fn ts exs w K mg) : Okd P w K mg base ("_law_due", none) 2 ["_law_held", "_law_wears", "_law_world", "_law_act", "_law_block", "_law_page", "_law_record"] (spA K 7 m__law_due) :=
  okd (k := 1) T 19 rfl sc__law_due (fun _ _ _ _ _ _ us hl => match us, hl with | [_, _, _, _, _, _, _], _ => rfl) (fun vs H Q E h => h.1) (fun f cdv A outer s H vs Q E hr h => aDef (n := 7) (b := b__law_due) rfl (aSCons (aIf (aTCmp up_eq (op_eqM hr.units) (aV 3) aStr (nomark _)) (aSCons (aIf (aTNot (aTVal (aIx (aV 2) aInt))) (aSOne (aRet (aLst true (aCons aStr (aCons aStr aNil))))) aSNil)
      (aSOne (aRet (aIx (aIx (aV 0) (aV 4)) (aV 5))))) aSNil)
      (aSCons (aIf (PW.pt (aTAnd (aTCmp up_eq (op_eqM hr.units) (aV 3) aStr (nomark _)) (aTAnd1 (aTCmp up_ne (op_neM hr.units) (aCall (ok__law_next T) (takes_of rfl rfl rfl rfl) (hr.mono (by decide)) (T.glo 39) (aCons (aIx (aV 0) (aV 4)) aNil) (len_cons len_nil)) (aV 5) (nomark _))))) (aSOne (aRet (aLst true (aCons aStr (aCons aBl aNil))))) aSNil)
      (aSCons (aIf (PW.pt (aTAnd (aTVal (aIx (aV 2) aInt)) (aTAnd1 (aTCmp up_eq (op_eqM hr.units) (aIx (aV 2) aInt) aInt (nomark _))))) (aSCons (aAsg aBl (aGIx (aV 2) aInt))
      (aSCons (aAsg (aTup (aCons (aV 3) (aCons (aV 4) (aCons (aV 5) (aCons (aV 6) aNil))))) (aGIx (aV 2) aInt))
      (aSOne (aRet (aLst true (aCons aStr (aCons aStr aNil))))))) aSNil)
      (aSCons (aIf (aTNot (aTVal (aIx (aV 2) aInt))) (aSOne (aRet (aLst true (aCons aStr (aCons aStr aNil))))) aSNil)
      (aSCons (aIf (aTCmp up_isnt o_notN (aIx (aV 2) aInt) aNon (nomark _)) (aSOne (aAsg (aOp up_sub L2.op_sub (aIx (aV 2) aInt) aInt) (aGIx (aV 2) aInt))) aSNil)
      (aSCons (aSet (i := 7) sc__law_due.nd aNon)
      (aSCons (aIf (aTCmp up_eq (op_eqM hr.units) (aV 3) aStr (nomark _)) (aSOne (aSet (i := 7) sc__law_due.nd (aV 6))) aSNil)
      (aSCons (aExp (aCall (ok__law_apply T) (takes_of rfl rfl rfl rfl) (hr.mono (by decide)) (T.glo 38) (aCons (aV 0) (aCons (aV 1) (aCons (aV 3) (aCons (aV 4) (aCons (aV 5) (aCons (aV 7) aNil)))))) (len_cons (len_cons (len_cons (len_cons (len_cons (len_cons len_nil))))))))
      (aSOne (aRet aNon)))))))))) h)
theorem ok_Flash_wear (T : Tx fa fn ts exs w K mg) : Okd P w K mg base ("Flash", some "wear") 3 ["self", "block"] (spA K 2 m_Flash_wear) :=
  okd (k := 2) T 20 rfl sc_Flash_wear (fun _ _ _ _ _ _ us hl => match us, hl with | [_, _], _ => rfl) (fun vs H Q E h => h.1) (fun f cdv A outer s H vs Q E hr h => aDef (n := 2) (b := b_Flash_wear) rfl (aSCons (aExp (aMeth (c := "Flash") (m := "check_block") rfl (T.cls 11) (T.meth 19) (ok_Flash_check_block T) (takes_of rfl rfl rfl rfl) (hr.mono (by decide)) (aV 0) (aCons (aV 1) aNil) (len_cons len_nil)))
      (aSOne (aRet (aIx (aFld (c := "Flash") (f := "wears") rfl (T.cls 11) (T.noat 15) (aV 0)) (aV 1))))) h)
theorem ok__law_same (T : Tx fa fn ts exs w K mg) : Okd P w K mg base ("_law_same", none) 1 ["_law_told", "_law_due_here"] (spA K 2 m__law_same) :=
  okd (k := 0) T 21 rfl sc__law_same (fun _ _ _ _ _ _ us hl => match us, hl with | [_, _], _ => rfl) (fun vs H Q E h => h.1) (fun f cdv A outer s H vs Q E hr h => aDef (n := 2) (b := b__law_same) rfl (aSCons (aIf (aTCmp up_is o_isN (aV 1) aNon (nomark _)) (aSOne (aRet (aCmp up_is o_isN (aV 0) aNon (nomark _)))) aSNil)
      (aSOne (aRet (aAnd (aCmp up_eq (op_eqM hr.units) (aCallB up_isi (call_isiK K) (by rfl) (T.free 4) (by decide +kernel) (aCons (aV 0) (aCons (aGlob (pe_bltn (v := .ty "tuple") rfl (T.free 24) (by decide +kernel) rfl) fun _ => .ty _) aNil))) (aCallB up_isi (call_isiK K) (by rfl) (T.free 4) (by decide +kernel) (aCons (aV 1) (aCons (aGlob (pe_bltn (v := .ty "tuple") rfl (T.free 24) (by decide +kernel) rfl) fun _ => .ty _) aNil))) (nomark _)) (aOne (aCmp up_eq (op_eqM hr.units) (aV 0) (aV 1) (nomark _))))))) h)
theorem ok_Flash_image (T : Tx fa fn ts exs w K mg) : Okd P w K mg base ("Flash", some "image") 1 ["self"] (spA K 1 m_Flash_image) :=
  okd (k := 0) T 22 rfl sc_Flash_image (fun _ _ _ _ _ _ us hl => match us, hl with | [_], _ => rfl) (fun vs H Q E h => h.1) (fun f cdv A outer s H vs Q E hr h => aDef (n := 1) (b := b_Flash_image) rfl (aSOne (aRet (aLc true rfl sc_Flash_image.nd (aItR1 (T.free 1) (aCons (aFld (c := "Flash") (f := "blocks") rfl (T.cls 11) (T.noat 12) (aV 0)) aNil)) (blkOk_by (own := [("block", 1)]) (N := ["self", "block"]) (sc := defScope s_Flash_image) (by decide +kernel)) (fun _ _ _ _ _ => pg_name (i := 1) sc_Flash_image.nd rfl (Or.inl rfl)) (fun _ _ _ _ _ => aIfN) (fun _ _ _ _ _ => (aTup (aCons (aIx (aFld (c := "Flash") (f := "wears") rfl (T.cls 11) (T.noat 15) (aV 0)) (aV 1)) (aCons (aCallTy (up_list true) (c_listK K) (by rfl) (T.free 40) (by decide +kernel) (aCons (aIx (aFld (c := "Flash") (f := "held") rfl (T.cls 11) (T.noat 14) (aV 0)) (aV 1)) aNil)) aNil))))))) h)
theorem ok_law (T : Tx fa fn ts exs w K mg) {fd : FuncData} (F : FunD K "law" "law" (defArgs s_law) (defBody s_law) (defScope s_law) [] [] (He.ga K "law") fd) (ht : ∀ ns : List Int, ns.length ≤ 63 → ∃ S, m_law [.scr (ns.map .int)] [] = .ok (.bl true) S) : FnOk P w K mg base (L2.CX P w) 6 (He.ga K "law") fd ["_law_script"] (sp_law K) :=
  FunD.ok (k := 5) F sc_law (fun vs H Q E h => by obtain ⟨a, ns, rfl, _⟩ := h; rfl) (fun cdv A outer s H vs Q E hr h => aDef (n := 1) (b := b_law) rfl (aSCons (aSet (i := 1) sc_law.nd (aCall (ok__law_tape T) (takes_of rfl rfl rfl rfl) (hr.mono (by decide)) (T.glo 41) (aCons (aV 0) aNil) (len_cons len_nil)))
      (aSCons (aSet (i := 2) sc_law.nd (aMake (c := "Flash") rfl (T.mkr 42) (ok_Flash___init__ T) (takes_of rfl rfl rfl rfl) (hr.mono (by decide)) (T.glo 43) (aCons aInt aNil) (len_cons len_nil)))
      (aSCons (aSet (i := 4) sc_law.nd (aLc false rfl sc_law.nd (aItR1 (T.free 1) (aCons aInt aNil)) (blkOk_by (own := [("_law_block", 3)]) (N := ["_law_script", "_law_tape_here", "_law_flash", "_law_block", "_law_held", "_law_wears", "_law_world", "_law_k", "_law_number", "_law_pick", "_law_act", "_law_page", "_law_count", "_law_due_here", "_law_told", "_law_choice"]) (sc := defScope s_law) (by decide +kernel)) (fun _ _ _ _ _ => pg_name (i := 3) sc_law.nd rfl (Or.inl rfl)) (fun _ _ _ _ _ => aIfN) (fun _ _ _ _ _ => (aRep false (aLst true (aCons aNon aNil)) aInt))))
      (aSCons (aSet (i := 5) sc_law.nd (aRep false (aLst true (aCons aInt aNil)) aInt))
      (aSCons (aSet (i := 6) sc_law.nd (aLst false (aCons aNon (aCons aBl (aCons aNon aNil)))))
      (aSCons (aIf (aTCmp up_ne (op_neM hr.units) (aGlob (pe_globS rfl (T.str 28)) fun _ => .str _) aStr (nomark _)) (aSOne (aRet aBl)) aSNil)
      (aSCons (aFor (passes_of rfl) rfl (aItR1 (T.free 1) (aCons (aCallB up_min2 (c_min2 rfl) (by rfl) (T.free 44) (by decide +kernel) (aCons aInt (aCons (aOp up_div L2.op_fdiv (aCallB up_len c_lenU (by rfl) (T.free 0) (by decide +kernel) (aCons (aV 1) aNil)) aInt) aNil))) aNil)) (aGN (i := 7) sc_law.nd) (aSCons (aSet (i := 8) sc_law.nd (aCall (ok__law_at T) (takes_of rfl rfl rfl rfl) (hr.mono (by decide)) (T.glo 45) (aCons (aV 1) (aCons (aOp up_mul op_mulU aInt (aV 7)) aNil)) (len_cons (len_cons len_nil))))
      (aSCons (aSet (i := 9) sc_law.nd (aCall (ok__law_at T) (takes_of rfl rfl rfl rfl) (hr.mono (by decide)) (T.glo 45) (aCons (aV 1) (aCons (aOp up_add op_addUK (aOp up_mul op_mulU aInt (aV 7)) aInt) aNil)) (len_cons (len_cons len_nil))))
      (aSCons (aSet (i := 10) sc_law.nd (aIx (aLst true (aCons aStr (aCons aStr (aCons aStr (aCons aStr (aCons aStr (aCons aStr (aCons aStr (aCons aStr (aCons aStr (aCons aStr aNil))))))))))) (aOp up_mod L2.op_mod (aV 8) aInt)))
      (aSCons (aSet (i := 3) sc_law.nd (aIx (aLst true (aCons aInt (aCons aInt (aCons aInt aNil)))) (aOp up_mod L2.op_mod (aOp up_div L2.op_fdiv (aV 8) aInt) aInt)))
      (aSCons (aSet (i := 11) sc_law.nd (aCall (ok__law_next T) (takes_of rfl rfl rfl rfl) (hr.mono (by decide)) (T.glo 39) (aCons (aIx (aV 4) (aV 3)) aNil) (len_cons len_nil)))
      (aSCons (aIf (PW.pt (aTOr (aTCmp up_eq (op_eqM hr.units) (aV 10) aStr (nomark _)) (aTOr1 (aTCmp up_eq (op_eqM hr.units) (aOp up_mod L2.op_mod (aV 9) aInt) aInt (nomark _))))) (aSOne (aSet (i := 11) sc_law.nd (aOp up_mod L2.op_mod (aV 9) aInt))) aSNil)
      (aSCons (aIf (aTCmp up_gt L2.op_gt (aV 11) aInt (nomark _)) (aSOne (aSet (i := 11) sc_law.nd aInt)) aSNil)
      (aSCons (aIf (aTCmp up_eq (op_eqM hr.units) (aV 10) aStr (nomark _)) (aSCons (aSet (i := 12) sc_law.nd (aIx (aLst true (aCons aNon (aCons aInt (aCons aInt (aCons aInt (aCons aInt (aCons aInt (aCons aInt (aCons aInt (aCons aInt (aCons (aUn up_neg L2.un_neg aInt) (aCons aInt (aCons aStr aNil))))))))))))) (aOp up_mod L2.op_mod (aV 9) aInt)))
      (aSCons (aSet (i := 13) sc_law.nd aNon)
      (aSCons (aIf (aTCmp up_gt L2.op_gt (aOp up_mod L2.op_mod (aV 9) aInt) aInt (nomark _)) (aSOne (aSet (i := 13) sc_law.nd (aLst true (aCons aStr (aCons aBl aNil))))) (aSOne (aAsg (aV 12) (aGIx (aV 6) aInt))))
      (aSOne (aSet (i := 14) sc_law.nd (aCall (ok__law_do T) (takes_of rfl rfl rfl rfl) (hr.mono (by decide)) (T.glo 46) (aCons (aV 2) (aCons aStr (aCons (aV 12) (aCons aInt (aCons aNon aNil))))) (len_cons (len_cons (len_cons (len_cons (len_cons len_nil))))))))))) (aSOne (aIf (aTCmp up_eq (op_eqM hr.units) (aV 10) aStr (nomark _)) (aSCons (aSet (i := 15) sc_law.nd (aIx (aLst true (aCons aInt (aCons aInt (aCons aInt (aCons aInt (aCons aInt (aCons aInt (aCons aInt (aCons (aUn up_neg L2.un_neg aInt) aNil))))))))) (aOp up_mod L2.op_mod (aV 9) aInt)))
      (aSCons (aSet (i := 13) sc_law.nd (aCall (ok__law_cut T) (takes_of rfl rfl rfl rfl) (hr.mono (by decide)) (T.glo 47) (aCons (aV 4) (aCons (aV 5) (aCons (aV 6) (aCons (aV 15) aNil)))) (len_cons (len_cons (len_cons (len_cons len_nil))))))
      (aSOne (aSet (i := 14) sc_law.nd (aCall (ok__law_do T) (takes_of rfl rfl rfl rfl) (hr.mono (by decide)) (T.glo 46) (aCons (aV 2) (aCons aStr (aCons (aV 15) (aCons aInt (aCons aNon aNil))))) (len_cons (len_cons (len_cons (len_cons (len_cons len_nil)))))))))) (aSCons (aSet (i := 13) sc_law.nd (aCall (ok__law_due T) (takes_of rfl rfl rfl rfl) (hr.mono (by decide)) (T.glo 48) (aCons (aV 4) (aCons (aV 5) (aCons (aV 6) (aCons (aV 10) (aCons (aV 3) (aCons (aV 11) (aCons (aTup (aCons (aV 7) (aCons (aV 9) aNil))) aNil))))))) (len_cons (len_cons (len_cons (len_cons (len_cons (len_cons (len_cons len_nil)))))))))
      (aSOne (aSet (i := 14) sc_law.nd (aCall (ok__law_do T) (takes_of rfl rfl rfl rfl) (hr.mono (by decide)) (T.glo 46) (aCons (aV 2) (aCons (aV 10) (aCons (aV 3) (aCons (aV 11) (aCons (aTup (aCons (aV 7) (aCons (aV 9) aNil))) aNil))))) (len_cons (len_cons (len_cons (len_cons (len_cons len_nil))))))))))))
      (aSCons (aIf (PW.pt (aTOr (aTNot (aTVal (aCall (ok__law_same T) (takes_of rfl rfl rfl rfl) (hr.mono (by decide)) (T.glo 50) (aCons (aV 14) (aCons (aV 13) aNil)) (len_cons (len_cons len_nil))))) (aTOr1 (aTCmp up_ne (op_neM hr.units) (aMeth (c := "Flash") (m := "wear") rfl (T.cls 11) (T.meth 49) (ok_Flash_wear T) (takes_of rfl rfl rfl rfl) (hr.mono (by decide)) (aV 2) (aCons (aV 3) aNil) (len_cons len_nil)) (aIx (aV 5) (aV 3)) (nomark _))))) (aSOne (aRet aBl)) aSNil)
      (aSOne (aIf (aTCmp up_ne (op_neM hr.units) (aIx (aMeth0 (c := "Flash") (m := "image") rfl (T.cls 11) (T.meth 51) (ok_Flash_image T) (takes_of rfl rfl rfl rfl) (hr.mono (by decide)) (aV 2)) (aV 3)) (aTup (aCons (aIx (aV 5) (aV 3)) (aCons (aIx (aV 4) (aV 3)) aNil))) (nomark _)) (aSOne (aRet aBl)) aSNil))))))))))))
      (aSOne (aRet (aCmp up_eq (op_eqM hr.units) (aMeth0 (c := "Flash") (m := "image") rfl (T.cls 11) (T.meth 51) (ok_Flash_image T) (takes_of rfl rfl rfl rfl) (hr.mono (by decide)) (aV 2)) (aLc true rfl sc_law.nd (aItR1 (T.free 1) (aCons aInt aNil)) (blkOk_by (own := [("_law_block", 3)]) (N := ["_law_script", "_law_tape_here", "_law_flash", "_law_block", "_law_held", "_law_wears", "_law_world", "_law_k", "_law_number", "_law_pick", "_law_act", "_law_page", "_law_count", "_law_due_here", "_law_told", "_law_choice"]) (sc := defScope s_law) (by decide +kernel)) (fun _ _ _ _ _ => pg_name (i := 3) sc_law.nd rfl (Or.inl rfl)) (fun _ _ _ _ _ => aIfN) (fun _ _ _ _ _ => (aTup (aCons (aIx (aV 5) (aV 3)) (aCons (aIx (aV 4) (aV 3)) aNil))))) (nomark _))))))))))) (law_in ht h))
end
local macro_rules | `(tactic| walk_at "ev") => `(tactic| simp only [e_bok, e_bexc, e_bbad, e_sok, e_sexc, e_sbad, e_qnx, e_qrt, e_qbr, e_qct, e_qexc, e_qbad, e_onx, e_oexc, e_nok, e_seq, e_pass, e_brk, e_cnt, e_exp, e_expK, e_ret, e_retK, e_retN, e_if, e_ifK, e_set, e_setK, e_asg, e_asgK, e_raise, e_gN, e_gsN, e_gsC, e_gT, e_gTk, e_m1, e_m2, e_m2K, e_mN, e_nil, e_cons, e_consK, e_consL, e_C, e_V, e_vget, e_B, e_opB, e_Tru, e_TAnd, e_taK, e_TOr, e_toK, e_TNot, e_tnK, e_And, e_Or, e_Not, e_andK, e_orK, e_notK, e_IfE, e_ifeK, e_Chain, e_ch1, e_ch2, e_ch3, e_Call, e_oget, e_Fld, e_fldK, e_Meth, e_mtK, e_mtL, e_ometh, e_Make, e_mkK, e_mkN, e_isNon, e_sget, e_gIx, e_gi1, e_gi2, e_SetF, e_sf1, e_sf2, e_DPut, e_dp1, e_dp2, e_dp3, e_pget, e_pgetS, e_AugF, e_af1, e_afP, e_af2, e_af3, e_AugIx, e_ai1, e_ai2, e_ai3, e_ai4, e_ai5, e_Aug, e_augK, e_au1, e_au2, e_ML, e_mlK, e_Get1, e_gg1, e_gg2, e_ggD, e_Get2, e_gh1, e_gh2, e_gh3, e_NewD, e_mkDt, e_mkDf, e_mkLt, e_mkLf, e_Frz, e_NoP, e_Part, e_partK, e_Sl, e_sl1, e_sl2, e_opSlT, e_opSlL, e_For, e_forK, e_Lc, e_lcK, e_Yes, e_itT, e_itL, e_itR1, e_itR2, e_itTKt, e_itTKk, e_itLKl, e_itLKs, e_itR1K, e_itR2K, e_add, e_addT, e_addL, e_addI, e_sub, e_mod, e_div, e_mul, e_pow, e_mulL, e_rep, e_repK, e_neg, e_lt, e_le, e_gt, e_ge, e_abs, e_int, e_intB, e_min2, e_max2, e_tup, e_lst, e_lenK0, e_len, e_lenT, e_lenL, e_lenS, e_lenK, e_lenD, e_mkLK, e_list, e_seqT, e_seqL, e_seqS, e_seqK, e_lkL, e_lkS, e_lkP, e_tupleT, e_tupleL, e_srtK, e_sortI, e_anyK, e_allK, e_sumK, e_any, e_all, e_sum, e_atK, e_okK, e_ix, e_ixL, e_is, e_isnt, e_isB, e_isntB, e_non_int, e_non_str, e_non_bl, e_non_tup, e_non_tupk, e_non_lst, e_non_dct, e_non_ref, e_isiK, e_isi, e_ty_non, e_ty_int, e_ty_str, e_ty_bl, e_ty_tup, e_ty_tupk, e_ty_lst, e_ty_scr, e_ty_dct, e_tru_non, e_tru_bl, e_tru_int, e_tru_tup, e_tru_lst, e_dgK, e_dget, e_diK, e_dnK, e_din, e_dnin, e_dOf, e_keyI, e_keyS, e_keyT, e_seqR, e_lkR, e_lkPR, e_lstO, e_isLR, e_isLO, e_dOfR, e_dctO, e_lckO, e_lenR, e_lenOl, e_lenOd, e_tyR, e_tyOl, e_tyOd, e_truR, e_truO, e_objR, e_objO, e_setLR, e_setLO, e_setL2, e_setFR, e_setFO, e_putR, e_putO, e_appR, e_appO, e_extR, e_extO, e_popR, e_frzR, e_frzOl, e_frzOd, e_itR, e_itO, e_def, e_dfr, e_dfn, e_dfe, e_forLc, e_forL0, e_forB, e_forNn, e_forNc, e_forNb, e_forNr, e_forNe, e_fstep, e_fsB, e_lc0, e_lcc, e_lc1, e_lc2, e_Pop1, e_pp1, e_Pop2, e_pq0, e_pq1, e_pq2, e_pop1R, e_pop2R, e_popDO, e_popGs, e_popGn, e_srtPK, e_sortP, q_non_non, q_non_bl, q_non_int, q_non_str, q_non_tup, q_non_tupk, q_non_lst, q_non_scr, q_bl_non, q_bl_bl, q_bl_int, q_bl_str, q_bl_tup, q_bl_tupk, q_bl_lst, q_bl_scr, q_int_non, q_int_bl, q_int_int, q_int_str, q_int_tup, q_int_tupk, q_int_lst, q_int_scr, q_str_non, q_str_bl, q_str_int, q_str_str, q_str_tup, q_str_tupk, q_str_lst, q_str_scr, q_tup_non, q_tup_bl, q_tup_int, q_tup_str, q_tup_tup, q_tup_tupk, q_tup_lst, q_tup_scr, q_tupk_non, q_tupk_bl, q_tupk_int, q_tupk_str, q_tupk_tup, q_tupk_tupk, q_tupk_lst, q_tupk_scr, q_lst_non, q_lst_bl, q_lst_int, q_lst_str, q_lst_tup, q_lst_tupk, q_lst_lst, q_lst_scr, q_scr_non, q_scr_bl, q_scr_int, q_scr_str, q_scr_tup, q_scr_tupk, q_scr_lst, q_scr_scr, q_nil, q_cons, q_nilc, q_consn, opEq_non_non, opNe_non_non, opEq_non_bl, opNe_non_bl, opEq_non_int, opNe_non_int, opEq_non_str, opNe_non_str, opEq_bl_non, opNe_bl_non, opEq_bl_bl, opNe_bl_bl, opEq_bl_int, opNe_bl_int, opEq_bl_str, opNe_bl_str, opEq_int_non, opNe_int_non, opEq_int_bl, opNe_int_bl, opEq_int_int, opNe_int_int, opEq_int_str, opNe_int_str, opEq_str_non, opNe_str_non, opEq_str_bl, opNe_str_bl, opEq_str_int, opNe_str_int, opEq_str_str, opNe_str_str, e_isBe, e_tys, dt_non, dt_bl, dt_int, dt_str, dt_tup, dt_tupk, dt_lst, dt_nil, dt_cons, dp_non, dp_bl, dp_int, dp_str, dp_tup, dp_tupk, dp_lst, dp_nil, dp_cons, opEq_tup_tup, opNe_tup_tup, opEq_lst_lst, opNe_lst_lst, opEq_non_tup, opNe_non_tup, opEq_non_tupk, opNe_non_tupk, e_conIn, e_conNin, e_conGet, e_conK, lookT_nil, lookT_cons, e_lkMl, e_lkMr, e_addM, e_amJ, e_amK, e_gsnoc, e_ssnoc, e_in_tup, e_nin_tup, e_in_tupk, e_nin_tupk, e_in_lst, e_nin_lst, e_ogetG, e_putTn, e_putTc, e_lookn, e_lookc, e_Par, e_parK, e_tupleR, e_tuO, e_lkMO, e_slO, e_eqRL, e_neRL, e_eqRLs, e_neRLs, e_opSlR, rngT_00, rngT_1, rngT_2, rngT_3, rngT_4, lkX_nil, lkX_cons, e_TryA, e_tyNx, e_tyRt, e_tyBr, e_tyCt, e_tyEx, e_tyC1, e_tyC0, e_rtK, e_IsX, e_isxK, e_TIx, e_tixK, e_tixO, ixS_nil, ixS_cons, e_opSlTk, e_isiOR, e_isiOL, e_isoKo, e_isoKl, e_sortH, e_srtHK, e_MaxD, e_maxDK, e_maxDn, e_maxDc, e_sortD, e_srtDK, e_srtDL, e_Try, e_tryNx, e_tryRt, e_tryBr, e_tryCt, e_tryEx, e_tryC1, e_tryC0, e_trnN, e_trnR, e_trnB, e_trnC, e_lt3, e_min3, e_min3J, e_sortG, e_srtGK, e_itI, e_itId, e_itIr, e_itIO, e_setd, e_setdO, e_setdGs, e_setdGn, e_rem, e_remO, e_remG, e_itK, e_itKd, e_itKr, e_keysO, e_Disp, e_dspK, e_Lock, e_lkSR, e_lkTr, e_lkTd, e_lkO, e_ulNx, e_ulRt, e_ulBr, e_ulCt, e_LockE, e_lkRE, e_lkTEr, e_lkTEd, e_lkOE, e_uleO, e_MH, e_mhKr, e_mhO, e_mhL, e_popT, e_popTO, e_popTG, e_sortTI, e_srtTK, Int.cast_ofNat_Int, List.getElem?_cons_zero, List.getElem?_cons_succ, List.set_cons_zero, List.set_cons_succ, List.map_cons, List.map_nil, List.cons_append, List.nil_append, List.append_nil, List.length_cons, List.length_nil, ↓reduceIte, Nat.reduceAdd, Nat.reduceSub, Nat.reduceMul, Nat.reduceLT, Nat.reduceLeDiff, Nat.reduceEqDiff, Int.reduceAdd, Int.reduceSub, Int.reduceMul, Int.reduceNeg, Int.reduceLT, Int.reduceLE, Int.reduceEq, Int.reducePow, Int.reduceToNat, Nat.reducePow, Int.reduceDiv, Int.reduceMod, List.reduceReplicate, String.reduceEq, Bool.false_eq_true, Bool.true_eq_false, decide_true, decide_false, Bool.not_true, Bool.not_false, Bool.and_true, Bool.true_and, Bool.and_false, Bool.false_and, Bool.or_true, Bool.true_or, Bool.or_false, Bool.false_or, Option.bind_some, Option.map_some, Option.bind_none, Option.map_none, Option.isNone_none, Option.isNone_some, ite_self, eq_self, ne_eq, Option.isSome_some, Option.isSome_none, Option.getD_some, Option.getD_none, decide_eq_true_eq, decide_eq_false_iff_not, Bool.not_eq_true, List.any_cons, List.any_nil, and_self, and_true, true_and, or_true, true_or, false_or, or_false, false_and, and_false, reduceCtorEq, not_false_eq_true, not_true_eq_false, line_small, atI_lit, atI_m1, List.getElem?_set, List.length_set, List.set_set, ixN_lit, List.length_append])
local macro_rules | `(tactic| walk_at "ev*") => `(tactic| simp only [*, e_bok, e_bexc, e_bbad, e_sok, e_sexc, e_sbad, e_qnx, e_qrt, e_qbr, e_qct, e_qexc, e_qbad, e_onx, e_oexc, e_nok, e_seq, e_pass, e_brk, e_cnt, e_exp, e_expK, e_ret, e_retK, e_retN, e_if, e_ifK, e_set, e_setK, e_asg, e_asgK, e_raise, e_gN, e_gsN, e_gsC, e_gT, e_gTk, e_m1, e_m2, e_m2K, e_mN, e_nil, e_cons, e_consK, e_consL, e_C, e_V, e_vget, e_B, e_opB, e_Tru, e_TAnd, e_taK, e_TOr, e_toK, e_TNot, e_tnK, e_And, e_Or, e_Not, e_andK, e_orK, e_notK, e_IfE, e_ifeK, e_Chain, e_ch1, e_ch2, e_ch3, e_Call, e_oget, e_Fld, e_fldK, e_Meth, e_mtK, e_mtL, e_ometh, e_Make, e_mkK, e_mkN, e_isNon, e_sget, e_gIx, e_gi1, e_gi2, e_SetF, e_sf1, e_sf2, e_DPut, e_dp1, e_dp2, e_dp3, e_pget, e_pgetS, e_AugF, e_af1, e_afP, e_af2, e_af3, e_AugIx, e_ai1, e_ai2, e_ai3, e_ai4, e_ai5, e_Aug, e_augK, e_au1, e_au2, e_ML, e_mlK, e_Get1, e_gg1, e_gg2, e_ggD, e_Get2, e_gh1, e_gh2, e_gh3, e_NewD, e_mkDt, e_mkDf, e_mkLt, e_mkLf, e_Frz, e_NoP, e_Part, e_partK, e_Sl, e_sl1, e_sl2, e_opSlT, e_opSlL, e_For, e_forK, e_Lc, e_lcK, e_Yes, e_itT, e_itL, e_itR1, e_itR2, e_itTKt, e_itTKk, e_itLKl, e_itLKs, e_itR1K, e_itR2K, e_add, e_addT, e_addL, e_addI, e_sub, e_mod, e_div, e_mul, e_pow, e_mulL, e_rep, e_repK, e_neg, e_lt, e_le, e_gt, e_ge, e_abs, e_int, e_intB, e_min2, e_max2, e_tup, e_lst, e_lenK0, e_len, e_lenT, e_lenL, e_lenS, e_lenK, e_lenD, e_mkLK, e_list, e_seqT, e_seqL, e_seqS, e_seqK, e_lkL, e_lkS, e_lkP, e_tupleT, e_tupleL, e_srtK, e_sortI, e_anyK, e_allK, e_sumK, e_any, e_all, e_sum, e_atK, e_okK, e_ix, e_ixL, e_is, e_isnt, e_isB, e_isntB, e_non_int, e_non_str, e_non_bl, e_non_tup, e_non_tupk, e_non_lst, e_non_dct, e_non_ref, e_isiK, e_isi, e_ty_non, e_ty_int, e_ty_str, e_ty_bl, e_ty_tup, e_ty_tupk, e_ty_lst, e_ty_scr, e_ty_dct, e_tru_non, e_tru_bl, e_tru_int, e_tru_tup, e_tru_lst, e_dgK, e_dget, e_diK, e_dnK, e_din, e_dnin, e_dOf, e_keyI, e_keyS, e_keyT, e_seqR, e_lkR, e_lkPR, e_lstO, e_isLR, e_isLO, e_dOfR, e_dctO, e_lckO, e_lenR, e_lenOl, e_lenOd, e_tyR, e_tyOl, e_tyOd, e_truR, e_truO, e_objR, e_objO, e_setLR, e_setLO, e_setL2, e_setFR, e_setFO, e_putR, e_putO, e_appR, e_appO, e_extR, e_extO, e_popR, e_frzR, e_frzOl, e_frzOd, e_itR, e_itO, e_def, e_dfr, e_dfn, e_dfe, e_forLc, e_forL0, e_forB, e_forNn, e_forNc, e_forNb, e_forNr, e_forNe, e_fstep, e_fsB, e_lc0, e_lcc, e_lc1, e_lc2, e_Pop1, e_pp1, e_Pop2, e_pq0, e_pq1, e_pq2, e_pop1R, e_pop2R, e_popDO, e_popGs, e_popGn, e_srtPK, e_sortP, q_non_non, q_non_bl, q_non_int, q_non_str, q_non_tup, q_non_tupk, q_non_lst, q_non_scr, q_bl_non, q_bl_bl, q_bl_int, q_bl_str, q_bl_tup, q_bl_tupk, q_bl_lst, q_bl_scr, q_int_non, q_int_bl, q_int_int, q_int_str, q_int_tup, q_int_tupk, q_int_lst, q_int_scr, q_str_non, q_str_bl, q_str_int, q_str_str, q_str_tup, q_str_tupk, q_str_lst, q_str_scr, q_tup_non, q_tup_bl, q_tup_int, q_tup_str, q_tup_tup, q_tup_tupk, q_tup_lst, q_tup_scr, q_tupk_non, q_tupk_bl, q_tupk_int, q_tupk_str, q_tupk_tup, q_tupk_tupk, q_tupk_lst, q_tupk_scr, q_lst_non, q_lst_bl, q_lst_int, q_lst_str, q_lst_tup, q_lst_tupk, q_lst_lst, q_lst_scr, q_scr_non, q_scr_bl, q_scr_int, q_scr_str, q_scr_tup, q_scr_tupk, q_scr_lst, q_scr_scr, q_nil, q_cons, q_nilc, q_consn, opEq_non_non, opNe_non_non, opEq_non_bl, opNe_non_bl, opEq_non_int, opNe_non_int, opEq_non_str, opNe_non_str, opEq_bl_non, opNe_bl_non, opEq_bl_bl, opNe_bl_bl, opEq_bl_int, opNe_bl_int, opEq_bl_str, opNe_bl_str, opEq_int_non, opNe_int_non, opEq_int_bl, opNe_int_bl, opEq_int_int, opNe_int_int, opEq_int_str, opNe_int_str, opEq_str_non, opNe_str_non, opEq_str_bl, opNe_str_bl, opEq_str_int, opNe_str_int, opEq_str_str, opNe_str_str, e_isBe, e_tys, dt_non, dt_bl, dt_int, dt_str, dt_tup, dt_tupk, dt_lst, dt_nil, dt_cons, dp_non, dp_bl, dp_int, dp_str, dp_tup, dp_tupk, dp_lst, dp_nil, dp_cons, opEq_tup_tup, opNe_tup_tup, opEq_lst_lst, opNe_lst_lst, opEq_non_tup, opNe_non_tup, opEq_non_tupk, opNe_non_tupk, e_conIn, e_conNin, e_conGet, e_conK, lookT_nil, lookT_cons, e_lkMl, e_lkMr, e_addM, e_amJ, e_amK, e_gsnoc, e_ssnoc, e_in_tup, e_nin_tup, e_in_tupk, e_nin_tupk, e_in_lst, e_nin_lst, e_ogetG, e_putTn, e_putTc, e_lookn, e_lookc, e_Par, e_parK, e_tupleR, e_tuO, e_lkMO, e_slO, e_eqRL, e_neRL, e_eqRLs, e_neRLs, e_opSlR, rngT_00, rngT_1, rngT_2, rngT_3, rngT_4, lkX_nil, lkX_cons, e_TryA, e_tyNx, e_tyRt, e_tyBr, e_tyCt, e_tyEx, e_tyC1, e_tyC0, e_rtK, e_IsX, e_isxK, e_TIx, e_tixK, e_tixO, ixS_nil, ixS_cons, e_opSlTk, e_isiOR, e_isiOL, e_isoKo, e_isoKl, e_sortH, e_srtHK, e_MaxD, e_maxDK, e_maxDn, e_maxDc, e_sortD, e_srtDK, e_srtDL, e_Try, e_tryNx, e_tryRt, e_tryBr, e_tryCt, e_tryEx, e_tryC1, e_tryC0, e_trnN, e_trnR, e_trnB, e_trnC, e_lt3, e_min3, e_min3J, e_sortG, e_srtGK, e_itI, e_itId, e_itIr, e_itIO, e_setd, e_setdO, e_setdGs, e_setdGn, e_rem, e_remO, e_remG, e_itK, e_itKd, e_itKr, e_keysO, e_Disp, e_dspK, e_Lock, e_lkSR, e_lkTr, e_lkTd, e_lkO, e_ulNx, e_ulRt, e_ulBr, e_ulCt, e_LockE, e_lkRE, e_lkTEr, e_lkTEd, e_lkOE, e_uleO, e_MH, e_mhKr, e_mhO, e_mhL, e_popT, e_popTO, e_popTG, e_sortTI, e_srtTK, Int.cast_ofNat_Int, List.getElem?_cons_zero, List.getElem?_cons_succ, List.set_cons_zero, List.set_cons_succ, List.map_cons, List.map_nil, List.cons_append, List.nil_append, List.append_nil, List.length_cons, List.length_nil, ↓reduceIte, Nat.reduceAdd, Nat.reduceSub, Nat.reduceMul, Nat.reduceLT, Nat.reduceLeDiff, Nat.reduceEqDiff, Int.reduceAdd, Int.reduceSub, Int.reduceMul, Int.reduceNeg, Int.reduceLT, Int.reduceLE, Int.reduceEq, Int.reducePow, Int.reduceToNat, Nat.reducePow, Int.reduceDiv, Int.reduceMod, List.reduceReplicate, String.reduceEq, Bool.false_eq_true, Bool.true_eq_false, decide_true, decide_false, Bool.not_true, Bool.not_false, Bool.and_true, Bool.true_and, Bool.and_false, Bool.false_and, Bool.or_true, Bool.true_or, Bool.or_false, Bool.false_or, Option.bind_some, Option.map_some, Option.bind_none, Option.map_none, Option.isNone_none, Option.isNone_some, ite_self, eq_self, ne_eq, Option.isSome_some, Option.isSome_none, Option.getD_some, Option.getD_none, decide_eq_true_eq, decide_eq_false_iff_not, Bool.not_eq_true, List.any_cons, List.any_nil, and_self, and_true, true_and, or_true, true_or, false_or, or_false, false_and, and_false, reduceCtorEq, not_false_eq_true, not_true_eq_false, line_small, atI_lit, atI_m1, List.getElem?_set, List.length_set, List.set_set, ixN_lit, List.length_append])
theorem at_scr {ns : List Int} {k : Nat} (h : k < ns.length) : ∃ z, atI (ns.map T.int) (0 + (k : Int)) = some (.int z) := by
  refine ⟨ns[k], ?_⟩
  rw [Int.zero_add, Ab.atI_nat, List.getElem?_map, List.getElem?_eq_getElem h]; rfl
def Dg (l : List Int) : Prop := ∀ x ∈ l, 0 ≤ x ∧ x < 1000
theorem Dg.snoc {l : List Int} (h : Dg l) {x : Int} (a : 0 ≤ x ∧ x < 1000) : Dg (l ++ [x]) := fun y hy => (List.mem_append.mp hy).elim (h y) fun e => by rw [List.mem_singleton.mp e]; exact a
theorem map_snoc {l : List Int} {x : Int} : l.map T.int ++ [T.int x] = (l ++ [x]).map T.int := by rw [List.map_append]; rfl
theorem md0 (x : Int) : 0 ≤ x % 1000 := Int.emod_nonneg x (by decide)
theorem md1 (x : Int) : x % 1000 < 1000 := Int.emod_lt_of_pos x (by decide)
def TP (x : T) (m : Nat) (st : Slots) (S : Sto) : Prop := ∃ l o2 o3 o4, S = [.lst (l.map .int)] ∧ st = [some x, some (.ref 0), o2, o3, o4] ∧ l.length ≤ m ∧ Dg l
noncomputable def tpBody : AS := (mIf (mB (m2 opGe (mV 3) (m2 opPow (mC (.int 10)) (mC (.int 18))))) (mFor (itR1 (mCons (mC (.int 60)) mNil)) (gN 4) (mIf (mB (m2 opGt (mV 3) (mC (.int 0)))) (mSeq (mExp (mML opApp (mV 1) (mCons (m2 opMod (mV 3) (mC (.int 1000))) mNil)))
          (mSet 3 (m2 opDiv (mV 3) (mC (.int 1000))))) mPass)) (mFor (itR1 (mCons (mC (.int 4)) mNil)) (gN 4) (mSeq (mSet 3 (m2 opMod (m2 opAdd (m2 opAdd (m2 opMul (mV 3) (mC (.int 48271))) (m2 opMul (mC (.int 69621)) (m2 opAdd (mV 2) (mC (.int 1))))) (m2 opMul (mC (.int 7)) (mV 4))) (mC (.int 2147483647))))
          (mSeq (mSet 3 (m2 opMod (m2 opMul (mV 3) (mC (.int 16807))) (mC (.int 2147483647))))
          (mExp (mML opApp (mV 1) (mCons (m2 opMod (m2 opDiv (mV 3) (mC (.int 1000))) (mC (.int 1000))) mNil)))))))
theorem lt5 {n : Nat} (h : n ≤ 4999) : n < sizeLine := Nat.lt_of_le_of_lt h (by decide)
theorem tp_big (x : T) (k : Nat) (hk : k < 63) (l : List Int) (hl : l.length ≤ 60 * k) (dg : Dg l) (o4 : Option T) (v : Int) (c : 1000000000000000000 ≤ v) :
    Goes (TP x (60 * (k + 1))) (tpBody [some x, some (.ref 0), some (.int (0 + k)), some (.int v), o4] [.lst (l.map .int)]) := by
  unfold tpBody
  walk_at "ev*"
  refine use_rng (C := fun r => Goes _ r) (fun j st S => ∃ l v o4, S = [.lst (l.map .int)] ∧ st = [some x, some (.ref 0), some (.int (0 + k)), some (.int v), o4] ∧ l.length ≤ 60 * k + j ∧ Dg l) ?_ ?_ ?_
  · exact ⟨l, v, _, rfl, rfl, hl, dg⟩
  · rintro j st S hj ⟨l, v, o4, rfl, rfl, hl, dg⟩
    have hj' : j < 60 := by omega
    have hL : (l.map T.int).length < sizeLine := by rw [List.length_map]; exact lt5 (by omega)
    by_cases cv : 0 < v
    · walk_at "ev*"
      exact ⟨l ++ [v % 1000], _, _, by rw [map_snoc], rfl, by simp; omega, dg.snoc ⟨md0 v, md1 v⟩⟩
    · walk_at "ev*"
      exact ⟨l, _, _, rfl, rfl, by omega, dg⟩
  · rintro st S ⟨l, v, o4, rfl, rfl, hl, dg⟩
    exact ⟨l, _, _, _, rfl, rfl, by omega, dg⟩
theorem tp_small (x : T) (k : Nat) (hk : k < 63) (l : List Int) (hl : l.length ≤ 60 * k) (dg : Dg l) (o4 : Option T) (v : Int) (c : ¬ 1000000000000000000 ≤ v) :
    Goes (TP x (60 * (k + 1))) (tpBody [some x, some (.ref 0), some (.int (0 + k)), some (.int v), o4] [.lst (l.map .int)]) := by
  have hL0 : (l.map T.int).length < sizeLine := by rw [List.length_map]; exact lt5 (by omega)
  have hL1 : (l.map T.int).length + 1 < sizeLine := by rw [List.length_map]; exact lt5 (by omega)
  have hL2 : (l.map T.int).length + 1 + 1 < sizeLine := by rw [List.length_map]; exact lt5 (by omega)
  have hL3 : (l.map T.int).length + 1 + 1 + 1 < sizeLine := by rw [List.length_map]; exact lt5 (by omega)
  have h4 : ∀ e a b c d : Int, Goes (TP x (60 * (k + 1))) (.nx [some x, some (.ref 0), some (.int (0 + k)), some (.int e), some (.int 3)] [.lst (l.map T.int ++ [.int (a % 1000)] ++ [.int (b % 1000)] ++ [.int (c % 1000)] ++ [.int (d % 1000)])]) := fun e a b c d =>
    ⟨l ++ [a % 1000] ++ [b % 1000] ++ [c % 1000] ++ [d % 1000], _, _, _, by rw [← map_snoc, ← map_snoc, ← map_snoc, ← map_snoc], rfl, by simp; omega, (((dg.snoc ⟨md0 _, md1 _⟩).snoc ⟨md0 _, md1 _⟩).snoc ⟨md0 _, md1 _⟩).snoc ⟨md0 _, md1 _⟩⟩
  clear hl dg
  unfold tpBody
  revert h4
  walk_at "ev*"
  intro h4
  exact h4 _ _ _ _ _
theorem tape_B : b__law_tape = (mSeq (mSet 1 (mN (opLst false) mNil)) (mSeq (mFor (itR1 (mCons (mN opLen (mCons (mV 0) mNil)) mNil)) (gN 2) (mSeq (mSet 3 (mN opAbs (mCons (mN opInt (mCons (m2 opIx (mV 0) (mV 2)) mNil)) mNil))) tpBody)) (mRet (mFrz (mV 1))))) := by
  unfold b__law_tape tpBody
  rfl
theorem t2 (x : T) : TP x (60 * 0) [some x, some (.ref 0), none, none, none] [O.lst []] := ⟨[], _, _, _, rfl, rfl, Nat.zero_le _, fun _ h => nomatch h⟩
theorem len_scr {l : List Int} {S : Sto} : opLen [.scr (l.map .int)] S = .ok (.int l.length) S := by
  walk_at "ev"
  rw [List.length_map]
theorem tape_go (x : T) (m : Int) (hm : ∀ S, opLen [x] S = .ok (.int m) S) (h0 : 0 ≤ m) (h1 : m ≤ 63) (hx : ∀ k : Nat, (k : Int) < m → ∃ z, ∀ S, opIx x (.int (0 + (k : Int))) S = .ok (.int z) S) :
    ∃ l, m__law_tape [x] [] = .ok (.lst (l.map .int)) [.dead] ∧ Dg l := by
  have hb : -4611686018427387904 ≤ m ∧ m < 4611686018427387904 := by omega
  unfold m__law_tape
  rw [tape_B]
  walk_at "ev*"
  clear hb
  refine use_rng (C := fun r => ∃ l, defK (r.seq _) = .ok (.lst (l.map .int)) [.dead] ∧ Dg l) (fun k st S => TP x (60 * k) st S) (t2 x) ?_ ?_
  · rintro k st S hk ⟨l, o2, o3, o4, rfl, rfl, hl, dg⟩
    obtain ⟨z, hz'⟩ := hx k (by omega)
    clear hx
    have fin : ∀ v : Int, Goes (TP x (60 * (k + 1))) (tpBody [some x, some (.ref 0), some (.int (0 + k)), some (.int v), o4] [.lst (l.map .int)]) := fun v => by
      by_cases c : 1000000000000000000 ≤ v
      · exact tp_big x k (by omega) l hl dg o4 v c
      · exact tp_small x k (by omega) l hl dg o4 v c
    by_cases cz : z < 0
    · walk_at "ev*"
    · walk_at "ev*"
  · rintro st S ⟨l, o2, o3, o4, rfl, rfl, hl, dg⟩
    clear hx hm
    walk_at "ev*"
    exact ⟨l, by walk_at "ev*", dg⟩
theorem tape_ok (ns : List Int) (h : ns.length ≤ 63) : ∃ l, m__law_tape [.scr (ns.map .int)] [] = .ok (.lst (l.map .int)) [.dead] ∧ Dg l := by
  refine tape_go _ ns.length (fun S => len_scr) (by omega) (by omega) fun k hk => ?_
  obtain ⟨z, hz⟩ := at_scr (ns := ns) (k := k) (by omega)
  exact ⟨z, fun S => by walk_at "ev*"⟩
theorem atm (l : List T) (x n : Int) (hn : (l.length : Int) = n) (h : 0 < n) : ∃ v, atI l (x % n) = some v ∧ v ∈ l := by
  have a := Int.emod_nonneg x (show n ≠ 0 by omega)
  have b := Int.emod_lt_of_pos x h
  have hl : (x % n).toNat < l.length := by omega
  refine ⟨l[(x % n).toNat], ?_, List.getElem_mem hl⟩
  have := Ab.atI_nat l (x % n).toNat
  rw [show (((x % n).toNat : Nat) : Int) = x % n by omega] at this
  rw [this, List.getElem?_eq_getElem hl]
theorem at_ok {l : List Int} (dg : Dg l) (k : Nat) : ∃ d, (∀ S, m__law_at [.lst (l.map .int), .int (k : Int)] S = .ok (.int d) S) ∧ 0 ≤ d ∧ d < 1000 := by
  unfold m__law_at b__law_at
  by_cases c : k < l.length
  · have c' : (k : Int) < ((l.map T.int).length : Int) := by rw [List.length_map]; omega
    have e : atI (l.map T.int) (k : Int) = some (.int l[k]) := by rw [Ab.atI_nat, List.getElem?_map, List.getElem?_eq_getElem c]; rfl
    exact ⟨l[k], fun S => by walk_at "ev*", dg _ (List.getElem_mem c)⟩
  · have c' : ¬ (k : Int) < ((l.map T.int).length : Int) := by rw [List.length_map]; omega
    exact ⟨0, fun S => by walk_at "ev*", by simp, by simp⟩
theorem zl : ∀ n : Nat, n ≤ 100 → n ≤ sizeLine := fun n h => Nat.le_trans h (by decide)
theorem at_okI {l : List Int} (dg : Dg l) (i : Int) (h : 0 ≤ i) : ∃ d, (∀ S, m__law_at [.lst (l.map .int), .int i] S = .ok (.int d) S) ∧ 0 ≤ d ∧ d < 1000 := by
  obtain ⟨d, e, r⟩ := at_ok dg i.toNat
  rw [show ((i.toNat : Nat) : Int) = i by omega] at e
  exact ⟨d, e, r⟩
/-! ### k02: pages, the flash, the law's own lists -/
def Up (t : T) : Prop := t = .str "torn" ∨ ∃ k p : Int, t = .tup [.int k, .int p]
def pgT (us : List T) : List T := us ++ List.replicate (8 - us.length) .non
structure Us (us : List T) : Prop where
  up : ∀ t ∈ us, Up t
  len : us.length ≤ 8
theorem pgT_len {us : List T} (h : Us us) : (pgT us).length = 8 := by unfold pgT; have := h.len; simp; omega
theorem pgT_lt {us : List T} {i : Nat} (hi : i < us.length) : (pgT us)[i]? = some us[i] := by unfold pgT; rw [List.getElem?_append_left hi, List.getElem?_eq_getElem hi]
theorem pgT_ge {us : List T} (h : Us us) {i : Nat} (hi : ¬ i < us.length) (h8 : i < 8) : (pgT us)[i]? = some .non := by
  unfold pgT
  rw [List.getElem?_append_right (by omega), List.getElem?_replicate, if_pos (by have := h.len; omega)]
theorem up_non {t : T} (h : Up t) : isNon t = false := by rcases h with rfl | ⟨k, p, rfl⟩ <;> rfl
def At (S : Sto) (F : T) (l : List T) : Prop := F = .lst l ∨ ∃ n, F = .ref n ∧ S[n]? = some (.lst l)
theorem At.len {S : Sto} {F : T} {l : List T} (h : At S F l) : opLen [F] S = .ok (.int l.length) S := by
  rcases h with rfl | ⟨n, rfl, h⟩ <;> walk_at "ev*"
theorem At.ix {S : Sto} {F : T} {l : List T} (h : At S F l) (i : Int) : opIx F (.int i) S = pget (atI l i) (okK S) := by
  rcases h with rfl | ⟨n, rfl, h⟩ <;> walk_at "ev*"
theorem At.isl {S : Sto} {F : T} {l : List T} (h : At S F l) : opIsi [F, .ty "list"] S = .ok (.bl true) S := by
  rcases h with rfl | ⟨n, rfl, h⟩ <;> walk_at "ev*"
theorem At.cpy {S : Sto} {F : T} {l : List T} (h : At S F l) : opList true [F] S = .ok (.lst l) S := by
  rcases h with rfl | ⟨n, rfl, h⟩ <;> walk_at "ev*"
theorem At.it {S : Sto} {F : T} {l : List T} (h : At S F l) : ∃ ck, itLK F S = .ok ⟨l, ck⟩ S ∧ okC ck S := by
  rcases h with rfl | ⟨n, rfl, hn⟩
  · exact ⟨none, rfl, trivial⟩
  · exact ⟨some (n, .lst l), e_itLKr hn, hn⟩
theorem atN {l : List T} {i : Nat} {t : T} (h : l[i]? = some t) : atI l (0 + (i : Int)) = some t := by rw [Int.zero_add, Ab.atI_nat, h]
theorem atN' {l : List T} {i : Nat} {t : T} (h : l[i]? = some t) : atI l (i : Int) = some t := by rw [Ab.atI_nat, h]
theorem np_gen {S : Sto} {F : T} {l : List T} (hF : At S F l) (h8 : l.length = 8) : ∃ m : Nat, m_next_page [F] S = .ok (.int m) S ∧ m ≤ 8 ∧ (∀ (i : Nat) t, l[i]? = some t → isNon t = false → i < m) ∧ (∀ t, 0 < m → l[m - 1]? = some t → isNon t = false) := by
  have ix := hF.ix
  clear hF
  unfold m_next_page b_next_page
  walk_at "ev"
  refine use_rng (C := fun r => ∃ m : Nat, defK (r.seq (mRet (mV 1))) = .ok (.int m) S ∧ m ≤ 8 ∧ (∀ (i : Nat) t, l[i]? = some t → isNon t = false → i < m) ∧ (∀ t, 0 < m → l[m - 1]? = some t → isNon t = false)) (fun k st S' => ∃ (m : Nat) (o2 : Option T), S' = S ∧ st = [some F, some (.int m), o2] ∧ m ≤ k ∧ (∀ (i : Nat) t, i < k → l[i]? = some t → isNon t = false → i < m) ∧ (∀ t, 0 < m → l[m - 1]? = some t → isNon t = false)) ?_ ?_ ?_
  · exact ⟨0, _, rfl, rfl, Nat.le_refl _, (fun i t h => absurd h (Nat.not_lt_zero _)), (fun t h => absurd h (Nat.lt_irrefl _))⟩
  · rintro k st S' hk ⟨m, o2, rfl, rfl, a, b, c⟩
    have hk8 : k < 8 := by omega
    obtain ⟨t, ht⟩ : ∃ t, l[k]? = some t := ⟨_, List.getElem?_eq_getElem (by omega)⟩
    have hI := atN ht
    cases q : isNon t with
    | true =>
      have hb : ∀ (i : Nat) u, i < k + 1 → l[i]? = some u → isNon u = false → i < m := fun i u hi hu hn => by
        by_cases e : i = k
        · subst e; rw [ht] at hu; cases hu; rw [q] at hn; cases hn
        · exact b i u (by omega) hu hn
      clear b
      walk_at "ev*"
      exact ⟨m, _, rfl, rfl, by omega, hb, c⟩
    | false =>
      clear b c
      walk_at "ev*"
      exact ⟨k + 1, _, rfl, by rw [show ((k + 1 : Nat) : Int) = 0 + (k : Int) + 1 by omega], by omega, fun i u hi _ _ => hi, fun u _ hu => by rw [Nat.add_sub_cancel, ht] at hu; cases hu; exact q⟩
  · rintro st S' ⟨m, o2, rfl, rfl, a, b, c⟩
    refine ⟨m, by clear b c; walk_at "ev*", by omega, fun i t hi hn => ?_, c⟩
    have : i < l.length := (List.getElem?_eq_some_iff.mp hi).1
    exact b i t (by omega) hi hn
theorem np_us {S : Sto} {F : T} {us : List T} (hF : At S F (pgT us)) (h : Us us) : m_next_page [F] S = .ok (.int us.length) S := by
  obtain ⟨m, e, m8, a, b⟩ := np_gen hF (pgT_len h)
  have : m = us.length := by
    apply Nat.le_antisymm
    · by_cases c : m ≤ us.length
      · exact c
      · have := b .non (by omega) (pgT_ge h (by omega) (by omega))
        cases this
    · by_cases c : us.length = 0
      · omega
      · have := a (us.length - 1) _ (pgT_lt (by omega)) (up_non (h.up _ (List.getElem_mem _)))
        omega
  rw [e, this]
theorem next_eq : m__law_next = m_next_page := rfl
theorem us_nil : Us [] := ⟨(fun t h => nomatch h), Nat.zero_le _⟩
theorem us_snoc {us : List T} (h : Us us) (l : us.length < 8) {t : T} (u : Up t) : Us (us ++ [t]) := ⟨fun x hx => (List.mem_append.mp hx).elim (h.up x) fun e => by rw [List.mem_singleton.mp e]; exact u, by rw [List.length_append]; exact l⟩
def torn8 : List T := List.replicate 8 (.str "torn")
theorem us_torn : Us torn8 := ⟨fun t h => .inl (List.eq_of_mem_replicate h), by decide⟩
theorem pg_nil : pgT [] = List.replicate 8 .non := rfl
theorem pg_torn : pgT torn8 = List.replicate 8 (.str "torn") := by unfold pgT torn8; simp
theorem pg_set {us : List T} (l : us.length < 8) (t : T) : (pgT us).set us.length t = pgT (us ++ [t]) := by
  unfold pgT
  rw [List.set_append, if_neg (Nat.lt_irrefl _), Nat.sub_self, List.length_append, List.length_cons, List.length_nil]
  obtain ⟨n, hn⟩ : ∃ n, 8 - us.length = n + 1 := ⟨7 - us.length, by omega⟩
  rw [hn, List.replicate_succ, List.set_cons_zero, show 8 - (us.length + (0 + 1)) = n by omega]
  simp
def lfT : Option Int → T
  | none => .non
  | some c => .int c
inductive Br where
  | no | pr (b : Nat) (p : Nat) (r : T) | er (b : Nat) (q r : T)
def brF : Br → T
  | .no => .non
  | .pr b p r => .tup [.int b, .int p, r]
  | .er b _ _ => .tup [.int b, .non, .non]
def brL : Br → T
  | .no => .non
  | .pr b p r => .tup [.str "program", .int b, .int p, r]
  | .er b q r => .tup [.str "erase", .int b, q, r]
def fsG (fh wn : Nat) (lf : Option Int) (pw : Bool) (br : Br) : O := .obj "Flash" [("blocks", .int 8), ("held", .ref fh), ("wears", .ref wn), ("left", lfT lf), ("power", .bl pw), ("broken", brF br)]
def woG (lf : Option Int) (pw : Bool) (br : Br) : O := .lst [lfT lf, .bl pw, brL br]
/-- one of the two sides: an object, the blocks, the wears, each at a handle of its own -/
structure Sd (S : Sto) (tg : Nat → Nat) (c o h w : Nat) (hs : List Nat) (X : O) (Bs : List (List T)) (ws : List Int) : Prop where
  oo : S[o]? = some X
  ot : tg o = c
  hh : S[h]? = some (.lst (hs.map .ref))
  ht : tg h = c + 1
  ww : S[w]? = some (.lst (ws.map .int))
  wt : tg w = c + 2
  l1 : hs.length = 8
  l2 : Bs.length = 8
  l3 : ws.length = 8
  pg : ∀ (b i : Nat) (us : List T), hs[b]? = some i → Bs[b]? = some us → S[i]? = some (.lst (pgT us)) ∧ tg i = c + 3 + b
  us : ∀ us ∈ Bs, Us us
/-- all else stays -/
structure Ot (c : Nat) (tg tg' : Nat → Nat) (S S' : Sto) : Prop where
  len : S.length ≤ S'.length
  tgs : ∀ n, n < S.length → tg' n = tg n
  get : ∀ n, n < S.length → ¬ (c ≤ tg n ∧ tg n < c + 50) → S'[n]? = S[n]?
theorem Ot.refl (c : Nat) (tg : Nat → Nat) (S : Sto) : Ot c tg tg S S := ⟨Nat.le_refl _, fun _ _ => rfl, fun _ _ _ => rfl⟩
theorem Ot.trans {c : Nat} {t t1 t2 : Nat → Nat} {S S1 S2 : Sto} (h : Ot c t t1 S S1) (k : Ot c t1 t2 S1 S2) : Ot c t t2 S S2 :=
  ⟨Nat.le_trans h.len k.len, fun n hn => (k.tgs n (Nat.lt_of_lt_of_le hn h.len)).trans (h.tgs n hn), fun n hn hc => (k.get n (Nat.lt_of_lt_of_le hn h.len) (by rw [h.tgs n hn]; exact hc)).trans (h.get n hn hc)⟩
theorem Ot.set {c : Nat} {tg : Nat → Nat} {S : Sto} {i : Nat} (x : O) (h : c ≤ tg i ∧ tg i < c + 50) : Ot c tg tg S (S.set i x) :=
  ⟨by rw [List.length_set]; exact Nat.le_refl _, fun _ _ => rfl, fun n _ hc => List.getElem?_set_ne fun e => hc (by rw [← e]; exact h)⟩
theorem lt_of {S : Sto} {n : Nat} {x : O} (h : S[n]? = some x) : n < S.length := (List.getElem?_eq_some_iff.mp h).1
section
variable {S S' : Sto} {tg tg' : Nat → Nat} {c d o h w : Nat} {hs : List Nat} {X : O} {Bs : List (List T)} {ws : List Int}
theorem Sd.fr (D : Sd S tg c o h w hs X Bs ws) (k : Ot d tg tg' S S') (hd : c + 50 ≤ d ∨ d + 50 ≤ c) : Sd S' tg' c o h w hs X Bs ws := by
  have g : ∀ {n : Nat} {x : O} {j : Nat}, S[n]? = some x → tg n = c + j → j < 50 → S'[n]? = some x ∧ tg' n = c + j := fun {n x j} e t hj => by
    have ln := lt_of e
    exact ⟨(k.get n ln (by rw [t]; omega)).trans e, (k.tgs n ln).trans t⟩
  refine ⟨(g (j := 0) D.oo D.ot (by omega)).1, (g (j := 0) D.oo D.ot (by omega)).2, (g D.hh D.ht (by omega)).1, (g D.hh D.ht (by omega)).2, (g D.ww D.wt (by omega)).1, (g D.ww D.wt (by omega)).2, D.l1, D.l2, D.l3, fun b i us hi hb => ?_, D.us⟩
  obtain ⟨a, t⟩ := D.pg b i us hi hb
  have : b < 8 := by rw [← D.l1]; exact (List.getElem?_eq_some_iff.mp hi).1
  have := g (j := 3 + b) a (by omega) (by omega)
  exact ⟨this.1, by omega⟩
theorem Sd.get (D : Sd S tg c o h w hs X Bs ws) {b : Nat} (hb : b < 8) : ∃ i us, hs[b]? = some i ∧ Bs[b]? = some us ∧ S[i]? = some (.lst (pgT us)) ∧ Us us ∧ tg i = c + 3 + b := by
  have e1 : hs[b]? = some (hs[b]'(by rw [D.l1]; exact hb)) := List.getElem?_eq_getElem _
  have e2 : Bs[b]? = some (Bs[b]'(by rw [D.l2]; exact hb)) := List.getElem?_eq_getElem _
  obtain ⟨a, t⟩ := D.pg b _ _ e1 e2
  exact ⟨_, _, e1, e2, a, D.us _ (List.getElem_mem _), t⟩
theorem Sd.obj (D : Sd S tg c o h w hs X Bs ws) (Y : O) : Sd (S.set o Y) tg c o h w hs Y Bs ws := by
  have lo := lt_of D.oo
  have ne : ∀ {n j : Nat}, tg n = c + j + 1 → o ≠ n := fun t e => by subst e; have := D.ot; omega
  refine ⟨List.getElem?_set_self lo, D.ot, (List.getElem?_set_ne (ne (j := 0) D.ht)).trans D.hh, D.ht, (List.getElem?_set_ne (ne (j := 1) D.wt)).trans D.ww, D.wt, D.l1, D.l2, D.l3, fun b i us hi hb => ?_, D.us⟩
  obtain ⟨a, t⟩ := D.pg b i us hi hb
  exact ⟨(List.getElem?_set_ne (ne (j := 2 + b) (by omega))).trans a, t⟩
theorem Sd.put (D : Sd S tg c o h w hs X Bs ws) {b i : Nat} {us : List T} (hi : hs[b]? = some i) (hb : Bs[b]? = some us) {vs : List T} (hv : Us vs) : Sd (S.set i (.lst (pgT vs))) tg c o h w hs X (Bs.set b vs) ws := by
  obtain ⟨a, t⟩ := D.pg b i us hi hb
  have li := lt_of a
  have bl := (List.getElem?_eq_some_iff.mp hb).1
  have ne : ∀ {n : Nat}, tg n ≠ c + 3 + b → i ≠ n := fun t' e => by subst e; exact t' t
  refine ⟨(List.getElem?_set_ne (ne (by rw [D.ot]; omega))).trans D.oo, D.ot, (List.getElem?_set_ne (ne (by rw [D.ht]; omega))).trans D.hh, D.ht, (List.getElem?_set_ne (ne (by rw [D.wt]; omega))).trans D.ww, D.wt, D.l1, by rw [List.length_set]; exact D.l2, D.l3, fun b' i' us' hi' hb' => ?_, fun us' hu => ?_⟩
  · by_cases e : b' = b
    · subst e
      rw [hi] at hi'; cases hi'
      rw [List.getElem?_set_self bl] at hb'; cases hb'
      exact ⟨List.getElem?_set_self li, t⟩
    · rw [List.getElem?_set_ne (fun q => e q.symm)] at hb'
      obtain ⟨a', t'⟩ := D.pg b' i' us' hi' hb'
      exact ⟨(List.getElem?_set_ne (ne (by rw [t']; omega))).trans a', t'⟩
  · rcases List.mem_or_eq_of_mem_set hu with hu | rfl
    · exact D.us _ hu
    · exact hv
/-- all pages of a block anew, and its wear -/
def fillS (S : Sto) (h w : Nat) (hs : List Nat) (ws : List Int) (b : Nat) (x : Int) (l : List T) : Sto := ((S ++ [O.lst l]).set h (O.lst ((hs.set b S.length).map T.ref))).set w (O.lst ((ws.set b x).map T.int))
def fillG (tg : Nat → Nat) (n v : Nat) : Nat → Nat := fun k => if k = n then v else tg k
theorem Sd.fill (D : Sd S tg c o h w hs X Bs ws) {b : Nat} (hb : b < 8) (x : Int) {vs : List T} (hv : Us vs) :
    Sd (fillS S h w hs ws b x (pgT vs)) (fillG tg S.length (c + 3 + b)) c o h w (hs.set b S.length) X (Bs.set b vs) (ws.set b x) ∧ Ot c tg (fillG tg S.length (c + 3 + b)) S (fillS S h w hs ws b x (pgT vs)) := by
  have lh := lt_of D.hh
  have lw := lt_of D.ww
  have lo := lt_of D.oo
  have hw : h ≠ w := fun e => by have a := D.ht; have b := D.wt; rw [e] at a; omega
  have tk : ∀ {n : Nat}, n < S.length → fillG tg S.length (c + 3 + b) n = tg n := fun hn => if_neg (Nat.ne_of_lt hn)
  have gk : ∀ {n : Nat} {y : O}, S[n]? = some y → n ≠ h → n ≠ w → (fillS S h w hs ws b x (pgT vs))[n]? = some y := fun {n y} e n1 n2 => by
    unfold fillS
    rw [List.getElem?_set_ne (fun q => n2 q.symm), List.getElem?_set_ne (fun q => n1 q.symm), List.getElem?_append_left (lt_of e), e]
  refine ⟨⟨gk D.oo (fun e => by have a := D.ot; have b := D.ht; rw [e] at a; omega) (fun e => by have a := D.ot; have b := D.wt; rw [e] at a; omega), (tk lo).trans D.ot, ?_, (tk lh).trans D.ht, ?_, (tk lw).trans D.wt, by rw [List.length_set]; exact D.l1, by rw [List.length_set]; exact D.l2, by rw [List.length_set]; exact D.l3, fun b' i' us' hi' hb' => ?_, fun us' hu => ?_⟩, ?_, fun n hn => tk hn, fun n hn hc => ?_⟩
  · unfold fillS
    rw [List.getElem?_set_ne (fun q => hw q.symm), List.getElem?_set_self (by simp; omega)]
  · unfold fillS
    rw [List.getElem?_set_self (by simp; omega)]
  · by_cases e : b' = b
    · subst e
      rw [List.getElem?_set_self (by rw [D.l1]; exact hb)] at hi'
      rw [List.getElem?_set_self (by rw [D.l2]; exact hb)] at hb'
      cases hi'; cases hb'
      refine ⟨?_, if_pos rfl⟩
      unfold fillS
      rw [List.getElem?_set_ne (by omega), List.getElem?_set_ne (by omega)]
      simp
    · rw [List.getElem?_set_ne (fun q => e q.symm)] at hi' hb'
      obtain ⟨a', t'⟩ := D.pg b' i' us' hi' hb'
      exact ⟨gk a' (fun q => by have z := D.ht; rw [← q] at z; omega) (fun q => by have z := D.wt; rw [← q] at z; omega), (tk (lt_of a')).trans t'⟩
  · rcases List.mem_or_eq_of_mem_set hu with hu | rfl
    · exact D.us _ hu
    · exact hv
  · unfold fillS; simp
  · have z := D.ht
    have z2 := D.wt
    unfold fillS
    rw [List.getElem?_set_ne (fun q => by subst q; omega), List.getElem?_set_ne (fun q => by subst q; omega), List.getElem?_append_left hn]
end
/-! ### the flash's methods -/
def rOff : T := .lst [.str "refused", .str "off"]
def rBad : T := .lst [.str "refused", .bl true]
def decL : Option Int → Option Int
  | none => none
  | some c => some (c - 1)
abbrev FS (S : Sto) (tg : Nat → Nat) (f fh wn : Nat) (hs : List Nat) (lf : Option Int) (pw : Bool) (br : Br) (Bs : List (List T)) (ws : List Int) : Prop := Sd S tg 100 f fh wn hs (fsG fh wn lf pw br) Bs ws
theorem suite_off (st : Slots) (S : Sto) : (cX 1 (fun x => mIf (mB (mIsX [("NotValid", false), ("PowerOff", true)] x)) (mRet (mN (opLst true) (mCons (mC (.str "refused")) (mCons (mC (.str "off")) mNil)))) (mRet (mN (opLst true) (mCons (mC (.str "refused")) (mCons (mIsX [("NotValid", true), ("PowerOff", false)] x) mNil))))) "PowerOff") st S = .ok rOff S := by
  rw [e_cX]
  have z : 2 ≤ sizeLine := by decide
  have q : mIsX [("NotValid", false), ("PowerOff", true)] "PowerOff" = mC (.bl true) := rfl
  simp only [q]
  unfold rOff
  walk_at "ev*"
theorem suite_bad (st : Slots) (S : Sto) : (cX 1 (fun x => mIf (mB (mIsX [("NotValid", false), ("PowerOff", true)] x)) (mRet (mN (opLst true) (mCons (mC (.str "refused")) (mCons (mC (.str "off")) mNil)))) (mRet (mN (opLst true) (mCons (mC (.str "refused")) (mCons (mIsX [("NotValid", true), ("PowerOff", false)] x) mNil))))) "NotValid") st S = .ok rBad S := by
  rw [e_cX]
  have z : 2 ≤ sizeLine := by decide
  have q : mIsX [("NotValid", false), ("PowerOff", true)] "NotValid" = mC (.bl false) := rfl
  have q2 : mIsX [("NotValid", true), ("PowerOff", false)] "NotValid" = mC (.bl true) := rfl
  simp only [q, q2]
  unfold rBad
  walk_at "ev*"
/-- what is told of a method's end -/
inductive Tld : R T → T → Sto → Prop
  | ok (v : T) (S : Sto) : Tld (.ok v S) v S
  | off (S : Sto) : Tld (.exc "PowerOff" S) rOff S
  | bad (S : Sto) : Tld (.exc "NotValid" S) rBad S
section
variable {S : Sto} {f fh wn : Nat} {lf : Option Int} {pw : Bool} {br : Br}
theorem do_program (fo : S[f]? = some (fsG fh wn lf pw br)) (a b c : T) {r : R T} {v : T} {S' : Sto} (h : m_Flash_program [.ref f, a, b, c] S = r) (t : Tld r v S') : m__law_do [.ref f, .str "program", a, b, c] S = .ok v S' := by
  have so := suite_off
  have sb := suite_bad
  unfold fsG at fo
  unfold m__law_do b__law_do
  generalize (fun x => mIf (mB (mIsX [("NotValid", false), ("PowerOff", true)] x)) _ _) = SX at *
  cases t <;> walk_at "ev*"
theorem do_erase (fo : S[f]? = some (fsG fh wn lf pw br)) (a b c : T) {r : R T} {v : T} {S' : Sto} (h : m_Flash_erase [.ref f, a] S = r) (t : Tld r v S') : m__law_do [.ref f, .str "erase", a, b, c] S = .ok v S' := by
  have so := suite_off
  have sb := suite_bad
  unfold fsG at fo
  unfold m__law_do b__law_do
  generalize (fun x => mIf (mB (mIsX [("NotValid", false), ("PowerOff", true)] x)) _ _) = SX at *
  cases t <;> walk_at "ev*"
theorem do_read (fo : S[f]? = some (fsG fh wn lf pw br)) (a b c : T) {r : R T} {v : T} {S' : Sto} (h : m_Flash_read [.ref f, a, b] S = r) (t : Tld r v S') : m__law_do [.ref f, .str "read", a, b, c] S = .ok v S' := by
  have so := suite_off
  have sb := suite_bad
  unfold fsG at fo
  unfold m__law_do b__law_do
  generalize (fun x => mIf (mB (mIsX [("NotValid", false), ("PowerOff", true)] x)) _ _) = SX at *
  cases t <;> walk_at "ev*"
theorem do_fail (fo : S[f]? = some (fsG fh wn lf pw br)) (a b c : T) {r : R T} {v : T} {S' : Sto} (h : m_Flash_fail_after [.ref f, a] S = r) (t : Tld r v S') : m__law_do [.ref f, .str "fail", a, b, c] S = .ok v S' := by
  have so := suite_off
  have sb := suite_bad
  unfold fsG at fo
  unfold m__law_do b__law_do
  generalize (fun x => mIf (mB (mIsX [("NotValid", false), ("PowerOff", true)] x)) _ _) = SX at *
  cases t <;> walk_at "ev*"
theorem do_cut (fo : S[f]? = some (fsG fh wn lf pw br)) (a b c : T) {r : R T} {v : T} {S' : Sto} (h : m_Flash_cut [.ref f, a] S = r) (t : Tld r v S') : m__law_do [.ref f, .str "cut", a, b, c] S = .ok v S' := by
  have so := suite_off
  have sb := suite_bad
  unfold fsG at fo
  unfold m__law_do b__law_do
  generalize (fun x => mIf (mB (mIsX [("NotValid", false), ("PowerOff", true)] x)) _ _) = SX at *
  cases t <;> walk_at "ev*"
/-- the power -/
theorem op_go (fo : S[f]? = some (fsG fh wn lf true br)) (hl : lf ≠ some 0) (x : T) : m_Flash_operate [.ref f, x] S = .ok .non (S.set f (fsG fh wn (decL lf) true br)) := by
  have ss : S.set f (fsG fh wn none true br) = S.set f (fsG fh wn none true br) := rfl
  unfold m_Flash_operate b_Flash_operate
  cases lf with
  | none =>
    have e : S.set f (fsG fh wn (decL none) true br) = S := by
      apply List.ext_getElem?
      intro j
      by_cases c : f = j
      · subst c; rw [List.getElem?_set_self (lt_of fo), fo]; rfl
      · rw [List.getElem?_set_ne c]
    rw [e]
    unfold fsG lfT at fo
    generalize brF br = B at *
    clear e hl ss
    walk_at "ev*"
  | some c =>
    have c0 : ¬ c = 0 := fun e => hl (by rw [e])
    unfold fsG lfT at fo
    unfold fsG lfT decL
    generalize brF br = B at *
    clear hl ss
    walk_at "ev*"
theorem op_off1 (fo : S[f]? = some (fsG fh wn (some 0) true br)) (b2 : Br) : m_Flash_operate [.ref f, brF b2] S = .exc "PowerOff" (S.set f (fsG fh wn (some 0) false b2)) := by
  have ln := lt_of fo
  unfold m_Flash_operate b_Flash_operate
  unfold fsG lfT at fo
  unfold fsG lfT
  generalize brF br = B at *
  generalize brF b2 = B2 at *
  walk_at "ev*"
theorem op_off2 (fo : S[f]? = some (fsG fh wn lf false br)) (x : T) : m_Flash_operate [.ref f, x] S = .exc "PowerOff" S := by
  unfold m_Flash_operate b_Flash_operate
  unfold fsG at fo
  generalize brF br = B at *
  generalize lfT lf = L at *
  walk_at "ev*"
theorem check_block (fo : S[f]? = some (fsG fh wn lf pw br)) {b : Nat} (hb : b < 8) : m_Flash_check_block [.ref f, .int (b : Int)] S = .ok .non S := by
  have h1 : ¬ (b : Int) < 0 := by omega
  have h2 : (0 : Int) ≤ b := by omega
  have h3 : (b : Int) ≤ 7 := by omega
  have e : m_is_between [.int (b : Int), .int 0, .int 7] S = .ok (.bl true) S := by
    unfold m_is_between b_is_between
    walk_at "ev*"
  unfold m_Flash_check_block b_Flash_check_block
  unfold fsG at fo
  generalize brF br = B at *
  generalize lfT lf = L at *
  generalize (b : Int) = z at *
  walk_at "ev*"
theorem check_page (fo : S[f]? = some (fsG fh wn lf pw br)) {b p : Nat} (hb : b < 8) (hp : p < 8) : m_Flash_check_page [.ref f, .int (b : Int), .int (p : Int)] S = .ok .non S := by
  have e0 := check_block fo hb
  have h2 : (0 : Int) ≤ p := by omega
  have h3 : (p : Int) ≤ 7 := by omega
  have e : m_is_between [.int (p : Int), .int 0, .int 7] S = .ok (.bl true) S := by
    unfold m_is_between b_is_between
    walk_at "ev*"
  unfold m_Flash_check_page b_Flash_check_page
  unfold fsG at fo
  generalize brF br = B at *
  generalize lfT lf = L at *
  generalize (b : Int) = z at *
  generalize (p : Int) = z2 at *
  walk_at "ev*"
end
/-! ### program, erase, read, fail_after, cut -/
theorem sx_app {S : Sto} {n : Nat} {x : O} {J : Sto} (h : S[n]? = some x) : (S ++ J)[n]? = some x := by rw [List.getElem?_append_left (lt_of h), h]
theorem ixN_at {n j : Nat} (h : j < n) : ixN n (j : Int) = some j := by rw [ixN_nat, if_pos h]
section
variable {S : Sto} {tg : Nat → Nat} {f fh wn : Nat} {hs : List Nat} {lf : Option Int} {pw : Bool} {br : Br} {Bs : List (List T)} {ws : List Int}
theorem held_ix (D : FS S tg f fh wn hs lf pw br Bs ws) {b i : Nat} (hi : hs[b]? = some i) : opIx (.ref fh) (.int (b : Int)) S = .ok (.ref i) S := by
  have e : atI (hs.map T.ref) (b : Int) = some (.ref i) := by rw [Ab.atI_nat, List.getElem?_map, hi]; rfl
  have a := D.hh
  clear D hi
  walk_at "ev*"
theorem program_bad (D : FS S tg f fh wn hs lf pw br Bs ws) {b p : Nat} (hb : b < 8) (hp : p < 8) {us : List T} (hu : Bs[b]? = some us) (hne : us.length ≠ p) (k q : Int) : m_Flash_program [.ref f, .int (b : Int), .int (p : Int), .tup [.int k, .int q]] S = .exc "NotValid" S := by
  obtain ⟨i, us', hi, hu', hg, uu, _⟩ := D.get hb
  rw [hu] at hu'; cases hu'
  have ec := check_page D.oo hb hp
  have ix := held_ix D hi
  have np := np_us (.inr ⟨i, rfl, hg⟩) uu
  have fo := D.oo
  have ne : ¬ (us.length : Int) = (p : Int) := by omega
  unfold fsG at fo
  unfold m_Flash_program b_Flash_program
  generalize brF br = B at *
  generalize lfT lf = L at *
  generalize (us.length : Int) = z1 at *
  generalize (b : Int) = z2 at *
  generalize (p : Int) = z3 at *
  clear D hi hu uu
  walk_at "ev*"
theorem program_go (D : FS S tg f fh wn hs lf true br Bs ws) (hl : lf ≠ some 0) {b : Nat} (hb : b < 8) {us : List T} (hu : Bs[b]? = some us) (h8 : us.length < 8) (k q : Int) :
    ∃ S', m_Flash_program [.ref f, .int (b : Int), .int (us.length : Int), .tup [.int k, .int q]] S = .ok .non S' ∧ FS S' tg f fh wn hs (decL lf) true br (Bs.set b (us ++ [.tup [.int k, .int q]])) ws ∧ Ot 100 tg tg S S' := by
  obtain ⟨i, us', hi, hu', hg, uu, ti⟩ := D.get hb
  rw [hu] at hu'; cases hu'
  have ec := check_page D.oo hb h8
  have ix := held_ix D hi
  have np := np_us (.inr ⟨i, rfl, hg⟩) uu
  have og := op_go D.oo hl (.tup [.int (b : Int), .int (us.length : Int), .tup [.int k, .int q]])
  have D1 := D.obj (fsG fh wn (decL lf) true br)
  have ix1 := held_ix D1 hi
  have g1 := (D1.pg b i us hi hu).1
  have D2 := D1.put hi hu (us_snoc uu h8 (.inr ⟨k, q, rfl⟩))
  have ps := pg_set h8 (.tup [.int k, .int q])
  have l8 := pgT_len uu
  refine ⟨_, ?_, D2, (Ot.set _ (by rw [D.ot]; omega)).trans (Ot.set _ (by rw [ti]; omega))⟩
  have fo := D.oo
  have fo1 := D1.oo
  rw [← ps]
  have sz : us.length < (pgT us).length := by omega
  have zi : ixN (pgT us).length (us.length : Int) = some us.length := ixN_at sz
  have og : m_Flash_operate [.ref f, .tup [.int (b : Int), .int (us.length : Int), .tup [.int k, .int q]]] S = .ok .non (S.set f (fsG fh wn (decL lf) true br)) := og
  generalize hS1 : S.set f (fsG fh wn (decL lf) true br) = S1 at *
  unfold fsG at fo fo1
  generalize pgT us = PG at *
  generalize hn : (us.length : Int) = z1 at *
  generalize (b : Int) = z2 at *
  generalize us.length = m at *
  unfold m_Flash_program b_Flash_program
  generalize brF br = B at *
  generalize lfT lf = L at *
  generalize lfT (decL lf) = L1 at *
  clear D D1 D2 hi hu uu ps hS1 l8 hn
  walk_at "ev*"
end
section
variable {S : Sto} {tg : Nat → Nat} {f fh wn : Nat} {hs : List Nat} {lf : Option Int} {pw : Bool} {br : Br} {Bs : List (List T)} {ws : List Int}
theorem program_off (D : FS S tg f fh wn hs lf pw br Bs ws) (hl : pw = false ∨ lf = some 0) {b : Nat} (hb : b < 8) {us : List T} (hu : Bs[b]? = some us) (h8 : us.length < 8) (k q : Int) :
    ∃ S' pw' br', m_Flash_program [.ref f, .int (b : Int), .int (us.length : Int), .tup [.int k, .int q]] S = .exc "PowerOff" S' ∧ FS S' tg f fh wn hs lf pw' br' Bs ws ∧ Ot 100 tg tg S S' ∧ pw' = false ∧ br' = (if pw = true then .pr b us.length (.tup [.int k, .int q]) else br) := by
  obtain ⟨i, us', hi, hu', hg, uu, ti⟩ := D.get hb
  rw [hu] at hu'; cases hu'
  have ec := check_page D.oo hb h8
  have ix := held_ix D hi
  have np := np_us (.inr ⟨i, rfl, hg⟩) uu
  have fo := D.oo
  have key : ∀ S', m_Flash_operate [.ref f, .tup [.int (b : Int), .int (us.length : Int), .tup [.int k, .int q]]] S = .exc "PowerOff" S' → m_Flash_program [.ref f, .int (b : Int), .int (us.length : Int), .tup [.int k, .int q]] S = .exc "PowerOff" S' := by
    intro S' og
    unfold fsG at fo
    unfold m_Flash_program b_Flash_program
    generalize brF br = B at *
    generalize lfT lf = L at *
    generalize (us.length : Int) = z1 at *
    generalize (b : Int) = z2 at *
    clear D hi hu uu
    walk_at "ev*"
  cases pw with
  | false => exact ⟨S, false, br, key _ (op_off2 fo _), D, Ot.refl _ _ _, rfl, rfl⟩
  | true =>
    have e : lf = some 0 := hl.resolve_left (fun h => by cases h)
    subst e
    exact ⟨_, false, .pr b us.length (.tup [.int k, .int q]), key _ (op_off1 fo (.pr b us.length (.tup [.int k, .int q]))), D.obj _, Ot.set _ (by rw [D.ot]; omega), rfl, rfl⟩
theorem rep8 (c : T) (S : Sto) : opRep false (.lst [c]) (.int 8) S = .ok (.ref S.length) (S ++ [.lst (List.replicate 8 c)]) := by
  have z : 8 ≤ sizeLine := by decide
  walk_at "ev*"
  rfl
theorem fill_ok (D : FS S tg f fh wn hs lf pw br Bs ws) {b : Nat} (hb : b < 8) {w : Int} (hw : ws[b]? = some w) (c : T) : m_Flash_fill [.ref f, .int (b : Int), c] S = .ok .non (fillS S fh wn hs ws b (w + 1) (List.replicate 8 c)) := by
  have fo := D.oo
  have hh := D.hh
  have ww := D.ww
  have lh := lt_of hh
  have lw := lt_of ww
  have hw' : fh ≠ wn := fun e => by have a := D.ht; have b := D.wt; rw [e] at a; omega
  have ho : f ≠ fh := fun e => by have a := D.ht; have b := D.ot; rw [e] at b; omega
  have ho' : ¬ fh = f := fun e => ho e.symm
  have hx1 : ¬ wn = f := fun e => by have a := D.wt; have b := D.ot; rw [e] at a; omega
  have hx2 : ¬ wn = fh := fun e => hw' e.symm
  have hx3 : ¬ f = wn := fun e => hx1 e.symm
  have l1 : b < (hs.map T.ref).length := by rw [List.length_map, D.l1]; exact hb
  have l2 : b < (ws.map T.int).length := by rw [List.length_map, D.l3]; exact hb
  have z1 : ixN (hs.map T.ref).length (b : Int) = some b := ixN_at l1
  have z2 : ixN (ws.map T.int).length (b : Int) = some b := ixN_at l2
  have aw : (ws.map T.int)[b]? = some (.int w) := by rw [List.getElem?_map, hw]; rfl
  have m1 : (hs.map T.ref).set b (.ref S.length) = (hs.set b S.length).map T.ref := by rw [List.map_set]
  have m2' : (ws.map T.int).set b (.int (w + 1)) = (ws.set b (w + 1)).map T.int := by rw [List.map_set]
  have rp := rep8 c S
  have ai : atI (ws.map T.int) (b : Int) = some (.int w) := by rw [Ab.atI_nat, aw]
  unfold fillS
  rw [← m1, ← m2']
  unfold fsG at fo
  unfold m_Flash_fill b_Flash_fill
  generalize brF br = B at *
  generalize lfT lf = L at *
  generalize hs.map T.ref = HS at *
  generalize ws.map T.int = WS at *
  generalize List.replicate 8 c = R8 at *
  have g1 : (S ++ [O.lst R8])[f]? = some (O.obj "Flash" [("blocks", T.int 8), ("held", T.ref fh), ("wears", T.ref wn), ("left", L), ("power", T.bl pw), ("broken", B)]) := sx_app fo
  have g2 : (S ++ [O.lst R8])[fh]? = some (.lst HS) := sx_app hh
  have g3 : (S ++ [O.lst R8])[wn]? = some (.lst WS) := sx_app ww
  have q1 : fh < (S ++ [O.lst R8]).length := by simp; omega
  have q2 : wn < (S ++ [O.lst R8]).length := by simp; omega
  generalize hbz : (b : Int) = z at *
  generalize hT : S ++ [O.lst R8] = S1 at *
  clear D m1 m2' hw hb fo hh ww lh lw hT hbz
  walk_at "ev*"
end
/-! ### erase, read, fail_after, cut -/
section
variable {S : Sto} {tg : Nat → Nat} {f fh wn : Nat} {hs : List Nat} {lf : Option Int} {pw : Bool} {br : Br} {Bs : List (List T)} {ws : List Int}
theorem ws_at (D : FS S tg f fh wn hs lf pw br Bs ws) {b : Nat} (hb : b < 8) : ∃ w, ws[b]? = some w := ⟨_, List.getElem?_eq_getElem (by rw [D.l3]; exact hb)⟩
theorem erase_go (D : FS S tg f fh wn hs lf true br Bs ws) (hl : lf ≠ some 0) {b : Nat} (hb : b < 8) {w : Int} (hw : ws[b]? = some w) :
    ∃ S' tg' hs', m_Flash_erase [.ref f, .int (b : Int)] S = .ok .non S' ∧ FS S' tg' f fh wn hs' (decL lf) true br (Bs.set b []) (ws.set b (w + 1)) ∧ Ot 100 tg tg' S S' := by
  have ec := check_block D.oo hb
  have og := op_go D.oo hl (.tup [.int (b : Int), .non, .non])
  have D1 := D.obj (fsG fh wn (decL lf) true br)
  have ef := fill_ok D1 hb hw .non
  rw [← pg_nil] at ef
  obtain ⟨D2, k2⟩ := D1.fill hb (w + 1) us_nil
  refine ⟨_, _, _, ?_, D2, (Ot.set _ (by rw [D.ot]; omega)).trans k2⟩
  have fo := D.oo
  have fo1 := D1.oo
  generalize fillS _ _ _ _ _ _ _ _ = S2 at *
  generalize S.set f (fsG fh wn (decL lf) true br) = S1 at *
  unfold fsG at fo fo1
  unfold m_Flash_erase b_Flash_erase
  generalize brF br = B at *
  generalize lfT lf = L at *
  generalize lfT (decL lf) = L1 at *
  generalize (b : Int) = z at *
  clear D D1 D2 k2
  walk_at "ev*"
theorem erase_off (D : FS S tg f fh wn hs lf pw br Bs ws) (hl : pw = false ∨ lf = some 0) {b : Nat} (hb : b < 8) (q r : T) :
    ∃ S' pw' br', m_Flash_erase [.ref f, .int (b : Int)] S = .exc "PowerOff" S' ∧ FS S' tg f fh wn hs lf pw' br' Bs ws ∧ Ot 100 tg tg S S' ∧ pw' = false ∧ br' = (if pw = true then .er b q r else br) := by
  have ec := check_block D.oo hb
  have fo := D.oo
  have key : ∀ S', m_Flash_operate [.ref f, .tup [.int (b : Int), .non, .non]] S = .exc "PowerOff" S' → m_Flash_erase [.ref f, .int (b : Int)] S = .exc "PowerOff" S' := by
    intro S' og
    unfold fsG at fo
    unfold m_Flash_erase b_Flash_erase
    generalize brF br = B at *
    generalize lfT lf = L at *
    generalize (b : Int) = z2 at *
    clear D
    walk_at "ev*"
  cases pw with
  | false => exact ⟨S, false, br, key _ (op_off2 fo _), D, Ot.refl _ _ _, rfl, rfl⟩
  | true =>
    have e : lf = some 0 := hl.resolve_left (fun h => by cases h)
    subst e
    exact ⟨_, false, .er b q r, key _ (op_off1 fo (.er b q r)), D.obj _, Ot.set _ (by rw [D.ot]; omega), rfl, rfl⟩
theorem pg_at {us : List T} (u : Us us) {p : Nat} (hp : p < 8) : ∃ v, (pgT us)[p]? = some v ∧ (v = .non ∨ Up v) := by
  by_cases c : p < us.length
  · exact ⟨_, pgT_lt c, .inr (u.up _ (List.getElem_mem _))⟩
  · exact ⟨_, pgT_ge u c hp, .inl rfl⟩
theorem read_ok (D : FS S tg f fh wn hs lf true br Bs ws) {b p : Nat} (hb : b < 8) (hp : p < 8) {us : List T} (hu : Bs[b]? = some us) {v : T} (hv : (pgT us)[p]? = some v) : m_Flash_read [.ref f, .int (b : Int), .int (p : Int)] S = .ok v S := by
  obtain ⟨i, us', hi, hu', hg, uu, ti⟩ := D.get hb
  rw [hu] at hu'; cases hu'
  have ec := check_page D.oo hb hp
  have ix := held_ix D hi
  have fo := D.oo
  have av : atI (pgT us) (p : Int) = some v := by rw [Ab.atI_nat, hv]
  unfold fsG at fo
  unfold m_Flash_read b_Flash_read
  generalize brF br = B at *
  generalize lfT lf = L at *
  generalize pgT us = PG at *
  generalize (b : Int) = z2 at *
  generalize (p : Int) = z3 at *
  clear D hi hu uu hv
  walk_at "ev*"
theorem read_off (D : FS S tg f fh wn hs lf false br Bs ws) {b p : Nat} (hb : b < 8) (hp : p < 8) : m_Flash_read [.ref f, .int (b : Int), .int (p : Int)] S = .exc "PowerOff" S := by
  have ec := check_page D.oo hb hp
  have fo := D.oo
  unfold fsG at fo
  unfold m_Flash_read b_Flash_read
  generalize brF br = B at *
  generalize lfT lf = L at *
  generalize (b : Int) = z2 at *
  generalize (p : Int) = z3 at *
  clear D
  walk_at "ev*"
theorem fail_go (D : FS S tg f fh wn hs lf pw br Bs ws) {c : Option Int} (hc : ∀ z, c = some z → 0 ≤ z ∧ z ≤ 100000) :
    ∃ S', m_Flash_fail_after [.ref f, lfT c] S = .ok .non S' ∧ FS S' tg f fh wn hs c pw br Bs ws ∧ Ot 100 tg tg S S' := by
  refine ⟨_, ?_, D.obj (fsG fh wn c pw br), Ot.set _ (by rw [D.ot]; omega)⟩
  have fo := D.oo
  have ln := lt_of fo
  unfold m_Flash_fail_after b_Flash_fail_after
  cases c with
  | none =>
    unfold fsG at fo ⊢
    unfold lfT
    generalize brF br = B at *
    generalize (match lf with | none => T.non | some c => T.int c) = L at *
    clear D hc
    walk_at "ev*"
  | some z =>
    obtain ⟨z0, z1⟩ := hc z rfl
    have e : m_is_between [.int z, .int 0, .int 100000] S = .ok (.bl true) S := by
      unfold m_is_between b_is_between
      walk_at "ev*"
    unfold fsG at fo ⊢
    unfold lfT
    generalize brF br = B at *
    generalize (match lf with | none => T.non | some c => T.int c) = L at *
    clear D hc
    walk_at "ev*"
theorem fail_bad {x : T} (hx : x = .int (-1) ∨ x = .int 100001 ∨ x = .str "1") : m_Flash_fail_after [.ref f, x] S = .exc "NotValid" S := by
  have e : m_is_between [x, .int 0, .int 100000] S = .ok (.bl false) S := by
    unfold m_is_between b_is_between
    rcases hx with rfl | rfl | rfl <;> walk_at "ev"
  unfold m_Flash_fail_after b_Flash_fail_after
  rcases hx with rfl | rfl | rfl <;> walk_at "ev*"
theorem cut_bad {x : T} (hx : x = .int (-1) ∨ x = .int 3) : m_Flash_cut [.ref f, x] S = .exc "NotValid" S := by
  have e : m_is_between [x, .int 0, .int 2] S = .ok (.bl false) S := by
    unfold m_is_between b_is_between
    rcases hx with rfl | rfl <;> walk_at "ev"
  unfold m_Flash_cut b_Flash_cut
  rcases hx with rfl | rfl <;> walk_at "ev*"
theorem cut_0 (D : FS S tg f fh wn hs lf pw br Bs ws) {c : Int} (hc : c = 0 ∨ c = 1 ∨ c = 2) (hn : br = .no ∨ c = 0) :
    ∃ S', m_Flash_cut [.ref f, .int c] S = .ok .non S' ∧ FS S' tg f fh wn hs none true .no Bs ws ∧ Ot 100 tg tg S S' := by
  refine ⟨_, ?_, D.obj (fsG fh wn none true .no), Ot.set _ (by rw [D.ot]; omega)⟩
  have fo := D.oo
  have ln := lt_of fo
  have e : m_is_between [.int c, .int 0, .int 2] S = .ok (.bl true) S := by
    unfold m_is_between b_is_between
    rcases hc with rfl | rfl | rfl <;> walk_at "ev"
  have nb : br = .no ∨ ∃ l, brF br = .tup l := by cases br; exact .inl rfl; exact .inr ⟨_, rfl⟩; exact .inr ⟨_, rfl⟩
  unfold fsG at fo ⊢
  unfold m_Flash_cut b_Flash_cut
  rcases nb with rfl | ⟨l, hl⟩
  · unfold brF lfT
    unfold brF at fo
    generalize (match lf with | none => T.non | some c => T.int c) = L at *
    clear D hn
    generalize hL : lfT lf = L at *
    clear hL
    rcases hc with rfl | rfl | rfl <;> walk_at "ev*"
  · have c0 : c = 0 := hn.resolve_left (fun h => by subst h; cases hl)
    subst c0
    rw [hl] at fo
    unfold brF
    generalize hL : lfT lf = L at *
    clear hL D hn hl hc
    unfold lfT
    walk_at "ev*"
end
/-! ### a cut that is done or torn -/
section
variable {S : Sto} {tg : Nat → Nat} {f fh wn : Nat} {hs : List Nat} {lf : Option Int} {pw : Bool} {Bs : List (List T)} {ws : List Int}
theorem btw2 {c : Int} (hc : c = 1 ∨ c = 2) (S : Sto) : m_is_between [.int c, .int 0, .int 2] S = .ok (.bl true) S := by
  unfold m_is_between b_is_between
  rcases hc with rfl | rfl <;> walk_at "ev"
theorem cut_put {b : Nat} {r : T} {us : List T} (D : FS S tg f fh wn hs lf pw (.pr b us.length r) Bs ws) (hb : b < 8) (hu : Bs[b]? = some us) (h8 : us.length < 8) (ur : Up r) {c : Int} (hc : c = 1 ∨ c = 2) :
    ∃ S', m_Flash_cut [.ref f, .int c] S = .ok .non S' ∧ FS S' tg f fh wn hs none true .no (Bs.set b (us ++ [if c = 1 then r else .str "torn"])) ws ∧ Ot 100 tg tg S S' := by
  obtain ⟨i, us', hi, hu', hg, uu, ti⟩ := D.get hb
  rw [hu] at hu'; cases hu'
  obtain ⟨v, hv⟩ : ∃ v, (if c = 1 then r else T.str "torn") = v := ⟨_, rfl⟩
  have uv : Up v := by rw [← hv]; split; exact ur; exact .inl rfl
  have D1 := D.put hi hu (us_snoc uu h8 uv)
  have ps := pg_set h8 v
  rw [hv]
  refine ⟨_, ?_, D1.obj (fsG fh wn none true .no), (Ot.set _ (by rw [ti]; omega)).trans (Ot.set _ (by rw [D.ot]; omega))⟩
  have ix := held_ix D hi
  have fo := D.oo
  have fo1 := D1.oo
  have l1 := lt_of fo1
  have l8 := pgT_len uu
  have zi : ixN (pgT us).length (us.length : Int) = some us.length := ixN_at (by omega)
  have e := btw2 hc S
  rw [← ps] at *
  have hgt : (0 : Int) < c := by rcases hc with rfl | rfl <;> decide
  have hat : atI [T.non, r, .str "torn"] c = some v := by rw [← hv]; rcases hc with rfl | rfl <;> rfl
  have z3 : 3 ≤ sizeLine := by decide
  unfold fsG brF at fo fo1 ⊢
  dsimp only at fo fo1 ⊢
  unfold lfT
  generalize hL : lfT lf = L at *
  generalize hS1 : S.set i (.lst ((pgT us).set us.length v)) = S1 at *
  generalize pgT us = PG at *
  generalize hn : (us.length : Int) = z1 at *
  generalize (b : Int) = z2 at *
  generalize us.length = m at *
  unfold m_Flash_cut b_Flash_cut
  clear D D1 hi hu uu ps hn hv l8 hc uv ur
  walk_at "ev*"
theorem cut_fill {b : Nat} {q r : T} (D : FS S tg f fh wn hs lf pw (.er b q r) Bs ws) (hb : b < 8) {w : Int} (hw : ws[b]? = some w) {c : Int} (hc : c = 1 ∨ c = 2) :
    ∃ S' tg' hs', m_Flash_cut [.ref f, .int c] S = .ok .non S' ∧ FS S' tg' f fh wn hs' none true .no (Bs.set b (if c = 1 then [] else torn8)) (ws.set b (w + 1)) ∧ Ot 100 tg tg' S S' := by
  obtain ⟨v, hv⟩ : ∃ v, (if c = 1 then T.non else T.str "torn") = v := ⟨_, rfl⟩
  have ef := fill_ok D hb hw v
  have pv : List.replicate 8 v = pgT (if c = 1 then [] else torn8) := by
    rw [← hv]
    rcases hc with rfl | rfl
    · exact pg_nil.symm
    · exact pg_torn.symm
  rw [pv] at ef
  obtain ⟨D1, k1⟩ := D.fill hb (w + 1) (vs := if c = 1 then [] else torn8) (by split; exact us_nil; exact us_torn)
  refine ⟨_, _, _, ?_, D1.obj (fsG fh wn none true .no), k1.trans (Ot.set _ (by rw [D1.ot]; omega))⟩
  have fo := D.oo
  have fo1 := D1.oo
  have l1 := lt_of fo1
  have e := btw2 hc S
  have hgt : (0 : Int) < c := by rcases hc with rfl | rfl <;> decide
  have hat : atI [T.non, .non, .str "torn"] c = some v := by rw [← hv]; rcases hc with rfl | rfl <;> rfl
  have z3 : 3 ≤ sizeLine := by decide
  generalize fillS _ _ _ _ _ _ _ _ = S1 at *
  unfold fsG brF at fo fo1 ⊢
  dsimp only at fo fo1 ⊢
  unfold lfT
  generalize hL : lfT lf = L at *
  generalize (b : Int) = z2 at *
  unfold m_Flash_cut b_Flash_cut
  clear D D1 k1 hv hc pv
  walk_at "ev*"
end
/-! ### the law's own side -/
abbrev LW (S : Sto) (tg : Nat → Nat) (lo lh lw : Nat) (es : List Nat) (lf : Option Int) (pw : Bool) (br : Br) (Bs : List (List T)) (ws : List Int) : Prop := Sd S tg 200 lo lh lw es (woG lf pw br) Bs ws
section
variable {S : Sto} {tg : Nat → Nat} {lo lh lw : Nat} {es : List Nat} {X : O} {lf : Option Int} {pw : Bool} {br : Br} {Bs : List (List T)} {ws : List Int}
theorem lheld_ix (D : Sd S tg 200 lo lh lw es X Bs ws) {b i : Nat} (hi : es[b]? = some i) : opIx (.ref lh) (.int (b : Int)) S = .ok (.ref i) S := by
  have e : atI (es.map T.ref) (b : Int) = some (.ref i) := by rw [Ab.atI_nat, List.getElem?_map, hi]; rfl
  have a := D.hh
  clear D hi
  walk_at "ev*"
theorem apply_put (D : Sd S tg 200 lo lh lw es X Bs ws) {b i : Nat} (hi : es[b]? = some i) {us : List T} (hu : Bs[b]? = some us) (h8 : us.length < 8) (v : T) : m__law_apply [.ref lh, .ref lw, .str "program", .int (b : Int), .int (us.length : Int), v] S = .ok .non (S.set i (.lst (pgT (us ++ [v])))) := by
  obtain ⟨hg, ti⟩ := D.pg b i us hi hu
  have uu := D.us us (List.mem_of_getElem? hu)
  have ix := lheld_ix D hi
  have l8 := pgT_len uu
  have zi : ixN (pgT us).length (us.length : Int) = some us.length := ixN_at (by omega)
  rw [← pg_set h8 v]
  generalize pgT us = PG at *
  generalize hn : (us.length : Int) = z1 at *
  generalize (b : Int) = z2 at *
  generalize us.length = m at *
  unfold m__law_apply b__law_apply
  clear D hi hu uu hn l8
  walk_at "ev*"
theorem apply_fill (D : Sd S tg 200 lo lh lw es X Bs ws) {b : Nat} (hb : b < 8) {w : Int} (hw : ws[b]? = some w) (q c : T) : m__law_apply [.ref lh, .ref lw, .str "erase", .int (b : Int), q, c] S = .ok .non (fillS S lh lw es ws b (w + 1) (List.replicate 8 c)) := by
  have hh := D.hh
  have ww := D.ww
  have l_h := lt_of hh
  have l_w := lt_of ww
  have hw' : lh ≠ lw := fun e => by have a := D.ht; have b := D.wt; rw [e] at a; omega
  have hx2 : ¬ lw = lh := fun e => hw' e.symm
  have l1 : b < (es.map T.ref).length := by rw [List.length_map, D.l1]; exact hb
  have l2 : b < (ws.map T.int).length := by rw [List.length_map, D.l3]; exact hb
  have z1 : ixN (es.map T.ref).length (b : Int) = some b := ixN_at l1
  have z2 : ixN (ws.map T.int).length (b : Int) = some b := ixN_at l2
  have aw : (ws.map T.int)[b]? = some (.int w) := by rw [List.getElem?_map, hw]; rfl
  have m1 : (es.map T.ref).set b (.ref S.length) = (es.set b S.length).map T.ref := by rw [List.map_set]
  have m2' : (ws.map T.int).set b (.int (w + 1)) = (ws.set b (w + 1)).map T.int := by rw [List.map_set]
  have rp := rep8 c S
  have ai : atI (ws.map T.int) (b : Int) = some (.int w) := by rw [Ab.atI_nat, aw]
  unfold fillS
  rw [← m1, ← m2']
  unfold m__law_apply b__law_apply
  generalize es.map T.ref = HS at *
  generalize ws.map T.int = WS at *
  generalize List.replicate 8 c = R8 at *
  have g2 : (S ++ [O.lst R8])[lh]? = some (.lst HS) := sx_app hh
  have g3 : (S ++ [O.lst R8])[lw]? = some (.lst WS) := sx_app ww
  have q1 : lh < (S ++ [O.lst R8]).length := by simp; omega
  have q2 : lw < (S ++ [O.lst R8]).length := by simp; omega
  generalize hbz : (b : Int) = z at *
  generalize hT : S ++ [O.lst R8] = S1 at *
  clear D m1 m2' hw hb hh ww l_h l_w hT hbz
  walk_at "ev*"
theorem lnext (D : Sd S tg 200 lo lh lw es X Bs ws) {b i : Nat} (hi : es[b]? = some i) {us : List T} (hu : Bs[b]? = some us) : m__law_next [.ref i] S = .ok (.int (us.length : Int)) S := by
  rw [next_eq]
  exact np_us (.inr ⟨i, rfl, (D.pg b i us hi hu).1⟩) (D.us us (List.mem_of_getElem? hu))
end
/-! ### what the law is due -/
section
variable {S : Sto} {tg : Nat → Nat} {lo lh lw : Nat} {es : List Nat} {lf : Option Int} {pw : Bool} {br : Br} {Bs : List (List T)} {ws : List Int}
theorem ix30 : ixN 3 0 = some 0 := rfl
theorem ix31 : ixN 3 1 = some 1 := rfl
theorem ix32 : ixN 3 2 = some 2 := rfl
theorem due_read (D : LW S tg lo lh lw es lf true br Bs ws) {b p : Nat} (hb : b < 8) {us : List T} (hu : Bs[b]? = some us) {v : T} (hv : (pgT us)[p]? = some v) (r : T) : m__law_due [.ref lh, .ref lw, .ref lo, .str "read", .int (b : Int), .int (p : Int), r] S = .ok v S := by
  obtain ⟨i, us', hi, hu', hg, uu, ti⟩ := D.get hb
  rw [hu] at hu'; cases hu'
  have ix := lheld_ix D hi
  have wo := D.oo
  have av : atI (pgT us) (p : Int) = some v := by rw [Ab.atI_nat, hv]
  unfold woG at wo
  unfold m__law_due b__law_due
  generalize brL br = B at *
  generalize lfT lf = L at *
  generalize pgT us = PG at *
  generalize (b : Int) = z2 at *
  generalize (p : Int) = z3 at *
  clear D hi hu uu hv
  walk_at "ev*"
theorem due_read_off (D : LW S tg lo lh lw es lf false br Bs ws) (b p r : T) : m__law_due [.ref lh, .ref lw, .ref lo, .str "read", b, p, r] S = .ok rOff S := by
  have wo := D.oo
  have z : 2 ≤ sizeLine := by decide
  unfold woG at wo
  unfold m__law_due b__law_due rOff
  generalize brL br = B at *
  generalize lfT lf = L at *
  clear D
  walk_at "ev*"
theorem due_prog_bad (D : LW S tg lo lh lw es lf pw br Bs ws) {b p : Nat} (hb : b < 8) {us : List T} (hu : Bs[b]? = some us) (hne : us.length ≠ p) (r : T) : m__law_due [.ref lh, .ref lw, .ref lo, .str "program", .int (b : Int), .int (p : Int), r] S = .ok rBad S := by
  obtain ⟨i, us', hi, hu', hg, uu, ti⟩ := D.get hb
  rw [hu] at hu'; cases hu'
  have ix := lheld_ix D hi
  have np := lnext D hi hu
  have ne : ¬ (us.length : Int) = (p : Int) := by omega
  have z : 2 ≤ sizeLine := by decide
  unfold m__law_due b__law_due rBad
  generalize (us.length : Int) = z1 at *
  generalize (b : Int) = z2 at *
  generalize (p : Int) = z3 at *
  clear D hi hu uu
  walk_at "ev*"
theorem due_prog_off (D : LW S tg lo lh lw es lf pw br Bs ws) (hl : pw = false ∨ lf = some 0) {b : Nat} (hb : b < 8) {us : List T} (hu : Bs[b]? = some us) (r : T) :
    ∃ S', m__law_due [.ref lh, .ref lw, .ref lo, .str "program", .int (b : Int), .int (us.length : Int), r] S = .ok rOff S' ∧ LW S' tg lo lh lw es lf false (if pw = true then .pr b us.length r else br) Bs ws ∧ Ot 200 tg tg S S' := by
  obtain ⟨i, us', hi, hu', hg, uu, ti⟩ := D.get hb
  rw [hu] at hu'; cases hu'
  have ix := lheld_ix D hi
  have np := lnext D hi hu
  have wo := D.oo
  have ln := lt_of wo
  have z : 2 ≤ sizeLine := by decide
  have z4 : 4 ≤ sizeLine := by decide
  have i1 := ix31
  have i2 := ix32
  cases pw with
  | false =>
    refine ⟨S, ?_, by rw [if_neg (by decide)]; exact D, Ot.refl _ _ _⟩
    unfold woG at wo
    unfold m__law_due b__law_due rOff
    generalize brL br = B at *
    generalize lfT lf = L at *
    generalize (us.length : Int) = z1 at *
    generalize (b : Int) = z2 at *
    clear D hi hu uu
    walk_at "ev*"
  | true =>
    have e : lf = some 0 := hl.resolve_left (fun h => by cases h)
    subst e
    rw [if_pos rfl]
    refine ⟨_, ?_, D.obj (woG (some 0) false (.pr b us.length r)), Ot.set _ (by rw [D.ot]; omega)⟩
    unfold woG lfT at wo ⊢
    dsimp only at wo ⊢
    have bb : brL (.pr b us.length r) = .tup [.str "program", .int b, .int us.length, r] := rfl
    rw [bb]
    unfold m__law_due b__law_due rOff
    generalize brL br = B at *
    generalize (us.length : Int) = z1 at *
    generalize (b : Int) = z2 at *
    clear D hi hu uu bb
    walk_at "ev*"
theorem due_era_off (D : LW S tg lo lh lw es lf pw br Bs ws) (hl : pw = false ∨ lf = some 0) (b : Nat) (q r : T) :
    ∃ S', m__law_due [.ref lh, .ref lw, .ref lo, .str "erase", .int (b : Int), q, r] S = .ok rOff S' ∧ LW S' tg lo lh lw es lf false (if pw = true then .er b q r else br) Bs ws ∧ Ot 200 tg tg S S' := by
  have wo := D.oo
  have ln := lt_of wo
  have z : 2 ≤ sizeLine := by decide
  have z4 : 4 ≤ sizeLine := by decide
  have i1 := ix31
  have i2 := ix32
  cases pw with
  | false =>
    refine ⟨S, ?_, by rw [if_neg (by decide)]; exact D, Ot.refl _ _ _⟩
    unfold woG at wo
    unfold m__law_due b__law_due rOff
    generalize brL br = B at *
    generalize lfT lf = L at *
    generalize (b : Int) = z2 at *
    clear D
    walk_at "ev*"
  | true =>
    have e : lf = some 0 := hl.resolve_left (fun h => by cases h)
    subst e
    rw [if_pos rfl]
    refine ⟨_, ?_, D.obj (woG (some 0) false (.er b q r)), Ot.set _ (by rw [D.ot]; omega)⟩
    unfold woG lfT at wo ⊢
    dsimp only at wo ⊢
    have bb : brL (.er b q r) = .tup [.str "erase", .int b, q, r] := rfl
    rw [bb]
    unfold m__law_due b__law_due rOff
    generalize brL br = B at *
    generalize (b : Int) = z2 at *
    clear D bb
    walk_at "ev*"
/-- the count goes down -/
theorem wo_dec (D : LW S tg lo lh lw es lf true br Bs ws) : ∃ S1, LW S1 tg lo lh lw es (decL lf) true br Bs ws ∧ Ot 200 tg tg S S1 ∧ S1[lo]? = some (woG (decL lf) true br) ∧ (lf = none → S1 = S) ∧ (∀ c, lf = some c → S1 = S.set lo (woG (some (c - 1)) true br)) := by
  cases lf with
  | none => exact ⟨S, D, Ot.refl _ _ _, D.oo, fun _ => rfl, fun c h => nomatch h⟩
  | some c => exact ⟨_, D.obj (woG (some (c - 1)) true br), Ot.set _ (by rw [D.ot]; omega), (D.obj _).oo, (fun h => nomatch h), fun c h => by cases h; rfl⟩
theorem due_prog_go (D : LW S tg lo lh lw es lf true br Bs ws) (hl : lf ≠ some 0) {b : Nat} (hb : b < 8) {us : List T} (hu : Bs[b]? = some us) (h8 : us.length < 8) {r : T} (ur : Up r) :
    ∃ S', m__law_due [.ref lh, .ref lw, .ref lo, .str "program", .int (b : Int), .int (us.length : Int), r] S = .ok .non S' ∧ LW S' tg lo lh lw es (decL lf) true br (Bs.set b (us ++ [r])) ws ∧ Ot 200 tg tg S S' := by
  obtain ⟨i, us', hi, hu', hg, uu, ti⟩ := D.get hb
  rw [hu] at hu'; cases hu'
  have ix := lheld_ix D hi
  have np := lnext D hi hu
  have wo := D.oo
  have ln := lt_of wo
  have i0 := ix30
  obtain ⟨S1, D1, k1, wo1, n1, s1⟩ := wo_dec D
  have ap := apply_put D1 hi hu h8 r
  have D2 := D1.put hi hu (us_snoc uu h8 ur)
  refine ⟨_, ?_, D2, k1.trans (Ot.set _ (by rw [ti]; omega))⟩
  generalize S1.set i _ = S2 at *
  unfold woG at wo wo1 s1
  unfold m__law_due b__law_due
  generalize (us.length : Int) = z1 at *
  generalize (b : Int) = z2 at *
  cases lf with
  | none =>
    have e := n1 rfl
    subst e
    unfold lfT at wo
    dsimp only at wo
    generalize brL br = B at *
    clear D D1 D2 hi hu uu k1 n1 s1 wo1 hl
    walk_at "ev*"
  | some c =>
    have c0 : ¬ c = 0 := fun e => hl (by rw [e])
    have e := s1 c rfl
    unfold lfT at wo e
    dsimp only at wo e
    generalize brL br = B at *
    clear D D1 D2 hi hu uu k1 n1 s1 wo1 hl
    subst e
    walk_at "ev*"
theorem due_era_go (D : LW S tg lo lh lw es lf true br Bs ws) (hl : lf ≠ some 0) {b : Nat} (hb : b < 8) {w : Int} (hw : ws[b]? = some w) (q r : T) :
    ∃ S' tg' es', m__law_due [.ref lh, .ref lw, .ref lo, .str "erase", .int (b : Int), q, r] S = .ok .non S' ∧ LW S' tg' lo lh lw es' (decL lf) true br (Bs.set b []) (ws.set b (w + 1)) ∧ Ot 200 tg tg' S S' := by
  have wo := D.oo
  have ln := lt_of wo
  have i0 := ix30
  obtain ⟨S1, D1, k1, wo1, n1, s1⟩ := wo_dec D
  have ap := apply_fill D1 hb hw q .non
  rw [← pg_nil] at ap
  obtain ⟨D2, k2⟩ := D1.fill hb (w + 1) us_nil
  refine ⟨_, _, _, ?_, D2, k1.trans k2⟩
  generalize fillS _ _ _ _ _ _ _ _ = S2 at *
  unfold woG at wo wo1 s1
  unfold m__law_due b__law_due
  generalize (b : Int) = z2 at *
  cases lf with
  | none =>
    have e := n1 rfl
    subst e
    unfold lfT at wo
    dsimp only at wo
    generalize brL br = B at *
    clear D D1 D2 k1 k2 n1 s1 wo1 hl
    walk_at "ev*"
  | some c =>
    have c0 : ¬ c = 0 := fun e => hl (by rw [e])
    have e := s1 c rfl
    unfold lfT at wo e
    dsimp only at wo e
    generalize brL br = B at *
    clear D D1 D2 k1 k2 n1 s1 wo1 hl
    subst e
    walk_at "ev*"
end
/-! ### the law's cut -/
section
variable {S : Sto} {tg : Nat → Nat} {lo lh lw : Nat} {es : List Nat} {lf : Option Int} {pw : Bool} {br : Br} {Bs : List (List T)} {ws : List Int}
theorem lcut_bad {x : T} (hx : x = .int (-1) ∨ x = .int 3) (a b c : T) : m__law_cut [a, b, c, x] S = .ok rBad S := by
  have z : 2 ≤ sizeLine := by decide
  have z3 : 3 ≤ sizeLine := by decide
  unfold m__law_cut b__law_cut rBad
  rcases hx with rfl | rfl <;> walk_at "ev*"
theorem lcut_0 (D : LW S tg lo lh lw es lf pw br Bs ws) {c : Int} (hc : c = 0 ∨ c = 1 ∨ c = 2) (hn : br = .no ∨ c = 0) :
    ∃ S', m__law_cut [.ref lh, .ref lw, .ref lo, .int c] S = .ok .non S' ∧ LW S' tg lo lh lw es none true .no Bs ws ∧ Ot 200 tg tg S S' := by
  refine ⟨_, ?_, D.obj (woG none true .no), Ot.set _ (by rw [D.ot]; omega)⟩
  have wo := D.oo
  have ln := lt_of wo
  have z3 : 3 ≤ sizeLine := by decide
  have i0 := ix30
  have i1 := ix31
  have i2 := ix32
  have nb : br = .no ∨ ∃ l, brL br = .tup l := by cases br; exact .inl rfl; exact .inr ⟨_, rfl⟩; exact .inr ⟨_, rfl⟩
  have b0 : brL .no = .non := rfl
  unfold woG at wo ⊢
  rw [b0]
  unfold m__law_cut b__law_cut
  have l0 : lfT none = .non := rfl
  rw [l0]
  rcases nb with rfl | ⟨l, hl⟩
  · rw [b0] at wo
    generalize hL : lfT lf = L at *
    clear hL D hn b0 l0
    rcases hc with rfl | rfl | rfl <;> walk_at "ev*"
  · have c0 : c = 0 := hn.resolve_left (fun h => by subst h; cases hl)
    subst c0
    rw [hl] at wo
    generalize hL : lfT lf = L at *
    clear hL D hn hl hc b0 l0
    walk_at "ev*"
theorem nin12 {c : Int} (hc : c = 1 ∨ c = 2) (S : Sto) : opNin (.int c) (.tup [.int 0, .int 1, .int 2]) S = .ok (.bl false) S := by
  rcases hc with rfl | rfl <;> walk_at "ev"
theorem lcut_put {b : Nat} {r : T} {us : List T} (D : LW S tg lo lh lw es lf pw (.pr b us.length r) Bs ws) (hb : b < 8) (hu : Bs[b]? = some us) (h8 : us.length < 8) (ur : Up r) {c : Int} (hc : c = 1 ∨ c = 2) :
    ∃ S', m__law_cut [.ref lh, .ref lw, .ref lo, .int c] S = .ok .non S' ∧ LW S' tg lo lh lw es none true .no (Bs.set b (us ++ [if c = 1 then r else .str "torn"])) ws ∧ Ot 200 tg tg S S' := by
  obtain ⟨i, us', hi, hu', hg, uu, ti⟩ := D.get hb
  rw [hu] at hu'; cases hu'
  have uv : Up (if c = 1 then r else .str "torn") := by split; exact ur; exact .inl rfl
  have ap := apply_put D hi hu h8 (if c = 1 then r else .str "torn")
  have D1 := D.put hi hu (us_snoc uu h8 uv)
  refine ⟨_, ?_, D1.obj (woG none true .no), (Ot.set _ (by rw [ti]; omega)).trans (Ot.set _ (by rw [D.ot]; omega))⟩
  have wo := D.oo
  have wo1 := D1.oo
  have l1 := lt_of wo1
  have nn := nin12 hc S
  have hgt : (0 : Int) < c := by rcases hc with rfl | rfl <;> decide
  have z3 : 3 ≤ sizeLine := by decide
  have i0 := ix30
  have i1 := ix31
  have i2 := ix32
  have b0 : brL .no = .non := rfl
  have l0 : lfT none = .non := rfl
  have bp : brL (.pr b us.length r) = .tup [.str "program", .int b, .int us.length, r] := rfl
  unfold woG at wo wo1 ⊢
  rw [b0, l0]
  rw [bp] at wo wo1
  generalize hS1 : S.set i _ = S1 at *
  generalize hL : lfT lf = L at *
  generalize (us.length : Int) = z1 at *
  generalize (b : Int) = z2 at *
  unfold m__law_cut b__law_cut
  clear D D1 hi hu uu hL b0 l0 bp hS1 uv ur
  rcases hc with rfl | rfl
  · have ap : m__law_apply [.ref lh, .ref lw, .str "program", .int z2, .int z1, r] S = .ok .non S1 := ap
    walk_at "ev*"
  · have ap : m__law_apply [.ref lh, .ref lw, .str "program", .int z2, .int z1, .str "torn"] S = .ok .non S1 := ap
    walk_at "ev*"
theorem lcut_fill {b : Nat} {q r : T} (D : LW S tg lo lh lw es lf pw (.er b q r) Bs ws) (hb : b < 8) {w : Int} (hw : ws[b]? = some w) {c : Int} (hc : c = 1 ∨ c = 2) :
    ∃ S' tg' es', m__law_cut [.ref lh, .ref lw, .ref lo, .int c] S = .ok .non S' ∧ LW S' tg' lo lh lw es' none true .no (Bs.set b (if c = 1 then [] else torn8)) (ws.set b (w + 1)) ∧ Ot 200 tg tg' S S' := by
  have ap := apply_fill D hb hw q (if c = 1 then .non else .str "torn")
  have pv : List.replicate 8 (if c = 1 then T.non else .str "torn") = pgT (if c = 1 then [] else torn8) := by
    rcases hc with rfl | rfl
    · exact pg_nil.symm
    · exact pg_torn.symm
  rw [pv] at ap
  obtain ⟨D1, k1⟩ := D.fill hb (w + 1) (vs := if c = 1 then [] else torn8) (by split; exact us_nil; exact us_torn)
  refine ⟨_, _, _, ?_, D1.obj (woG none true .no), k1.trans (Ot.set _ (by rw [D1.ot]; omega))⟩
  have wo := D.oo
  have wo1 := D1.oo
  have l1 := lt_of wo1
  have nn := nin12 hc S
  have hgt : (0 : Int) < c := by rcases hc with rfl | rfl <;> decide
  have z3 : 3 ≤ sizeLine := by decide
  have i0 := ix30
  have i1 := ix31
  have i2 := ix32
  have b0 : brL .no = .non := rfl
  have l0 : lfT none = .non := rfl
  have bp : brL (.er b q r) = .tup [.str "erase", .int b, q, r] := rfl
  generalize hS1 : fillS _ _ _ _ _ _ _ _ = S1 at *
  unfold woG at wo wo1 ⊢
  rw [b0, l0]
  rw [bp] at wo wo1
  generalize hL : lfT lf = L at *
  generalize (b : Int) = z2 at *
  unfold m__law_cut b__law_cut
  clear D D1 k1 hL b0 l0 bp hS1 pv
  rcases hc with rfl | rfl
  · have ap : m__law_apply [.ref lh, .ref lw, .str "erase", .int z2, q, .non] S = .ok .non S1 := ap
    walk_at "ev*"
  · have ap : m__law_apply [.ref lh, .ref lw, .str "erase", .int z2, q, .str "torn"] S = .ok .non S1 := ap
    walk_at "ev*"
end
/-! ### what is told is what is due -/
def Vl (v : T) : Prop := v = .non ∨ Up v ∨ v = rOff ∨ v = rBad
theorem same_ok {v : T} (h : Vl v) (S : Sto) : m__law_same [v, v] S = .ok (.bl true) S := by
  unfold m__law_same b__law_same
  rcases h with rfl | (rfl | ⟨k, p, rfl⟩) | rfl | rfl
  · walk_at "ev"
  · walk_at "ev"
  · walk_at "ev"
  · unfold rOff
    walk_at "ev"
  · unfold rBad
    walk_at "ev"
/-! ### wear and image -/
def Pz (t : T) : Prop := t = .non ∨ Up t
theorem pz_ok {t : T} (h : Pz t) : dat t = true ∧ dep t ≤ 2 ∧ eqT t t = true := by
  rcases h with rfl | rfl | ⟨k, p, rfl⟩
  · exact ⟨rfl, by decide, rfl⟩
  · exact ⟨rfl, by decide, by rw [q_str_str]; simp⟩
  · refine ⟨rfl, ?_, ?_⟩
    · rw [dp_tup, dp_cons, dp_cons]; exact ⟨Nat.zero_le _, Nat.zero_le _, Nat.zero_le _⟩
    · rw [q_tup_tup, q_cons, q_cons, q_nil, q_int_int, q_int_int]; simp
theorem pz_pg {us : List T} (u : Us us) : ∀ t ∈ pgT us, Pz t := fun t ht => by
  unfold pgT at ht
  rcases List.mem_append.mp ht with ht | ht
  · exact .inr (u.up t ht)
  · exact .inl (List.eq_of_mem_replicate ht)
theorem pzs_ok : ∀ {l : List T}, (∀ t ∈ l, Pz t) → dats l = true ∧ deps l ≤ 2 ∧ eqTs l l = true
  | [], _ => ⟨rfl, by decide, rfl⟩
  | t :: l, h => by
    obtain ⟨a, b, c⟩ := pz_ok (h t List.mem_cons_self)
    obtain ⟨a', b', c'⟩ := pzs_ok (l := l) fun u hu => h u (List.mem_cons_of_mem _ hu)
    exact ⟨by rw [dt_cons]; exact ⟨a, a'⟩, by rw [dp_cons]; exact ⟨b, b'⟩, by rw [q_cons, c, c']; rfl⟩
def rowG (w : Int) (us : List T) : T := .tup [.int w, .lst (pgT us)]
theorem row_ok {us : List T} (u : Us us) (w : Int) : dat (rowG w us) = true ∧ dep (rowG w us) ≤ 8 ∧ eqT (rowG w us) (rowG w us) = true := by
  obtain ⟨a, b, c⟩ := pzs_ok (pz_pg u)
  unfold rowG
  refine ⟨?_, ?_, ?_⟩
  · rw [dt_tup, dt_cons, dt_cons, dt_lst]; exact ⟨rfl, a, rfl⟩
  · rw [dp_tup, dp_cons, dp_cons, dp_lst]; exact ⟨Nat.zero_le _, Nat.le_trans b (by decide), Nat.zero_le _⟩
  · rw [q_tup_tup, q_cons, q_cons, q_nil, q_int_int, q_lst_lst, c]; simp
theorem vw_row {S : Sto} {i : Nat} {us : List T} (u : Us us) (h : S[i]? = some (.lst (pgT us))) (w : Int) : vw S (.tup [.int w, .ref i]) = rowG w us ∧ rs 3 S (.tup [.int w, .ref i]) = rowG w us := by
  obtain ⟨a, _, _⟩ := pzs_ok (pz_pg u)
  have key : ∀ k, rs (k + 2) S (.tup [.int w, .ref i]) = rowG w us := fun k => by
    show rsA (rs (k + 1) S) S (.tup [.int w, .ref i]) = _
    show T.tup [rs (k + 1) S (.int w), rs (k + 1) S (.ref i)] = _
    have e1 : rs (k + 1) S (.int w) = .int w := rfl
    have e2 : rs (k + 1) S (.ref i) = .lst (pgT us) := by
      show rsA (rs k S) S (.ref i) = _
      show (match S[i]? with | some (.lst l) => T.lst (l.map (rs k S)) | _ => .ref i) = _
      rw [h]
      show T.lst ((pgT us).map (rs k S)) = _
      congr 1
      conv => rhs; rw [← List.map_id (pgT us)]
      exact List.map_congr_left fun t ht => rs_dat k S t (pz_ok (pz_pg u t ht)).1
    rw [e1, e2]; rfl
  exact ⟨(show vw S (.tup [.int w, .ref i]) = rs 4 S (.tup [.int w, .ref i]) from if_neg fun h => by cases h).trans (key 2), key 1⟩
section
variable {S : Sto} {tg : Nat → Nat} {f fh wn lo lh lw : Nat} {hs es : List Nat} {X : O} {lf : Option Int} {pw : Bool} {br : Br} {Bs : List (List T)} {ws : List Int}
theorem wear_ok (D : FS S tg f fh wn hs lf pw br Bs ws) {b : Nat} (hb : b < 8) {w : Int} (hw : ws[b]? = some w) : m_Flash_wear [.ref f, .int (b : Int)] S = .ok (.int w) S := by
  have ec := check_block D.oo hb
  have fo := D.oo
  have ww := D.ww
  have ai : atI (ws.map T.int) (b : Int) = some (.int w) := by rw [Ab.atI_nat, List.getElem?_map, hw]; rfl
  unfold fsG at fo
  unfold m_Flash_wear b_Flash_wear
  generalize brF br = B at *
  generalize lfT lf = L at *
  generalize ws.map T.int = WS at *
  generalize (b : Int) = z at *
  clear D
  walk_at "ev*"
theorem lwear_ok (D : Sd S tg 200 lo lh lw es X Bs ws) {b : Nat} {w : Int} (hw : ws[b]? = some w) : opIx (.ref lw) (.int (b : Int)) S = .ok (.int w) S := by
  have ww := D.ww
  have ai : atI (ws.map T.int) (b : Int) = some (.int w) := by rw [Ab.atI_nat, List.getElem?_map, hw]; rfl
  generalize ws.map T.int = WS at *
  clear D
  walk_at "ev*"
def rowOf (ws : List Int) (Bs : List (List T)) (n : Nat) : T := rowG (ws.getD n 0) (Bs.getD n [])
def imgF (ws : List Int) (Bs : List (List T)) : T → T
  | .int z => rowOf ws Bs z.toNat
  | _ => .non
def imgL (ws : List Int) (Bs : List (List T)) : List T := (rngT 0 8).map (imgF ws Bs)
theorem rng8 {t : T} (h : t ∈ rngT 0 8) : ∃ b : Nat, b < 8 ∧ t = .int (b : Int) := by
  unfold rngT at h
  obtain ⟨k, hk, rfl⟩ := List.mem_map.mp h
  exact ⟨k, by have := List.mem_range.mp hk; omega, by rw [Int.zero_add]⟩
theorem getD_at {α : Type} {l : List α} {n : Nat} {x d : α} (h : l[n]? = some x) : l.getD n d = x := by rw [List.getD_eq_getElem?_getD, h]; rfl
theorem image_ok (D : FS S tg f fh wn hs lf pw br Bs ws) : m_Flash_image [.ref f] S = .ok (.lst (imgL ws Bs)) S := by
  have fo := D.oo
  have q0 := lcL_map (ck := none) (i := 1) (e := mN opTup (mCons (m2 opIx (mFld "Flash" "wears" (mV 0)) (mV 1)) (mCons (mN (opList true) (mCons (m2 opIx (mFld "Flash" "held" (mV 0)) (mV 1)) mNil)) mNil))) (st := [some (.ref f), none]) (S := S) (f := imgF ws Bs) (l := rngT 0 8) (acc := []) trivial (fun t ht => by
    obtain ⟨b, hb, rfl⟩ := rng8 ht
    obtain ⟨i, us, hi, hu, hg, uu, _⟩ := D.get hb
    obtain ⟨w, hw⟩ := ws_at D hb
    have ix := held_ix D hi
    have ww := D.ww
    have ai : atI (ws.map T.int) (b : Int) = some (.int w) := by rw [Ab.atI_nat, List.getElem?_map, hw]; rfl
    have e : imgF ws Bs (.int (b : Int)) = .tup [.int w, .lst (pgT us)] := by
      show rowOf ws Bs (b : Int).toNat = _
      unfold rowOf rowG
      rw [Int.toNat_natCast, getD_at hw, getD_at hu]
    rw [e]
    have z2 : 2 ≤ sizeLine := by decide
    unfold fsG at fo
    generalize brF br = B at *
    generalize lfT lf = L at *
    generalize ws.map T.int = WS at *
    generalize pgT us = PG at *
    generalize (b : Int) = z at *
    clear D hi hu uu hw e
    walk_at "ev*") (by decide +kernel)
  rw [List.nil_append] at q0
  have q : lcL none 1 mYes _ [some (.ref f), none] (rngT 0 8) [] S = .ok (imgL ws Bs) S := q0
  clear q0
  unfold fsG at fo
  unfold m_Flash_image b_Flash_image
  have d0 : ∀ X : AS, mDef 1 2 X [.ref f] S = defK (X [some (.ref f), none] S) := fun X => by walk_at "ev"
  rw [d0]
  generalize brF br = B at *
  generalize lfT lf = L at *
  generalize (mN opTup (mCons (m2 opIx (mFld "Flash" "wears" (mV 0)) (mV 1)) _)) = EL at *
  have r8 : (itR1 (mCons (mFld "Flash" "blocks" (mV 0)) mNil)) [some (.ref f), none] S = .ok ⟨rngT 0 8, none⟩ S := by
    walk_at "ev*"
  generalize (itR1 (mCons (mFld "Flash" "blocks" (mV 0)) mNil)) = IT at *
  generalize rngT 0 8 = RG at *
  generalize imgL ws Bs = IL at *
  clear D d0
  walk_at "ev*"
theorem img_at (D : FS S tg f fh wn hs lf pw br Bs ws) {b : Nat} (hb : b < 8) {us : List T} {w : Int} (hu : Bs[b]? = some us) (hw : ws[b]? = some w) : atI (imgL ws Bs) (b : Int) = some (rowG w us) := by
  unfold imgL
  rw [Ab.atI_nat, List.getElem?_map]
  have e : (rngT 0 8)[b]? = some (.int (b : Int)) := by
    unfold rngT
    rw [List.getElem?_map, List.getElem?_range (by omega)]
    show some (T.int (0 + (b : Int))) = _
    rw [Int.zero_add]
  rw [e]
  show some (rowOf ws Bs (b : Int).toNat) = _
  unfold rowOf
  rw [Int.toNat_natCast, getD_at hw, getD_at hu]
theorem row_same (D : Sd S tg 200 lo lh lw es X Bs ws) {b i : Nat} (hi : es[b]? = some i) {us : List T} {w : Int} (hu : Bs[b]? = some us) : opNe (rowG w us) (.tup [.int w, .ref i]) S = .ok (.bl false) S := by
  have uu := D.us us (List.mem_of_getElem? hu)
  obtain ⟨a, b, c⟩ := row_ok uu w
  rw [opNe_vw (vw_dat a) (vw_row uu (D.pg _ i us hi hu).1 w).1 a a (.inl (Nat.le_trans b (by decide))), c]; rfl
/-- at the end: all of it -/
def endF (ws : List Int) (es : List Nat) : T → T
  | .int z => .tup [.int (ws.getD z.toNat 0), .ref (es.getD z.toNat 0)]
  | _ => .non
theorem end_same (D : Sd S tg 200 lo lh lw es X Bs ws) : opEq (.lst (imgL ws Bs)) (.lst ((rngT 0 8).map (endF ws es))) S = .ok (.bl true) S := by
  have at8 : ∀ t ∈ rngT 0 8, ∃ (w : Int) (i : Nat) (us : List T), imgF ws Bs t = rowG w us ∧ endF ws es t = .tup [.int w, .ref i] ∧ Us us ∧ S[i]? = some (.lst (pgT us)) := fun t ht => by
    obtain ⟨b, hb, rfl⟩ := rng8 ht
    obtain ⟨i, us, hi, hu, hg, uu, _⟩ := D.get hb
    obtain ⟨w, hw⟩ : ∃ w, ws[b]? = some w := ⟨_, List.getElem?_eq_getElem (by rw [D.l3]; exact hb)⟩
    refine ⟨w, i, us, ?_, ?_, uu, hg⟩
    · show rowOf ws Bs (b : Int).toNat = _
      unfold rowOf
      rw [Int.toNat_natCast, getD_at hw, getD_at hu]
    · show T.tup [.int (ws.getD (b : Int).toNat 0), .ref (es.getD (b : Int).toNat 0)] = _
      rw [Int.toNat_natCast, getD_at hw, getD_at hi]
  have vr : vw S (.lst ((rngT 0 8).map (endF ws es))) = .lst (imgL ws Bs) := by
    have nd : ¬ dat (.lst ((rngT 0 8).map (endF ws es))) = true := by
      rw [dt_lst]
      intro h
      have h0 : (T.int 0) ∈ rngT 0 8 := List.mem_map.mpr ⟨0, by simp, rfl⟩
      obtain ⟨w, i, us, _, e, _, _⟩ := at8 _ h0
      rw [dats_all, List.all_eq_true] at h
      have := h _ (List.mem_map.mpr ⟨_, h0, rfl⟩)
      rw [e] at this
      cases this
    show (if dat _ = true then _ else rs 4 S _) = _
    rw [if_neg nd]
    show T.lst (((rngT 0 8).map (endF ws es)).map (rs 3 S)) = _
    unfold imgL
    rw [List.map_map]
    congr 1
    refine List.map_congr_left fun t ht => ?_
    obtain ⟨w, i, us, e1, e2, uu, hg⟩ := at8 t ht
    show rs 3 S (endF ws es t) = _
    rw [e1, e2]
    exact (vw_row uu hg w).2
  have all : ∀ {l : List T}, (∀ t ∈ l, ∃ (w : Int) (us : List T), imgF ws Bs t = rowG w us ∧ Us us) → dats (l.map (imgF ws Bs)) = true ∧ deps (l.map (imgF ws Bs)) ≤ 8 ∧ eqTs (l.map (imgF ws Bs)) (l.map (imgF ws Bs)) = true := by
    intro l
    induction l with
    | nil => intro _; exact ⟨rfl, Nat.zero_le _, rfl⟩
    | cons t l ih =>
      intro h
      obtain ⟨w, us, e, uu⟩ := h t List.mem_cons_self
      obtain ⟨a, b, c⟩ := row_ok uu w
      obtain ⟨a', b', c'⟩ := ih fun u hu => h u (List.mem_cons_of_mem _ hu)
      rw [List.map_cons, e]
      exact ⟨by rw [dt_cons]; exact ⟨a, a'⟩, by rw [dp_cons]; exact ⟨b, b'⟩, by rw [q_cons, c, c']; rfl⟩
  obtain ⟨a, b, c⟩ := all (l := rngT 0 8) fun t ht => by
    obtain ⟨w, i, us, e1, _, uu, _⟩ := at8 t ht
    exact ⟨w, us, e1, uu⟩
  have a : dats (imgL ws Bs) = true := a
  have b : deps (imgL ws Bs) ≤ 8 := b
  have c : eqTs (imgL ws Bs) (imgL ws Bs) = true := c
  rw [opEq_vw (vw_dat (by rw [dt_lst]; exact a)) vr (by rw [dt_lst]; exact a) (by rw [dt_lst]; exact a) (.inl (by rw [dp_lst]; exact Nat.le_trans b (by decide))), q_lst_lst, c]
end
/-! ### the law of k02 -/
noncomputable def lw0 : AS := (mSet 1 (mCall m__law_tape (mCons (mV 0) mNil)))
noncomputable def lw1 : AS := (mSet 2 (mMake "Flash" m_Flash___init__ (mCons (mC (.int 8)) mNil)))
noncomputable def lw2 : AS := (mSet 4 (mLc false (itR1 (mCons (mC (.int 8)) mNil)) 3 mYes (m2 (opRep false) (mN (opLst true) (mCons (mC .non) mNil)) (mC (.int 8)))))
noncomputable def lw3 : AS := (mSet 5 (m2 (opRep false) (mN (opLst true) (mCons (mC (.int 0)) mNil)) (mC (.int 8))))
noncomputable def lw4 : AS := (mSet 6 (mN (opLst false) (mCons (mC .non) (mCons (mC (.bl true)) (mCons (mC .non) mNil)))))
noncomputable def lw5 : AS := (mIf (mB (m2 opNe (mC (.str "torn")) (mC (.str "torn")))) (mRet (mC (.bl false))) mPass)
noncomputable def lw6 : AS := (mFor (itR1 (mCons (mN opMin2 (mCons (mC (.int 50)) (mCons (m2 opDiv (mN opLen (mCons (mV 1) mNil)) (mC (.int 2))) mNil))) mNil)) (gN 7) (mSeq (mSet 8 (mCall m__law_at (mCons (mV 1) (mCons (m2 opMul (mC (.int 2)) (mV 7)) mNil)))) (mSeq (mSet 9 (mCall m__law_at (mCons (mV 1) (mCons (m2 opAdd (m2 opMul (mC (.int 2)) (mV 7)) (mC (.int 1))) mNil)))) (mSeq (mSet 10 (m2 opIx (mN (opLst true) (mCons (mC (.str "program")) (mCons (mC (.str "program")) (mCons (mC (.str "program")) (mCons (mC (.str "program")) (mCons (mC (.str "erase")) (mCons (mC (.str "read")) (mCons (mC (.str "fail")) (mCons (mC (.str "fail")) (mCons (mC (.str "cut")) (mCons (mC (.str "read")) mNil))))))))))) (m2 opMod (mV 8) (mC (.int 10))))) (mSeq (mSet 3 (m2 opIx (mN (opLst true) (mCons (mC (.int 0)) (mCons (mC (.int 7)) (mCons (mC (.int 3)) mNil)))) (m2 opMod (m2 opDiv (mV 8) (mC (.int 10))) (mC (.int 3))))) (mSeq (mSet 11 (mCall m__law_next (mCons (m2 opIx (mV 4) (mV 3)) mNil))) (mSeq (mIf (mTOr (mB (m2 opEq (mV 10) (mC (.str "read")))) (mB (m2 opEq (m2 opMod (mV 9) (mC (.int 9))) (mC (.int 8))))) (mSet 11 (m2 opMod (mV 9) (mC (.int 8)))) mPass) (mSeq (mIf (mB (m2 opGt (mV 11) (mC (.int 7)))) (mSet 11 (mC (.int 7))) mPass) (mSeq (mIf (mB (m2 opEq (mV 10) (mC (.str "fail")))) (mSeq (mSet 12 (m2 opIx (mN (opLst true) (mCons (mC .non) (mCons (mC (.int 0)) (mCons (mC (.int 1)) (mCons (mC (.int 2)) (mCons (mC (.int 3)) (mCons (mC (.int 4)) (mCons (mC (.int 5)) (mCons (mC (.int 6)) (mCons (mC (.int 100000)) (mCons (m1 opNeg (mC (.int 1))) (mCons (mC (.int 100001)) (mCons (mC (.str "1")) mNil))))))))))))) (m2 opMod (mV 9) (mC (.int 12))))) (mSeq (mSet 13 (mC .non)) (mSeq (mIf (mB (m2 opGt (m2 opMod (mV 9) (mC (.int 12))) (mC (.int 8)))) (mSet 13 (mN (opLst true) (mCons (mC (.str "refused")) (mCons (mC (.bl true)) mNil)))) (mAsg (mV 12) (gIx (mV 6) (mC (.int 0))))) (mSet 14 (mCall m__law_do (mCons (mV 2) (mCons (mC (.str "fail")) (mCons (mV 12) (mCons (mC (.int 0)) (mCons (mC .non) mNil)))))))))) (mIf (mB (m2 opEq (mV 10) (mC (.str "cut")))) (mSeq (mSet 15 (m2 opIx (mN (opLst true) (mCons (mC (.int 0)) (mCons (mC (.int 1)) (mCons (mC (.int 2)) (mCons (mC (.int 0)) (mCons (mC (.int 1)) (mCons (mC (.int 2)) (mCons (mC (.int 3)) (mCons (m1 opNeg (mC (.int 1))) mNil))))))))) (m2 opMod (mV 9) (mC (.int 8))))) (mSeq (mSet 13 (mCall m__law_cut (mCons (mV 4) (mCons (mV 5) (mCons (mV 6) (mCons (mV 15) mNil)))))) (mSet 14 (mCall m__law_do (mCons (mV 2) (mCons (mC (.str "cut")) (mCons (mV 15) (mCons (mC (.int 0)) (mCons (mC .non) mNil))))))))) (mSeq (mSet 13 (mCall m__law_due (mCons (mV 4) (mCons (mV 5) (mCons (mV 6) (mCons (mV 10) (mCons (mV 3) (mCons (mV 11) (mCons (mN opTup (mCons (mV 7) (mCons (mV 9) mNil))) mNil))))))))) (mSet 14 (mCall m__law_do (mCons (mV 2) (mCons (mV 10) (mCons (mV 3) (mCons (mV 11) (mCons (mN opTup (mCons (mV 7) (mCons (mV 9) mNil))) mNil)))))))))) (mSeq (mIf (mTOr (mTNot (mB (mCall m__law_same (mCons (mV 14) (mCons (mV 13) mNil))))) (mB (m2 opNe (mMeth "Flash" "wear" m_Flash_wear (mV 2) (mCons (mV 3) mNil)) (m2 opIx (mV 5) (mV 3))))) (mRet (mC (.bl false))) mPass) (mIf (mB (m2 opNe (m2 opIx (mMeth "Flash" "image" m_Flash_image (mV 2) mNil) (mV 3)) (mN opTup (mCons (m2 opIx (mV 5) (mV 3)) (mCons (m2 opIx (mV 4) (mV 3)) mNil))))) (mRet (mC (.bl false))) mPass)))))))))))
noncomputable def lw7 : AS := (mRet (m2 opEq (mMeth "Flash" "image" m_Flash_image (mV 2) mNil) (mLc true (itR1 (mCons (mC (.int 8)) mNil)) 3 mYes (mN opTup (mCons (m2 opIx (mV 5) (mV 3)) (mCons (m2 opIx (mV 4) (mV 3)) mNil))))))
theorem lw_cut : b_law = (mSeq lw0 (mSeq lw1 (mSeq lw2 (mSeq lw3 (mSeq lw4 (mSeq lw5 (mSeq lw6 lw7))))))) := rfl
noncomputable def lb0 : AS := (mSet 8 (mCall m__law_at (mCons (mV 1) (mCons (m2 opMul (mC (.int 2)) (mV 7)) mNil))))
noncomputable def lb1 : AS := (mSet 9 (mCall m__law_at (mCons (mV 1) (mCons (m2 opAdd (m2 opMul (mC (.int 2)) (mV 7)) (mC (.int 1))) mNil))))
noncomputable def lb2 : AS := (mSet 10 (m2 opIx (mN (opLst true) (mCons (mC (.str "program")) (mCons (mC (.str "program")) (mCons (mC (.str "program")) (mCons (mC (.str "program")) (mCons (mC (.str "erase")) (mCons (mC (.str "read")) (mCons (mC (.str "fail")) (mCons (mC (.str "fail")) (mCons (mC (.str "cut")) (mCons (mC (.str "read")) mNil))))))))))) (m2 opMod (mV 8) (mC (.int 10)))))
noncomputable def lb3 : AS := (mSet 3 (m2 opIx (mN (opLst true) (mCons (mC (.int 0)) (mCons (mC (.int 7)) (mCons (mC (.int 3)) mNil)))) (m2 opMod (m2 opDiv (mV 8) (mC (.int 10))) (mC (.int 3)))))
noncomputable def lb4 : AS := (mSet 11 (mCall m__law_next (mCons (m2 opIx (mV 4) (mV 3)) mNil)))
noncomputable def lb5 : AS := (mIf (mTOr (mB (m2 opEq (mV 10) (mC (.str "read")))) (mB (m2 opEq (m2 opMod (mV 9) (mC (.int 9))) (mC (.int 8))))) (mSet 11 (m2 opMod (mV 9) (mC (.int 8)))) mPass)
noncomputable def lb6 : AS := (mIf (mB (m2 opGt (mV 11) (mC (.int 7)))) (mSet 11 (mC (.int 7))) mPass)
noncomputable def lb7 : AS := (mIf (mB (m2 opEq (mV 10) (mC (.str "fail")))) (mSeq (mSet 12 (m2 opIx (mN (opLst true) (mCons (mC .non) (mCons (mC (.int 0)) (mCons (mC (.int 1)) (mCons (mC (.int 2)) (mCons (mC (.int 3)) (mCons (mC (.int 4)) (mCons (mC (.int 5)) (mCons (mC (.int 6)) (mCons (mC (.int 100000)) (mCons (m1 opNeg (mC (.int 1))) (mCons (mC (.int 100001)) (mCons (mC (.str "1")) mNil))))))))))))) (m2 opMod (mV 9) (mC (.int 12))))) (mSeq (mSet 13 (mC .non)) (mSeq (mIf (mB (m2 opGt (m2 opMod (mV 9) (mC (.int 12))) (mC (.int 8)))) (mSet 13 (mN (opLst true) (mCons (mC (.str "refused")) (mCons (mC (.bl true)) mNil)))) (mAsg (mV 12) (gIx (mV 6) (mC (.int 0))))) (mSet 14 (mCall m__law_do (mCons (mV 2) (mCons (mC (.str "fail")) (mCons (mV 12) (mCons (mC (.int 0)) (mCons (mC .non) mNil)))))))))) (mIf (mB (m2 opEq (mV 10) (mC (.str "cut")))) (mSeq (mSet 15 (m2 opIx (mN (opLst true) (mCons (mC (.int 0)) (mCons (mC (.int 1)) (mCons (mC (.int 2)) (mCons (mC (.int 0)) (mCons (mC (.int 1)) (mCons (mC (.int 2)) (mCons (mC (.int 3)) (mCons (m1 opNeg (mC (.int 1))) mNil))))))))) (m2 opMod (mV 9) (mC (.int 8))))) (mSeq (mSet 13 (mCall m__law_cut (mCons (mV 4) (mCons (mV 5) (mCons (mV 6) (mCons (mV 15) mNil)))))) (mSet 14 (mCall m__law_do (mCons (mV 2) (mCons (mC (.str "cut")) (mCons (mV 15) (mCons (mC (.int 0)) (mCons (mC .non) mNil))))))))) (mSeq (mSet 13 (mCall m__law_due (mCons (mV 4) (mCons (mV 5) (mCons (mV 6) (mCons (mV 10) (mCons (mV 3) (mCons (mV 11) (mCons (mN opTup (mCons (mV 7) (mCons (mV 9) mNil))) mNil))))))))) (mSet 14 (mCall m__law_do (mCons (mV 2) (mCons (mV 10) (mCons (mV 3) (mCons (mV 11) (mCons (mN opTup (mCons (mV 7) (mCons (mV 9) mNil))) mNil))))))))))
noncomputable def lb8 : AS := (mIf (mTOr (mTNot (mB (mCall m__law_same (mCons (mV 14) (mCons (mV 13) mNil))))) (mB (m2 opNe (mMeth "Flash" "wear" m_Flash_wear (mV 2) (mCons (mV 3) mNil)) (m2 opIx (mV 5) (mV 3))))) (mRet (mC (.bl false))) mPass)
noncomputable def lb9 : AS := (mIf (mB (m2 opNe (m2 opIx (mMeth "Flash" "image" m_Flash_image (mV 2) mNil) (mV 3)) (mN opTup (mCons (m2 opIx (mV 5) (mV 3)) (mCons (m2 opIx (mV 4) (mV 3)) mNil))))) (mRet (mC (.bl false))) mPass)
theorem lb_cut : (mSeq (mSet 8 (mCall m__law_at (mCons (mV 1) (mCons (m2 opMul (mC (.int 2)) (mV 7)) mNil)))) (mSeq (mSet 9 (mCall m__law_at (mCons (mV 1) (mCons (m2 opAdd (m2 opMul (mC (.int 2)) (mV 7)) (mC (.int 1))) mNil)))) (mSeq (mSet 10 (m2 opIx (mN (opLst true) (mCons (mC (.str "program")) (mCons (mC (.str "program")) (mCons (mC (.str "program")) (mCons (mC (.str "program")) (mCons (mC (.str "erase")) (mCons (mC (.str "read")) (mCons (mC (.str "fail")) (mCons (mC (.str "fail")) (mCons (mC (.str "cut")) (mCons (mC (.str "read")) mNil))))))))))) (m2 opMod (mV 8) (mC (.int 10))))) (mSeq (mSet 3 (m2 opIx (mN (opLst true) (mCons (mC (.int 0)) (mCons (mC (.int 7)) (mCons (mC (.int 3)) mNil)))) (m2 opMod (m2 opDiv (mV 8) (mC (.int 10))) (mC (.int 3))))) (mSeq (mSet 11 (mCall m__law_next (mCons (m2 opIx (mV 4) (mV 3)) mNil))) (mSeq (mIf (mTOr (mB (m2 opEq (mV 10) (mC (.str "read")))) (mB (m2 opEq (m2 opMod (mV 9) (mC (.int 9))) (mC (.int 8))))) (mSet 11 (m2 opMod (mV 9) (mC (.int 8)))) mPass) (mSeq (mIf (mB (m2 opGt (mV 11) (mC (.int 7)))) (mSet 11 (mC (.int 7))) mPass) (mSeq (mIf (mB (m2 opEq (mV 10) (mC (.str "fail")))) (mSeq (mSet 12 (m2 opIx (mN (opLst true) (mCons (mC .non) (mCons (mC (.int 0)) (mCons (mC (.int 1)) (mCons (mC (.int 2)) (mCons (mC (.int 3)) (mCons (mC (.int 4)) (mCons (mC (.int 5)) (mCons (mC (.int 6)) (mCons (mC (.int 100000)) (mCons (m1 opNeg (mC (.int 1))) (mCons (mC (.int 100001)) (mCons (mC (.str "1")) mNil))))))))))))) (m2 opMod (mV 9) (mC (.int 12))))) (mSeq (mSet 13 (mC .non)) (mSeq (mIf (mB (m2 opGt (m2 opMod (mV 9) (mC (.int 12))) (mC (.int 8)))) (mSet 13 (mN (opLst true) (mCons (mC (.str "refused")) (mCons (mC (.bl true)) mNil)))) (mAsg (mV 12) (gIx (mV 6) (mC (.int 0))))) (mSet 14 (mCall m__law_do (mCons (mV 2) (mCons (mC (.str "fail")) (mCons (mV 12) (mCons (mC (.int 0)) (mCons (mC .non) mNil)))))))))) (mIf (mB (m2 opEq (mV 10) (mC (.str "cut")))) (mSeq (mSet 15 (m2 opIx (mN (opLst true) (mCons (mC (.int 0)) (mCons (mC (.int 1)) (mCons (mC (.int 2)) (mCons (mC (.int 0)) (mCons (mC (.int 1)) (mCons (mC (.int 2)) (mCons (mC (.int 3)) (mCons (m1 opNeg (mC (.int 1))) mNil))))))))) (m2 opMod (mV 9) (mC (.int 8))))) (mSeq (mSet 13 (mCall m__law_cut (mCons (mV 4) (mCons (mV 5) (mCons (mV 6) (mCons (mV 15) mNil)))))) (mSet 14 (mCall m__law_do (mCons (mV 2) (mCons (mC (.str "cut")) (mCons (mV 15) (mCons (mC (.int 0)) (mCons (mC .non) mNil))))))))) (mSeq (mSet 13 (mCall m__law_due (mCons (mV 4) (mCons (mV 5) (mCons (mV 6) (mCons (mV 10) (mCons (mV 3) (mCons (mV 11) (mCons (mN opTup (mCons (mV 7) (mCons (mV 9) mNil))) mNil))))))))) (mSet 14 (mCall m__law_do (mCons (mV 2) (mCons (mV 10) (mCons (mV 3) (mCons (mV 11) (mCons (mN opTup (mCons (mV 7) (mCons (mV 9) mNil))) mNil)))))))))) (mSeq (mIf (mTOr (mTNot (mB (mCall m__law_same (mCons (mV 14) (mCons (mV 13) mNil))))) (mB (m2 opNe (mMeth "Flash" "wear" m_Flash_wear (mV 2) (mCons (mV 3) mNil)) (m2 opIx (mV 5) (mV 3))))) (mRet (mC (.bl false))) mPass) (mIf (mB (m2 opNe (m2 opIx (mMeth "Flash" "image" m_Flash_image (mV 2) mNil) (mV 3)) (mN opTup (mCons (m2 opIx (mV 5) (mV 3)) (mCons (m2 opIx (mV 4) (mV 3)) mNil))))) (mRet (mC (.bl false))) mPass)))))))))) = (mSeq lb0 (mSeq lb1 (mSeq lb2 (mSeq lb3 (mSeq lb4 (mSeq lb5 (mSeq lb6 (mSeq lb7 (mSeq lb8 lb9))))))))) := rfl
def BrOk (pw : Bool) (br : Br) (Bs : List (List T)) : Prop := (pw = true → br = .no) ∧ (∀ b p r, br = .pr b p r → b < 8 ∧ p < 8 ∧ Up r ∧ ∃ us, Bs[b]? = some us ∧ us.length = p) ∧ ∀ b q r, br = .er b q r → b < 8
theorem BrOk.no (pw : Bool) (Bs : List (List T)) : BrOk pw .no Bs := ⟨fun _ => rfl, (fun _ _ _ h => nomatch h), fun _ _ _ h => nomatch h⟩
structure Jt (S : Sto) (f fh wn lo lh lw : Nat) (lf : Option Int) (pw : Bool) (br : Br) (Bs : List (List T)) (ws : List Int) : Prop where
  ex : ∃ tg hs es, FS S tg f fh wn hs lf pw br Bs ws ∧ LW S tg lo lh lw es lf pw br Bs ws
  bk : BrOk pw br Bs
section
variable {S : Sto} {f fh wn lo lh lw : Nat} {lf : Option Int} {pw : Bool} {br : Br} {Bs : List (List T)} {ws : List Int}
/-- what an act leads to -/
def AcR (S2 : Sto) (f fh wn lo lh lw : Nat) (v : T) : Prop := Vl v ∧ ∃ lf' pw' br' Bs' ws', Jt S2 f fh wn lo lh lw lf' pw' br' Bs' ws'
theorem act_prog (J : Jt S f fh wn lo lh lw lf pw br Bs ws) {b p : Nat} (hb : b < 8) (hp : p < 8) (k q : Int) :
    ∃ v S1 S2, m__law_due [.ref lh, .ref lw, .ref lo, .str "program", .int (b : Int), .int (p : Int), .tup [.int k, .int q]] S = .ok v S1 ∧ m__law_do [.ref f, .str "program", .int (b : Int), .int (p : Int), .tup [.int k, .int q]] S1 = .ok v S2 ∧ AcR S2 f fh wn lo lh lw v := by
  obtain ⟨tg, hs, es, D, L⟩ := J.ex
  obtain ⟨i, us, hi, hu, hg, uu, ti⟩ := D.get hb
  by_cases hne : us.length = p
  · subst hne
    by_cases hl : pw = false ∨ lf = some 0
    · obtain ⟨S1, e1, L1, k1⟩ := due_prog_off L hl hb hu (.tup [.int k, .int q])
      have D1 := D.fr k1 (by omega)
      obtain ⟨S2, pw', br', e2, D2, k2, rfl, rfl⟩ := program_off D1 hl hb hu hp k q
      refine ⟨rOff, S1, S2, e1, do_program D1.oo _ _ _ e2 (.off S2), .inr (.inr (.inl rfl)), lf, false, _, Bs, ws, ⟨tg, hs, es, D2, L1.fr k2 (by omega)⟩, ?_⟩
      refine ⟨(fun h => nomatch h), fun b' p' r' h => ?_, fun b' q' r' h => ?_⟩
      · cases pw with
        | false => exact J.bk.2.1 b' p' r' h
        | true => rw [if_pos rfl] at h; cases h; exact ⟨hb, hp, .inr ⟨k, q, rfl⟩, us, hu, rfl⟩
      · cases pw with
        | false => exact J.bk.2.2 b' q' r' h
        | true => rw [if_pos rfl] at h; cases h
    · have hp1 : pw = true := by cases pw; exact absurd (.inl rfl) hl; rfl
      have hl2 : lf ≠ some 0 := fun h => hl (.inr h)
      subst hp1
      have bn := J.bk.1 rfl
      subst bn
      obtain ⟨S1, e1, L1, k1⟩ := due_prog_go L hl2 hb hu hp (r := .tup [.int k, .int q]) (.inr ⟨k, q, rfl⟩)
      have D1 := D.fr k1 (by omega)
      obtain ⟨S2, e2, D2, k2⟩ := program_go D1 hl2 hb hu hp k q
      exact ⟨.non, S1, S2, e1, do_program D1.oo _ _ _ e2 (.ok _ S2), .inl rfl, _, _, _, _, _, ⟨tg, hs, es, D2, L1.fr k2 (by omega)⟩, BrOk.no _ _⟩
  · exact ⟨rBad, S, S, due_prog_bad L hb hu hne _, do_program D.oo _ _ _ (program_bad D hb hp hu hne k q) (.bad S), .inr (.inr (.inr rfl)), lf, pw, br, Bs, ws, J⟩
theorem act_era (J : Jt S f fh wn lo lh lw lf pw br Bs ws) {b : Nat} (hb : b < 8) (q r : T) :
    ∃ v S1 S2, m__law_due [.ref lh, .ref lw, .ref lo, .str "erase", .int (b : Int), q, r] S = .ok v S1 ∧ m__law_do [.ref f, .str "erase", .int (b : Int), q, r] S1 = .ok v S2 ∧ AcR S2 f fh wn lo lh lw v := by
  obtain ⟨tg, hs, es, D, L⟩ := J.ex
  obtain ⟨w, hw⟩ := ws_at D hb
  by_cases hl : pw = false ∨ lf = some 0
  · obtain ⟨S1, e1, L1, k1⟩ := due_era_off L hl b q r
    have D1 := D.fr k1 (by omega)
    obtain ⟨S2, pw', br', e2, D2, k2, rfl, rfl⟩ := erase_off D1 hl hb q r
    refine ⟨rOff, S1, S2, e1, do_erase D1.oo _ _ _ e2 (.off S2), .inr (.inr (.inl rfl)), lf, false, _, Bs, ws, ⟨tg, hs, es, D2, L1.fr k2 (by omega)⟩, ?_⟩
    refine ⟨(fun h => nomatch h), fun b' p' r' h => ?_, fun b' q' r' h => ?_⟩
    · cases pw with
      | false => exact J.bk.2.1 b' p' r' h
      | true => rw [if_pos rfl] at h; cases h
    · cases pw with
      | false => exact J.bk.2.2 b' q' r' h
      | true => rw [if_pos rfl] at h; cases h; exact hb
  · have hp1 : pw = true := by cases pw; exact absurd (.inl rfl) hl; rfl
    have hl2 : lf ≠ some 0 := fun h => hl (.inr h)
    subst hp1
    have bn := J.bk.1 rfl
    subst bn
    obtain ⟨S1, tg1, es1, e1, L1, k1⟩ := due_era_go L hl2 hb hw q r
    have D1 := D.fr k1 (by omega)
    obtain ⟨S2, tg2, hs2, e2, D2, k2⟩ := erase_go D1 hl2 hb hw
    exact ⟨.non, S1, S2, e1, do_erase D1.oo _ _ _ e2 (.ok _ S2), .inl rfl, _, _, _, _, _, ⟨tg2, hs2, es1, D2, L1.fr k2 (by omega)⟩, BrOk.no _ _⟩
theorem act_read (J : Jt S f fh wn lo lh lw lf pw br Bs ws) {b p : Nat} (hb : b < 8) (hp : p < 8) (r : T) :
    ∃ v S1 S2, m__law_due [.ref lh, .ref lw, .ref lo, .str "read", .int (b : Int), .int (p : Int), r] S = .ok v S1 ∧ m__law_do [.ref f, .str "read", .int (b : Int), .int (p : Int), r] S1 = .ok v S2 ∧ AcR S2 f fh wn lo lh lw v := by
  obtain ⟨tg, hs, es, D, L⟩ := J.ex
  obtain ⟨i, us, hi, hu, hg, uu, ti⟩ := D.get hb
  cases pw with
  | false => exact ⟨rOff, S, S, due_read_off L _ _ _, do_read D.oo _ _ _ (read_off D hb hp) (.off S), .inr (.inr (.inl rfl)), lf, _, br, Bs, ws, J⟩
  | true =>
    obtain ⟨v, hv, vv⟩ := pg_at uu hp
    exact ⟨v, S, S, due_read L hb hu hv r, do_read D.oo _ _ _ (read_ok D hb hp hu hv) (.ok v S), vv.elim .inl (fun h => .inr (.inl h)), lf, _, br, Bs, ws, J⟩
theorem act_fail (J : Jt S f fh wn lo lh lw lf pw br Bs ws) {c : Option Int} (hc : ∀ z, c = some z → 0 ≤ z ∧ z ≤ 100000) :
    ∃ X Y S2, S[lo]? = some (.lst [X, .bl pw, Y]) ∧ m__law_do [.ref f, .str "fail", lfT c, .int 0, .non] (S.set lo (.lst [lfT c, .bl pw, Y])) = .ok .non S2 ∧ AcR S2 f fh wn lo lh lw .non := by
  obtain ⟨tg, hs, es, D, L⟩ := J.ex
  have L1 := L.obj (woG c pw br)
  have D1 := D.fr (d := 200) (tg' := tg) (S' := S.set lo (woG c pw br)) (Ot.set _ (by rw [L.ot]; omega)) (by omega)
  obtain ⟨S2, e2, D2, k2⟩ := fail_go D1 hc
  exact ⟨_, _, S2, L.oo, do_fail D1.oo _ _ _ e2 (.ok _ S2), .inl rfl, _, _, _, _, _, ⟨tg, hs, es, D2, L1.fr k2 (by omega)⟩, J.bk⟩
theorem act_fail_bad (J : Jt S f fh wn lo lh lw lf pw br Bs ws) {x : T} (hx : x = .int (-1) ∨ x = .int 100001 ∨ x = .str "1") : m__law_do [.ref f, .str "fail", x, .int 0, .non] S = .ok rBad S := by
  obtain ⟨tg, hs, es, D, L⟩ := J.ex
  exact do_fail D.oo _ _ _ (fail_bad hx) (.bad S)
theorem act_cut (J : Jt S f fh wn lo lh lw lf pw br Bs ws) (c : Int) (hc : (c = 0 ∨ c = 1 ∨ c = 2) ∨ (c = -1 ∨ c = 3)) :
    ∃ v S1 S2, m__law_cut [.ref lh, .ref lw, .ref lo, .int c] S = .ok v S1 ∧ m__law_do [.ref f, .str "cut", .int c, .int 0, .non] S1 = .ok v S2 ∧ AcR S2 f fh wn lo lh lw v := by
  obtain ⟨tg, hs, es, D, L⟩ := J.ex
  rcases hc with hc | hc
  · by_cases hn : br = .no ∨ c = 0
    · obtain ⟨S1, e1, L1, k1⟩ := lcut_0 L hc hn
      have D1 := D.fr k1 (by omega)
      obtain ⟨S2, e2, D2, k2⟩ := cut_0 D1 hc hn
      exact ⟨.non, S1, S2, e1, do_cut D1.oo _ _ _ e2 (.ok _ S2), .inl rfl, _, _, _, _, _, ⟨tg, hs, es, D2, L1.fr k2 (by omega)⟩, BrOk.no _ _⟩
    · have c12 : c = 1 ∨ c = 2 := by rcases hc with h | h | h; exact absurd (.inr h) hn; exact .inl h; exact .inr h
      cases br with
      | no => exact absurd (.inl rfl) hn
      | pr b p r =>
        obtain ⟨hb, hp, ur, us, hu, rfl⟩ := J.bk.2.1 b p r rfl
        obtain ⟨S1, e1, L1, k1⟩ := lcut_put L hb hu hp ur c12
        have D1 := D.fr k1 (by omega)
        obtain ⟨S2, e2, D2, k2⟩ := cut_put D1 hb hu hp ur c12
        exact ⟨.non, S1, S2, e1, do_cut D1.oo _ _ _ e2 (.ok _ S2), .inl rfl, _, _, _, _, _, ⟨tg, hs, es, D2, L1.fr k2 (by omega)⟩, BrOk.no _ _⟩
      | er b q r =>
        have hb := J.bk.2.2 b q r rfl
        obtain ⟨w, hw⟩ := ws_at D hb
        obtain ⟨S1, tg1, es1, e1, L1, k1⟩ := lcut_fill L hb hw c12
        have D1 := D.fr k1 (by omega)
        obtain ⟨S2, tg2, hs2, e2, D2, k2⟩ := cut_fill D1 hb hw c12
        exact ⟨.non, S1, S2, e1, do_cut D1.oo _ _ _ e2 (.ok _ S2), .inl rfl, _, _, _, _, _, ⟨tg2, hs2, es1, D2, L1.fr k2 (by omega)⟩, BrOk.no _ _⟩
  · have hx : T.int c = .int (-1) ∨ T.int c = .int 3 := by rcases hc with rfl | rfl; exact .inl rfl; exact .inr rfl
    exact ⟨rBad, S, S, lcut_bad hx _ _ _, do_cut D.oo _ _ _ (cut_bad hx) (.bad S), .inr (.inr (.inr rfl)), lf, pw, br, Bs, ws, J⟩
end
abbrev lwS (x : T) (tp : List Int) (f lh lw lo : Nat) (x3 x7 x8 x9 x10 x11 x12 x13 x14 x15 : Option T) : Slots := [some x, some (.lst (tp.map .int)), some (.ref f), x3, some (.ref lh), some (.ref lw), some (.ref lo), x7, x8, x9, x10, x11, x12, x13, x14, x15]
def acts : List String := ["program", "erase", "read", "fail", "cut"]
theorem act_at {c : Int} (h0 : 0 ≤ c) (h1 : c < 10) : ∃ a, atI [T.str "program", .str "program", .str "program", .str "program", .str "erase", .str "read", .str "fail", .str "fail", .str "cut", .str "read"] c = some (.str a) ∧ a ∈ acts := by
  have : c = 0 ∨ c = 1 ∨ c = 2 ∨ c = 3 ∨ c = 4 ∨ c = 5 ∨ c = 6 ∨ c = 7 ∨ c = 8 ∨ c = 9 := by omega
  rcases this with rfl | rfl | rfl | rfl | rfl | rfl | rfl | rfl | rfl | rfl <;> exact ⟨_, rfl, by decide⟩
theorem blk_at {c : Int} (h0 : 0 ≤ c) (h1 : c < 3) : ∃ b : Nat, b < 8 ∧ atI [T.int 0, .int 7, .int 3] c = some (.int (b : Int)) := by
  have : c = 0 ∨ c = 1 ∨ c = 2 := by omega
  rcases this with rfl | rfl | rfl
  · exact ⟨0, by decide, rfl⟩
  · exact ⟨7, by decide, rfl⟩
  · exact ⟨3, by decide, rfl⟩
def cntL : List T := [.non, .int 0, .int 1, .int 2, .int 3, .int 4, .int 5, .int 6, .int 100000, .int (-1), .int 100001, .str "1"]
theorem cnt_at {c : Int} (h0 : 0 ≤ c) (h1 : c < 12) : (c ≤ 8 ∧ ∃ co : Option Int, atI cntL c = some (lfT co) ∧ ∀ z, co = some z → 0 ≤ z ∧ z ≤ 100000) ∨ (8 < c ∧ ∃ x, atI cntL c = some x ∧ (x = .int (-1) ∨ x = .int 100001 ∨ x = .str "1")) := by
  have : c = 0 ∨ c = 1 ∨ c = 2 ∨ c = 3 ∨ c = 4 ∨ c = 5 ∨ c = 6 ∨ c = 7 ∨ c = 8 ∨ c = 9 ∨ c = 10 ∨ c = 11 := by omega
  have so : ∀ z : Int, 0 ≤ z → z ≤ 100000 → ∀ z', some z = some z' → 0 ≤ z' ∧ z' ≤ 100000 := fun z a b z' e => by cases e; exact ⟨a, b⟩
  rcases this with rfl | rfl | rfl | rfl | rfl | rfl | rfl | rfl | rfl | rfl | rfl | rfl
  · exact .inl ⟨by decide, none, rfl, fun _ h => nomatch h⟩
  · exact .inl ⟨by decide, some 0, rfl, so _ (by decide) (by decide)⟩
  · exact .inl ⟨by decide, some 1, rfl, so _ (by decide) (by decide)⟩
  · exact .inl ⟨by decide, some 2, rfl, so _ (by decide) (by decide)⟩
  · exact .inl ⟨by decide, some 3, rfl, so _ (by decide) (by decide)⟩
  · exact .inl ⟨by decide, some 4, rfl, so _ (by decide) (by decide)⟩
  · exact .inl ⟨by decide, some 5, rfl, so _ (by decide) (by decide)⟩
  · exact .inl ⟨by decide, some 6, rfl, so _ (by decide) (by decide)⟩
  · exact .inl ⟨by decide, some 100000, rfl, so _ (by decide) (by decide)⟩
  · exact .inr ⟨by decide, _, rfl, .inl rfl⟩
  · exact .inr ⟨by decide, _, rfl, .inr (.inl rfl)⟩
  · exact .inr ⟨by decide, _, rfl, .inr (.inr rfl)⟩
def chL : List T := [.int 0, .int 1, .int 2, .int 0, .int 1, .int 2, .int 3, .int (-1)]
theorem ch_at {c : Int} (h0 : 0 ≤ c) (h1 : c < 8) : ∃ z : Int, atI chL c = some (.int z) ∧ ((z = 0 ∨ z = 1 ∨ z = 2) ∨ (z = -1 ∨ z = 3)) := by
  have : c = 0 ∨ c = 1 ∨ c = 2 ∨ c = 3 ∨ c = 4 ∨ c = 5 ∨ c = 6 ∨ c = 7 := by omega
  rcases this with rfl | rfl | rfl | rfl | rfl | rfl | rfl | rfl
  · exact ⟨_, rfl, .inl (.inl rfl)⟩
  · exact ⟨_, rfl, .inl (.inr (.inl rfl))⟩
  · exact ⟨_, rfl, .inl (.inr (.inr rfl))⟩
  · exact ⟨_, rfl, .inl (.inl rfl)⟩
  · exact ⟨_, rfl, .inl (.inr (.inl rfl))⟩
  · exact ⟨_, rfl, .inl (.inr (.inr rfl))⟩
  · exact ⟨_, rfl, .inr (.inr rfl)⟩
  · exact ⟨_, rfl, .inr (.inl rfl)⟩
section
variable {S : Sto} {x : T} {tp : List Int} {f fh wn lo lh lw : Nat} {lf : Option Int} {pw : Bool} {br : Br} {Bs : List (List T)} {ws : List Int}
theorem lb03 (dg : Dg tp) (k : Int) (hk : 0 ≤ k) (x3 x8 x9 x10 x11 x12 x13 x14 x15 : Option T) (Y : AS) :
    ∃ (nu pk : Int) (a : String) (b : Nat), (mSeq lb0 (mSeq lb1 (mSeq lb2 (mSeq lb3 Y)))) (lwS x tp f lh lw lo x3 (some (.int k)) x8 x9 x10 x11 x12 x13 x14 x15) S = Y (lwS x tp f lh lw lo (some (.int (b : Int))) (some (.int k)) (some (.int nu)) (some (.int pk)) (some (.str a)) x11 x12 x13 x14 x15) S ∧ 0 ≤ pk ∧ a ∈ acts ∧ b < 8 := by
  obtain ⟨nu, e1, n0, n1⟩ := at_okI dg (2 * k) (by omega)
  obtain ⟨pk, e2, p0, p1⟩ := at_okI dg (2 * k + 1) (by omega)
  obtain ⟨a, e3, ha⟩ := act_at (c := nu % 10) (by omega) (by omega)
  obtain ⟨b, hb, e4⟩ := blk_at (c := nu / 10 % 3) (by omega) (by omega)
  refine ⟨nu, pk, a, b, ?_, p0, ha, hb⟩
  have z10 : 10 ≤ sizeLine := by decide
  have z3 : 3 ≤ sizeLine := by decide
  unfold lb0 lb1 lb2 lb3 lwS
  generalize tp.map T.int = TP at *
  generalize (b : Int) = bz at *
  walk_at "ev*"
theorem lb46 (J : Jt S f fh wn lo lh lw lf pw br Bs ws) {b : Nat} (hb : b < 8) {k nu pk : Int} (p0 : 0 ≤ pk) (a : String) (x11 x12 x13 x14 x15 : Option T) (Y : AS) :
    ∃ p : Nat, p < 8 ∧ (mSeq lb4 (mSeq lb5 (mSeq lb6 Y))) (lwS x tp f lh lw lo (some (.int (b : Int))) (some (.int k)) (some (.int nu)) (some (.int pk)) (some (.str a)) x11 x12 x13 x14 x15) S = Y (lwS x tp f lh lw lo (some (.int (b : Int))) (some (.int k)) (some (.int nu)) (some (.int pk)) (some (.str a)) (some (.int (p : Int))) x12 x13 x14 x15) S := by
  obtain ⟨tg, hs, es, D, L⟩ := J.ex
  obtain ⟨i, us, hi, hu, hg, uu, ti⟩ := L.get hb
  have ix := lheld_ix L hi
  have np := lnext L hi hu
  have u8 := uu.len
  have e4 : ∀ Y : AS, (mSeq lb4 Y) (lwS x tp f lh lw lo (some (.int (b : Int))) (some (.int k)) (some (.int nu)) (some (.int pk)) (some (.str a)) x11 x12 x13 x14 x15) S = Y (lwS x tp f lh lw lo (some (.int (b : Int))) (some (.int k)) (some (.int nu)) (some (.int pk)) (some (.str a)) (some (.int (us.length : Int))) x12 x13 x14 x15) S := fun Y => by
    unfold lb4 lwS
    generalize tp.map T.int = TP at *
    generalize (b : Int) = bz at *
    generalize (us.length : Int) = z at *
    clear D L hi hu uu J
    walk_at "ev*"
  rw [e4]
  have m0 := Int.emod_nonneg pk (show (8 : Int) ≠ 0 by decide)
  have m1 := Int.emod_lt_of_pos pk (show (0 : Int) < 8 by decide)
  have e5 : ∃ z : Int, 0 ≤ z ∧ z ≤ 8 ∧ ∀ Y : AS, (mSeq lb5 Y) (lwS x tp f lh lw lo (some (.int (b : Int))) (some (.int k)) (some (.int nu)) (some (.int pk)) (some (.str a)) (some (.int (us.length : Int))) x12 x13 x14 x15) S = Y (lwS x tp f lh lw lo (some (.int (b : Int))) (some (.int k)) (some (.int nu)) (some (.int pk)) (some (.str a)) (some (.int z)) x12 x13 x14 x15) S := by
    by_cases c : a = "read" ∨ pk % 9 = 8
    · refine ⟨pk % 8, by omega, by omega, fun Y => ?_⟩
      unfold lb5 lwS
      generalize tp.map T.int = TP at *
      generalize (b : Int) = bz at *
      generalize (us.length : Int) = z at *
      clear D L hi hu uu J e4
      rcases Classical.em (a = "read") with q | q
      · subst q; walk_at "ev*"
      · have c2 := c.resolve_left q
        have q2 : decide (a = "read") = false := decide_eq_false q
        clear c
        walk_at "ev*"
    · have q : ¬ a = "read" := fun h => c (.inl h)
      have q1 : ¬ pk % 9 = 8 := fun h => c (.inr h)
      have q2 : decide (a = "read") = false := decide_eq_false q
      refine ⟨us.length, by omega, by omega, fun Y => ?_⟩
      unfold lb5 lwS
      generalize tp.map T.int = TP at *
      generalize (b : Int) = bz at *
      generalize (us.length : Int) = z at *
      clear D L hi hu uu J e4 c
      walk_at "ev*"
  obtain ⟨z, z0, z8, e5⟩ := e5
  rw [e5]
  by_cases c : (7 : Int) < z
  · refine ⟨7, by decide, ?_⟩
    unfold lb6 lwS
    have h7 : ((7 : Nat) : Int) = 7 := rfl
    rw [h7]
    generalize tp.map T.int = TP at *
    generalize (b : Int) = bz at *
    clear D L hi hu uu J e4 e5
    walk_at "ev*"
  · obtain ⟨p, rfl⟩ : ∃ p : Nat, z = (p : Int) := ⟨z.toNat, by omega⟩
    refine ⟨p, by omega, ?_⟩
    unfold lb6 lwS
    generalize tp.map T.int = TP at *
    generalize (b : Int) = bz at *
    generalize (p : Int) = pz at *
    clear D L hi hu uu J e4 e5
    walk_at "ev*"
theorem lb7_op {S1 S2 : Sto} {v : T} {a : String} {b p : Nat} {k pk : Int} (e1 : m__law_due [.ref lh, .ref lw, .ref lo, .str a, .int (b : Int), .int (p : Int), .tup [.int k, .int pk]] S = .ok v S1) (e2 : m__law_do [.ref f, .str a, .int (b : Int), .int (p : Int), .tup [.int k, .int pk]] S1 = .ok v S2) (ha : a ≠ "fail" ∧ a ≠ "cut") (x8 x12 x13 x14 x15 : Option T) :
    lb7 (lwS x tp f lh lw lo (some (.int (b : Int))) (some (.int k)) x8 (some (.int pk)) (some (.str a)) (some (.int (p : Int))) x12 x13 x14 x15) S = .nx (lwS x tp f lh lw lo (some (.int (b : Int))) (some (.int k)) x8 (some (.int pk)) (some (.str a)) (some (.int (p : Int))) x12 (some v) (some v) x15) S2 := by
  have q1 : decide (a = "fail") = false := decide_eq_false ha.1
  have q2 : decide (a = "cut") = false := decide_eq_false ha.2
  have z2 : 2 ≤ sizeLine := by decide
  unfold lb7 lwS
  generalize tp.map T.int = TP at *
  generalize (b : Int) = bz at *
  generalize (p : Int) = pz at *
  clear ha
  walk_at "ev*"
theorem lb7_cut {S1 S2 : Sto} {v : T} {pk c : Int} (hc : atI chL (pk % 8) = some (.int c)) (p0 : 0 ≤ pk) (e1 : m__law_cut [.ref lh, .ref lw, .ref lo, .int c] S = .ok v S1) (e2 : m__law_do [.ref f, .str "cut", .int c, .int 0, .non] S1 = .ok v S2) (x3 x7 x8 x11 x12 x13 x14 x15 : Option T) :
    lb7 (lwS x tp f lh lw lo x3 x7 x8 (some (.int pk)) (some (.str "cut")) x11 x12 x13 x14 x15) S = .nx (lwS x tp f lh lw lo x3 x7 x8 (some (.int pk)) (some (.str "cut")) x11 x12 (some v) (some v) (some (.int c))) S2 := by
  have z8 : 8 ≤ sizeLine := by decide
  unfold chL at hc
  unfold lb7 lwS
  generalize tp.map T.int = TP at *
  walk_at "ev*"
theorem lb7_fail {S2 : Sto} {pk : Int} {c : Option Int} {X Y : T} (hc : atI cntL (pk % 12) = some (lfT c)) (h8 : pk % 12 ≤ 8) (wo : S[lo]? = some (.lst [X, .bl pw, Y])) (e2 : m__law_do [.ref f, .str "fail", lfT c, .int 0, .non] (S.set lo (.lst [lfT c, .bl pw, Y])) = .ok .non S2) (x3 x7 x8 x11 x12 x13 x14 x15 : Option T) :
    lb7 (lwS x tp f lh lw lo x3 x7 x8 (some (.int pk)) (some (.str "fail")) x11 x12 x13 x14 x15) S = .nx (lwS x tp f lh lw lo x3 x7 x8 (some (.int pk)) (some (.str "fail")) x11 (some (lfT c)) (some .non) (some .non) x15) S2 := by
  have z8 : 12 ≤ sizeLine := by decide
  have n8 : ¬ 8 < pk % 12 := by omega
  have i0 := ix30
  have ln := lt_of wo
  unfold cntL at hc
  unfold lb7 lwS
  generalize tp.map T.int = TP at *
  generalize lfT c = C at *
  walk_at "ev*"
theorem lb7_failb {pk : Int} {c : T} (hc : atI cntL (pk % 12) = some c) (h8 : 8 < pk % 12) (e2 : m__law_do [.ref f, .str "fail", c, .int 0, .non] S = .ok rBad S) (x3 x7 x8 x11 x12 x13 x14 x15 : Option T) :
    lb7 (lwS x tp f lh lw lo x3 x7 x8 (some (.int pk)) (some (.str "fail")) x11 x12 x13 x14 x15) S = .nx (lwS x tp f lh lw lo x3 x7 x8 (some (.int pk)) (some (.str "fail")) x11 (some c) (some rBad) (some rBad) x15) S := by
  have z8 : 12 ≤ sizeLine := by decide
  have z2 : 2 ≤ sizeLine := by decide
  unfold cntL at hc
  unfold rBad at *
  unfold lb7 lwS
  generalize tp.map T.int = TP at *
  walk_at "ev*"
theorem lb89 (J : Jt S f fh wn lo lh lw lf pw br Bs ws) {b : Nat} (hb : b < 8) {v : T} (hv : Vl v) (x7 x8 x9 x10 x11 x12 x15 : Option T) :
    (mSeq lb8 lb9) (lwS x tp f lh lw lo (some (.int (b : Int))) x7 x8 x9 x10 x11 x12 (some v) (some v) x15) S = .nx (lwS x tp f lh lw lo (some (.int (b : Int))) x7 x8 x9 x10 x11 x12 (some v) (some v) x15) S := by
  obtain ⟨tg, hs, es, D, L⟩ := J.ex
  obtain ⟨i, us, hi, hu, hg, uu, ti⟩ := L.get hb
  obtain ⟨w, hw⟩ := ws_at D hb
  have e1 := same_ok hv S
  have e2 := wear_ok D hb hw
  have e3 := lwear_ok L hw
  have e4 := image_ok D
  have e5 := img_at D hb hu hw
  have e6 := lheld_ix L hi
  have e7 := row_same L hi hu (w := w)
  have fo := D.oo
  have z2 : 2 ≤ sizeLine := by decide
  unfold fsG at fo
  unfold lb8 lb9 lwS
  generalize rowG w us = RW at *
  generalize imgL ws Bs = IL at *
  generalize brF br = B at *
  generalize lfT lf = LF at *
  generalize tp.map T.int = TP at *
  generalize (b : Int) = bz at *
  clear D L hi hu uu hw J hv
  walk_at "ev*"
end
/-! ### k02: a round, the start, the law -/
noncomputable def lbB : AS := (mSeq lb0 (mSeq lb1 (mSeq lb2 (mSeq lb3 (mSeq lb4 (mSeq lb5 (mSeq lb6 (mSeq lb7 (mSeq lb8 lb9)))))))))
def LI (x : T) (tp : List Int) (f fh wn lo lh lw : Nat) (st : Slots) (S : Sto) : Prop := ∃ x3 x7 x8 x9 x10 x11 x12 x13 x14 x15, st = lwS x tp f lh lw lo x3 x7 x8 x9 x10 x11 x12 x13 x14 x15 ∧ ∃ lf pw br Bs ws, Jt S f fh wn lo lh lw lf pw br Bs ws
theorem sep_nx {a b : AS} {st st' : Slots} {S S' : Sto} (h : a st S = .nx st' S') : mSeq a b st S = b st' S' := by rw [e_seq, h, e_qnx]
theorem lb_step {S : Sto} {x : T} {tp : List Int} {f fh wn lo lh lw : Nat} {st : Slots} (H : LI x tp f fh wn lo lh lw st S) (dg : Dg tp) (k : Int) (hk : 0 ≤ k) :
    ∃ st' S', fstep (gN 7) lbB (.int k) st S = .nx st' S' ∧ LI x tp f fh wn lo lh lw st' S' := by
  obtain ⟨x3, x7, x8, x9, x10, x11, x12, x13, x14, x15, rfl, lf, pw, br, Bs, ws, J⟩ := H
  have fs : fstep (gN 7) lbB (.int k) (lwS x tp f lh lw lo x3 x7 x8 x9 x10 x11 x12 x13 x14 x15) S = lbB (lwS x tp f lh lw lo x3 (some (.int k)) x8 x9 x10 x11 x12 x13 x14 x15) S := by
    unfold lwS
    generalize tp.map T.int = TP at *
    generalize lbB = B at *
    clear J
    walk_at "ev"
  rw [fs]
  obtain ⟨nu, pk, a, b, e1, p0, ha, hb⟩ := lb03 (S := S) (x := x) (f := f) (lo := lo) (lh := lh) (lw := lw) dg k hk x3 x8 x9 x10 x11 x12 x13 x14 x15 (mSeq lb4 (mSeq lb5 (mSeq lb6 (mSeq lb7 (mSeq lb8 lb9)))))
  obtain ⟨p, hp, e2⟩ := lb46 (x := x) (tp := tp) J hb (k := k) (nu := nu) p0 a x11 x12 x13 x14 x15 (mSeq lb7 (mSeq lb8 lb9))
  unfold lbB
  rw [e1, e2]
  have fin : ∀ {v : T} {S2 : Sto} {y12 y15 : Option T}, lb7 (lwS x tp f lh lw lo (some (.int (b : Int))) (some (.int k)) (some (.int nu)) (some (.int pk)) (some (.str a)) (some (.int (p : Int))) x12 x13 x14 x15) S = .nx (lwS x tp f lh lw lo (some (.int (b : Int))) (some (.int k)) (some (.int nu)) (some (.int pk)) (some (.str a)) (some (.int (p : Int))) y12 (some v) (some v) y15) S2 → AcR S2 f fh wn lo lh lw v →
      ∃ st' S', mSeq lb7 (mSeq lb8 lb9) (lwS x tp f lh lw lo (some (.int (b : Int))) (some (.int k)) (some (.int nu)) (some (.int pk)) (some (.str a)) (some (.int (p : Int))) x12 x13 x14 x15) S = .nx st' S' ∧ LI x tp f fh wn lo lh lw st' S' := fun {v S2 y12 y15} e r => by
    obtain ⟨hv, lf', pw', br', Bs', ws', J'⟩ := r
    rw [sep_nx e, lb89 J' hb hv]
    exact ⟨_, _, rfl, _, _, _, _, _, _, _, _, _, _, rfl, _, _, _, _, _, J'⟩
  have a5 : a = "program" ∨ a = "erase" ∨ a = "read" ∨ a = "fail" ∨ a = "cut" := by
    unfold acts at ha
    simpa using ha
  rcases a5 with rfl | rfl | rfl | rfl | rfl
  · obtain ⟨v, S1, S2, q1, q2, r⟩ := act_prog J hb hp k pk
    exact fin (lb7_op q1 q2 ⟨by decide, by decide⟩ _ _ _ _ _) r
  · obtain ⟨v, S1, S2, q1, q2, r⟩ := act_era J hb (.int (p : Int)) (.tup [.int k, .int pk])
    exact fin (lb7_op q1 q2 ⟨by decide, by decide⟩ _ _ _ _ _) r
  · obtain ⟨v, S1, S2, q1, q2, r⟩ := act_read J hb hp (.tup [.int k, .int pk])
    exact fin (lb7_op q1 q2 ⟨by decide, by decide⟩ _ _ _ _ _) r
  · rcases cnt_at (c := pk % 12) (by omega) (by omega) with ⟨h8, co, ec, hc⟩ | ⟨h8, c, ec, hc⟩
    · obtain ⟨X, Y, S2, wo, q2, r⟩ := act_fail J hc
      exact fin (lb7_fail ec h8 wo q2 _ _ _ _ _ _ _ _) r
    · exact fin (lb7_failb ec h8 (act_fail_bad J hc) _ _ _ _ _ _ _ _) ⟨.inr (.inr (.inr rfl)), lf, pw, br, Bs, ws, J⟩
  · obtain ⟨z, ez, hz⟩ := ch_at (c := pk % 8) (by omega) (by omega)
    obtain ⟨v, S1, S2, q1, q2, r⟩ := act_cut J z hz
    exact fin (lb7_cut ez p0 q1 q2 _ _ _ _ _ _ _ _) r
def refs (n k : Nat) : List T := (List.range k).map fun j => .ref (n + j)
theorem refs_cons (n k : Nat) : refs n (k + 1) = .ref n :: refs (n + 1) k := by
  unfold refs
  rw [List.range_succ_eq_map, List.map_cons, List.map_map, Nat.add_zero]
  congr 1
  apply List.map_congr_left
  intro j _
  show T.ref (n + (j + 1)) = T.ref (n + 1 + j)
  congr 1; omega
theorem lc_grow {i : Nat} {e : AE} {st : Slots} {f : T → List T} : ∀ (l acc : List T) (S : Sto), (∀ t ∈ l, ∀ S', e (st.set i (some t)) S' = .ok (.ref S'.length) (S' ++ [.lst (f t)])) → acc.length + l.length ≤ 1000 →
    lcL none i mYes e st l acc S = .ok (acc ++ refs S.length l.length) (S ++ l.map fun t => .lst (f t))
  | [], acc, S, _, _ => by rw [e_lc0]; simp [refs]
  | t :: l, acc, S, h, hl => by
    have ih := lc_grow (i := i) (e := e) (st := st) (f := f) l (acc ++ [.ref S.length]) (S ++ [.lst (f t)]) (fun u hu => h u (List.mem_cons_of_mem _ hu)) (by simp at hl ⊢; omega)
    have sz : acc.length < sizeLine := Nat.lt_of_le_of_lt (by simp at hl; omega : acc.length ≤ 1000) (by decide)
    rw [e_lcc]
    show (R.nox (.ok true S)).bind _ = _
    rw [e_nok, e_bok, e_lc1, if_pos rfl, h t List.mem_cons_self, e_nok, e_bok, e_lc2, if_pos sz, ih, List.length_cons, refs_cons]
    simp
theorem gA2 {α : Type} {S J : List α} {a b : α} : (S ++ [a] ++ J ++ [b])[S.length]? = some a := by simp
theorem sA2 {α : Type} {S J : List α} {a b x : α} : (S ++ [a] ++ J ++ [b]).set S.length x = S ++ [x] ++ J ++ [b] := by simp [List.set_append]
theorem gA5 {α : Type} {S J : List α} {a b c : α} : (S ++ [a] ++ J ++ [b] ++ [c])[S.length]? = some a := by simp
theorem sA5 {α : Type} {S J : List α} {a b c x : α} : (S ++ [a] ++ J ++ [b] ++ [c]).set S.length x = S ++ [x] ++ J ++ [b] ++ [c] := by simp [List.set_append]
def P8 : List T := List.replicate 8 .non
def L8 : List O := [.lst P8, .lst P8, .lst P8, .lst P8, .lst P8, .lst P8, .lst P8, .lst P8]
def Z8 : List T := [.int 0, .int 0, .int 0, .int 0, .int 0, .int 0, .int 0, .int 0]
theorem init8 (S : Sto) : m_Flash___init__ [.ref S.length, .int 8] (S ++ [.obj "Flash" []]) = .ok .non (S ++ [fsG (S.length + 1 + 8) (S.length + 1 + 8 + 1) none true .no] ++ L8 ++ [.lst (refs (S.length + 1) 8)] ++ [.lst Z8]) := by
  have e1 : ∀ S, m_is_between [.int 8, .int 8, .int 24] S = .ok (.bl true) S := fun S => by
    unfold m_is_between b_is_between
    walk_at "ev*"
  have g2 := @gA2 O S; have s2 := @sA2 O S
  have g3 := @gA5 O S; have s3 := @sA5 O S
  have z := zl
  have z1 : 1 * 8 ≤ sizeLine := zl _ (by omega)
  have z2 : (refs (S.length + 1) 8).length ≤ sizeLine := by unfold refs; rw [List.length_map, List.length_range]; exact zl _ (by omega)
  have lp : ∀ st, lcL none 2 mYes (m2 (opRep false) (mN (opLst true) (mCons (mC .non) mNil)) (mC (.int 8))) st (rngT 0 8) [] (S ++ [O.obj "Flash" [("blocks", .int 8)]]) = .ok (refs (S.length + 1) 8) (S ++ [O.obj "Flash" [("blocks", .int 8)]] ++ L8) := by
    intro st
    have q := lc_grow (i := 2) (e := m2 (opRep false) (mN (opLst true) (mCons (mC .non) mNil)) (mC (.int 8))) (st := st) (f := fun _ => P8) (rngT 0 8) [] (S ++ [O.obj "Flash" [("blocks", .int 8)]]) (fun t _ S' => by walk_at "ev*"; rfl) (by rw [rngT_len]; simp)
    rw [q, List.nil_append, List.length_append]
    rfl
  have hJ : L8.length = 8 := rfl
  have hz : ([[T.int 0], [T.int 0], [T.int 0], [T.int 0], [T.int 0], [T.int 0], [T.int 0], [T.int 0]] : List (List T)).flatten = Z8 := rfl
  generalize L8 = J at *
  generalize Z8 = Z at *
  generalize refs (S.length + 1) 8 = rf at *
  unfold m_Flash___init__ b_Flash___init__ fsG lfT brF
  walk_at "ev*"
/-! ### k02: the start, the law -/
def F8 : Sto := [.dead] ++ [fsG 10 11 none true .no] ++ L8 ++ [.lst (refs 2 8)] ++ [.lst Z8]
def S0 : Sto := F8 ++ L8 ++ [.lst (refs 12 8)] ++ [.lst Z8] ++ [woG none true .no]
def tg0 (n : Nat) : Nat := [0, 100, 103, 104, 105, 106, 107, 108, 109, 110, 101, 102, 203, 204, 205, 206, 207, 208, 209, 210, 201, 202, 200].getD n 0
def B0 : List (List T) := List.replicate 8 []
def W0 : List Int := List.replicate 8 0
theorem b0_at {b : Nat} {us : List T} (h : B0[b]? = some us) : us = [] := by
  unfold B0 at h
  rw [List.getElem?_replicate] at h
  split at h
  · cases h; rfl
  · cases h
theorem b0_us : ∀ us ∈ B0, Us us := fun us h => by
  have := List.eq_of_mem_replicate h
  subst this
  exact us_nil
theorem j0 : Jt S0 1 10 11 22 20 21 none true .no B0 W0 := by
  refine ⟨⟨tg0, [2, 3, 4, 5, 6, 7, 8, 9], [12, 13, 14, 15, 16, 17, 18, 19], ⟨rfl, rfl, rfl, rfl, rfl, rfl, rfl, rfl, rfl, fun b i us h1 h2 => ?_, b0_us⟩, ⟨rfl, rfl, rfl, rfl, rfl, rfl, rfl, rfl, rfl, fun b i us h1 h2 => ?_, b0_us⟩⟩, BrOk.no _ _⟩
  · have e := b0_at h2
    subst e
    have hb : b < 8 := (List.getElem?_eq_some_iff.mp h1).1
    match b, hb with
    | 0, _ => cases h1; exact ⟨rfl, rfl⟩
    | 1, _ => cases h1; exact ⟨rfl, rfl⟩
    | 2, _ => cases h1; exact ⟨rfl, rfl⟩
    | 3, _ => cases h1; exact ⟨rfl, rfl⟩
    | 4, _ => cases h1; exact ⟨rfl, rfl⟩
    | 5, _ => cases h1; exact ⟨rfl, rfl⟩
    | 6, _ => cases h1; exact ⟨rfl, rfl⟩
    | 7, _ => cases h1; exact ⟨rfl, rfl⟩
  · have e := b0_at h2
    subst e
    have hb : b < 8 := (List.getElem?_eq_some_iff.mp h1).1
    match b, hb with
    | 0, _ => cases h1; exact ⟨rfl, rfl⟩
    | 1, _ => cases h1; exact ⟨rfl, rfl⟩
    | 2, _ => cases h1; exact ⟨rfl, rfl⟩
    | 3, _ => cases h1; exact ⟨rfl, rfl⟩
    | 4, _ => cases h1; exact ⟨rfl, rfl⟩
    | 5, _ => cases h1; exact ⟨rfl, rfl⟩
    | 6, _ => cases h1; exact ⟨rfl, rfl⟩
    | 7, _ => cases h1; exact ⟨rfl, rfl⟩
theorem w01_ok (x : T) (tp : List Int) (e0 : m__law_tape [x] [] = R.ok (.lst (tp.map .int)) [O.dead]) (D : AS) : (mSeq lw0 (mSeq lw1 D)) [some x, none, none, none, none, none, none, none, none, none, none, none, none, none, none, none] [] = D [some x, some (.lst (tp.map .int)), some (.ref 1), none, none, none, none, none, none, none, none, none, none, none, none, none] F8 := by
  have e1 := init8 [O.dead]
  have e2 : m_Flash___init__ [.ref 1, .int 8] [.dead, .obj "Flash" []] = .ok .non F8 := e1
  generalize F8 = S1 at *
  generalize tp.map T.int = TP at *
  clear e1
  unfold lw0 lw1
  walk_at "ev*"
theorem w2_ok (x : T) (tp : List Int) (D : AS) : (mSeq lw2 D) [some x, some (.lst (tp.map .int)), some (.ref 1), none, none, none, none, none, none, none, none, none, none, none, none, none] F8 = D [some x, some (.lst (tp.map .int)), some (.ref 1), none, some (.ref 20), none, none, none, none, none, none, none, none, none, none, none] (F8 ++ L8 ++ [.lst (refs 12 8)]) := by
  have q := lc_grow (i := 3) (e := m2 (opRep false) (mN (opLst true) (mCons (mC .non) mNil)) (mC (.int 8))) (st := [some x, some (.lst (tp.map .int)), some (.ref 1), none, none, none, none, none, none, none, none, none, none, none, none, none]) (f := fun _ => P8) (rngT 0 8) [] F8 (fun t _ S' => by
    have z := zl
    generalize tp.map T.int = TP at *
    walk_at "ev*"; rfl) (by rw [rngT_len]; simp)
  rw [List.nil_append] at q
  have q2 : lcL none 3 mYes (m2 (opRep false) (mN (opLst true) (mCons (mC .non) mNil)) (mC (.int 8))) [some x, some (.lst (tp.map .int)), some (.ref 1), none, none, none, none, none, none, none, none, none, none, none, none, none] (rngT 0 8) [] F8 = .ok (refs 12 8) (F8 ++ L8) := q
  clear q
  have rl : (refs 12 8).length ≤ sizeLine := by decide
  have sl : (F8 ++ L8).length = 20 := rfl
  generalize F8 ++ L8 = S1 at *
  generalize F8 = S2 at *
  generalize refs 12 8 = rf at *
  generalize tp.map T.int = TP at *
  unfold lw2
  walk_at "ev*"
theorem w345_ok (x : T) (tp : List Int) (D : AS) : (mSeq lw3 (mSeq lw4 (mSeq lw5 D))) [some x, some (.lst (tp.map .int)), some (.ref 1), none, some (.ref 20), none, none, none, none, none, none, none, none, none, none, none] (F8 ++ L8 ++ [.lst (refs 12 8)]) = D (lwS x tp 1 20 21 22 none none none none none none none none none none) S0 := by
  have hz : ([[T.int 0], [T.int 0], [T.int 0], [T.int 0], [T.int 0], [T.int 0], [T.int 0], [T.int 0]] : List (List T)).flatten = Z8 := rfl
  have z := zl
  have sl : (F8 ++ L8 ++ [O.lst (refs 12 8)]).length = 21 := rfl
  have s0 : F8 ++ L8 ++ [.lst (refs 12 8)] ++ [.lst Z8] ++ [.lst [.non, .bl true, .non]] = S0 := rfl
  unfold lwS
  generalize F8 ++ L8 ++ [O.lst (refs 12 8)] = S1 at *
  generalize S0 = S2 at *
  generalize Z8 = Z at *
  generalize tp.map T.int = TP at *
  unfold lw3 lw4 lw5
  walk_at "ev*"
theorem w7_ok {x : T} {tp : List Int} {f fh wn lo lh lw : Nat} {st : Slots} {S : Sto} (H : LI x tp f fh wn lo lh lw st S) : defK (lw7 st S) = .ok (.bl true) S := by
  obtain ⟨x3, x7, x8, x9, x10, x11, x12, x13, x14, x15, rfl, lf, pw, br, Bs, ws, ⟨tg, hs, es, D, L⟩, bk⟩ := H
  have e1 := image_ok D
  have q := lcL_map (ck := none) (i := 3) (e := (mN opTup (mCons (m2 opIx (mV 5) (mV 3)) (mCons (m2 opIx (mV 4) (mV 3)) mNil)))) (st := lwS x tp f lh lw lo x3 x7 x8 x9 x10 x11 x12 x13 x14 x15) (S := S) (f := endF ws es) (l := rngT 0 8) (acc := []) trivial (fun t ht => by
    obtain ⟨b, hb, rfl⟩ := rng8 ht
    obtain ⟨i, us, hi, hu, hg, uu, ti⟩ := L.get hb
    obtain ⟨w, hw⟩ := ws_at D hb
    have a1 := lheld_ix L hi
    have a2 := lwear_ok L hw
    have e : endF ws es (.int (b : Int)) = .tup [.int w, .ref i] := by
      show T.tup [.int (ws.getD (b : Int).toNat 0), .ref (es.getD (b : Int).toNat 0)] = _
      rw [Int.toNat_natCast, getD_at hw, getD_at hi]
    rw [e]
    have z2 : 2 ≤ sizeLine := by decide
    unfold lwS
    generalize tp.map T.int = TP at *
    generalize (b : Int) = bz at *
    clear D L hi hu hg uu hw e
    walk_at "ev*") (by decide +kernel)
  rw [List.nil_append] at q
  have e2 := end_same L (lh := lh)
  have fo := D.oo
  unfold fsG at fo
  generalize brF br = B at *
  generalize lfT lf = LF at *
  unfold lw7
  unfold lwS at *
  generalize (mN opTup (mCons (m2 opIx (mV 5) (mV 3)) (mCons (m2 opIx (mV 4) (mV 3)) mNil))) = EL at *
  have r8 : ∀ st : Slots, (itR1 (mCons (mC (.int 8)) mNil)) st S = .ok ⟨rngT 0 8, none⟩ S := fun st => by
    walk_at "ev*"
  generalize (itR1 (mCons (mC (.int 8)) mNil)) = IT at *
  generalize (rngT 0 8).map (endF ws es) = EN at *
  generalize rngT 0 8 = RG at *
  generalize imgL ws Bs = IL at *
  generalize tp.map T.int = TP at *
  clear D L
  walk_at "ev*"
theorem lw_go (x : T) (tp : List Int) (e0 : m__law_tape [x] [] = R.ok (.lst (tp.map .int)) [O.dead]) (dg : Dg tp) : ∃ S, m_law [x] [] = .ok (.bl true) S := by
  unfold m_law
  rw [lw_cut]
  have d0 : ∀ X : AS, mDef 1 16 X [x] [] = defK (X [some x, none, none, none, none, none, none, none, none, none, none, none, none, none, none, none] []) := fun X => by walk_at "ev"
  rw [d0, w01_ok x tp e0, w2_ok, w345_ok]
  obtain ⟨n, en, hn, hn0⟩ : ∃ n : Int, (if (tp.length : Int) / 2 < 50 then (tp.length : Int) / 2 else 50) = n ∧ n ≤ 50 ∧ 0 ≤ n := ⟨_, rfl, by split <;> omega, by split <;> omega⟩
  have lo : -4611686018427387904 ≤ n := by omega
  have hi : n < 4611686018427387904 := by omega
  have u : lw6 (lwS x tp 1 20 21 22 none none none none none none none none none none) S0 = forL none (gN 7) lbB (rngT 0 n) (lwS x tp 1 20 21 22 none none none none none none none none none none) S0 := by
    have q : lw6 = (mFor (itR1 (mCons (mN opMin2 (mCons (mC (.int 50)) (mCons (m2 opDiv (mN opLen (mCons (mV 1) mNil)) (mC (.int 2))) mNil))) mNil)) (gN 7) lbB) := rfl
    rw [q]
    have ml : (tp.map T.int).length = tp.length := List.length_map ..
    unfold lwS
    generalize tp.map T.int = TP at *
    rw [← ml] at en
    generalize lbB = B at *
    generalize S0 = S at *
    clear d0 q e0 dg ml
    walk_at "ev*"
  obtain ⟨st', S5, e5, H5⟩ := forL_rng (g := gN 7) (b := lbB) (i := 0) (j := n) (st := lwS x tp 1 20 21 22 none none none none none none none none none none) (S := S0) (fun k st S => LI x tp 1 10 11 22 20 21 st S) ⟨_, _, _, _, _, _, _, _, _, _, rfl, _, _, _, _, _, j0⟩ (by
    rintro k st S hk H
    obtain ⟨st', S', e, H'⟩ := lb_step H dg (0 + (k : Int)) (by omega)
    rw [e]
    exact H')
  rw [e_seq, u, e5, e_qnx]
  exact ⟨S5, w7_ok H5⟩
theorem law_true (ns : List Int) (h : ns.length ≤ 63) : ∃ S, m_law [.scr (ns.map .int)] [] = .ok (.bl true) S := by
  obtain ⟨tp, e, dg⟩ := tape_ok ns h
  exact lw_go _ tp e dg

theorem facts {P : Program} {w : World} {K : PySem.W.Frag} {h : Heap} {mg : Str → Option Value} {f : Addr} (X : K.In h) (G : h.Ns mainGlobals mg) (hfa : mg ("law" : Str) = some (.ref f)) (c : He.SaysX fa fn ts [] exA w h K) :
    ∃ fd : FuncData, (∀ (s : Shared) (v : Value), BindsTo s fd ⟨[v], []⟩ [("_law_script", v)]) ∧ ∀ base : Heap, K.In base → base.Ns mainGlobals mg → FnOk P w K mg base (L2.CX P w) 6 f fd ["_law_script"] (sp_law K) := by
  obtain ⟨fd, F⟩ := c.t.d.def_ 23 (d := d_law) rfl
  have e := hfa.symm.trans (He.glo_ok X G (c.t.d.fact 52 (f := .glo "law") rfl))
  cases e
  have b := FunD.bindsA (ps := ["_law_script"]) F fun _ _ _ _ _ _ us hl => match us, hl with | [_], _ => rfl
  exact ⟨fd, fun s v => b s [v] rfl, fun base _ _ => ok_law ⟨⟨h, X, G⟩, c.t, c.more⟩ F law_true⟩
end K02
open PySem PySem.W PySem.Calls PyProof.Rows
set_option maxRecDepth 100000 in
set_option maxHeartbeats 0 in
theorem PySem.Challenge.cw_spindlegate_k02_flash_power_holds : PySem.Challenge.rw_spindlegate_k02_flash_power.Holds := by
  w_on; o_law
  refine HandSHeadRun.head_any (r := OpenLaw.row PySem.Challenge.rw_spindlegate_k02_flash_power) (q := view (OpenLaw.row PySem.Challenge.rw_spindlegate_k02_flash_power).prog [23]) (H := K02.hkL) (ob := K02.obL) (M := 6000) (loose := [("SpindleError" : PySem.Str), ("NotValid" : PySem.Str), ("PowerOff" : PySem.Str), ("PAGES" : PySem.Str), ("MIN_BLOCKS" : PySem.Str), ("MAX_BLOCKS" : PySem.Str), ("MAX_COUNT" : PySem.Str), ("TORN" : PySem.Str), ("is_between" : PySem.Str), ("next_page" : PySem.Str), ("Flash" : PySem.Str), ("_law_tape" : PySem.Str), ("_law_at" : PySem.Str), ("_law_kind" : PySem.Str), ("_law_do" : PySem.Str), ("_law_next" : PySem.Str), ("_law_apply" : PySem.Str), ("_law_due" : PySem.Str), ("_law_cut" : PySem.Str), ("_law_same" : PySem.Str)]) (d := HandSHeadRun.topDef (OpenLaw.row PySem.Challenge.rw_spindlegate_k02_flash_power).prog 23) (kwd := []) K02.obL_eq
    (by kernel_rfl) (fun s => by kernel_rfl) K02.runL (by kernel_rfl) (by kernel_rfl) (by kernel_rfl) (by rfl) (by first | assumption | decide +kernel) (by decide +kernel) ⟨rfl, rfl, rfl, rfl, rfl, by decide +kernel⟩ ?hw ?hc
  case hw => w_witness2
  case hc =>
    refine Sp.walk_ofW (l := PySem.Challenge.rw_spindlegate_k02_flash_power) (n := 63) (k := 6) (x := "_law_script") rfl (by decide) (by kernel_rfl) ⟨rfl, by decide, by decide⟩ ?F
    intro w mg fa h Y G hmg0
    obtain ⟨K, KX, c⟩ := Y
    have hmg : mg ("law" : PySem.Str) = some (.ref fa) := by
      have e : (HandSHeadRun.topDef (OpenLaw.row PySem.Challenge.rw_spindlegate_k02_flash_power).prog 23).name = ("law" : PySem.Str) := by kernel_rfl
      rw [← e]
      exact hmg0
    obtain ⟨fd, hb, hF⟩ := K02.facts (P := (PySem.Challenge.rw_spindlegate_k02_flash_power).prog) (w := w) KX G hmg c
    exact ⟨K, fd, Ab.sp_law K, KX, hb, fun H a ns hl _ hS => ⟨a, ns, rfl, hS, hl, fun _ => rfl⟩, hF⟩
