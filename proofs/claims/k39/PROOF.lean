import PyProof.Rows.All
import Wide.All
import OpenK.AllK
import Wide.FinOn
import PyProof.EqAt
import PyProof.EqKinds
import PyProof.TupleCall
import PyProof.P3Eq
import HandS.ForMost
import HandS.Exc
import HandS.TryOnly
import HandS.ExcOwn
import HandS.WordsExc
import HandS.ExcIs
import HandS.IsInst
import HandS.Codes
import HandS.DeepEq
import HandS.More
import HandS.Dict
import HandS.Small
import HandS.Flow
import HandS.Style
import HandS.Zip
import HandS.TupAny
import HandS.SortInts
import HandS.Defaults
import HandS.HeadEnd
import HandS.HeadHook1
import HandS.HeadHook2
import HandS.HeadHook3
import HandS.HeadHook4
import HandS.Head0
import HandS.Head1
import HandS.Head2
import PySem.Challenge.RW_spindlegate_k39_sessions
set_option Elab.async false
set_option linter.all false
set_option maxRecDepth 100000
set_option maxHeartbeats 4000000
namespace Sp
open PySem PySem.Spec PyProof.Rows L2

/-! ### the head's facts in use -/
structure Tx (fa : List He.Fa) (fn : List He.DefD) (ts : List He.Tab) (exs : List (PySem.W.Frag → Bool)) (w : World) (K : PySem.W.Frag) (mg : Str → Option Value) : Prop where
  hp : ∃ h : Heap, K.In h ∧ h.Ns mainGlobals mg
  says : He.SaysT fa fn ts w K
  more : (exs.all fun f => f K) = true
section
variable {fa : List He.Fa} {fn : List He.DefD} {ts : List He.Tab} {exs : List (PySem.W.Frag → Bool)} {w : World} {K : PySem.W.Frag} {mg : Str → Option Value}
theorem Tx.glo (T : Tx fa fn ts exs w K mg) (i : Nat) {x : Str} (e : fa[i]? = some (.glo x) := by rfl) : mg x = some (.ref (He.ga K x)) :=
  let ⟨_, X, G⟩ := T.hp; He.glo_ok X G (T.says.d.fact i e)
theorem Tx.free (T : Tx fa fn ts exs w K mg) (i : Nat) {x : Str} (e : fa[i]? = some (.free x) := by rfl) : mg x = none :=
  let ⟨_, X, G⟩ := T.hp; He.free_ok X G (T.says.d.fact i e)
theorem Tx.int (T : Tx fa fn ts exs w K mg) (i : Nat) {x : Str} {n : Int} (e : fa[i]? = some (.int x n) := by rfl) : ∃ t, mg x = some (.int n t) :=
  let ⟨_, X, G⟩ := T.hp; He.int_ok X G (T.says.d.fact i e)
theorem Tx.str (T : Tx fa fn ts exs w K mg) (i : Nat) {x z : Str} (e : fa[i]? = some (.str x z) := by rfl) : ∃ t, mg x = some (.str z t) :=
  let ⟨_, X, G⟩ := T.hp; He.str_ok X G (T.says.d.fact i e)
theorem Tx.cls (T : Tx fa fn ts exs w K mg) (i : Nat) {x : Str} (e : fa[i]? = some (.cls x) := by rfl) : Cls K (He.ga K x) := He.cls_ok (T.says.d.fact i e)
theorem Tx.noat (T : Tx fa fn ts exs w K mg) (i : Nat) {x f : Str} (e : fa[i]? = some (.noat x f) := by rfl) : NoAttr K (He.ga K x) f := He.noat_ok (T.says.d.fact i e)
theorem Tx.meth (T : Tx fa fn ts exs w K mg) (i : Nat) {x m : Str} (e : fa[i]? = some (.meth x m) := by rfl) : Meth K (He.ga K x) m (He.ma K (He.ga K x) m) := He.meth_ok (T.says.d.fact i e)
theorem Tx.mkr (T : Tx fa fn ts exs w K mg) (i : Nat) {x : Str} (e : fa[i]? = some (.mkr x) := by rfl) : Mk K (He.ga K x) (He.ma K (He.ga K x) "__init__") := He.mkr_ok (T.says.d.fact i e)
theorem Tx.exc (T : Tx fa fn ts exs w K mg) (i : Nat) {x : Str} (e : fa[i]? = some (.exc x) := by rfl) : PySem.W.excIn K (He.ga K x) He.veBase "ValueError.__new__" = true ∧ PySem.W.keepIn K (.ref (He.ga K x)) = true ∧ PySem.W.subIn K (.ref (He.ga K x)) (.type "BaseException") = some true ∧
    PySem.W.typeIn K (.ref (He.ga K x)) = some (.type "type") := He.exc_ok (T.says.d.fact i e)
theorem Tx.exm (T : Tx fa fn ts exs w K mg) (i : Nat) {x y : Str} {b : Bool} (e : fa[i]? = some (.exm x y b) := by rfl) : PySem.W.exmOne K (.ref (He.ga K x)) (.ref (He.ga K y)) = some b := He.exm_ok (T.says.d.fact i e)
theorem Tx.ex (T : Tx fa fn ts exs w K mg) (i : Nat) {f : PySem.W.Frag → Bool} (e : exs[i]? = some f := by rfl) : f K = true := List.all_eq_true.mp T.more f (List.mem_of_getElem? e)
end
/-! what the class of an own error says, as a look -/
def excB (x : Str) (K : PySem.W.Frag) : Bool :=
  He.eqO (PySem.W.findIn K (.ref (He.ga K x)) "__getattribute__") (some (some (.builtin "BaseException.__getattribute__"))) && (He.eqO (PySem.W.findIn K (.ref (He.ga K x)) "__getattr__") (some none) && (decide (PySem.W.subIn K (.ref (He.ga K x)) (.type "BaseException") = some true) &&
  (PySem.W.hasDictIn K (He.ga K x) && (He.eqO (PySem.W.findIn K (.ref (He.ga K x)) "__class__") (some (some (.builtin "object.__class__"))) && (He.eqO (PySem.W.specialIn K (.builtin "object.__class__") "__get__") (some (some (.builtin "getset_descriptor.__get__"))) &&
  (decide (PySem.W.takesIn K (.builtin "object.__class__") = some true) && decide (PySem.W.mroIn K (He.ga K x) (.type "object") = some true)))))))
theorem excB_ok {x : Str} {K : PySem.W.Frag} (h : excB x K = true) : ExcC K (He.ga K x) := by
  obtain ⟨h1, h⟩ := He.ba h
  obtain ⟨h2, h⟩ := He.ba h
  obtain ⟨h3, h⟩ := He.ba h
  obtain ⟨h4, h⟩ := He.ba h
  obtain ⟨h5, h⟩ := He.ba h
  obtain ⟨h6, h⟩ := He.ba h
  obtain ⟨h7, h8⟩ := He.ba h
  exact ⟨He.eqO_ok h1, He.eqO_ok h2, of_decide_eq_true h3, h4, He.eqO_ok h5, He.eqO_ok h6, of_decide_eq_true h7, of_decide_eq_true h8⟩
/-- isinstance of an error of the class x and a class y -/
def kitB2 (x y : Str) (b : Bool) (K : PySem.W.Frag) : Bool := decide (PySem.W.kitOne K (.ref (He.ga K x)) (.ref (He.ga K y)) = some b)
theorem kitB2_ok {x y : Str} {b : Bool} {K : PySem.W.Frag} (h : kitB2 x y b K = true) : PySem.W.kitOne K (.ref (He.ga K x)) (.ref (He.ga K y)) = some b := of_decide_eq_true h
/-- isinstance(e, C) within a suite, whatever error it holds -/
def rIsG (K : PySem.W.Frag) (a : Addr) (cls : Value) (d : Option Addr) : List V → Hp → VK → Prop := fun xs H Q => ∃ D c b, cls = .ref D ∧ d = none ∧ ExcC K D ∧ xs = [.ref a, .ref c] ∧ PySem.W.kitOne K (.ref D) (.ref c) = some b ∧ Q (.bl b) H
theorem call_isG {X : Cx} {a : Addr} {cls : Value} {d : Option Addr} {oe : Obj} {pn : List (Addr × Obj)} (hz : Zc cls d oe) (hf : ∃ vs, oe.data = .fields vs) : CallR (X.suite a ((a, oe) :: pn)) (.builtin "isinstance") (rIsG X.K a cls d) := by
  intro pins s σ H xs us Q I r h
  obtain ⟨D, c, b, rfl, rfl, C, rfl, e, q⟩ := h
  exact call_isE C hz hf pins s σ H _ us Q I r ⟨.ref c, .ref c, b, rfl, fun u ru => ru, e, q⟩
theorem w_isG {K : PySem.W.Frag} {a D c : Addr} {b : Bool} {H : Hp} {Q : VK} (C : ExcC K D) (e : PySem.W.kitOne K (.ref D) (.ref c) = some b) (k : Q (.bl b) H) : rIsG K a (.ref D) none [.ref a, .ref c] H Q := ⟨D, c, b, rfl, rfl, C, rfl, e, k⟩

/-! ### a def that holds its promise -/
def Okd (P : Program) (w : World) (K : PySem.W.Frag) (mg : Str → Option Value) (base : Heap) (p : Str × Option Str) (k : Nat) (ps : List Str) (sp : Sp) : Prop :=
  ∃ fd, Binds K fd ps [] ∧ PySem.W.keepIn K (.ref (He.fAd K p)) = true ∧ FnOk P w K mg base (L2.CX P w) k (He.fAd K p) fd ps sp
section
variable {P : Program} {w : World} {K : PySem.W.Frag} {mg : Str → Option Value} {base : Heap} {fa : List He.Fa} {fn : List He.DefD} {ts : List He.Tab} {exs : List (PySem.W.Frag → Bool)}
theorem okd (T : Tx fa fn ts exs w K mg) (i : Nat) {at_ : Str × Option Str} {name qual : Str} {params : Arguments} {body : List Stmt} {scope : Scope} {N ps : List Str} {k : Nat} {sp : Sp}
    (e : fn[i]? = some ⟨at_, name, qual, params, body, scope, [], []⟩) (S : FnScope N ps scope)
    (hb : ∀ (kV doc pm : Value) (an : Option Addr) (cdv ct : Value) (us : List Value), us.length = ps.length → bindArgs (PySem.W.fnOf name qual params body scope .none kV doc pm an cdv ct) ⟨us, []⟩ = pure (ps.zip us))
    (len : ∀ vs H Q E, sp vs H Q E → vs.length = ps.length)
    (hbody : ∀ (f : Addr) (cdv : Value) (A : Around) (outer : List Env) (s : Shared) (H : Hp) (vs : List V) (Q : VK) (E : XK), Room k (A.deeper (envOfC qual scope s.heap.objs.size f cdv)) → sp vs H Q E →
      ∃ t, PSs (cxOf (L2.CX P w) P w K mg base N qual scope f cdv A outer s H E) body t ∧ t { nx := fun _ H' => Q .non H', rt := Q } (start N vs) H) :
    Okd P w K mg base at_ (k + 1) ps sp := by
  obtain ⟨fd, F⟩ := T.says.d.def_ i e
  exact ⟨fd, F.bindsN hb, F.kp, FunD.ok F S len (hbody _)⟩
end
section
variable {X : Cx} {k : Nat} {ps : List Str} {sp : Sp} {E : XK} {x m C : Str} {p pos apos : Pos} {e o : Expr} {es : List Expr} {ta : TE} {t : TA}
theorem pe_callO (O : Okd X.prog X.w X.K X.mg X.base (x, none) k ps sp) (hr : Room k X.A) (hg : Gl X x) (hm : X.mg x = some (.ref (He.ga X.K x))) (hx : Passes (L2.CX X.prog X.w) X E) (ha : PA X (e :: es) t) (hdb : (x == ("__debug__" : Str)) = false := by decide)
    (he : starEach (e :: es) X.env = (false, eval e X.env) :: starEach es X.env := by rfl) (hpl : (backTo pos (starEach es X.env)).any (·.1) = false := by rfl) : PE X (.Call (.Name x p) (e :: es) [] pos) (tCall sp [] E t) :=
  let ⟨_, hb, hk, F⟩ := O; pe_call F hr hg hm hk hb .nil hx ha hdb he hpl
theorem pe_callO0 (O : Okd X.prog X.w X.K X.mg X.base (x, none) k ps sp) (hr : Room k X.A) (hg : Gl X x) (hm : X.mg x = some (.ref (He.ga X.K x))) (hx : Passes (L2.CX X.prog X.w) X E) (hdb : (x == ("__debug__" : Str)) = false := by decide) :
    PE X (.Call (.Name x p) [] [] pos) (tCall sp [] E tNil) :=
  let ⟨_, hb, hk, F⟩ := O; pe_call0 F hr hg hm hk hb .nil hx hdb
theorem pe_callOS {E : L2.St → XK} (O : Okd X.prog X.w X.K X.mg X.base (x, none) k ps sp) (hr : Room k X.A) (hg : Gl X x) (hm : X.mg x = some (.ref (He.ga X.K x))) (hx : ∀ σ, PassesAt (L2.CX X.prog X.w) X σ (E σ)) (ha : PA X (e :: es) t) (hdb : (x == ("__debug__" : Str)) = false := by decide)
    (he : starEach (e :: es) X.env = (false, eval e X.env) :: starEach es X.env := by rfl) (hpl : (backTo pos (starEach es X.env)).any (·.1) = false := by rfl) : PE X (.Call (.Name x p) (e :: es) [] pos) (tCallS sp E t) :=
  let ⟨_, hb, hk, F⟩ := O; pe_callS F hr hg hm hk hb hx ha hdb he hpl
theorem pe_methO {pl : Sem Bool} (he : PE X o ta) (c : Cls X.K (He.ga X.K C)) (hm : Meth X.K (He.ga X.K C) m (He.ma X.K (He.ga X.K C) m)) (O : Okd X.prog X.w X.K X.mg X.base (C, some m) k ps sp) (hr : Room k X.A) (hx : Passes (L2.CX X.prog X.w) X E) (ha : PA X (e :: es) t)
    (hst : starEach (e :: es) X.env = (false, eval e X.env) :: starEach es X.env := by rfl) (hpl : (backTo pos (starEach es X.env)).any (·.1) = false := by rfl)
    (ht : eval (.Call (.Attribute o m apos) (e :: es) [] pos) X.env = (do
      let ov ← eval o X.env
      standAt apos.atName
      let (f, first) ← holding [ov] (getMethod ov m pl)
      callWith pos f first (backTo pos (starEach (e :: es) X.env)) (backToKw pos (keywordEach [] X.env))) := by rfl) :
    PE X (.Call (.Attribute o m apos) (e :: es) [] pos) (tMeth (He.ga X.K C) m sp [] E ta t) :=
  let ⟨_, hb, _, F⟩ := O; pe_meth he c hm F hr hb .nil hx ha hst hpl ht
theorem pe_methO0 {pl : Sem Bool} (he : PE X o ta) (c : Cls X.K (He.ga X.K C)) (hm : Meth X.K (He.ga X.K C) m (He.ma X.K (He.ga X.K C) m)) (O : Okd X.prog X.w X.K X.mg X.base (C, some m) k ps sp) (hr : Room k X.A) (hx : Passes (L2.CX X.prog X.w) X E)
    (ht : eval (.Call (.Attribute o m apos) [] [] pos) X.env = (do
      let ov ← eval o X.env
      standAt apos.atName
      let (f, first) ← holding [ov] (getMethod ov m pl)
      callWith pos f first (backTo pos (starEach [] X.env)) (backToKw pos (keywordEach [] X.env))) := by rfl) :
    PE X (.Call (.Attribute o m apos) [] [] pos) (tMeth (He.ga X.K C) m sp [] E ta tNil) :=
  let ⟨_, hb, _, F⟩ := O; pe_meth0 he c hm F hr hb .nil hx ht
theorem pe_makeO (M : Mk X.K (He.ga X.K C) (He.ma X.K (He.ga X.K C) "__init__")) (O : Okd X.prog X.w X.K X.mg X.base (C, some "__init__") k ps sp) (hr : Room (k + 1) X.A) (hg : Gl X C) (hm : X.mg C = some (.ref (He.ga X.K C))) (hx : Passes (L2.CX X.prog X.w) X E)
    (ha : PA X (e :: es) t) (hdb : (C == ("__debug__" : Str)) = false := by decide) (he : starEach (e :: es) X.env = (false, eval e X.env) :: starEach es X.env := by rfl) (hpl : (backTo pos (starEach es X.env)).any (·.1) = false := by rfl) :
    PE X (.Call (.Name C p) (e :: es) [] pos) (tMake (He.ga X.K C) sp [] E t) :=
  let ⟨_, hb, _, F⟩ := O; pe_make M F hr hg hm hb .nil hx ha hdb he hpl
theorem pe_makeO0 (M : Mk X.K (He.ga X.K C) (He.ma X.K (He.ga X.K C) "__init__")) (O : Okd X.prog X.w X.K X.mg X.base (C, some "__init__") k ps sp) (hr : Room (k + 1) X.A) (hg : Gl X C) (hm : X.mg C = some (.ref (He.ga X.K C))) (hx : Passes (L2.CX X.prog X.w) X E)
    (hdb : (C == ("__debug__" : Str)) = false := by decide) : PE X (.Call (.Name C p) [] [] pos) (tMake (He.ga X.K C) sp [] E tNil) :=
  let ⟨_, hb, _, F⟩ := O; pe_make0 M F hr hg hm hb .nil hx hdb
/-! ### a module's names as values -/
theorem pe_globI {n : Int} (hg : Gl X x) (hm : ∃ t, X.mg x = some (.int n t)) (hd : (x == ("__debug__" : Str)) = false := by decide) : PE X (.Name x pos) (tC (.int n)) :=
  let ⟨_, h⟩ := hm; pe_glob hg h ⟨_, rfl⟩ hd
theorem pe_globS {z : Str} (hg : Gl X x) (hm : ∃ t, X.mg x = some (.str z t)) (hd : (x == ("__debug__" : Str)) = false := by decide) : PE X (.Name x pos) (tC (.str z)) :=
  let ⟨_, h⟩ := hm; pe_glob hg h ⟨_, rfl⟩ hd
theorem pe_globR {a : Addr} (hg : Gl X x) (hm : X.mg x = some (.ref a)) (hd : (x == ("__debug__" : Str)) = false := by decide) : PE X (.Name x pos) (tC (.ref a)) := pe_glob hg hm rfl hd
/-! ### raise C() -/
theorem pmk_own0 {a : Addr} {B newId initId : String} {bmB : List Value} (F : ExcBaseFacts B newId initId bmB)
    (q : PySem.W.excIn X.K a bmB newId = true ∧ PySem.W.keepIn X.K (.ref a) = true ∧ PySem.W.subIn X.K (.ref a) (.type "BaseException") = some true ∧ PySem.W.typeIn X.K (.ref a) = some (.type "type")) (gC : X.mg x = some (.ref a)) (hg : Gl X x)
    (hdb : (x == ("__debug__" : Str)) = false := by decide) : PMk X (.Call (.Name x p) [] [] pos) (fun _ H Q => Q (.ref a) none H) := by
  obtain ⟨q1, q2, q3, q4⟩ := q
  intro pins s σ H Q I h
  refine wpAny_Call_Name_kw (ld_glob I hg gC ?_ hdb)
  refine PySem.W.callWith_K0 I.kIn q2 ?_
  show wpAny _ _ (call (.ref a) []) _ _ _
  obtain ⟨bm, N, nm, qn, bs, hdct, sn, sub, ab, col, dd, k0, k1, k2, k3, k5, mN, hC, hN, hni, T⟩ := exc_obj I.kIn q1
  refine wpAny_call_exc_subT F T hC hN hni (fun h' e hm => ?_) (by show 0 ≤ sizeLine; rw [sizeLine_eq]; omega)
  exact mk_of I hm (raises_own q3 q4) h (I.hok.gone hm.new)
end

/-! ### readings, step by step: each with a head of its own -/
abbrev TSt := L2.St
def rBl (QB : Bool → Hp → Prop) (x : V) (H : Hp) : Prop := ∃ k, x = .bl k ∧ QB k H
def rIf (b : Bool) (A B : Prop) : Prop := if b = true then A else B
def rNewT (xs : List V) (H : Hp) (Q : VK) : Prop := xs.length ≤ sizeLine ∧ ∀ p, H p = none → Q (.ref p) (upd H p (.tup xs))
def rNewL (xs : List V) (H : Hp) (Q : VK) : Prop := xs.length ≤ sizeLine ∧ ∀ p, H p = none → Q (.ref p) (upd H p (.lst xs))
theorem putF_le {f : Str} {y : V} {n : Nat} : ∀ {fs : List (Str × V)}, fs.length ≤ n → (putF f y fs).length ≤ n + 1
  | [], _ => by show 1 ≤ n + 1; omega
  | (g, x) :: r, h => by
    unfold putF
    have h2 : r.length + 1 ≤ n := h
    split
    · show r.length + 1 ≤ n + 1; omega
    · have := putF_le (f := f) (y := y) (n := n - 1) (fs := r) (by omega)
      show (putF f y r).length + 1 ≤ n + 1; omega
theorem putF_lt {f : Str} {y : V} {n : Nat} {fs : List (Str × V)} (h : fs.length < n) : (putF f y fs).length < n + 1 := Nat.lt_of_le_of_lt (putF_le (Nat.le_refl _)) (Nat.succ_lt_succ h)
def rFldG (K : PySem.W.Frag) (f : Str) (x : V) (H : Hp) (Q : VK) : Prop := ∃ a C dx fs v, x = .ref a ∧ H a = some (.ins C dx fs) ∧ Cls K C ∧ NoAttr K C f ∧ fs.lookup f = some v ∧ Q v H
def rFldS (K : PySem.W.Frag) (f : Str) (y x : V) (H : Hp) (R : Hp → Prop) : Prop := ∃ a C dx fs, x = .ref a ∧ H a = some (.ins C dx fs) ∧ Cls K C ∧ NoAttr K C f ∧ fs.length < 1000 ∧ R (upd H a (.ins C dx (putF f y fs)))
def rMethA (C : Addr) (m : Str) (x : V) (H : Hp) (R : Prop) : Prop := ∃ a dx fs, x = .ref a ∧ H a = some (.ins C dx fs) ∧ fs.lookup m = none ∧ R
def rLenA (K : PySem.W.Frag) : List V → Hp → VK → Prop := fun xs H Q => ∃ x n, xs = [x] ∧ LenV K x H n ∧ Q (.int (n : Nat)) H
def rIntA : List V → Hp → VK → Prop := fun xs H Q => (∃ i, xs = [.int i] ∧ Q (.int i) H) ∨ ∃ k, xs = [.bl k] ∧ Q (.int (if k then 1 else 0)) H
def rAbsA : List V → Hp → VK → Prop := fun xs H Q => ∃ i, xs = [.int i] ∧ Q (.int (if i < 0 then -i else i)) H
def rMinA : List V → Hp → VK → Prop := fun xs H Q => ∃ i j, xs = [.int i, .int j] ∧ Q (.int (if j < i then j else i)) H
def rMaxA : List V → Hp → VK → Prop := fun xs H Q => ∃ i j, xs = [.int i, .int j] ∧ Q (.int (if j > i then j else i)) H
def rListA (K : PySem.W.Frag) : List V → Hp → VK → Prop := fun xs H Q => ∃ p ys, xs = [.ref p] ∧ (SqL K H p ys ∨ SqT K H p ys) ∧ ∀ l, H l = none → Q (.ref l) (upd H l (.lst ys))
def rIsNA : R2 := fun x y H Q => y = .non ∧ Q (.bl (decide (x = .non))) H
def rNotNA : R2 := fun x y H Q => y = .non ∧ Q (.bl (!decide (x = .non))) H
def rTru (K : PySem.W.Frag) (x : V) (H : Hp) (QB : Bool → Hp → Prop) : Prop := ∃ k, TruV K x H k ∧ QB k H
def tTruA (K : PySem.W.Frag) (te : TE) : TT := fun σ H Q => te σ H fun x H' => rTru K x H' Q
def rItL (K : PySem.W.Frag) (x : V) (H : Hp) (R : It → Hp → Prop) : Prop := ∃ a, x = .ref a ∧ (∃ xs, SqL K H a xs) ∧ R (Itl K a) H
def rItT (K : PySem.W.Frag) (x : V) (H : Hp) (R : It → Hp → Prop) : Prop := ∃ a, x = .ref a ∧ (∃ xs, SqT K H a xs) ∧ R (Itt K a) H
def rItR1 (vs : List V) (H : Hp) (R : It → Hp → Prop) : Prop := ∃ j : Int, vs = [.int j] ∧ -(2 ^ 62) ≤ j ∧ j < 2 ^ 62 ∧ R (Itr 0 j.toNat) H
def rItR2 (vs : List V) (H : Hp) (R : It → Hp → Prop) : Prop := ∃ i j : Int, vs = [.int i, .int j] ∧ (-(2 ^ 62) ≤ i ∧ i < 2 ^ 62 ∧ -(2 ^ 62) ≤ j ∧ j < 2 ^ 62) ∧ R (Itr i (j - i).toNat) H
def Loop (g : TG) (tb : TS) (D : Ends) (σ : TSt) (J : It) (H1 : Hp) : Prop := ∃ W : Nat → Nat → TSt → Hp → Prop, (∃ m, W 0 m σ H1) ∧ ∀ i m σ H, W i m σ H →
  (J.stop i H ∧ D.nx σ H) ∨ (J.go i H ∧ ∃ N : TSt → Hp → Prop, (∀ σ' H', N σ' H' → ∃ m', m' < m ∧ W (i + 1) m' σ' H') ∧ ∀ x H', J.yld i H x H' → g x σ H' fun σ2 H2 => tb { D with nx := N, ct := N, bk := D.nx } σ2 H2)
section
variable {X : Cx}
theorem pt_truthA {e : Expr} {te : TE} (h : PE X e te) (hs : ∀ whole, isTrue e X.env whole = (do let v ← whole; standAt e.pos; holding [v] (truthy v)) := by intro _; rfl) : PT X e (tTruA X.K te) := pt_truth h hs
theorem c_len : CallR X (.builtin "len") (rLenA X.K) := call_len
theorem c_int : CallR X (.type "int") rIntA := call_int1
theorem c_abs : CallR X (.builtin "abs") rAbsA := call_abs
theorem c_min2 (hc : X.calm = true) : CallR X (.builtin "min") rMinA := call_min2 hc
theorem c_max2 (hc : X.calm = true) : CallR X (.builtin "max") rMaxA := call_max2 hc
theorem c_list : CallR X (.type "list") (rListA X.K) := call_list_of
theorem o_isN : OpR X (compareOp .Is) rIsNA := op_isN
theorem o_notN : OpR X (compareOp .IsNot) rNotNA := op_notN
end
section
variable {nx bk ct : TSt → Hp → Prop} {rt : VK} {K : PySem.W.Frag} {σ : TSt} {H : Hp} {Q : VK} {QB : Bool → Hp → Prop} {QA : List V → Hp → Prop} {D : Ends} {v x y : V} {i j : Int} {b c : Bool} {p a : Addr} {xs ys : List V} {ta tb te tc : TE} {tt tu : TT} {tA : TA} {r : R2} {s u : TS} {A B R : Prop}
theorem w_start {t : TS} {σ' : TSt} (e : σ = σ') (k : t D σ' H) : t D σ H := by rw [e]; exact k
theorem w_var {n : Nat} (h : σ[n]? = some (some v)) (k : Q v H) : tVar n σ H Q := ⟨v, h, k⟩
theorem w_c (k : Q v H) : tC v σ H Q := k
theorem w_op (k : ta σ H fun x H1 => tb σ H1 fun y H2 => r x y H2 Q) : tOp r ta tb σ H Q := k
theorem w_un {r : V → Hp → VK → Prop} (k : ta σ H fun x H1 => r x H1 Q) : tUn r ta σ H Q := k
theorem w_I0 {g : Int → Int → V} (k : Q (g i j) H) : rI0 g (.int i) (.int j) H Q := ⟨i, j, rfl, rfl, k⟩
theorem w_I {C : Int → Int → Prop} {g : Int → Int → V} (hc : C i j) (k : Q (g i j) H) : rI C g (.int i) (.int j) H Q := ⟨i, j, rfl, rfl, hc, k⟩
theorem w_U {g : Int → V} (k : Q (g i) H) : rU g (.int i) H Q := ⟨i, rfl, k⟩
theorem w_eq (h : scal x y = true) (k : Q (.bl (decide (x = y))) H) : rEq x y H Q := ⟨h, k⟩
theorem w_ne (h : scal x y = true) (k : Q (.bl (!decide (x = y))) H) : rNe x y H Q := ⟨h, k⟩
theorem w_eqI (k : Q (.bl (decide (i = j))) H) : rEq (.int i) (.int j) H Q := ⟨rfl, by rw [show decide (V.int i = V.int j) = decide (i = j) from by simp]; exact k⟩
theorem w_neI (k : Q (.bl (!decide (i = j))) H) : rNe (.int i) (.int j) H Q := ⟨rfl, by rw [show decide (V.int i = V.int j) = decide (i = j) from by simp]; exact k⟩
theorem w_eqB (k : Q (.bl (b == c)) H) : rEq (.bl b) (.bl c) H Q := ⟨rfl, by rw [dec_bl]; exact k⟩
theorem w_neB (k : Q (.bl (!(b == c))) H) : rNe (.bl b) (.bl c) H Q := ⟨rfl, by rw [dec_bl]; exact k⟩
theorem w_eqS {i j : Str} (k : Q (.bl (decide (i = j))) H) : rEq (.str i) (.str j) H Q := ⟨rfl, by rw [show decide (V.str i = V.str j) = decide (i = j) from by simp]; exact k⟩
theorem w_neS {i j : Str} (k : Q (.bl (!decide (i = j))) H) : rNe (.str i) (.str j) H Q := ⟨rfl, by rw [show decide (V.str i = V.str j) = decide (i = j) from by simp]; exact k⟩
theorem w_test (k : te σ H fun x H' => rBl QB x H') : tTest te σ H QB := k
theorem w_B (k : te σ H fun x H' => rBl QB x H') : tB te σ H QB := k
theorem w_bl (k : QB b H) : rBl QB (.bl b) H := ⟨b, rfl, k⟩
theorem w_and (k : tt σ H fun c H1 => rIf c (tu σ H1 QB) (QB false H1)) : tAnd tt tu σ H QB := k
theorem w_or (k : tt σ H fun c H1 => rIf c (QB true H1) (tu σ H1 QB)) : tOr tt tu σ H QB := k
theorem w_not (k : tt σ H fun c H1 => QB (!c) H1) : tNot tt σ H QB := k
theorem w_andV (k : ta σ H fun x H1 => rBl (fun c H1 => rIf c (tb σ H1 Q) (Q (.bl false) H1)) x H1) : tAndV ta tb σ H Q := k
theorem w_orV (k : ta σ H fun x H1 => rBl (fun c H1 => rIf c (Q (.bl true) H1) (tb σ H1 Q)) x H1) : tOrV ta tb σ H Q := k
theorem w_notV (k : ta σ H fun x H1 => rBl (fun c H1 => Q (.bl (!c)) H1) x H1) : tNotV ta σ H Q := k
theorem w_ifE (k : tt σ H fun c H1 => rIf c (ta σ H1 Q) (tb σ H1 Q)) : tIf tt ta tb σ H Q := k
theorem w_tru (k : te σ H fun x H' => rTru K x H' QB) : tTruA K te σ H QB := k
theorem w_nil (k : QA [] H) : tNil σ H QA := k
theorem w_cons (k : ta σ H fun x H1 => tA σ H1 fun xs H2 => QA (x :: xs) H2) : tCons ta tA σ H QA := k
theorem w_tup (k : tA σ H fun xs H1 => rNewT xs H1 Q) : tTup tA σ H Q := k
theorem w_lst (k : tA σ H fun xs H1 => rNewL xs H1 Q) : tLst tA σ H Q := k
theorem w_newT (h : xs.length ≤ sizeLine) (k : ∀ p, H p = none → Q (.ref p) (upd H p (.tup xs))) : rNewT xs H Q := ⟨h, k⟩
theorem w_newL (h : xs.length ≤ sizeLine) (k : ∀ p, H p = none → Q (.ref p) (upd H p (.lst xs))) : rNewL xs H Q := ⟨h, k⟩
theorem w_call {sp : Sp} {dvs : List V} {E : XK} (k : tA σ H fun vs H1 => sp (vs ++ dvs) H1 Q E) : tCall sp dvs E tA σ H Q := k
theorem w_callS {sp : Sp} {E : TSt → XK} (k : tA σ H fun vs H1 => sp vs H1 Q (E σ)) : tCallS sp E tA σ H Q := k
theorem w_meth {C : Addr} {m : Str} {sp : Sp} {dvs : List V} {E : XK} (k : ta σ H fun x H1 => rMethA C m x H1 (tA σ H1 fun vs H2 => sp (x :: (vs ++ dvs)) H2 Q E)) : tMeth C m sp dvs E ta tA σ H Q := k
theorem w_m {C dx : Addr} {m : Str} {fs : List (Str × V)} (h : H a = some (.ins C dx fs)) (hl : fs.lookup m = none) (k : R) : rMethA C m (.ref a) H R := ⟨a, dx, fs, rfl, h, hl, k⟩
theorem w_methP {C dx : Addr} {m : Str} {sp : Sp} {dvs : List V} {E : XK} {fs : List (Str × V)} {n : Nat} (e : σ[n]? = some (some (.ref a))) (h : H a = some (.ins C dx fs)) (hl : fs.lookup m = none) (k : tA σ H fun vs H2 => sp (.ref a :: (vs ++ dvs)) H2 Q E) :
    tMeth C m sp dvs E (tVar n) tA σ H Q := ⟨.ref a, e, a, dx, fs, rfl, h, hl, k⟩
theorem w_make {C : Addr} {sp : Sp} {dvs : List V} {E : XK} (k : tA σ H fun vs H1 => ∀ x dx, H1 x = none → H1 dx = none → dx ≠ x → sp (.ref x :: (vs ++ dvs)) (upd (upd H1 dx (.own x)) x (.ins C dx [])) (fun v H2 => v = .non ∧ Q (.ref x) H2) E) : tMake C sp dvs E tA σ H Q := k
theorem w_CB {r : List V → Hp → VK → Prop} (k : tA σ H fun vs H1 => r vs H1 Q) : tCB r tA σ H Q := k
def rBMA (K : PySem.W.Frag) (T : String) (r : V → List V → Hp → VK → Prop) (tA : TA) (σ : TSt) (Q : VK) (x : V) (H : Hp) : Prop := tyV K T x H ∧ tA σ H fun xs H2 => r x xs H2 Q
theorem w_BM0 {T : String} {r : V → List V → Hp → VK → Prop} (k : ta σ H fun x H1 => rBMA K T r tNil σ Q x H1) : tBM0 K T r ta σ H Q := k
theorem w_BM {T : String} {r : V → List V → Hp → VK → Prop} (k : ta σ H fun x H1 => rBMA K T r tA σ Q x H1) : tBM K T r ta tA σ H Q := k
theorem w_BMl {r : V → List V → Hp → VK → Prop} (h : H p = some (.lst xs)) (k : tA σ H fun ys H2 => r (.ref p) ys H2 Q) : rBMA K "list" r tA σ Q (.ref p) H := ⟨.inl ⟨rfl, _, SqL.of h⟩, k⟩
theorem w_append (h : H p = some (.lst xs)) (hz : xs.length < sizeLine) (k : Q .non (upd H p (.lst (xs ++ [y])))) : rAppend (.ref p) [y] H Q := ⟨p, xs, y, rfl, rfl, h, hz, k⟩
theorem w_fld {f : Str} (k : ta σ H fun x H1 => rFldG K f x H1 Q) : tFld K ta f σ H Q := k
theorem w_f {C dx : Addr} {f : Str} {fs : List (Str × V)} (h : H a = some (.ins C dx fs)) (hc : Cls K C) (hn : NoAttr K C f) (hl : fs.lookup f = some v) (k : Q v H) : rFldG K f (.ref a) H Q := ⟨a, C, dx, fs, v, rfl, h, hc, hn, hl, k⟩
theorem w_seq (k : s ⟨u ⟨nx, rt, bk, ct⟩, rt, bk, ct⟩ σ H) : tSeq s u ⟨nx, rt, bk, ct⟩ σ H := k
theorem w_cut (Mid : TSt → Hp → Prop) (h : s ⟨Mid, rt, bk, ct⟩ σ H) (k : ∀ σ' H', Mid σ' H' → u ⟨nx, rt, bk, ct⟩ σ' H') : C8.tCut s u ⟨nx, rt, bk, ct⟩ σ H := ⟨Mid, h, k⟩
theorem w_next (k : nx σ H) : tNext ⟨nx, rt, bk, ct⟩ σ H := k
theorem w_brk (k : bk σ H) : tBreak ⟨nx, rt, bk, ct⟩ σ H := k
theorem w_cont (k : ct σ H) : tCont ⟨nx, rt, bk, ct⟩ σ H := k
theorem w_asg {g : TG} (k : te σ H fun x H1 => g x σ H1 nx) : tAsg te g ⟨nx, rt, bk, ct⟩ σ H := k
theorem w_name {n : Nat} {R : TSt → Hp → Prop} (k : R (σ.set n (some v)) H) : gName n v σ H R := k
theorem w_drop (k : te σ H fun _ H1 => nx σ H1) : tDrop te ⟨nx, rt, bk, ct⟩ σ H := k
theorem w_ret (k : te σ H rt) : tRet te ⟨nx, rt, bk, ct⟩ σ H := k
theorem w_retN (k : rt .non H) : tRetN ⟨nx, rt, bk, ct⟩ σ H := k
theorem w_if (k : tt σ H fun b H1 => rIf b (s D σ H1) (u D σ H1)) : tIfS tt s u D σ H := k
theorem w_aug {n : Nat} {ti : TIp} (h : σ[n]? = some (some x)) (k : te σ H fun y H1 => ti x y H1 fun z H2 => nx (σ.set n (some z)) H2) : tAug n te ti ⟨nx, rt, bk, ct⟩ σ H := ⟨x, h, k⟩
theorem w_sfld {f : Str} (k : te σ H fun y H1 => ta σ H1 fun x H2 => rFldS K f y x H2 (nx σ)) : sFld K ta te f ⟨nx, rt, bk, ct⟩ σ H := k
theorem w_sf {C dx : Addr} {f : Str} {fs : List (Str × V)} {R : Hp → Prop} (h : H a = some (.ins C dx fs)) (hc : Cls K C) (hn : NoAttr K C f) (hl : fs.length < 1000) (k : R (upd H a (.ins C dx (putF f y fs)))) : rFldS K f y (.ref a) H R := ⟨a, C, dx, fs, rfl, h, hc, hn, hl, k⟩
theorem w_ixL (h : H p = some (.lst xs)) (e : atI xs i = some v) (k : Q v H) : rIxL K (.ref p) (.int i) H Q := ⟨p, xs, i, v, rfl, rfl, SqL.of h, e, k⟩
theorem w_ixT (h : H p = some (.tup xs)) (e : atI xs i = some v) (k : Q v H) : rIxT K (.ref p) (.int i) H Q := ⟨p, xs, i, v, rfl, rfl, SqT.of h, e, k⟩
theorem w_ixK (h : SqL K H p xs) (e : atI xs i = some v) (k : Q v H) : rIxL K (.ref p) (.int i) H Q := ⟨p, xs, i, v, rfl, rfl, h, e, k⟩
theorem w_lenL (h : H p = some (.lst xs)) (k : Q (.int xs.length) H) : rLenA K [.ref p] H Q := ⟨_, _, rfl, .inl ⟨xs, SqL.of h, rfl⟩, k⟩
theorem w_lenK (h : SqL K H p xs) (k : Q (.int xs.length) H) : rLenA K [.ref p] H Q := ⟨_, _, rfl, .inl ⟨xs, h, rfl⟩, k⟩
theorem w_lenT (h : H p = some (.tup xs)) (k : Q (.int xs.length) H) : rLenA K [.ref p] H Q := ⟨_, _, rfl, .inr ⟨xs, SqT.of h, rfl⟩, k⟩
theorem w_int (k : Q (.int i) H) : rIntA [.int i] H Q := .inl ⟨i, rfl, k⟩
theorem w_intB (k : Q (.int (if b then 1 else 0)) H) : rIntA [.bl b] H Q := .inr ⟨b, rfl, k⟩
theorem w_abs (k : Q (.int (if i < 0 then -i else i)) H) : rAbsA [.int i] H Q := ⟨i, rfl, k⟩
theorem w_min2 (k : Q (.int (if j < i then j else i)) H) : rMinA [.int i, .int j] H Q := ⟨i, j, rfl, k⟩
theorem w_max2 (k : Q (.int (if j > i then j else i)) H) : rMaxA [.int i, .int j] H Q := ⟨i, j, rfl, k⟩
theorem w_isN (k : Q (.bl (decide (x = .non))) H) : rIsNA x .non H Q := ⟨rfl, k⟩
theorem w_notN (k : Q (.bl (!decide (x = .non))) H) : rNotNA x .non H Q := ⟨rfl, k⟩
theorem w_listL (h : H p = some (.lst ys)) (k : ∀ l, H l = none → Q (.ref l) (upd H l (.lst ys))) : rListA K [.ref p] H Q := ⟨p, ys, rfl, .inl (SqL.of h), k⟩
theorem w_eqD {d e : PyData} (h1 : Dp K H x d) (h2 : Dp K H y e) (s1 : SeqAt.shaped d = true) (s2 : SeqAt.shaped e = true) (k : Q (.bl (PyData.eqv d e)) H) : rEqD K x y H Q := ⟨d, e, h1, h2, s1, s2, k⟩
theorem w_neD {d e : PyData} (h1 : Dp K H x d) (h2 : Dp K H y e) (s1 : SeqAt.shaped d = true) (s2 : SeqAt.shaped e = true) (k : Q (.bl (!PyData.eqv d e)) H) : rNeD K x y H Q := ⟨d, e, h1, h2, s1, s2, k⟩
theorem w_isi {t u : Value} {z : V} (hc : ClsV z u) (ht : TyX K H x t) (e : PySem.W.kitOne K t u = some b) (k : Q (.bl b) H) : rIsi K [x, z] H Q := ⟨x, z, t, u, b, rfl, hc, ht, e, k⟩
theorem w_truL (h : H p = some (.lst xs)) (k : QB (!xs.isEmpty) H) : rTru K (.ref p) H QB := ⟨_, .inl ⟨xs, SqL.of h, rfl⟩, k⟩
theorem w_truB (k : QB b H) : rTru K (.bl b) H QB := ⟨b, rfl, k⟩
theorem w_popAt {n : Nat} (h : H p = some (.lst xs)) (h1 : -(2 ^ 63) ≤ i) (h2 : i < 2 ^ 63) (e : seqIndex? i xs.length = some n) (e2 : xs[n]? = some y) (k : Q y (upd H p (.lst (xs.eraseIdx n)))) : rPopAt (.ref p) [.int i] H Q := ⟨p, xs, i, n, y, rfl, rfl, h, h1, h2, e, e2, k⟩
theorem w_iRng1 {R : It → Hp → Prop} (k : tA σ H fun vs H1 => rItR1 vs H1 R) : iRng1 tA σ H R := k
theorem w_iRng2 {R : It → Hp → Prop} (k : tA σ H fun vs H1 => rItR2 vs H1 R) : iRng2 tA σ H R := k
theorem w_rng1 {R : It → Hp → Prop} (h1 : -(2 ^ 62) ≤ j) (h2 : j < 2 ^ 62) (k : R (Itr 0 j.toNat) H) : rItR1 [.int j] H R := ⟨j, rfl, h1, h2, k⟩
theorem w_rng2 {R : It → Hp → Prop} (h : -(2 ^ 62) ≤ i ∧ i < 2 ^ 62 ∧ -(2 ^ 62) ≤ j ∧ j < 2 ^ 62) (k : R (Itr i (j - i).toNat) H) : rItR2 [.int i, .int j] H R := ⟨i, j, rfl, h, k⟩
theorem w_iList {R : It → Hp → Prop} (k : te σ H fun x H1 => rItL K x H1 R) : iList K te σ H R := k
theorem w_iTup {R : It → Hp → Prop} (k : te σ H fun x H1 => rItT K x H1 R) : iTup K te σ H R := k
theorem w_itL {R : It → Hp → Prop} (h : H a = some (.lst xs)) (k : R (Itl K a) H) : rItL K (.ref a) H R := ⟨a, rfl, ⟨xs, SqL.of h⟩, k⟩
theorem w_itK {R : It → Hp → Prop} (h : SqL K H a xs) (k : R (Itl K a) H) : rItL K (.ref a) H R := ⟨a, rfl, ⟨xs, h⟩, k⟩
theorem w_itT {R : It → Hp → Prop} (h : H a = some (.tup xs)) (k : R (Itt K a) H) : rItT K (.ref a) H R := ⟨a, rfl, ⟨xs, SqT.of h⟩, k⟩
theorem w_for {wi : TI} {g : TG} {tb : TS} (k : wi σ H fun J H1 => Loop g tb D σ J H1) : tFor wi g tb D σ H := k
/-- over a list that the body leaves as it is; over a range -/
theorem loop_list {g : TG} {tb : TS} (Pv : Nat → TSt → Hp → Prop) (h0 : Pv 0 σ H) (hl : ∀ i σ H, i ≤ xs.length → Pv i σ H → SqL K H a xs)
    (hs : ∀ i x σ H, xs[i]? = some x → Pv i σ H → g x σ H fun σ2 H2 => tb ⟨Pv (i + 1), rt, nx, Pv (i + 1)⟩ σ2 H2) (hd : ∀ σ H, Pv xs.length σ H → nx σ H) : Loop g tb ⟨nx, rt, bk, ct⟩ σ (Itl K a) H := for_list (D := ⟨nx, rt, bk, ct⟩) Pv h0 hl hs hd
theorem loop_tup {g : TG} {tb : TS} (Pv : Nat → TSt → Hp → Prop) (h0 : Pv 0 σ H) (hl : ∀ i σ H, i ≤ xs.length → Pv i σ H → SqT K H a xs)
    (hs : ∀ i x σ H, xs[i]? = some x → Pv i σ H → g x σ H fun σ2 H2 => tb ⟨Pv (i + 1), rt, nx, Pv (i + 1)⟩ σ2 H2) (hd : ∀ σ H, Pv xs.length σ H → nx σ H) : Loop g tb ⟨nx, rt, bk, ct⟩ σ (Itt K a) H := for_tup (D := ⟨nx, rt, bk, ct⟩) Pv h0 hl hs hd
theorem loop_range {lo : Int} {n : Nat} {g : TG} {tb : TS} (Pv : Nat → TSt → Hp → Prop) (h0 : Pv 0 σ H)
    (hs : ∀ i σ H, i < n → Pv i σ H → g (.int (lo + i)) σ H fun σ2 H2 => tb ⟨Pv (i + 1), rt, nx, Pv (i + 1)⟩ σ2 H2) (hd : ∀ σ H, Pv n σ H → nx σ H) : Loop g tb ⟨nx, rt, bk, ct⟩ σ (Itr lo n) H := for_range (D := ⟨nx, rt, bk, ct⟩) Pv h0 hs hd
theorem w_ite {c A B : Prop} [Decidable c] (h1 : c → A) (h2 : ¬ c → B) : rIf (decide c) A B := by
  unfold rIf
  by_cases h : c
  · rw [decide_eq_true h, if_pos rfl]; exact h1 h
  · rw [decide_eq_false h, if_neg Bool.false_ne_true]; exact h2 h
theorem w_iteN {c A B : Prop} [Decidable c] (h1 : ¬ c → A) (h2 : c → B) : rIf (!decide c) A B := by
  unfold rIf
  by_cases h : c
  · rw [decide_eq_true h]; exact h2 h
  · rw [decide_eq_false h]; exact h1 h
theorem w_iteB (h1 : b = true → A) (h2 : b = false → B) : rIf b A B := by
  cases b
  · exact h2 rfl
  · exact h1 rfl
theorem w_iteNB (h1 : b = false → A) (h2 : b = true → B) : rIf (!b) A B := by
  cases b
  · exact h1 rfl
  · exact h2 rfl
theorem w_ifT (h : b = true) (k : A) : rIf b A B := by rw [h]; exact k
theorem w_ifF (h : b = false) (k : B) : rIf b A B := by rw [h]; exact k
theorem w_iteT (k : A) : rIf true A B := k
theorem w_iteF (k : B) : rIf false A B := k
theorem w_iteNT (k : B) : rIf (!true) A B := k
theorem w_iteNF (k : A) : rIf (!false) A B := k
theorem w_iteNNT (k : A) : rIf (!!true) A B := k
theorem w_iteNNF (k : B) : rIf (!!false) A B := k
end
section
variable {K : PySem.W.Frag} {H : Hp} {Q : VK} {b : Bool} {i : Int} {z : Str} {p : Addr} {xs : List V} {kvs : List (Key × V)} {kts : List (List Key × V)}
theorem isi_non_int (k : Q (.bl false) H) : rIsi K [.non, .ty "int"] H Q := w_isi (b := false) (.ty _) (.base .non) (kit_ty (by decide +kernel)) k
theorem isi_non_bool (k : Q (.bl false) H) : rIsi K [.non, .ty "bool"] H Q := w_isi (b := false) (.ty _) (.base .non) (kit_ty (by decide +kernel)) k
theorem isi_non_str (k : Q (.bl false) H) : rIsi K [.non, .ty "str"] H Q := w_isi (b := false) (.ty _) (.base .non) (kit_ty (by decide +kernel)) k
theorem isi_non_tuple (k : Q (.bl false) H) : rIsi K [.non, .ty "tuple"] H Q := w_isi (b := false) (.ty _) (.base .non) (kit_ty (by decide +kernel)) k
theorem isi_non_list (k : Q (.bl false) H) : rIsi K [.non, .ty "list"] H Q := w_isi (b := false) (.ty _) (.base .non) (kit_ty (by decide +kernel)) k
theorem isi_non_dict (k : Q (.bl false) H) : rIsi K [.non, .ty "dict"] H Q := w_isi (b := false) (.ty _) (.base .non) (kit_ty (by decide +kernel)) k
theorem isi_bl_int (k : Q (.bl true) H) : rIsi K [.bl b, .ty "int"] H Q := w_isi (b := true) (.ty _) (.base (.bl _)) (kit_ty (by decide +kernel)) k
theorem isi_bl_bool (k : Q (.bl true) H) : rIsi K [.bl b, .ty "bool"] H Q := w_isi (b := true) (.ty _) (.base (.bl _)) (kit_ty (by decide +kernel)) k
theorem isi_bl_str (k : Q (.bl false) H) : rIsi K [.bl b, .ty "str"] H Q := w_isi (b := false) (.ty _) (.base (.bl _)) (kit_ty (by decide +kernel)) k
theorem isi_bl_tuple (k : Q (.bl false) H) : rIsi K [.bl b, .ty "tuple"] H Q := w_isi (b := false) (.ty _) (.base (.bl _)) (kit_ty (by decide +kernel)) k
theorem isi_bl_list (k : Q (.bl false) H) : rIsi K [.bl b, .ty "list"] H Q := w_isi (b := false) (.ty _) (.base (.bl _)) (kit_ty (by decide +kernel)) k
theorem isi_bl_dict (k : Q (.bl false) H) : rIsi K [.bl b, .ty "dict"] H Q := w_isi (b := false) (.ty _) (.base (.bl _)) (kit_ty (by decide +kernel)) k
theorem isi_int_int (k : Q (.bl true) H) : rIsi K [.int i, .ty "int"] H Q := w_isi (b := true) (.ty _) (.base (.int _)) (kit_ty (by decide +kernel)) k
theorem isi_int_bool (k : Q (.bl false) H) : rIsi K [.int i, .ty "bool"] H Q := w_isi (b := false) (.ty _) (.base (.int _)) (kit_ty (by decide +kernel)) k
theorem isi_int_str (k : Q (.bl false) H) : rIsi K [.int i, .ty "str"] H Q := w_isi (b := false) (.ty _) (.base (.int _)) (kit_ty (by decide +kernel)) k
theorem isi_int_tuple (k : Q (.bl false) H) : rIsi K [.int i, .ty "tuple"] H Q := w_isi (b := false) (.ty _) (.base (.int _)) (kit_ty (by decide +kernel)) k
theorem isi_int_list (k : Q (.bl false) H) : rIsi K [.int i, .ty "list"] H Q := w_isi (b := false) (.ty _) (.base (.int _)) (kit_ty (by decide +kernel)) k
theorem isi_int_dict (k : Q (.bl false) H) : rIsi K [.int i, .ty "dict"] H Q := w_isi (b := false) (.ty _) (.base (.int _)) (kit_ty (by decide +kernel)) k
theorem isi_str_int (k : Q (.bl false) H) : rIsi K [.str z, .ty "int"] H Q := w_isi (b := false) (.ty _) (.base (.str _)) (kit_ty (by decide +kernel)) k
theorem isi_str_bool (k : Q (.bl false) H) : rIsi K [.str z, .ty "bool"] H Q := w_isi (b := false) (.ty _) (.base (.str _)) (kit_ty (by decide +kernel)) k
theorem isi_str_str (k : Q (.bl true) H) : rIsi K [.str z, .ty "str"] H Q := w_isi (b := true) (.ty _) (.base (.str _)) (kit_ty (by decide +kernel)) k
theorem isi_str_tuple (k : Q (.bl false) H) : rIsi K [.str z, .ty "tuple"] H Q := w_isi (b := false) (.ty _) (.base (.str _)) (kit_ty (by decide +kernel)) k
theorem isi_str_list (k : Q (.bl false) H) : rIsi K [.str z, .ty "list"] H Q := w_isi (b := false) (.ty _) (.base (.str _)) (kit_ty (by decide +kernel)) k
theorem isi_str_dict (k : Q (.bl false) H) : rIsi K [.str z, .ty "dict"] H Q := w_isi (b := false) (.ty _) (.base (.str _)) (kit_ty (by decide +kernel)) k
theorem isi_lst_int (h : H p = some (.lst xs)) (k : Q (.bl false) H) : rIsi K [.ref p, .ty "int"] H Q := w_isi (b := false) (.ty _) (.base (.lst h)) (kit_ty (by decide +kernel)) k
theorem isi_lst_bool (h : H p = some (.lst xs)) (k : Q (.bl false) H) : rIsi K [.ref p, .ty "bool"] H Q := w_isi (b := false) (.ty _) (.base (.lst h)) (kit_ty (by decide +kernel)) k
theorem isi_lst_str (h : H p = some (.lst xs)) (k : Q (.bl false) H) : rIsi K [.ref p, .ty "str"] H Q := w_isi (b := false) (.ty _) (.base (.lst h)) (kit_ty (by decide +kernel)) k
theorem isi_lst_tuple (h : H p = some (.lst xs)) (k : Q (.bl false) H) : rIsi K [.ref p, .ty "tuple"] H Q := w_isi (b := false) (.ty _) (.base (.lst h)) (kit_ty (by decide +kernel)) k
theorem isi_lst_list (h : H p = some (.lst xs)) (k : Q (.bl true) H) : rIsi K [.ref p, .ty "list"] H Q := w_isi (b := true) (.ty _) (.base (.lst h)) (kit_ty (by decide +kernel)) k
theorem isi_lst_dict (h : H p = some (.lst xs)) (k : Q (.bl false) H) : rIsi K [.ref p, .ty "dict"] H Q := w_isi (b := false) (.ty _) (.base (.lst h)) (kit_ty (by decide +kernel)) k
theorem isi_tup_int (h : H p = some (.tup xs)) (k : Q (.bl false) H) : rIsi K [.ref p, .ty "int"] H Q := w_isi (b := false) (.ty _) (.base (.tup h)) (kit_ty (by decide +kernel)) k
theorem isi_tup_bool (h : H p = some (.tup xs)) (k : Q (.bl false) H) : rIsi K [.ref p, .ty "bool"] H Q := w_isi (b := false) (.ty _) (.base (.tup h)) (kit_ty (by decide +kernel)) k
theorem isi_tup_str (h : H p = some (.tup xs)) (k : Q (.bl false) H) : rIsi K [.ref p, .ty "str"] H Q := w_isi (b := false) (.ty _) (.base (.tup h)) (kit_ty (by decide +kernel)) k
theorem isi_tup_tuple (h : H p = some (.tup xs)) (k : Q (.bl true) H) : rIsi K [.ref p, .ty "tuple"] H Q := w_isi (b := true) (.ty _) (.base (.tup h)) (kit_ty (by decide +kernel)) k
theorem isi_tup_list (h : H p = some (.tup xs)) (k : Q (.bl false) H) : rIsi K [.ref p, .ty "list"] H Q := w_isi (b := false) (.ty _) (.base (.tup h)) (kit_ty (by decide +kernel)) k
theorem isi_tup_dict (h : H p = some (.tup xs)) (k : Q (.bl false) H) : rIsi K [.ref p, .ty "dict"] H Q := w_isi (b := false) (.ty _) (.base (.tup h)) (kit_ty (by decide +kernel)) k
theorem isi_dK_int (h : H p = some (.dK kvs)) (k : Q (.bl false) H) : rIsi K [.ref p, .ty "int"] H Q := w_isi (b := false) (.ty _) (.base (.dK h)) (kit_ty (by decide +kernel)) k
theorem isi_dK_bool (h : H p = some (.dK kvs)) (k : Q (.bl false) H) : rIsi K [.ref p, .ty "bool"] H Q := w_isi (b := false) (.ty _) (.base (.dK h)) (kit_ty (by decide +kernel)) k
theorem isi_dK_str (h : H p = some (.dK kvs)) (k : Q (.bl false) H) : rIsi K [.ref p, .ty "str"] H Q := w_isi (b := false) (.ty _) (.base (.dK h)) (kit_ty (by decide +kernel)) k
theorem isi_dK_tuple (h : H p = some (.dK kvs)) (k : Q (.bl false) H) : rIsi K [.ref p, .ty "tuple"] H Q := w_isi (b := false) (.ty _) (.base (.dK h)) (kit_ty (by decide +kernel)) k
theorem isi_dK_list (h : H p = some (.dK kvs)) (k : Q (.bl false) H) : rIsi K [.ref p, .ty "list"] H Q := w_isi (b := false) (.ty _) (.base (.dK h)) (kit_ty (by decide +kernel)) k
theorem isi_dK_dict (h : H p = some (.dK kvs)) (k : Q (.bl true) H) : rIsi K [.ref p, .ty "dict"] H Q := w_isi (b := true) (.ty _) (.base (.dK h)) (kit_ty (by decide +kernel)) k
theorem isi_dT_int (h : H p = some (.dT kts)) (k : Q (.bl false) H) : rIsi K [.ref p, .ty "int"] H Q := w_isi (b := false) (.ty _) (.base (.dT h)) (kit_ty (by decide +kernel)) k
theorem isi_dT_bool (h : H p = some (.dT kts)) (k : Q (.bl false) H) : rIsi K [.ref p, .ty "bool"] H Q := w_isi (b := false) (.ty _) (.base (.dT h)) (kit_ty (by decide +kernel)) k
theorem isi_dT_str (h : H p = some (.dT kts)) (k : Q (.bl false) H) : rIsi K [.ref p, .ty "str"] H Q := w_isi (b := false) (.ty _) (.base (.dT h)) (kit_ty (by decide +kernel)) k
theorem isi_dT_tuple (h : H p = some (.dT kts)) (k : Q (.bl false) H) : rIsi K [.ref p, .ty "tuple"] H Q := w_isi (b := false) (.ty _) (.base (.dT h)) (kit_ty (by decide +kernel)) k
theorem isi_dT_list (h : H p = some (.dT kts)) (k : Q (.bl false) H) : rIsi K [.ref p, .ty "list"] H Q := w_isi (b := false) (.ty _) (.base (.dT h)) (kit_ty (by decide +kernel)) k
theorem isi_dT_dict (h : H p = some (.dT kts)) (k : Q (.bl true) H) : rIsi K [.ref p, .ty "dict"] H Q := w_isi (b := true) (.ty _) (.base (.dT h)) (kit_ty (by decide +kernel)) k
end
/-! ### comparisons in a chain; xs[i] op= v; comprehensions -/
section
variable {K : PySem.W.Frag} {σ : TSt} {H : Hp} {Q : VK} {ta tb tc te : TE} {r r' : R2} {X : Cx} {nx bk ct : TSt → Hp → Prop} {rt : VK}
theorem w_chain (k : ta σ H fun x H1 => tb σ H1 fun y H2 => r x y H2 fun z H3 => rBl (fun c H3 => rIf c (tc σ H3 fun w H4 => r' y w H4 Q) (Q (.bl false) H3)) z H3) : tChain r r' ta tb tc σ H Q := k
theorem get_list : PGet X (rIxL X.K) := by
  intro pins s σ H x y v u Q I rx ry h
  obtain ⟨p, xs, i, z, rfl, rfl, hq, he, q⟩ := h
  cases rx
  obtain ⟨t, rfl⟩ := ry
  obtain ⟨its, r, pl, hz⟩ := I.list hq
  obtain ⟨j, h1, h2, h3, h4, h5⟩ := atI_get he
  obtain ⟨w, ew, rw'⟩ := r.get h2
  have hl := r.length
  have hn := line63
  have fin : EP X pins σ Q w s := ⟨z, H, I, rw', q⟩
  by_cases h0 : 0 ≤ i
  · have hj : i.toNat = j := by
      rw [seqIndex_of h0 h5] at h1
      exact Option.some.inj h1
    exact wpAny_getItem_list pl.isList h0 (by omega) (by rw [hj]; simpa using ew) fin
  · have hj : (i + xs.length).toNat = j := by
      rw [seqIndex_neg (by omega) h4] at h1
      exact Option.some.inj h1
    exact wpAny_getItem_list_neg pl.isList (by omega) (by simp; omega) (by omega) (by simpa [← hl, hj] using ew) fin
def rIpAdd : V → V → Hp → VK → Prop := fun x y H Q => ∃ i j, x = .int i ∧ y = .int j ∧ Q (.int (i + j)) H
theorem i_add : PIp X .Add rIpAdd := ip_add
def rIpSub : V → V → Hp → VK → Prop := fun x y H Q => ∃ i j, x = .int i ∧ y = .int j ∧ Q (.int (i - j)) H
theorem i_sub : PIp X .Sub rIpSub := ip_sub
theorem n_add : InOp X .Add rIpAdd := in_add
theorem n_sub : InOp X .Sub rIpSub := in_sub
theorem w_ipAdd {i j : Int} (k : Q (.int (i + j)) H) : rIpAdd (.int i) (.int j) H Q := ⟨i, j, rfl, rfl, k⟩
theorem w_ipSub {i j : Int} (k : Q (.int (i - j)) H) : rIpSub (.int i) (.int j) H Q := ⟨i, j, rfl, rfl, k⟩
theorem w_augS {to ti : TE} {tget : V → V → Hp → VK → Prop} {tip : TIp} {tset : TSet}
    (k : to σ H fun o H1 => ti σ H1 fun i H2 => tget o i H2 fun x H3 => te σ H3 fun y H4 => tip x y H4 fun z H5 => tset o i z H5 fun H6 => nx σ H6) : tAugS to ti te tget tip tset ⟨nx, rt, bk, ct⟩ σ H := k
theorem w_setL {p : Addr} {xs : List V} {i : Int} {j : Nat} {v : V} {R : Hp → Prop} (h : H p = some (.lst xs)) (e : ixN xs.length i = some j) (k : R (upd H p (.lst (xs.set j v)))) : rSetL (.ref p) (.int i) v H R := ⟨p, xs, i, j, rfl, rfl, h, e, k⟩
theorem w_gsub {to ti : TE} {t : TSet} {v : V} {R : TSt → Hp → Prop} (k : to σ H fun o H1 => ti σ H1 fun i H2 => t o i v H2 fun H3 => R σ H3) : gSub to ti t v σ H R := k
def rFldA (K : PySem.W.Frag) (te : TE) (rd : V → V → Hp → VK → Prop) (f : Str) (nx : TSt → Hp → Prop) (σ : TSt) (x : V) (H1 : Hp) : Prop := ∃ a C dx fs v, x = .ref a ∧ H1 a = some (.ins C dx fs) ∧ Cls K C ∧ NoAttr K C f ∧ fs.lookup f = some v ∧
  te σ H1 fun y H2 => rd v y H2 fun z H3 => ∃ dx' fs', H3 a = some (.ins C dx' fs') ∧ fs'.length < 1000 ∧ nx σ (upd H3 a (.ins C dx' (putF f z fs')))
theorem w_fldaug {rd : V → V → Hp → VK → Prop} {f : Str} (k : ta σ H fun x H1 => rFldA K te rd f nx σ x H1) : sFldAug K ta te rd f ⟨nx, rt, bk, ct⟩ σ H := k
theorem w_fa {a C dx : Addr} {f : Str} {fs : List (Str × V)} {v : V} {rd : V → V → Hp → VK → Prop} (h : H a = some (.ins C dx fs)) (hc : Cls K C) (hn : NoAttr K C f) (hl : fs.lookup f = some v)
    (k : te σ H fun y H2 => rd v y H2 fun z H3 => ∃ dx' fs', H3 a = some (.ins C dx' fs') ∧ fs'.length < 1000 ∧ nx σ (upd H3 a (.ins C dx' (putF f z fs')))) : rFldA K te rd f nx σ (.ref a) H := ⟨a, C, dx, fs, v, rfl, h, hc, hn, hl, k⟩
/-- a list comprehension: D the new list -/
def Comp (g : TG) (tt : TT) (te : TE) (vs : List Nat) (σ : TSt) (Q : VK) (J : It) (H1 : Hp) : Prop := ∀ D, H1 D = none → ∃ W : Nat → Nat → Hp → Prop, (∃ m, W 0 m (upd H1 D (.lst []))) ∧ ∀ i m H, W i m H →
  (J.stop i H ∧ Q (.ref D) H) ∨ (J.go i H ∧ ∃ Nx : Hp → Prop, (∀ H', Nx H' → ∃ m', m' < m ∧ W (i + 1) m' H') ∧ ∀ x H', J.yld i H x H' → g x (wipe σ vs) H' fun σ2 H2 => wipe σ2 vs = wipe σ vs ∧ tt σ2 H2 fun b H3 =>
    if b = true then te σ2 H3 fun y H4 => ∃ acc, H4 D = some (.lst acc) ∧ acc.length < sizeLine ∧ Nx (upd H4 D (.lst (acc ++ [y]))) else Nx H3)
theorem w_lc {wi : TI} {g : TG} {tt : TT} {vs : List Nat} (k : wi σ H fun J H1 => Comp g tt te vs σ Q J H1) : tLc wi g tt te vs σ H Q := k
def rPut (D : Addr) (R : Hp → Prop) (y : V) (H : Hp) : Prop := ∃ acc, H D = some (.lst acc) ∧ acc.length < sizeLine ∧ R (upd H D (.lst (acc ++ [y])))
theorem w_put {D : Addr} {acc : List V} {y : V} {R : Hp → Prop} (h : H D = some (.lst acc)) (hz : acc.length < sizeLine) (k : R (upd H D (.lst (acc ++ [y])))) : rPut D R y H := ⟨acc, h, hz, k⟩
def rWipe (σ2 : TSt) (vs : List Nat) (σ : TSt) (R : Prop) : Prop := wipe σ2 vs = wipe σ vs ∧ R
theorem w_wipe {σ2 : TSt} {vs : List Nat} {R : Prop} (h : wipe σ2 vs = wipe σ vs) (k : R) : rWipe σ2 vs σ R := ⟨h, k⟩
theorem w_yes {QB : Bool → Hp → Prop} (k : QB true H) : tYes σ H QB := k
/-- over a list, a range, a tuple -/
theorem comp_list {a : Addr} {xs : List V} {g : TG} {tt : TT} {vs : List Nat} (Pv : Addr → Nat → Hp → Prop) (h0 : ∀ D, H D = none → Pv D 0 (upd H D (.lst []))) (hl : ∀ D i H', H D = none → i ≤ xs.length → Pv D i H' → SqL K H' a xs)
    (hs : ∀ D i x H', H D = none → xs[i]? = some x → Pv D i H' → g x (wipe σ vs) H' fun σ2 H2 => rWipe σ2 vs σ (tt σ2 H2 fun b H3 => rIf b (te σ2 H3 fun y H4 => rPut D (Pv D (i + 1)) y H4) (Pv D (i + 1) H3)))
    (hd : ∀ D H', H D = none → Pv D xs.length H' → Q (.ref D) H') : Comp g tt te vs σ Q (Itl K a) H := fun D hD => lc_list (Pv D) (h0 D hD) (fun i H' h p => hl D i H' hD h p) (fun i x H' h p => hs D i x H' hD h p) (fun H' p => hd D H' hD p)
theorem comp_range {lo : Int} {n : Nat} {g : TG} {tt : TT} {vs : List Nat} (Pv : Addr → Nat → Hp → Prop) (h0 : ∀ D, H D = none → Pv D 0 (upd H D (.lst [])))
    (hs : ∀ D i H', H D = none → i < n → Pv D i H' → g (.int (lo + i)) (wipe σ vs) H' fun σ2 H2 => rWipe σ2 vs σ (tt σ2 H2 fun b H3 => rIf b (te σ2 H3 fun y H4 => rPut D (Pv D (i + 1)) y H4) (Pv D (i + 1) H3)))
    (hd : ∀ D H', H D = none → Pv D n H' → Q (.ref D) H') : Comp g tt te vs σ Q (Itr lo n) H := fun D hD => lc_range (Pv D) (h0 D hD) (fun i H' h p => hs D i H' hD h p) (fun H' p => hd D H' hD p)
theorem w_rep {p : Addr} {xs : List V} {n : Int} (h : H p = some (.lst xs)) (h1 : -(2 ^ 63) ≤ n) (h2 : n < 2 ^ 63) (hz : xs.length * n.toNat ≤ sizeLine) (k : ∀ q, H q = none → Q (.ref q) (upd H q (.lst (List.replicate n.toNat xs).flatten))) : rRep (.ref p) (.int n) H Q := ⟨p, n, xs, rfl, rfl, h, h1, h2, hz, k⟩
end
/-! the same with the fragment named (within a comprehension's own scope) -/
section
variable {X : Cx}
theorem pe_fldK (K : PySem.W.Frag) {e : Expr} {ta : TE} {f : Str} {pos : Pos} (he : PE X e ta) (hb : attributeBase e f X.env (eval e X.env) = eval e X.env) (h : X.K = K := by rfl) : PE X (.Attribute e f pos) (tFld K ta f) := by subst h; exact pe_fld he hb
theorem pt_truthAK (K : PySem.W.Frag) {e : Expr} {te : TE} (h : PE X e te) (hs : ∀ whole, isTrue e X.env whole = (do let v ← whole; standAt e.pos; holding [v] (truthy v)) := by intro _; rfl) (hK : X.K = K := by rfl) : PT X e (tTruA K te) := by subst hK; exact pt_truthA h hs
theorem c_listK (K : PySem.W.Frag) (h : X.K = K := by rfl) : CallR X (.type "list") (rListA K) := by subst h; exact c_list
theorem c_lenK (K : PySem.W.Frag) (h : X.K = K := by rfl) : CallR X (.builtin "len") (rLenA K) := by subst h; exact c_len
theorem ix_listK (K : PySem.W.Frag) (h : X.K = K := by rfl) : IxR X (rIxL K) := by subst h; exact ix_list
theorem ix_tupK (K : PySem.W.Frag) (h : X.K = K := by rfl) : IxR X (rIxT K) := by subst h; exact ix_tup
theorem ix_seqK (K : PySem.W.Frag) (h : X.K = K := by rfl) : IxR X (rIx K) := by subst h; exact ix_seq
theorem call_isiK (K : PySem.W.Frag) (h : X.K = K := by rfl) : CallR X (.builtin "isinstance") (rIsi K) := by subst h; exact call_isi
theorem call_isGK (K : PySem.W.Frag) {X : Cx} {a : Addr} {cls : Value} {d : Option Addr} {oe : Obj} {pn : List (Addr × Obj)} (hz : Zc cls d oe) (hf : ∃ vs, oe.data = .fields vs) (h : X.K = K := by rfl) : CallR (X.suite a ((a, oe) :: pn)) (.builtin "isinstance") (rIsG K a cls d) := by subst h; exact call_isG hz hf
theorem op_catAK (K : PySem.W.Frag) (h : X.K = K := by rfl) : OpR X (binaryOp .Add) (rCatA K) := by subst h; exact op_catA
end
/-! ### heaps -/
theorem at_new {H : Hp} {a p : Addr} {o o' : HO} (n : H p = none) (h : H a = some o) : upd H p o' a = some o := by rw [upd_ne (ne_of_none h n)]; exact h
theorem at_ne {H : Hp} {a p : Addr} {o o' : HO} (n : a ≠ p) (h : H a = some o) : upd H p o' a = some o := by rw [upd_ne n]; exact h
theorem no_new {H : Hp} {q p : Addr} {o' : HO} (n : q ≠ p) (h : H q = none) : upd H p o' q = none := by rw [upd_ne n]; exact h
theorem none1 {H : Hp} {q a : Addr} {o : HO} (h : upd H a o q = none) : q ≠ a ∧ H q = none := by
  have e : q ≠ a := fun e => by rw [e, upd_same] at h; cases h
  exact ⟨e, by rwa [upd_ne e] at h⟩
theorem none2 {H : Hp} {q a b : Addr} {o o' : HO} (h : upd (upd H a o) b o' q = none) : q ≠ a ∧ q ≠ b ∧ H q = none :=
  let ⟨e, h⟩ := none1 h; let ⟨e', h⟩ := none1 h; ⟨e', e, h⟩
theorem none3 {H : Hp} {q a b c : Addr} {o o' o2 : HO} (h : upd (upd (upd H a o) b o') c o2 q = none) : q ≠ a ∧ q ≠ b ∧ q ≠ c ∧ H q = none :=
  let ⟨e, h⟩ := none1 h; let ⟨e1, e2, h⟩ := none2 h; ⟨e1, e2, e, h⟩
theorem none4 {H : Hp} {q a b c d : Addr} {o o' o2 o3 : HO} (h : upd (upd (upd (upd H a o) b o') c o2) d o3 q = none) : q ≠ a ∧ q ≠ b ∧ q ≠ c ∧ q ≠ d ∧ H q = none :=
  let ⟨e, h⟩ := none1 h; let ⟨e1, e2, e3, h⟩ := none3 h; ⟨e1, e2, e3, e, h⟩
theorem same_new0 {H : Hp} {p : Addr} {o : HO} (h : H p = none) : Same H (upd H p o) := fun b u e => by rw [upd_ne (ne_of_none e h)]; exact e
theorem lt_line {n : Nat} (h : n ≤ 100000) : n < sizeLine := Nat.lt_of_le_of_lt h (by decide)
theorem le_line {n : Nat} (h : n ≤ 100000) : n ≤ sizeLine := Nat.le_trans h (by decide)

/-! ### o.m(..) within a suite: what it lets out may name the slots -/
def tMethX (C : Addr) (m : Str) (sp : Sp) (E : TSt → XK) (ta : TE) (t : TA) : TE := fun σ H Q => ta σ H fun x H1 => rMethA C m x H1 (t σ H1 fun vs H2 => sp (x :: vs) H2 Q (E σ))
section
variable {X : Cx} {k : Nat} {ps : List Str} {sp : Sp} {E : TSt → XK} {m C : Str} {pos apos : Pos} {e o : Expr} {es : List Expr} {ta : TE} {t : TA}
theorem pe_methOS (K : PySem.W.Frag) {pl : Sem Bool} (he : PE X o ta) (c : Cls K (He.ga K C)) (hm : Meth K (He.ga K C) m (He.ma K (He.ga K C) m)) (O : Okd X.prog X.w K X.mg X.base (C, some m) k ps sp) (hr : Room k X.A) (hx : ∀ σ, PassesAt (L2.CX X.prog X.w) X σ (E σ)) (ha : PA X (e :: es) t)
    (hst : starEach (e :: es) X.env = (false, eval e X.env) :: starEach es X.env := by rfl) (hpl : (backTo pos (starEach es X.env)).any (·.1) = false := by rfl)
    (ht : eval (.Call (.Attribute o m apos) (e :: es) [] pos) X.env = (do
      let ov ← eval o X.env
      standAt apos.atName
      let (f, first) ← holding [ov] (getMethod ov m pl)
      callWith pos f first (backTo pos (starEach (e :: es) X.env)) (backToKw pos (keywordEach [] X.env))) := by rfl) (hK : X.K = K := by rfl) :
    PE X (.Call (.Attribute o m apos) (e :: es) [] pos) (tMethX (He.ga K C) m sp E ta t) := by
  subst hK
  obtain ⟨_, hb, _, F⟩ := O
  refine ⟨fun pins s σ H Q I h => ?_⟩
  refine PySem.W.methodCall_KW (pl := pl) (thn (he.run pins s σ H _ I h) fun u s1 ⟨x, H1, I1, rx, a, dx, fs, ex, ea, l, q⟩ => ?_) ht
  subst ex
  cases rx
  refine getmeth_ok I1 ea c hm l ?_
  refine PySem.W.callWith_K (first := [.ref a]) (h₀ := X.base) I.ok.mod.kin hm.kp (thn (ha.run pos pins s1 σ H1 _ I1 q) fun us s2 ⟨vs, H2, I2, r, q2⟩ => ⟨I2.kIn, ?_⟩) hst hpl
  exact run_fnS (us := .ref a :: us) (vs := .ref a :: vs) F hr hb (hx σ) I2 (.cons rfl r) q2
theorem pe_methOS0 (K : PySem.W.Frag) {pl : Sem Bool} (he : PE X o ta) (c : Cls K (He.ga K C)) (hm : Meth K (He.ga K C) m (He.ma K (He.ga K C) m)) (O : Okd X.prog X.w K X.mg X.base (C, some m) k ps sp) (hr : Room k X.A) (hx : ∀ σ, PassesAt (L2.CX X.prog X.w) X σ (E σ))
    (ht : eval (.Call (.Attribute o m apos) [] [] pos) X.env = (do
      let ov ← eval o X.env
      standAt apos.atName
      let (f, first) ← holding [ov] (getMethod ov m pl)
      callWith pos f first (backTo pos (starEach [] X.env)) (backToKw pos (keywordEach [] X.env))) := by rfl) (hK : X.K = K := by rfl) :
    PE X (.Call (.Attribute o m apos) [] [] pos) (tMethX (He.ga K C) m sp E ta tNil) := by
  subst hK
  obtain ⟨_, hb, _, F⟩ := O
  refine ⟨fun pins s σ H Q I h => ?_⟩
  refine PySem.W.methodCall_KW (pl := pl) (thn (he.run pins s σ H _ I h) fun u s1 ⟨x, H1, I1, rx, a, dx, fs, ex, ea, l, q⟩ => ?_) ht
  subst ex
  cases rx
  refine getmeth_ok I1 ea c hm l ?_
  exact PySem.W.callWith_K0 (first := [.ref a]) I1.kIn hm.kp (run_fnS (us := [.ref a]) (vs := [.ref a]) F hr hb (hx σ) I1 (.cons rfl .nil) q)
theorem w_methX {σ : TSt} {H : Hp} {Q : VK} {C : Addr} (k : ta σ H fun x H1 => rMethA C m x H1 (t σ H1 fun vs H2 => sp (x :: vs) H2 Q (E σ))) : tMethX C m sp E ta t σ H Q := k
end
/-! ### data -/
/-- v stands for d, a datum of small depth -/
def Rep (K : PySem.W.Frag) (H : Hp) (n : Nat) (v : V) (d : PyData) : Prop := Dp K H v d ∧ d.canLay0 = true ∧ d.depth ≤ n
section
variable {K : PySem.W.Frag} {H H' : Hp} {v x y : V} {xs ys : List V} {d e : PyData} {n m : Nat} {Q : VK} {p : Addr}
theorem Rep.non : Rep K H n .non .none := ⟨.non, by simp [PyData.canLay0], by simp [PyData.depth]⟩
theorem Rep.bl {b : Bool} : Rep K H n (.bl b) (.bool b) := ⟨.bl b, by simp [PyData.canLay0], by simp [PyData.depth]⟩
theorem Rep.int {i : Int} : Rep K H n (.int i) (.int i) := ⟨.int i, by simp [PyData.canLay0], by simp [PyData.depth]⟩
theorem Rep.str {s : Str} (h : PyData.canLay0 (.str s) = true) : Rep K H n (.str s) (.str s) := ⟨.str s, h, by simp [PyData.depth]⟩
theorem Rep.mono (h : Rep K H n v d) (k : n ≤ m) : Rep K H m v d := ⟨h.1, h.2.1, Nat.le_trans h.2.2 k⟩
inductive Reps (K : PySem.W.Frag) (H : Hp) (n : Nat) : List V → List PyData → Prop
  | nil : Reps K H n [] []
  | cons {v : V} {d : PyData} {vs : List V} {ds : List PyData} : Rep K H n v d → Reps K H n vs ds → Reps K H n (v :: vs) (d :: ds)
theorem Reps.all {ds : List PyData} (h : Reps K H n xs ds) : DpAll K H xs ds ∧ PyData.canLayAll0 ds = true ∧ PyData.depthAll ds ≤ n := by
  induction h with
  | nil => exact ⟨.nil, by simp [PyData.canLayAll0], by simp [PyData.depthAll]⟩
  | cons a b ih => exact ⟨.cons a.1 ih.1, by simp [PyData.canLayAll0, a.2.1, ih.2.1], by simp only [PyData.depthAll]; exact Nat.max_le.mpr ⟨a.2.2, ih.2.2⟩⟩
theorem Rep.tup {ds : List PyData} (h : H p = some (.tup xs)) (r : Reps K H n xs ds) : Rep K H (n + 1) (.ref p) (.tuple ds) := by
  obtain ⟨a, b, c⟩ := r.all
  exact ⟨.tup (SqT.of h) a, by simp only [PyData.canLay0]; exact b, by simp only [PyData.depth]; omega⟩
theorem Rep.lst {ds : List PyData} (h : H p = some (.lst xs)) (r : Reps K H n xs ds) : Rep K H (n + 1) (.ref p) (.list ds) := by
  obtain ⟨a, b, c⟩ := r.all
  exact ⟨.lst (SqL.of h) a, by simp only [PyData.canLay0]; exact b, by simp only [PyData.depth]; omega⟩
theorem Rep.shaped (h : Rep K H n v d) (k : n ≤ 64) : SeqAt.shaped d = true := by
  unfold SeqAt.shaped
  rw [h.2.1, decide_eq_true (Nat.le_trans h.2.2 k)]; rfl
theorem Reps.of (h : ∀ x ∈ xs, ∃ d, Rep K H n x d) : ∃ ds, Reps K H n xs ds := by
  induction xs with
  | nil => exact ⟨[], .nil⟩
  | cons a r ih =>
    obtain ⟨d, hd⟩ := h a (List.mem_cons_self ..)
    obtain ⟨ds, hs⟩ := ih fun x hx => h x (List.mem_cons_of_mem _ hx)
    exact ⟨d :: ds, .cons hd hs⟩
theorem Rep.refl (h : Rep K H n v d) : PyData.eqv d d = true := PySem.SeqAt.eqv_refl d h.2.1
theorem w_eqR (h1 : Rep K H n x d) (h2 : Rep K H m y e) (k1 : n ≤ 64) (k2 : m ≤ 64) (k : Q (.bl (PyData.eqv d e)) H) : rEqD K x y H Q := ⟨d, e, h1.1, h2.1, h1.shaped k1, h2.shaped k2, k⟩
theorem w_neR (h1 : Rep K H n x d) (h2 : Rep K H m y e) (k1 : n ≤ 64) (k2 : m ≤ 64) (k : Q (.bl (!PyData.eqv d e)) H) : rNeD K x y H Q := ⟨d, e, h1.1, h2.1, h1.shaped k1, h2.shaped k2, k⟩
/-- the same datum on both sides -/
theorem w_eqS' (h1 : Rep K H n x d) (h2 : Rep K H m y d) (k1 : n ≤ 64) (k2 : m ≤ 64) (k : Q (.bl true) H) : rEqD K x y H Q := w_eqR h1 h2 k1 k2 (by rw [h1.refl]; exact k)
theorem w_neS' (h1 : Rep K H n x d) (h2 : Rep K H m y d) (k1 : n ≤ 64) (k2 : m ≤ 64) (k : Q (.bl false) H) : rNeD K x y H Q := w_neR h1 h2 k1 k2 (by rw [h1.refl]; exact k)
end
theorem Reps.len {K : PySem.W.Frag} {H : Hp} {n : Nat} {xs : List V} {ds : List PyData} (h : Reps K H n xs ds) : ds.isEmpty = xs.isEmpty := by cases h <;> rfl
theorem eqv_nil {ds : List PyData} : PyData.eqv (.list ds) (.list []) = ds.isEmpty := by cases ds <;> simp [PyData.eqv, PyData.eqvAll]
theorem eqv_bool {a b : Bool} : PyData.eqv (.bool a) (.bool b) = (a == b) := by simp [PyData.eqv]
theorem w_eqBB {K : PySem.W.Frag} {H : Hp} {Q : VK} {a b : Bool} (h : a = b) (k : Q (.bl true) H) : rEqD K (.bl a) (.bl b) H Q := by
  subst h
  exact w_eqS' (Rep.bl (n := 0)) (Rep.bl (n := 0)) (by decide) (by decide) k
/-! ### data that never changes -/
mutual
inductive Im (H : Hp) : V → PyData → Prop
  | non : Im H .non .none
  | bl (b : Bool) : Im H (.bl b) (.bool b)
  | int (i : Int) : Im H (.int i) (.int i)
  | str (s : Str) (h : PyData.canLay0 (.str s) = true) : Im H (.str s) (.str s)
  | tup {a : Addr} {xs : List V} {ds : List PyData} : H a = some (.tup xs) → Ims H xs ds → Im H (.ref a) (.tuple ds)
inductive Ims (H : Hp) : List V → List PyData → Prop
  | nil : Ims H [] []
  | cons {v : V} {vs : List V} {d : PyData} {ds : List PyData} : Im H v d → Ims H vs ds → Ims H (v :: vs) (d :: ds)
end
/-- tuples stay -/
def TK (H H' : Hp) : Prop := ∀ a xs, H a = some (.tup xs) → H' a = some (.tup xs)
theorem TK.refl (H : Hp) : TK H H := fun _ _ h => h
theorem TK.trans {H H1 H2 : Hp} (h : TK H H1) (k : TK H1 H2) : TK H H2 := fun a xs e => k a xs (h a xs e)
theorem _root_.L2.Same.tk {H H' : Hp} (h : Same H H') : TK H H' := fun a xs e => h a _ e
theorem tk_new {H : Hp} {p : Addr} {o : HO} (n : H p = none) : TK H (upd H p o) := (same_new0 n).tk
theorem tk_lst {H : Hp} {p : Addr} {o : HO} {ys : List V} (n : H p = some (.lst ys)) : TK H (upd H p o) := fun a xs e => by rw [upd_ne (ne_of e n (by intro z; cases z))]; exact e
theorem tk_ins {H : Hp} {p C dx : Addr} {fs : List (Str × V)} {o : HO} (n : H p = some (.ins C dx fs)) : TK H (upd H p o) := fun a xs e => by rw [upd_ne (ne_of e n (by intro z; cases z))]; exact e
section
variable {K : PySem.W.Frag} {H H' : Hp}
mutual
theorem Im.mono (k : TK H H') : ∀ {v : V} {d : PyData}, Im H v d → Im H' v d
  | _, _, .non => .non
  | _, _, .bl b => .bl b
  | _, _, .int i => .int i
  | _, _, .str s h => .str s h
  | _, _, .tup h r => .tup (k _ _ h) (Ims.mono k r)
theorem Ims.mono (k : TK H H') : ∀ {vs : List V} {ds : List PyData}, Ims H vs ds → Ims H' vs ds
  | _, _, .nil => .nil
  | _, _, .cons h r => .cons (Im.mono k h) (Ims.mono k r)
end
mutual
theorem Im.dp : ∀ {v : V} {d : PyData}, Im H v d → Dp K H v d ∧ d.canLay0 = true
  | _, _, .non => ⟨.non, by simp [PyData.canLay0]⟩
  | _, _, .bl b => ⟨.bl b, by simp [PyData.canLay0]⟩
  | _, _, .int i => ⟨.int i, by simp [PyData.canLay0]⟩
  | _, _, .str s h => ⟨.str s, h⟩
  | _, _, .tup h r => ⟨.tup (SqT.of h) (Ims.dp r).1, by simp only [PyData.canLay0]; exact (Ims.dp r).2⟩
theorem Ims.dp : ∀ {vs : List V} {ds : List PyData}, Ims H vs ds → DpAll K H vs ds ∧ PyData.canLayAll0 ds = true
  | _, _, .nil => ⟨.nil, by simp [PyData.canLayAll0]⟩
  | _, _, .cons h r => ⟨.cons (Im.dp h).1 (Ims.dp r).1, by simp only [PyData.canLayAll0, Bool.and_eq_true]; exact ⟨(Im.dp h).2, (Ims.dp r).2⟩⟩
end
theorem Im.rep {v : V} {d : PyData} {n : Nat} (h : Im H v d) (k : d.depth ≤ n) : Rep K H n v d := ⟨(Im.dp h).1, (Im.dp (K := K) h).2, k⟩
end
/-! ### what changed: the objects of one owner alone, or new ones -/
structure Chg (own own' : Addr → Prop) (H H' : Hp) : Prop where
  keep : ∀ b o, H b = some o → ¬ own b → H' b = some o
  new : ∀ b, own' b → own b ∨ H b = none
  tk : TK H H'
theorem Chg.refl {own : Addr → Prop} {H : Hp} : Chg own own H H := ⟨fun _ _ e _ => e, fun _ h => .inl h, TK.refl H⟩
theorem w_inT {K : PySem.W.Frag} {H : Hp} {Q : VK} {x : V} {xs : List V} {p : Addr} {b : Bool} (h : H p = some (.tup xs)) (hx : flatV x = true) (ha : xs.all flatV = true) (e : inV x xs = b) (k : Q (.bl b) H) : rIn K false x (.ref p) H Q := ⟨p, xs, rfl, .inr (SqT.of h), hx, ha, by rw [if_neg (by decide), e]; exact k⟩
theorem w_iaL {K : PySem.W.Frag} {H : Hp} {Q : VK} {p : Addr} {xs : List V} {i : Int} {v : V} (h : H p = some (.lst xs)) (e : atI xs i = some v) (k : Q v H) : rIx K (.ref p) (.int i) H Q := .inl (w_ixL h e k)
theorem w_iaT {K : PySem.W.Frag} {H : Hp} {Q : VK} {p : Addr} {xs : List V} {i : Int} {v : V} (h : H p = some (.tup xs)) (e : atI xs i = some v) (k : Q v H) : rIx K (.ref p) (.int i) H Q := .inr (.inl (w_ixT h e k))
theorem w_ninT {K : PySem.W.Frag} {H : Hp} {Q : VK} {x : V} {xs : List V} {p : Addr} {b : Bool} (h : H p = some (.tup xs)) (hx : flatV x = true) (ha : xs.all flatV = true) (e : inV x xs = b) (k : Q (.bl !b) H) : rIn K true x (.ref p) H Q := ⟨p, xs, rfl, .inr (SqT.of h), hx, ha, by rw [if_pos rfl, e]; exact k⟩
theorem Chg.same {own : Addr → Prop} {H H' : Hp} (s : Same H H') : Chg own own H H' := ⟨fun b o e _ => s b o e, fun _ h => .inl h, s.tk⟩
theorem Chg.pre {own own' : Addr → Prop} {H H1 H' : Hp} (s : Same H H1) (c : Chg own own' H1 H') : Chg own own' H H' := ⟨fun b o e n => c.keep b o (s b o e) n, fun b h => (c.new b h).imp id s.free, s.tk.trans c.tk⟩
theorem Chg.trans {own own1 own2 : Addr → Prop} {H H1 H' : Hp} (c : Chg own own1 H H1) (d : Chg own1 own2 H1 H') (g : ∀ b, H1 b = none → H b = none) : Chg own own2 H H' :=
  ⟨fun b o e n => d.keep b o (c.keep b o e n) fun h => (c.new b h).elim n fun z => (by rw [e] at z; cases z), fun b h => (d.new b h).elim (c.new b) fun z => .inr (g b z), c.tk.trans d.tk⟩
section
variable {K : PySem.W.Frag} {H : Hp} {Q : VK} {i j : Int} {a b : Bool}
theorem eqD_non_non (k : Q (.bl true) H) : rEqD K (.non) (.non) H Q := w_eqR (Rep.non (n := 0)) (Rep.non (n := 0)) (by decide) (by decide) (by rw [show PyData.eqv (.none) (.none) = true from by simp [PyData.eqv]]; exact k)
theorem neD_non_non (k : Q (.bl false) H) : rNeD K (.non) (.non) H Q := w_neR (Rep.non (n := 0)) (Rep.non (n := 0)) (by decide) (by decide) (by rw [show PyData.eqv (.none) (.none) = true from by simp [PyData.eqv]]; exact k)
theorem eqD_int_int (k : Q (.bl (decide (i = j))) H) : rEqD K (.int i) (.int j) H Q := w_eqR (Rep.int (n := 0)) (Rep.int (n := 0)) (by decide) (by decide) (by rw [show PyData.eqv (.int i) (.int j) = decide (i = j) from by rw [Bool.eq_iff_iff]; simp [PyData.eqv]]; exact k)
theorem neD_int_int (k : Q (.bl (!decide (i = j))) H) : rNeD K (.int i) (.int j) H Q := w_neR (Rep.int (n := 0)) (Rep.int (n := 0)) (by decide) (by decide) (by rw [show PyData.eqv (.int i) (.int j) = decide (i = j) from by rw [Bool.eq_iff_iff]; simp [PyData.eqv]]; exact k)
theorem eqD_bl_bl (k : Q (.bl ((a == b))) H) : rEqD K (.bl a) (.bl b) H Q := w_eqR (Rep.bl (n := 0)) (Rep.bl (n := 0)) (by decide) (by decide) (by rw [show PyData.eqv (.bool a) (.bool b) = (a == b) from by simp [PyData.eqv]]; exact k)
theorem neD_bl_bl (k : Q (.bl (!(a == b))) H) : rNeD K (.bl a) (.bl b) H Q := w_neR (Rep.bl (n := 0)) (Rep.bl (n := 0)) (by decide) (by decide) (by rw [show PyData.eqv (.bool a) (.bool b) = (a == b) from by simp [PyData.eqv]]; exact k)
theorem eqD_non_int (k : Q (.bl false) H) : rEqD K (.non) (.int j) H Q := w_eqR (Rep.non (n := 0)) (Rep.int (n := 0)) (by decide) (by decide) (by rw [show PyData.eqv (.none) (.int j) = false from by simp [PyData.eqv]]; exact k)
theorem neD_non_int (k : Q (.bl true) H) : rNeD K (.non) (.int j) H Q := w_neR (Rep.non (n := 0)) (Rep.int (n := 0)) (by decide) (by decide) (by rw [show PyData.eqv (.none) (.int j) = false from by simp [PyData.eqv]]; exact k)
theorem eqD_int_non (k : Q (.bl false) H) : rEqD K (.int i) (.non) H Q := w_eqR (Rep.int (n := 0)) (Rep.non (n := 0)) (by decide) (by decide) (by rw [show PyData.eqv (.int i) (.none) = false from by simp [PyData.eqv]]; exact k)
theorem neD_int_non (k : Q (.bl true) H) : rNeD K (.int i) (.non) H Q := w_neR (Rep.int (n := 0)) (Rep.non (n := 0)) (by decide) (by decide) (by rw [show PyData.eqv (.int i) (.none) = false from by simp [PyData.eqv]]; exact k)
theorem eqD_non_bl (k : Q (.bl false) H) : rEqD K (.non) (.bl b) H Q := w_eqR (Rep.non (n := 0)) (Rep.bl (n := 0)) (by decide) (by decide) (by rw [show PyData.eqv (.none) (.bool b) = false from by simp [PyData.eqv]]; exact k)
theorem neD_non_bl (k : Q (.bl true) H) : rNeD K (.non) (.bl b) H Q := w_neR (Rep.non (n := 0)) (Rep.bl (n := 0)) (by decide) (by decide) (by rw [show PyData.eqv (.none) (.bool b) = false from by simp [PyData.eqv]]; exact k)
theorem eqD_bl_non (k : Q (.bl false) H) : rEqD K (.bl a) (.non) H Q := w_eqR (Rep.bl (n := 0)) (Rep.non (n := 0)) (by decide) (by decide) (by rw [show PyData.eqv (.bool a) (.none) = false from by simp [PyData.eqv]]; exact k)
theorem neD_bl_non (k : Q (.bl true) H) : rNeD K (.bl a) (.non) H Q := w_neR (Rep.bl (n := 0)) (Rep.non (n := 0)) (by decide) (by decide) (by rw [show PyData.eqv (.bool a) (.none) = false from by simp [PyData.eqv]]; exact k)
end
section
variable {K : PySem.W.Frag} {H : Hp} {Q : VK} {a : Addr} {i : Int} {b : Bool} {z : Str}
theorem w_isN0 (k : Q (.bl true) H) : rIsNA .non .non H Q := ⟨rfl, by rw [decide_eq_true rfl]; exact k⟩
theorem w_isNr (k : Q (.bl false) H) : rIsNA (.ref a) .non H Q := ⟨rfl, by rw [decide_eq_false (by intro z; cases z)]; exact k⟩
theorem w_isNi (k : Q (.bl false) H) : rIsNA (.int i) .non H Q := ⟨rfl, by rw [decide_eq_false (by intro z; cases z)]; exact k⟩
theorem w_isNb (k : Q (.bl false) H) : rIsNA (.bl b) .non H Q := ⟨rfl, by rw [decide_eq_false (by intro z; cases z)]; exact k⟩
theorem w_isNs (k : Q (.bl false) H) : rIsNA (.str z) .non H Q := ⟨rfl, by rw [decide_eq_false (by intro z; cases z)]; exact k⟩
theorem w_noN0 (k : Q (.bl false) H) : rNotNA .non .non H Q := ⟨rfl, by rw [decide_eq_true rfl]; exact k⟩
theorem w_noNr (k : Q (.bl true) H) : rNotNA (.ref a) .non H Q := ⟨rfl, by rw [decide_eq_false (by intro z; cases z)]; exact k⟩
theorem w_noNi (k : Q (.bl true) H) : rNotNA (.int i) .non H Q := ⟨rfl, by rw [decide_eq_false (by intro z; cases z)]; exact k⟩
theorem w_noNs (k : Q (.bl true) H) : rNotNA (.str z) .non H Q := ⟨rfl, by rw [decide_eq_false (by intro z; cases z)]; exact k⟩
end
/-! ### dicts -/
section
variable {K : PySem.W.Frag} {σ : TSt} {H : Hp} {Q : VK} {td ty tv : TE} {a : Addr} {kvs ks ls : List (Key × V)} {i j : Int} {v x y : V} {nx bk ct : TSt → Hp → Prop} {rt : VK} {z : Str} {xs : List V} {X : Cx}
theorem putK_le {κ : Type} [DecidableEq κ] {c : List (κ × V)} {k : κ} {x : V} : (putK c k x).length ≤ c.length + 1 := by
  unfold putK
  split <;> simp
def rDG (x y : V) (H : Hp) (Q : VK) : Prop := ∃ a v, x = .ref a ∧ DGet H a y (some v) ∧ Q v H
def rDI (x y : V) (H : Hp) (Q : VK) : Prop := ∃ a o, x = .ref a ∧ DGet H a y o ∧ Q (.bl o.isSome) H
def rDN (x y : V) (H : Hp) (Q : VK) : Prop := ∃ a o, x = .ref a ∧ DGet H a y o ∧ Q (.bl (!o.isSome)) H
def rDO (a : Addr) (z y : V) (H : Hp) (Q : VK) : Prop := ∃ o, DGet H a y o ∧ Q (o.getD z) H
def rD1 (ty : TE) (σ : TSt) (Q : VK) (x : V) (H : Hp) : Prop := ∃ a, x = .ref a ∧ IsD H a ∧ ty σ H fun y H2 => rDO a .non y H2 Q
def rD2 (ty tv : TE) (σ : TSt) (Q : VK) (x : V) (H : Hp) : Prop := ∃ a, x = .ref a ∧ IsD H a ∧ ty σ H fun y H2 => tv σ H2 fun z H3 => rDO a z y H3 Q
def rDP (v x y : V) (R : Hp → Prop) (H : Hp) : Prop := ∃ a H4, x = .ref a ∧ DPut H a y v H4 ∧ R H4
def rDCopy : List V → Hp → VK → Prop := fun xs H Q => ∃ (a : Addr) (kvs : List (Key × V)), xs = [.ref a] ∧ Rd H a (.dK kvs) ∧ ∀ p, H p = none → Q (.ref p) (upd H p (.dK kvs))
theorem c_dict : CallR X (.type "dict") rDCopy := call_dictD
theorem w_dget (k : td σ H fun x H1 => ty σ H1 fun y H2 => rDG x y H2 Q) : tDGet td ty σ H Q := k
theorem w_din (k : ty σ H fun y H1 => td σ H1 fun x H2 => rDI x y H2 Q) : tDIn ty td σ H Q := k
theorem w_dnin (k : ty σ H fun y H1 => td σ H1 fun x H2 => rDN x y H2 Q) : tDNotIn ty td σ H Q := k
theorem w_dget1 (k : td σ H fun x H1 => rD1 ty σ Q x H1) : tDGet1 td ty σ H Q := k
theorem w_dget2 (k : td σ H fun x H1 => rD2 ty tv σ Q x H1) : tDGet2 td ty tv σ H Q := k
theorem w_dputS (k : tv σ H fun v H1 => td σ H1 fun x H2 => ty σ H2 fun y H3 => rDP v x y (fun H4 => nx σ H4) H3) : sDPut td ty tv ⟨nx, rt, bk, ct⟩ σ H := k
theorem w_dnewK (k : ∀ p, H p = none → Q (.ref p) (upd H p (.dK []))) : tDNewK σ H Q := k
theorem isd_of (h : H a = some (.dK kvs)) : IsD H a := .inl ⟨kvs, .inl h⟩
theorem w_d1 (h : H a = some (.dK kvs)) (k : ty σ H fun y H2 => rDO a .non y H2 Q) : rD1 ty σ Q (.ref a) H := ⟨a, rfl, isd_of h, k⟩
theorem w_d2 (h : H a = some (.dK kvs)) (k : ty σ H fun y H2 => tv σ H2 fun z H3 => rDO a z y H3 Q) : rD2 ty tv σ Q (.ref a) H := ⟨a, rfl, isd_of h, k⟩
theorem w_dg (h : H a = some (.dK kvs)) (e : valV kvs (.inl i) = some v) (k : Q v H) : rDG (.ref a) (.int i) H Q := ⟨a, v, rfl, by rw [← e]; exact DGet.k (k := .inl i) h, k⟩
theorem w_di (h : H a = some (.dK kvs)) (k : Q (.bl (valV kvs (.inl i)).isSome) H) : rDI (.ref a) (.int i) H Q := ⟨a, _, rfl, DGet.k (k := .inl i) h, k⟩
theorem w_dn (h : H a = some (.dK kvs)) (k : Q (.bl (!(valV kvs (.inl i)).isSome)) H) : rDN (.ref a) (.int i) H Q := ⟨a, _, rfl, DGet.k (k := .inl i) h, k⟩
theorem w_do {z : V} (h : H a = some (.dK kvs)) (k : Q ((valV kvs (.inl i)).getD z) H) : rDO a z (.int i) H Q := ⟨_, DGet.k (k := .inl i) h, k⟩
theorem w_dp {R : Hp → Prop} (h : H a = some (.dK kvs)) (hz : kvs.length < sizeLine) (k : R (upd H a (.dK (putK kvs (.inl i) v)))) : rDP v (.ref a) (.int i) R H := ⟨a, _, rfl, .inl ⟨kvs, .inl i, h, rfl, hz, rfl⟩, k⟩
theorem w_dgs (h : H a = some (.dK kvs)) (e : valV kvs (.inr z) = some v) (k : Q v H) : rDG (.ref a) (.str z) H Q := ⟨a, v, rfl, by rw [← e]; exact DGet.k (k := .inr z) h, k⟩
theorem w_dis (h : H a = some (.dK kvs)) (k : Q (.bl (valV kvs (.inr z)).isSome) H) : rDI (.ref a) (.str z) H Q := ⟨a, _, rfl, DGet.k (k := .inr z) h, k⟩
theorem w_dns (h : H a = some (.dK kvs)) (k : Q (.bl (!(valV kvs (.inr z)).isSome)) H) : rDN (.ref a) (.str z) H Q := ⟨a, _, rfl, DGet.k (k := .inr z) h, k⟩
theorem w_dps {R : Hp → Prop} (h : H a = some (.dK kvs)) (hz : kvs.length < sizeLine) (k : R (upd H a (.dK (putK kvs (.inr z) v)))) : rDP v (.ref a) (.str z) R H := ⟨a, _, rfl, .inl ⟨kvs, .inr z, h, rfl, hz, rfl⟩, k⟩
theorem w_dcopy (h : H a = some (.dK kvs)) (k : ∀ p, H p = none → Q (.ref p) (upd H p (.dK kvs))) : rDCopy [.ref a] H Q := ⟨a, kvs, rfl, .inl h, k⟩
/-- t, u, .. = a tuple -/
theorem w_gt {n : Nat} {t : TGs} {R : TSt → Hp → Prop} (h : H a = some (.tup xs)) (hl : xs.length = n) (k : t xs σ H R) : gTup K n t (.ref a) σ H R := ⟨a, xs, rfl, SqT.of h, hl, k⟩
theorem w_gc {t : TG} {u : TGs} {R : TSt → Hp → Prop} (k : t v σ H fun σ' H' => u xs σ' H' R) : gCons t u (v :: xs) σ H R := ⟨v, xs, rfl, k⟩
theorem w_gn {R : TSt → Hp → Prop} (k : R σ H) : gNil [] σ H R := ⟨rfl, k⟩
/-- slices -/
def rPart (Q : Option Int → Hp → Prop) (x : V) (H : Hp) : Prop := ∃ i, x = .int i ∧ Q (some i) H
theorem w_sl {r : V → Option Int → Option Int → Hp → VK → Prop} {tl th : TO} (k : td σ H fun x H1 => tl σ H1 fun l H2 => th σ H2 fun u H3 => r x l u H3 Q) : tSl r td tl th σ H Q := k
theorem w_noPart {R : Option Int → Hp → Prop} (k : R none H) : tNoPart σ H R := k
theorem w_part {R : Option Int → Hp → Prop} (k : td σ H fun x H1 => rPart R x H1) : tPart td σ H R := k
theorem w_partI {R : Option Int → Hp → Prop} (k : R (some i) H) : rPart R (.int i) H := ⟨i, rfl, k⟩
theorem w_slL {lo hi : Option Int} (h : H a = some (.lst xs)) (k : ∀ p, H p = none → Q (.ref p) (upd H p (.lst (cutV xs lo hi)))) : rSlL K (.ref a) lo hi H Q := ⟨a, xs, rfl, SqL.of h, k⟩
theorem w_slA {lo hi : Option Int} (h : H a = some (.tup xs)) (k1 : HT.sIx xs.length 0 lo = 0 ∧ HT.sIx xs.length xs.length hi = xs.length → Q (.ref a) H) (k2 : ¬ (HT.sIx xs.length 0 lo = 0 ∧ HT.sIx xs.length xs.length hi = xs.length) → ∀ p, H p = none → Q (.ref p) (upd H p (.tup (cutV xs lo hi)))) :
    rSlA K (.ref a) lo hi H Q := ⟨a, xs, rfl, SqT.of h, k1, k2⟩
theorem w_isB {b c : Bool} (k : Q (.bl (decide (b = c))) H) : rIsB (.bl b) (.bl c) H Q := ⟨b, c, rfl, rfl, k⟩
/-- == of dicts of the same entries, whatever they hold -/
theorem w_eqDs {b : Addr} (ha : H a = some (.dK kvs)) (hb : H b = some (.dK kvs)) (nd : (kvs.map (·.1)).Nodup) (hv : ∀ p ∈ kvs, ∃ c, p.2 = .ref c) (k : Q (.bl true) H) : rEqV K (.ref a) (.ref b) H Q :=
  ⟨1, by decide, .inr ⟨a, b, kvs, kvs, rfl, rfl, ha, hb, rfl, fun p hp => ⟨p.2, val_nodup nd p hp, .inr (.inl (let ⟨c, e⟩ := hv p hp; ⟨c, e, e⟩))⟩⟩, k⟩
theorem TK.dK {H : Hp} {p : Addr} {o : HO} (n : H p = some (.dK kvs)) : TK H (upd H p o) := fun a xs e => by rw [upd_ne (ne_of e n (by intro z; cases z))]; exact e
end
/-! ### indices -/
theorem atI_mod {α : Type} {xs : List α} {i : Int} {v : α} (h : xs[(i % (xs.length : Int)).toNat]? = some v) : atI xs (i % (xs.length : Int)) = some v := by
  have h1 := (List.getElem?_eq_some_iff.mp h).1
  have h0 : 0 ≤ i % (xs.length : Int) := Int.emod_nonneg _ (by omega)
  have e := atI_nat h
  rwa [Int.toNat_of_nonneg h0] at e
theorem atI_of {α : Type} {xs : List α} {i : Int} {v : α} (h0 : 0 ≤ i) (h : xs[i.toNat]? = some v) : atI xs i = some v := by
  have e := atI_nat h
  rwa [Int.toNat_of_nonneg h0] at e
theorem seq_mod {n : Nat} {i : Int} (h : 0 < n) : seqIndex? (i % (n : Int)) n = some (i % (n : Int)).toNat := by
  have h0 : 0 ≤ i % (n : Int) := Int.emod_nonneg _ (by omega)
  have h1 : i % (n : Int) < n := Int.emod_lt_of_pos _ (by omega)
  exact seqIndex_of h0 h1
theorem ints_mod {xs : List Int} {m : Int} (z : Int) (hm : m = xs.length) (h : 0 < xs.length) : ∃ b, atI (xs.map V.int) (z % m) = some (.int b) ∧ b ∈ xs := by
  subst hm
  have h0 : 0 ≤ z % (xs.length : Int) := Int.emod_nonneg _ (by omega)
  have h1 : z % (xs.length : Int) < xs.length := Int.emod_lt_of_pos _ (by omega)
  have hl : (z % (xs.length : Int)).toNat < xs.length := by omega
  exact ⟨_, atI_of h0 (by rw [List.getElem?_map, List.getElem?_eq_getElem hl]; rfl), List.getElem_mem hl⟩
theorem get_map {α β : Type} {f : α → β} {xs : List α} {i : Nat} {y : β} (h : (xs.map f)[i]? = some y) : ∃ x, xs[i]? = some x ∧ y = f x := by
  rw [List.getElem?_map] at h
  cases e : xs[i]? with
  | none => rw [e] at h; cases h
  | some x => rw [e] at h; exact ⟨x, rfl, (Option.some.inj h).symm⟩
theorem get_some {α : Type} {xs : List α} {i : Nat} (h : i < xs.length) : ∃ x, xs[i]? = some x := ⟨xs[i], List.getElem?_eq_getElem h⟩
theorem take_next {α : Type} {xs : List α} {i : Nat} {x : α} (h : xs[i]? = some x) : xs.take (i + 1) = xs.take i ++ [x] := by
  obtain ⟨hl, e⟩ := List.getElem?_eq_some_iff.mp h
  rw [List.take_add_one, h]; rfl
/-- all but what M names is as it was -/
def Kept (M : Addr → Prop) (H H' : Hp) : Prop := ∀ b o, H b = some o → ¬ M b → H' b = some o
theorem _root_.L2.Same.kept {M : Addr → Prop} {H H' : Hp} (h : Same H H') : Kept M H H' := fun b o e _ => h b o e
theorem Kept.trans {M : Addr → Prop} {H H1 H2 : Hp} (h : Kept M H H1) (k : Kept M H1 H2) : Kept M H H2 := fun b o e n => k b o (h b o e n) n
theorem same_new {H : Hp} {p : Addr} {o : HO} (h : H p = none) : Same H (upd H p o) := fun b u e => by rw [upd_ne (ne_of_none e h)]; exact e
theorem _root_.L2.Same.upd_new {H H' : Hp} {p : Addr} {o : HO} (s : Same H H') (h : H p = none) : Same H (upd H' p o) := fun b u e => by rw [upd_ne (ne_of_none e h)]; exact s b u e
theorem kept_upd {M : Addr → Prop} {H : Hp} {p : Addr} {o : HO} (h : M p) : Kept M H (upd H p o) := fun b u e n => by rw [upd_ne (fun q => n (by rw [q]; exact h))]; exact e
/-! ### the end: what a def lets out depends on the world -/
theorem noX {w : World} {P : Program} (H : Hp) (s : Shared) (e : Value) (s' : Shared) (h : L2.CX P w [] H s (fun _ _ _ => False) e s') : False := by
  obtain ⟨_, _, _, _, _, _, _, _, _, _, _, _, z⟩ := h
  exact z
theorem walk_ofW {l : PySem.W.OpenLaw} {n k : Nat} {q : Program} {loose : List Str} {XP : (Str → Option Value) → Heap → Prop} {YP : World → Heap → Prop} {d : DefRec} {x : Str}
    (hn : l.most = some n) (hn2 : n ≤ sizeLine) (hdf : d.params.defaults = []) (hr : Room k callerA)
    (F : ∀ (w : World) (mg : Str → Option Value) (fa : Addr) (h : Heap), YP w h → h.Ns mainGlobals mg → mg d.name = some (.ref fa) →
      ∃ (K : PySem.W.Frag) (fd : FuncData) (sp : Sp), K.In h ∧ (∀ (s : Shared) (u : Value), BindsTo s fd ⟨[u], []⟩ [(x, u)]) ∧
        (∀ (H : Hp) (a : Addr) (ns : List Int), ns.length ≤ n → Only H → SqL K H a (ns.map V.int) → sp [.ref a] H (fun v _ => v = .bl true) fun _ _ _ => False) ∧
        ∀ base : Heap, K.In base → base.Ns mainGlobals mg → FnOk l.prog w K mg base (L2.CX l.prog w) k fa fd [x] sp) :
    PySem.W.WalkO q loose XP YP l.row.toRowW d [] (fun f vs => PySem.call f vs) := by
  refine Att.attach_call hn hdf fun w s₀ s₁ mg mb fa o pm cd doc a vs ns G Y ho hd hcd hmg hobj hints hlen hg => ?_
  obtain ⟨K, fd, sp, KX, hb, hsp, hF⟩ := F w mg fa _ Y G.T.g hmg
  exact law_call KX G.T.g G.T.b G.T.builtins G.T.nolimit hg hobj hints (Nat.le_trans hlen hn2) hr hF hb (fun H hO hS => hsp H a ns hlen hO hS) fun H e s' h => noX H s₁ e s' h
end Sp

set_option Elab.async false
set_option linter.all false
set_option maxRecDepth 100000
set_option maxHeartbeats 2000000
namespace K39
open PySem PySem.Spec PyProof.Rows L2 Sp
def top (i : Nat) : Stmt := PySem.Challenge.pw_spindlegate_k39_sessions.main.body.getD i (.Pass ⟨0, 0, 0, 0⟩)
abbrev s__law_next : Stmt := top 6
def d__law_next : He.DefD := ⟨("_law_next", none), "_law_next", "_law_next", defArgs s__law_next, defBody s__law_next, defScope s__law_next, [], []⟩
abbrev s_Sessions___init__ : Stmt := inClass (top 4) 0
def d_Sessions___init__ : He.DefD := ⟨("Sessions", some "__init__"), "__init__", "Sessions.__init__", defArgs s_Sessions___init__, defBody s_Sessions___init__, defScope s_Sessions___init__, [], []⟩
abbrev s_Sessions_is_open : Stmt := inClass (top 4) 2
def d_Sessions_is_open : He.DefD := ⟨("Sessions", some "is_open"), "is_open", "Sessions.is_open", defArgs s_Sessions_is_open, defBody s_Sessions_is_open, defScope s_Sessions_is_open, [], []⟩
abbrev s_Sessions_mark_of : Stmt := inClass (top 4) 1
def d_Sessions_mark_of : He.DefD := ⟨("Sessions", some "mark_of"), "mark_of", "Sessions.mark_of", defArgs s_Sessions_mark_of, defBody s_Sessions_mark_of, defScope s_Sessions_mark_of, [], []⟩
abbrev s_Sessions_next_told : Stmt := inClass (top 4) 4
def d_Sessions_next_told : He.DefD := ⟨("Sessions", some "next_told"), "next_told", "Sessions.next_told", defArgs s_Sessions_next_told, defBody s_Sessions_next_told, defScope s_Sessions_next_told, [], []⟩
abbrev s__law_told : Stmt := top 7
def d__law_told : He.DefD := ⟨("_law_told", none), "_law_told", "_law_told", defArgs s__law_told, defBody s__law_told, defScope s__law_told, [], []⟩
abbrev s__law_shows : Stmt := top 12
def d__law_shows : He.DefD := ⟨("_law_shows", none), "_law_shows", "_law_shows", defArgs s__law_shows, defBody s__law_shows, defScope s__law_shows, [], []⟩
abbrev s__law_connecting : Stmt := top 8
def d__law_connecting : He.DefD := ⟨("_law_connecting", none), "_law_connecting", "_law_connecting", defArgs s__law_connecting, defBody s__law_connecting, defScope s__law_connecting, [], []⟩
abbrev s_Sessions_connecting : Stmt := inClass (top 4) 3
def d_Sessions_connecting : He.DefD := ⟨("Sessions", some "connecting"), "connecting", "Sessions.connecting", defArgs s_Sessions_connecting, defBody s_Sessions_connecting, defScope s_Sessions_connecting, [], []⟩
abbrev s_Sessions_kind_of : Stmt := inClass (top 4) 6
def d_Sessions_kind_of : He.DefD := ⟨("Sessions", some "kind_of"), "kind_of", "Sessions.kind_of", defArgs s_Sessions_kind_of, defBody s_Sessions_kind_of, defScope s_Sessions_kind_of, [], []⟩
abbrev s__law_kind : Stmt := top 9
def d__law_kind : He.DefD := ⟨("_law_kind", none), "_law_kind", "_law_kind", defArgs s__law_kind, defBody s__law_kind, defScope s__law_kind, [], []⟩
abbrev s_Sessions_kept_answer : Stmt := inClass (top 4) 7
def d_Sessions_kept_answer : He.DefD := ⟨("Sessions", some "kept_answer"), "kept_answer", "Sessions.kept_answer", defArgs s_Sessions_kept_answer, defBody s_Sessions_kept_answer, defScope s_Sessions_kept_answer, [], []⟩
abbrev s__law_kept : Stmt := top 13
def d__law_kept : He.DefD := ⟨("_law_kept", none), "_law_kept", "_law_kept", defArgs s__law_kept, defBody s__law_kept, defScope s__law_kept, [], []⟩
abbrev s_Sessions_begin : Stmt := inClass (top 4) 5
def d_Sessions_begin : He.DefD := ⟨("Sessions", some "begin"), "begin", "Sessions.begin", defArgs s_Sessions_begin, defBody s_Sessions_begin, defScope s_Sessions_begin, [], []⟩
abbrev s__law_begin : Stmt := top 10
def d__law_begin : He.DefD := ⟨("_law_begin", none), "_law_begin", "_law_begin", defArgs s__law_begin, defBody s__law_begin, defScope s__law_begin, [], []⟩
abbrev s_Sessions_keep : Stmt := inClass (top 4) 8
def d_Sessions_keep : He.DefD := ⟨("Sessions", some "keep"), "keep", "Sessions.keep", defArgs s_Sessions_keep, defBody s_Sessions_keep, defScope s_Sessions_keep, [], []⟩
abbrev s__law_keep : Stmt := top 11
def d__law_keep : He.DefD := ⟨("_law_keep", none), "_law_keep", "_law_keep", defArgs s__law_keep, defBody s__law_keep, defScope s__law_keep, [], []⟩
abbrev s__law_deed : Stmt := top 14
def d__law_deed : He.DefD := ⟨("_law_deed", none), "_law_deed", "_law_deed", defArgs s__law_deed, defBody s__law_deed, defScope s__law_deed, [], []⟩
abbrev s_law : Stmt := top 15
def d_law : He.DefD := ⟨("law", none), "law", "law", defArgs s_law, defBody s_law, defScope s_law, [], []⟩
theorem sc__law_next : FnScope ["_law_tape", "_law_many", "_law_rest", "_law_cell"] ["_law_tape", "_law_many"] (defScope s__law_next) := ⟨rfl, rfl, rfl, by decide +kernel, rfl, by decide +kernel, by decide +kernel⟩
theorem sc_Sessions___init__ : FnScope ["self", "marks"] ["self", "marks"] (defScope s_Sessions___init__) := ⟨rfl, rfl, rfl, by decide +kernel, rfl, by decide +kernel, by decide +kernel⟩
theorem sc_Sessions_is_open : FnScope ["self", "host"] ["self", "host"] (defScope s_Sessions_is_open) := ⟨rfl, rfl, rfl, by decide +kernel, rfl, by decide +kernel, by decide +kernel⟩
theorem sc_Sessions_mark_of : FnScope ["self", "host"] ["self", "host"] (defScope s_Sessions_mark_of) := ⟨rfl, rfl, rfl, by decide +kernel, rfl, by decide +kernel, by decide +kernel⟩
theorem sc_Sessions_next_told : FnScope ["self", "host", "mark"] ["self", "host"] (defScope s_Sessions_next_told) := ⟨rfl, rfl, rfl, by decide +kernel, rfl, by decide +kernel, by decide +kernel⟩
theorem sc__law_told : FnScope ["_law_marks", "_law_host", "_law_mark"] ["_law_marks", "_law_host"] (defScope s__law_told) := ⟨rfl, rfl, rfl, by decide +kernel, rfl, by decide +kernel, by decide +kernel⟩
theorem sc__law_shows : FnScope ["_law_sessions", "_law_marks", "_law_opened", "_law_host", "_law_opening"] ["_law_sessions", "_law_marks", "_law_opened"] (defScope s__law_shows) := ⟨rfl, rfl, rfl, by decide +kernel, rfl, by decide +kernel, by decide +kernel⟩
theorem sc__law_connecting : FnScope ["_law_marks", "_law_host", "_law_number"] ["_law_marks", "_law_host", "_law_number"] (defScope s__law_connecting) := ⟨rfl, rfl, rfl, by decide +kernel, rfl, by decide +kernel, by decide +kernel⟩
theorem sc_Sessions_connecting : FnScope ["self", "host", "number", "mark"] ["self", "host", "number"] (defScope s_Sessions_connecting) := ⟨rfl, rfl, rfl, by decide +kernel, rfl, by decide +kernel, by decide +kernel⟩
theorem sc_Sessions_kind_of : FnScope ["self", "host", "session", "counter", "present", "last", "_"] ["self", "host", "session", "counter"] (defScope s_Sessions_kind_of) := ⟨rfl, rfl, rfl, by decide +kernel, rfl, by decide +kernel, by decide +kernel⟩
theorem sc__law_kind : FnScope ["_law_marks", "_law_opened", "_law_host", "_law_session", "_law_counter", "_law_mark"] ["_law_marks", "_law_opened", "_law_host", "_law_session", "_law_counter"] (defScope s__law_kind) := ⟨rfl, rfl, rfl, by decide +kernel, rfl, by decide +kernel, by decide +kernel⟩
theorem sc_Sessions_kept_answer : FnScope ["self", "host", "session", "counter", "mark"] ["self", "host", "session", "counter"] (defScope s_Sessions_kept_answer) := ⟨rfl, rfl, rfl, by decide +kernel, rfl, by decide +kernel, by decide +kernel⟩
theorem sc__law_kept : FnScope ["_law_marks", "_law_opened", "_law_host", "_law_session", "_law_counter"] ["_law_marks", "_law_opened", "_law_host", "_law_session", "_law_counter"] (defScope s__law_kept) := ⟨rfl, rfl, rfl, by decide +kernel, rfl, by decide +kernel, by decide +kernel⟩
theorem sc_Sessions_begin : FnScope ["self", "host", "number", "told"] ["self", "host", "number"] (defScope s_Sessions_begin) := ⟨rfl, rfl, rfl, by decide +kernel, rfl, by decide +kernel, by decide +kernel⟩
theorem sc__law_begin : FnScope ["_law_sessions", "_law_host", "_law_number", "error"] ["_law_sessions", "_law_host", "_law_number"] (defScope s__law_begin) := ⟨rfl, rfl, rfl, by decide +kernel, rfl, by decide +kernel, by decide +kernel⟩
theorem sc_Sessions_keep : FnScope ["self", "host", "answer", "session", "counter", "_", "told"] ["self", "host", "answer"] (defScope s_Sessions_keep) := ⟨rfl, rfl, rfl, by decide +kernel, rfl, by decide +kernel, by decide +kernel⟩
theorem sc__law_keep : FnScope ["_law_sessions", "_law_host", "_law_answer", "error"] ["_law_sessions", "_law_host", "_law_answer"] (defScope s__law_keep) := ⟨rfl, rfl, rfl, by decide +kernel, rfl, by decide +kernel, by decide +kernel⟩
theorem sc__law_deed : FnScope ["_law_sessions", "_law_marks", "_law_opened", "_law_tape", "_law_host", "_law_mark", "_law_number", "_law_counter", "_law_word", "_law_told_here", "_law_got", "_law_answer"] ["_law_sessions", "_law_marks", "_law_opened", "_law_tape"] (defScope s__law_deed) := ⟨rfl, rfl, rfl, by decide +kernel, rfl, by decide +kernel, by decide +kernel⟩
theorem sc_law : FnScope ["_law_script", "_law_tape", "_law_marks", "_law_host", "_law_told_here", "_law_counter", "_law_answer", "_law_passed", "_law_sessions", "_law_kept_here", "_law_opened", "_law_turn"] ["_law_script"] (defScope s_law) := ⟨rfl, rfl, rfl, by decide +kernel, rfl, by decide +kernel, by decide +kernel⟩
def fn : List He.DefD := [d__law_next, d_Sessions___init__, d_Sessions_is_open, d_Sessions_mark_of, d_Sessions_next_told, d__law_told, d__law_shows, d__law_connecting, d_Sessions_connecting, d_Sessions_kind_of, d__law_kind, d_Sessions_kept_answer, d__law_kept, d_Sessions_begin, d__law_begin, d_Sessions_keep, d__law_keep, d__law_deed, d_law]
def fa : List He.Fa := [.free "len", .free "abs", .free "int", .free "dict", .cls "Sessions", .meth "Sessions" "mark_of", .free "range", .meth "Sessions" "is_open", .free "isinstance", .free "bool", .meth "Sessions" "next_told", .glo "_law_told", .meth "Sessions" "connecting", .exc "NotValid", .glo "NotValid", .exc "SpindleError", .meth "Sessions" "begin", .glo "SpindleError", .meth "Sessions" "keep", .glo "_law_next", .free "max", .glo "_law_connecting", .meth "Sessions" "kind_of", .glo "_law_kind", .meth "Sessions" "kept_answer", .glo "_law_kept", .glo "_law_begin", .glo "_law_keep", .free "list", .mkr "Sessions", .glo "Sessions", .glo "_law_shows", .glo "_law_deed", .exm "NotValid" "SpindleError" true, .noat "Sessions" "marks", .noat "Sessions" "opened", .glo "law"]
def ts : List He.Tab := []
def exs : List (PySem.W.Frag → Bool) := [excB "NotValid", kitB2 "NotValid" "NotValid" true]
def exA (K : PySem.W.Frag) : Bool := exs.all fun f => f K
local macro_rules | `(tactic| walk_at "hp") => `(tactic| first
  | assumption
  | exact upd_same
  | (with_reducible refine' at_new ?n1 ?h1); (case n1 => assumption); (case h1 => walk_at "hp")
  | (with_reducible refine' at_ne ?n1 ?h1); (case n1 => walk_at "ne"); (case h1 => walk_at "hp"))
local macro_rules | `(tactic| walk_at "ne") => `(tactic| first
  | assumption
  | (exact Ne.symm (by assumption))
  | (exact ne_of_none (by assumption) (by assumption))
  | (exact Ne.symm (ne_of_none (by assumption) (by assumption)))
  | (exact ne_of (by assumption) (by assumption) (by intro z; cases z)))
local macro_rules | `(tactic| walk_at "lk") => `(tactic| first | rfl | assumption | (simp; done))
local macro_rules | `(tactic| walk_at "w1") => `(tactic| first
  | ((with_reducible refine' w_var ?h1 ?_); (case h1 => exact rfl))
  | (with_reducible refine' w_c ?_)
  | (with_reducible refine' w_op ?_)
  | (with_reducible refine' w_I0 ?_)
  | ((with_reducible refine' w_I ?h1 ?_); (case h1 => first | assumption | (show (0 : Int) < _; omega) | (exact ⟨by omega, by omega⟩) | (exact Or.inr ⟨by omega, by omega⟩) | (exact Or.inl ⟨by omega, by omega⟩) | (exact ⟨by omega, by omega, by decide⟩)))
  | (with_reducible refine' w_seq ?_)
  | (with_reducible refine' w_asg ?_)
  | (with_reducible refine' w_name ?_)
  | (with_reducible refine' w_cons ?_)
  | (with_reducible refine' w_nil ?_)
  | (with_reducible refine' w_test ?_)
  | (with_reducible refine' w_bl ?_)
  | (with_reducible refine' w_if ?_)
  | (with_reducible refine' w_ret ?_)
  | (with_reducible refine' w_next ?_)
  | (with_reducible refine' w_drop ?_)
  | (with_reducible refine' w_brk ?_)
  | (with_reducible refine' w_cont ?_)
  | (with_reducible refine' w_B ?_)
  | (with_reducible refine' w_and ?_)
  | (with_reducible refine' w_or ?_)
  | (with_reducible refine' w_not ?_)
  | (with_reducible refine' w_iteT ?_)
  | (with_reducible refine' w_iteF ?_)
  | (with_reducible refine' w_eqI ?_)
  | (with_reducible refine' w_neI ?_)
  | (with_reducible refine' w_eqB ?_)
  | (with_reducible refine' w_neB ?_)
  | (with_reducible refine' w_andV ?_)
  | (with_reducible refine' w_orV ?_)
  | (with_reducible refine' w_notV ?_)
  | (with_reducible refine' w_ifE ?_)
  | (with_reducible refine' w_un ?_)
  | (with_reducible refine' w_chain ?_)
  | (with_reducible refine' w_augS ?_)
  | (with_reducible refine' w_ipAdd ?_)
  | (with_reducible refine' w_ipSub ?_)
  | (with_reducible refine' w_gsub ?_)
  | (with_reducible refine' w_fldaug ?_)
  | (with_reducible refine' w_lc ?_)
  | (with_reducible refine' w_yes ?_)
  | ((with_reducible refine' w_wipe ?h1 ?_); (case h1 => exact rfl))
  | ((with_reducible refine' w_put ?h1 ?h2 ?_); (case h1 => walk_at "hp"); (case h2 => walk_at "sz"))
  | ((with_reducible refine' w_fa ?h1 ?h2 ?h3 ?h4 ?_); (case h1 => walk_at "hp"); (case h2 => walk_at "cls"); (case h3 => walk_at "cls"); (case h4 => walk_at "lk"))
  | ((with_reducible refine' w_rep ?h1 ?h2 ?h3 ?h4 ?_); (case h1 => walk_at "hp"); (case h2 => omega); (case h3 => omega); (case h4 => walk_at "sz"))
  | (with_reducible refine' w_U ?_)
  | (with_reducible refine' w_CB ?_)
  | (with_reducible refine' w_BM ?_)
  | (with_reducible refine' w_BM0 ?_)
  | (with_reducible refine' w_call ?_)
  | (with_reducible refine' w_callS ?_)
  | (with_reducible refine' w_dget ?_)
  | (with_reducible refine' w_din ?_)
  | (with_reducible refine' w_dnin ?_)
  | (with_reducible refine' w_dget1 ?_)
  | (with_reducible refine' w_dget2 ?_)
  | (with_reducible refine' w_dputS ?_)
  | (with_reducible refine' w_dnewK ?_)
  | (with_reducible refine' w_sl ?_)
  | (with_reducible refine' w_noPart ?_)
  | (with_reducible refine' w_part ?_)
  | (with_reducible refine' w_partI ?_)
  | (with_reducible refine' w_isB ?_)
  | (with_reducible refine' w_gc ?_)
  | (with_reducible refine' w_gn ?_)
  | ((with_reducible refine' w_gt ?h1 ?h2 ?_); (case h1 => walk_at "hp"); (case h2 => rfl))
  | ((with_reducible refine' w_d1 ?h1 ?_); (case h1 => walk_at "hp"))
  | ((with_reducible refine' w_d2 ?h1 ?_); (case h1 => walk_at "hp"))
  | ((with_reducible refine' w_di ?h1 ?_); (case h1 => walk_at "hp"))
  | ((with_reducible refine' w_dn ?h1 ?_); (case h1 => walk_at "hp"))
  | ((with_reducible refine' w_do ?h1 ?_); (case h1 => walk_at "hp"))
  | ((with_reducible refine' w_dg ?h1 ?h2 ?_); (case h1 => walk_at "hp"); (case h2 => assumption))
  | ((with_reducible refine' w_dp ?h1 ?h2 ?_); (case h1 => walk_at "hp"); (case h2 => walk_at "sz"))
  | ((with_reducible refine' w_dcopy ?h1 ?_); (case h1 => walk_at "hp"))
  | ((with_reducible refine' w_slL ?h1 ?_); (case h1 => walk_at "hp"))
  | (with_reducible refine' w_meth ?_)
  | (with_reducible refine' w_methX ?_)
  | (with_reducible refine' w_make ?_)
  | (with_reducible refine' w_fld ?_)
  | (with_reducible refine' w_sfld ?_)
  | (with_reducible refine' w_retN ?_)
  | (with_reducible refine' w_for ?_)
  | (with_reducible refine' w_iList ?_)
  | (with_reducible refine' w_iRng1 ?_)
  | ((with_reducible refine' w_tup ?_))
  | ((with_reducible refine' w_lst ?_))
  | ((with_reducible refine' w_f ?h1 ?h2 ?h3 ?h4 ?_); (case h1 => walk_at "hp"); (case h2 => walk_at "cls"); (case h3 => walk_at "cls"); (case h4 => walk_at "lk"))
  | ((with_reducible refine' w_sf ?h1 ?h2 ?h3 ?h4 ?_); (case h1 => walk_at "hp"); (case h2 => walk_at "cls"); (case h3 => walk_at "cls"); (case h4 => walk_at "ln"))
  | ((with_reducible refine' w_m ?h1 ?h2 ?_); (case h1 => walk_at "hp"); (case h2 => walk_at "lk"))
  | ((with_reducible refine' w_BMl ?h1 ?_); (case h1 => walk_at "hp"))
  | ((with_reducible refine' w_append ?h1 ?h2 ?_); (case h1 => walk_at "hp"); (case h2 => walk_at "sz"))
  | ((with_reducible refine' w_ixL ?h1 ?h2 ?_); (case h1 => walk_at "hp"); (case h2 => walk_at "lk"))
  | ((with_reducible refine' w_ixT ?h1 ?h2 ?_); (case h1 => walk_at "hp"); (case h2 => walk_at "lk"))
  | ((with_reducible refine' w_iaL ?h1 ?h2 ?_); (case h1 => walk_at "hp"); (case h2 => walk_at "lk"))
  | ((with_reducible refine' w_iaT ?h1 ?h2 ?_); (case h1 => walk_at "hp"); (case h2 => walk_at "lk"))
  | ((with_reducible refine' w_lenL ?h1 ?_); (case h1 => walk_at "hp"))
  | ((with_reducible refine' w_lenK ?h1 ?_); (case h1 => assumption))
  | ((with_reducible refine' w_lenT ?h1 ?_); (case h1 => walk_at "hp"))
  | (with_reducible refine' w_tru ?_)
  | ((with_reducible refine' w_truL ?h1 ?_); (case h1 => walk_at "hp"))
  | (with_reducible refine' w_truB ?_)
  | (with_reducible refine' w_int ?_)
  | (with_reducible refine' w_intB ?_)
  | (with_reducible refine' w_abs ?_)
  | (with_reducible refine' w_min2 ?_)
  | (with_reducible refine' w_max2 ?_)
  | (with_reducible refine' eqD_non_non ?_)
  | (with_reducible refine' eqD_int_int ?_)
  | (with_reducible refine' eqD_bl_bl ?_)
  | (with_reducible refine' eqD_non_int ?_)
  | (with_reducible refine' eqD_int_non ?_)
  | (with_reducible refine' eqD_non_bl ?_)
  | (with_reducible refine' eqD_bl_non ?_)
  | (with_reducible refine' neD_non_non ?_)
  | (with_reducible refine' neD_int_int ?_)
  | (with_reducible refine' neD_bl_bl ?_)
  | (with_reducible refine' neD_non_int ?_)
  | (with_reducible refine' neD_int_non ?_)
  | (with_reducible refine' neD_non_bl ?_)
  | (with_reducible refine' neD_bl_non ?_)
  | (with_reducible refine' w_isN0 ?_)
  | (with_reducible refine' w_isNr ?_)
  | (with_reducible refine' w_isNi ?_)
  | (with_reducible refine' w_isNb ?_)
  | (with_reducible refine' w_isNs ?_)
  | (with_reducible refine' w_noN0 ?_)
  | (with_reducible refine' w_noNr ?_)
  | (with_reducible refine' w_noNi ?_)
  | (with_reducible refine' w_noNs ?_)
  | (with_reducible refine' w_isN ?_)
  | (with_reducible refine' w_notN ?_)
  | (with_reducible refine' w_eqS ?_)
  | (with_reducible refine' w_neS ?_)
  | (with_reducible refine' w_iteNT ?_)
  | (with_reducible refine' w_iteNF ?_)
  | (with_reducible refine' w_iteNNT ?_)
  | (with_reducible refine' w_iteNNF ?_)
  | (with_reducible refine' w_iRng2 ?_)
  | (with_reducible refine' w_iTup ?_)
  | ((with_reducible refine' w_newT ?h1 ?_); (case h1 => walk_at "sz"))
  | ((with_reducible refine' w_newL ?h1 ?_); (case h1 => walk_at "sz"))
  | ((with_reducible refine' w_rng1 ?h1 ?h2 ?_); (case h1 => omega); (case h2 => omega))
  | ((with_reducible refine' w_itL ?h1 ?_); (case h1 => walk_at "hp"))
  | ((with_reducible refine' w_itK ?h1 ?_); (case h1 => assumption))
  | ((with_reducible refine' w_itT ?h1 ?_); (case h1 => walk_at "hp")))
local macro_rules | `(tactic| walk_at "ln") => `(tactic| first | decide | (refine putF_lt ?_; walk_at "ln") | (walk_at "lk"))
local macro_rules | `(tactic| walk_at "sz") => `(tactic| first
  | (exact le_line (by first | decide | (simp; done) | (simp; omega) | omega))
  | (exact lt_line (by first | decide | (simp; done) | (simp; omega) | omega)))
local macro_rules | `(tactic| walk_at "if") => `(tactic| first
  | ((with_reducible refine' w_ifT (decide_eq_true ?h1) ?_); (case h1 => first | assumption | omega))
  | ((with_reducible refine' w_ifF (decide_eq_false ?h1) ?_); (case h1 => first | assumption | omega))
  | (with_reducible refine' w_ite ?_ ?_)
  | (with_reducible refine' w_iteN ?_ ?_)
  | (with_reducible refine' w_iteNB ?_ ?_)
  | (with_reducible refine' w_iteB ?_ ?_))
local macro_rules | `(tactic| walk_at "w0") => `(tactic| (dsimp only [cxOf]))
local macro_rules | `(tactic| walk_at "w") => `(tactic| repeat (first | (walk_at "w1") | (with_reducible show rIsi _ _ _ _; walk_at "isi")))
local macro_rules | `(tactic| walk_at "isi") => `(tactic| first
  | (with_reducible refine' isi_non_int ?_)
  | (with_reducible refine' isi_non_bool ?_)
  | (with_reducible refine' isi_non_str ?_)
  | (with_reducible refine' isi_non_tuple ?_)
  | (with_reducible refine' isi_non_list ?_)
  | (with_reducible refine' isi_non_dict ?_)
  | (with_reducible refine' isi_bl_int ?_)
  | (with_reducible refine' isi_bl_bool ?_)
  | (with_reducible refine' isi_bl_str ?_)
  | (with_reducible refine' isi_bl_tuple ?_)
  | (with_reducible refine' isi_bl_list ?_)
  | (with_reducible refine' isi_bl_dict ?_)
  | (with_reducible refine' isi_int_int ?_)
  | (with_reducible refine' isi_int_bool ?_)
  | (with_reducible refine' isi_int_str ?_)
  | (with_reducible refine' isi_int_tuple ?_)
  | (with_reducible refine' isi_int_list ?_)
  | (with_reducible refine' isi_int_dict ?_)
  | (with_reducible refine' isi_str_int ?_)
  | (with_reducible refine' isi_str_bool ?_)
  | (with_reducible refine' isi_str_str ?_)
  | (with_reducible refine' isi_str_tuple ?_)
  | (with_reducible refine' isi_str_list ?_)
  | (with_reducible refine' isi_str_dict ?_)
  | ((with_reducible refine' isi_lst_int ?h1 ?_); (case h1 => walk_at "hp"))
  | ((with_reducible refine' isi_lst_bool ?h1 ?_); (case h1 => walk_at "hp"))
  | ((with_reducible refine' isi_lst_str ?h1 ?_); (case h1 => walk_at "hp"))
  | ((with_reducible refine' isi_lst_tuple ?h1 ?_); (case h1 => walk_at "hp"))
  | ((with_reducible refine' isi_lst_list ?h1 ?_); (case h1 => walk_at "hp"))
  | ((with_reducible refine' isi_lst_dict ?h1 ?_); (case h1 => walk_at "hp"))
  | ((with_reducible refine' isi_tup_int ?h1 ?_); (case h1 => walk_at "hp"))
  | ((with_reducible refine' isi_tup_bool ?h1 ?_); (case h1 => walk_at "hp"))
  | ((with_reducible refine' isi_tup_str ?h1 ?_); (case h1 => walk_at "hp"))
  | ((with_reducible refine' isi_tup_tuple ?h1 ?_); (case h1 => walk_at "hp"))
  | ((with_reducible refine' isi_tup_list ?h1 ?_); (case h1 => walk_at "hp"))
  | ((with_reducible refine' isi_tup_dict ?h1 ?_); (case h1 => walk_at "hp"))
  | ((with_reducible refine' isi_dK_int ?h1 ?_); (case h1 => walk_at "hp"))
  | ((with_reducible refine' isi_dK_bool ?h1 ?_); (case h1 => walk_at "hp"))
  | ((with_reducible refine' isi_dK_str ?h1 ?_); (case h1 => walk_at "hp"))
  | ((with_reducible refine' isi_dK_tuple ?h1 ?_); (case h1 => walk_at "hp"))
  | ((with_reducible refine' isi_dK_list ?h1 ?_); (case h1 => walk_at "hp"))
  | ((with_reducible refine' isi_dK_dict ?h1 ?_); (case h1 => walk_at "hp"))
  | ((with_reducible refine' isi_dT_int ?h1 ?_); (case h1 => walk_at "hp"))
  | ((with_reducible refine' isi_dT_bool ?h1 ?_); (case h1 => walk_at "hp"))
  | ((with_reducible refine' isi_dT_str ?h1 ?_); (case h1 => walk_at "hp"))
  | ((with_reducible refine' isi_dT_tuple ?h1 ?_); (case h1 => walk_at "hp"))
  | ((with_reducible refine' isi_dT_list ?h1 ?_); (case h1 => walk_at "hp"))
  | ((with_reducible refine' isi_dT_dict ?h1 ?_); (case h1 => walk_at "hp")))

local macro_rules | `(tactic| walk_at "cls") => `(tactic| first | (exact Tx.cls (fa := fa) (fn := fn) (ts := ts) (exs := exs) (by assumption) 4) | (exact Tx.noat (fa := fa) (fn := fn) (ts := ts) (exs := exs) (by assumption) 34) | (exact Tx.noat (fa := fa) (fn := fn) (ts := ts) (exs := exs) (by assumption) 35))
section
variable {P : Program} {w : World} {K : PySem.W.Frag} {mg : Str → Option Value} {base : Heap}
/-! the tape of draws, drawn as it goes -/
structure Tp (H : Hp) (tp l : Addr) (ns : List Int) : Prop where
  at_ : ∃ i r s : Int, H tp = some (.lst [.ref l, .int i, .int r, .int s]) ∧ 0 ≤ i ∧ 0 ≤ r ∧ 0 ≤ s ∧ s < 2147483647
  src : H l = some (.lst (ns.map V.int))
  ne : l ≠ tp
theorem Tp.keep {H H' : Hp} {tp l : Addr} {ns : List Int} (T : Tp H tp l ns) (k : ∀ b o, b = tp ∨ b = l → H b = some o → H' b = some o) : Tp H' tp l ns :=
  ⟨let ⟨i, r, s, h, z⟩ := T.at_; ⟨i, r, s, k _ _ (.inl rfl) h, z⟩, k _ _ (.inr rfl) T.src, T.ne⟩
theorem Tp.same {H H' : Hp} {tp l : Addr} {ns : List Int} (T : Tp H tp l ns) (k : Same H H') : Tp H' tp l ns := T.keep fun b o _ e => k b o e
/-- all but the tape is as it was -/
def But (tp : Addr) (H H' : Hp) : Prop := ∀ b o, H b = some o → b ≠ tp → H' b = some o
theorem But.same {tp : Addr} {H H' : Hp} (s : Same H H') : But tp H H' := fun b o e _ => s b o e
theorem But.trans {tp : Addr} {H H1 H' : Hp} (s : But tp H H1) (k : But tp H1 H') : But tp H H' := fun b o e n => k b o (s b o e n) n
theorem But.upd {tp : Addr} {H : Hp} {o : HO} : But tp H (upd H tp o) := fun b u e n => at_ne n e
def sp__law_next (K : PySem.W.Frag) : Sp := fun vs H Q _ => ∃ (tp l : Addr) (ns : List Int) (m : Int), vs = [.ref tp, .int m] ∧ Tp H tp l ns ∧ (0 < m ∧ m < 1073741824) ∧ ∀ H' v, 0 ≤ v → v < m → Tp H' tp l ns → But tp H H' → Q (.int v) H'
theorem at_ints {ns : List Int} {k : Int} (h0 : 0 ≤ k) (h : k < (ns.length : Int)) : atI (ns.map V.int) k = some (.int (ns.getD k.toNat 0)) := by
  refine atI_of h0 ?_
  have hl : k.toNat < ns.length := by omega
  rw [List.getElem?_map, List.getElem?_eq_getElem hl, List.getD_eq_getElem?_getD, List.getElem?_eq_getElem hl]; rfl
theorem ok__law_next (T : Tx fa fn ts exs w K mg) : Okd P w K mg base ("_law_next", none) 1 ["_law_tape", "_law_many"] (sp__law_next K) := by
  refine okd (k := 0) T 0 rfl sc__law_next (fun _ _ _ _ _ _ us hl => match us, hl with | [_, _], _ => rfl) (fun vs H Q E h => ?_) (fun f cdv A outer s H vs Q E hr h => ?_)
  · obtain ⟨tp, l, ns, m, rfl, ⟨⟨i, r, s, hp, hi, hrr, hs0, hs1⟩, hl, ne⟩, ⟨hm, hmz⟩, hQ⟩ := h
    rfl
  · obtain ⟨tp, l, ns, m, rfl, ⟨⟨i, r, s, hp, hi, hrr, hs0, hs1⟩, hl, ne⟩, ⟨hm, hmz⟩, hQ⟩ := h
    have hu := hu_of hr
    refine ⟨_, (pss_cons (ps_set (i := 2) sc__law_next.nd rfl (Or.inl rfl) (pe_ix ix_list (pv 0) pe_int (fun _ _ => rfl)))
      (pss_cons (ps_if (pt_cmpR op_eq (pv 2) pe_int (nomark _)) (pss_cons (ps_set (i := 3) sc__law_next.nd rfl (Or.inl rfl) pe_int)
      (pss_cons (ps_if (pt_cmpR op_lt (pe_ix ix_list (pv 0) pe_int (fun _ _ => rfl)) (pe_callB c_len (by rfl) (T.free 0) PySem.boot_len (pa_cons (pe_ix ix_list (pv 0) pe_int (fun _ _ => rfl)) pa_nil)) (nomark _)) (pss_cons (ps_set (i := 3) sc__law_next.nd rfl (Or.inl rfl) (pe_callB c_abs (by rfl) (T.free 1) (by decide +kernel) (pa_cons (pe_callTy c_int (by rfl) (T.free 2) (by decide +kernel) (pa_cons (pe_ix ix_seq (pe_ix ix_list (pv 0) pe_int (fun _ _ => rfl)) (pe_ix ix_list (pv 0) pe_int (fun _ _ => rfl)) (fun _ _ => rfl)) pa_nil)) pa_nil)))
      (pss_one (ps_asg (pe_op op_add (pe_ix ix_list (pv 0) pe_int (fun _ _ => rfl)) pe_int) (pg_sub (pv 0) pe_int set_list)))) pss_nil)
      (pss_cons (ps_set (i := 2) sc__law_next.nd rfl (Or.inl rfl) (pv 3))
      (pss_one (ps_if (pt_cmpR op_lt (pv 3) (pe_op op_pow pe_int pe_int) (nomark _)) (pss_cons (ps_asg (pe_op op_mod (pe_callTy c_int (by rfl) (T.free 2) (by decide +kernel) (pa_cons (pe_op op_add (pe_op op_add (pe_op op_mul (pe_ix ix_list (pv 0) pe_int (fun _ _ => rfl)) pe_int) (pe_op op_mul (pv 3) pe_int)) pe_int) pa_nil)) pe_int) (pg_sub (pv 0) pe_int set_list))
      (pss_one (ps_ret (pe_op op_mod (pe_op op_mod (pe_callTy c_int (by rfl) (T.free 2) (by decide +kernel) (pa_cons (pe_op op_mul (pe_op op_fdiv (pe_ix ix_list (pv 0) pe_int (fun _ _ => rfl)) pe_int) pe_int) pa_nil)) pe_int) (pv 1))))) pss_nil))))) pss_nil)
      (pss_cons (ps_asg (pe_op op_fdiv (pv 2) (pv 1)) (pg_sub (pv 0) pe_int set_list))
      (pss_one (ps_ret (pe_op op_mod (pe_callTy c_int (by rfl) (T.free 2) (by decide +kernel) (pa_cons (pv 2) pa_nil)) (pv 1))))))), ?_⟩
    refine w_start (σ' := [some _, some _, none, none]) rfl ?_
    have fin : ∀ {i' r' s' v : Int}, 0 ≤ i' → 0 ≤ r' → 0 ≤ s' → s' < 2147483647 → 0 ≤ v → v < m → Q (.int v) (upd H tp (.lst [.ref l, .int i', .int r', .int s'])) := fun h1 h2 h3 h4 h5 h6 =>
      hQ _ _ h5 h6 ⟨⟨_, _, _, upd_same, h1, h2, h3, h4⟩, at_ne ne hl, ne⟩ But.upd
    walk_at "w0"
    walk_at "w"
    walk_at "if"
    · rintro rfl
      walk_at "w"
      rw [List.length_map]
      walk_at "if"
      · intro hc
        walk_at "w"
        refine w_iaL hl (at_ints hi hc) ?_
        walk_at "w"
        generalize hv : (if ns.getD i.toNat 0 < 0 then -ns.getD i.toNat 0 else ns.getD i.toNat 0) = v
        have hv0 : 0 ≤ v := by rw [← hv]; split <;> omega
        clear hv
        refine w_setL hp (j := 1) rfl ?_
        walk_at "w"
        walk_at "if"
        · intro hc
          walk_at "w"
          refine w_setL upd_same (j := 3) rfl ?_
          walk_at "w"
          simp only [upd_upd]
          exact fin (by omega) (by omega) (by omega) (by omega) (Int.emod_nonneg _ (by omega)) (Int.emod_lt_of_pos _ hm)
        · intro hc
          walk_at "w"
          refine w_setL upd_same (j := 2) rfl ?_
          walk_at "w"
          simp only [upd_upd]
          exact fin (by omega) (Int.ediv_nonneg hv0 (by omega)) hs0 hs1 (Int.emod_nonneg _ (by omega)) (Int.emod_lt_of_pos _ hm)
      · intro hc
        walk_at "w"
        refine w_ifT (decide_eq_true (by decide)) ?_
        walk_at "w"
        refine w_setL hp (j := 3) rfl ?_
        walk_at "w"
        exact fin hi (by omega) (by omega) (by omega) (Int.emod_nonneg _ (by omega)) (Int.emod_lt_of_pos _ hm)
    · intro hne
      walk_at "w"
      refine w_setL hp (j := 2) rfl ?_
      walk_at "w"
      exact fin hi (Int.ediv_nonneg hrr (by omega)) hs0 hs1 (Int.emod_nonneg _ (by omega)) (Int.emod_lt_of_pos _ hm)
/-! ## marks -/
structure Mk3 where
  s : Int
  c : Int
  da : PyData
  dt : PyData
abbrev NV (K : PySem.W.Frag) : Addr := He.ga K "NotValid"
abbrev CS (K : PySem.W.Frag) : Addr := He.ga K "Sessions"
/-- what stands for a mark -/
def RepM (H : Hp) (o : Option V) (m : Option Mk3) : Prop := (o = none ∧ m = none) ∨ ∃ (k : Mk3) (t : Addr) (an td : V), o = some (.ref t) ∧ m = some k ∧ H t = some (.tup [.int k.s, .int k.c, an, td]) ∧ Im H an k.da ∧ Im H td k.dt ∧ k.da.depth ≤ 1 ∧ k.dt.depth ≤ 2
theorem RepM.mono {H H' : Hp} {o : Option V} {m : Option Mk3} (k : TK H H') (h : RepM H o m) : RepM H' o m := by
  rcases h with h | ⟨x, t, an, td, e1, e2, e3, e4, e5, e6⟩
  · exact .inl h
  · exact .inr ⟨x, t, an, td, e1, e2, k _ _ e3, e4.mono k, e5.mono k, e6⟩
structure DS (H : Hp) (dm dn : Addr) (M : Int → Option Mk3) (O : Int → Bool) (n : Nat) : Prop where
  ex : ∃ kvs kos, H dm = some (.dK kvs) ∧ H dn = some (.dK kos) ∧ (∀ k, RepM H (valV kvs (.inl k)) (M k)) ∧ (∀ k, valV kos (.inl k) = if O k then some (.bl true) else none) ∧ kvs.length ≤ n ∧ kos.length ≤ n
  op : ∀ k, O k = true → (M k).isSome = true
  ne : dm ≠ dn
theorem DS.keep {H H' : Hp} {dm dn : Addr} {M : Int → Option Mk3} {O : Int → Bool} {n : Nat} (D : DS H dm dn M O n) (tk : TK H H') (k1 : ∀ o, H dm = some o → H' dm = some o) (k2 : ∀ o, H dn = some o → H' dn = some o) : DS H' dm dn M O n :=
  ⟨let ⟨kvs, kos, h1, h2, h3, h⟩ := D.ex; ⟨kvs, kos, k1 _ h1, k2 _ h2, fun k => (h3 k).mono tk, h⟩, D.op, D.ne⟩
theorem DS.same {H H' : Hp} {dm dn : Addr} {M : Int → Option Mk3} {O : Int → Bool} {n : Nat} (D : DS H dm dn M O n) (s : Same H H') : DS H' dm dn M O n := D.keep s.tk (fun o => s _ o) fun o => s _ o
theorem DS.more {H : Hp} {dm dn : Addr} {M : Int → Option Mk3} {O : Int → Bool} {n m : Nat} (D : DS H dm dn M O n) (k : n ≤ m) : DS H dm dn M O m :=
  ⟨let ⟨kvs, kos, h1, h2, h3, h4, h5, h6⟩ := D.ex; ⟨kvs, kos, h1, h2, h3, h4, Nat.le_trans h5 k, Nat.le_trans h6 k⟩, D.op, D.ne⟩
def putM (M : Int → Option Mk3) (h : Int) (x : Mk3) : Int → Option Mk3 := fun k => if k = h then some x else M k
def putO (O : Int → Bool) (h : Int) : Int → Bool := fun k => if k = h then true else O k
def conn (m : Option Mk3) (n : Int) : Str := match m with
  | none => "new"
  | some k => if n > k.s then "new" else if n = k.s then "again" else "old"
def toldD (m : Option Mk3) : PyData := match m with
  | none => .none
  | some k => if k.c = 0 then k.dt else .tuple [.int k.s, .int k.c, k.da]
theorem toldD_depth {m : Option Mk3} (h : ∀ k, m = some k → k.da.depth ≤ 1 ∧ k.dt.depth ≤ 2) : (toldD m).depth ≤ 2 := by
  cases m with
  | none => simp [toldD, PyData.depth]
  | some k =>
    obtain ⟨h1, h2⟩ := h k rfl
    unfold toldD
    dsimp only
    split
    · exact h2
    · simp only [PyData.depth, PyData.depthAll]
      omega
def kindF (o : Bool) (m : Option Mk3) (s c : Int) : Str := match o, m with
  | true, some k => if s < k.s ∨ (s = k.s ∧ c < k.c) then "old" else if s > k.s ∨ c > k.c + 1 then "early" else if c = k.c then "again" else "next"
  | _, _ => "lost"
def keptD (o : Bool) (m : Option Mk3) (s c : Int) : PyData := match o, m with
  | true, some k => if c = 0 ∨ k.s ≠ s ∨ k.c ≠ c then .none else k.da
  | _, _ => .none
def f_Sessions (x0 x1 : V) : List (Str × V) := [("marks", x0), ("opened", x1)]
section
variable {x0 x1 y : V}
theorem f_Sessions_b_0_1 : (("marks" : Str) == ("opened" : Str)) = false := by decide +kernel
theorem f_Sessions_n_0_1 : ¬ (("marks" : Str) = ("opened" : Str)) := by decide +kernel
theorem f_Sessions_b_1_0 : (("opened" : Str) == ("marks" : Str)) = false := by decide +kernel
theorem f_Sessions_n_1_0 : ¬ (("opened" : Str) = ("marks" : Str)) := by decide +kernel
theorem f_Sessions_g0 : (f_Sessions x0 x1).lookup ("marks" : Str) = some x0 := by simp [f_Sessions, List.lookup, f_Sessions_b_0_1]
theorem f_Sessions_p0 : putF ("marks" : Str) y (f_Sessions x0 x1) = f_Sessions y x1 := by simp [f_Sessions, putF, f_Sessions_n_1_0]
theorem f_Sessions_g1 : (f_Sessions x0 x1).lookup ("opened" : Str) = some x1 := by simp [f_Sessions, List.lookup, f_Sessions_b_1_0]
theorem f_Sessions_p1 : putF ("opened" : Str) y (f_Sessions x0 x1) = f_Sessions x0 y := by simp [f_Sessions, putF, f_Sessions_n_0_1]
theorem f_Sessions_no {m : Str} (h0 : ¬ m = "marks") (h1 : ¬ m = "opened") : (f_Sessions x0 x1).lookup m = none := by
  have b0 : (m == ("marks" : Str)) = false := by simpa using h0
  have b1 : (m == ("opened" : Str)) = false := by simpa using h1
  simp [f_Sessions, List.lookup, b0, b1]
theorem f_Sessions_mk : (putF ("opened" : Str) x1 (putF ("marks" : Str) x0 [])) = f_Sessions x0 x1 := by simp [f_Sessions, putF, f_Sessions_n_0_1, f_Sessions_n_1_0]
theorem f_Sessions_len : (f_Sessions x0 x1).length = 2 := rfl
end
local macro_rules | `(tactic| walk_at "lk") => `(tactic| first | rfl | assumption | exact f_Sessions_g0 | exact f_Sessions_g1 | exact f_Sessions_no (by decide +kernel) (by decide +kernel) | (rw [f_Sessions_len]; decide))
local macro_rules | `(tactic| walk_at "pf") => `(tactic| simp only [f_Sessions_p0, f_Sessions_p1, f_Sessions_mk])
def sp_Sessions_mark_of (K : PySem.W.Frag) : Sp := fun vs H Q _ => ∃ (p dx dm dn : Addr) (h : Int) (kvs : List (Key × V)), vs = [.ref p, .int h] ∧ H p = some (.ins (CS K) dx (f_Sessions (.ref dm) (.ref dn))) ∧ H dm = some (.dK kvs) ∧ Q ((valV kvs (.inl h)).getD .non) H
theorem ok_Sessions_mark_of (T : Tx fa fn ts exs w K mg) : Okd P w K mg base ("Sessions", some "mark_of") 1 ["self", "host"] (sp_Sessions_mark_of K) := by
  refine okd (k := 0) T 3 rfl sc_Sessions_mark_of (fun _ _ _ _ _ _ us hl => match us, hl with | [_, _], _ => rfl) (fun vs H Q E h => ?_) (fun f cdv A outer s H vs Q E hr h => ?_)
  · obtain ⟨p, dx, dm, dn, h, kvs, rfl, h1, h2, hQ⟩ := h
    rfl
  · obtain ⟨p, dx, dm, dn, h, kvs, rfl, h1, h2, hQ⟩ := h
    have hu := hu_of hr
    refine ⟨_, (pss_one (ps_ret (pe_dget1 hu (pe_fld (pv 0) rfl) (pv 1) ⟨rfl, rfl, rfl, rfl⟩))), ?_⟩
    refine w_start (σ' := [some _, some _]) rfl ?_
    walk_at "w0"
    walk_at "w"
    exact hQ
def sp_Sessions_is_open (K : PySem.W.Frag) : Sp := fun vs H Q _ => ∃ (p dx dm dn : Addr) (h : Int) (kos : List (Key × V)), vs = [.ref p, .int h] ∧ H p = some (.ins (CS K) dx (f_Sessions (.ref dm) (.ref dn))) ∧ H dn = some (.dK kos) ∧ Q (.bl (valV kos (.inl h)).isSome) H
theorem ok_Sessions_is_open (T : Tx fa fn ts exs w K mg) : Okd P w K mg base ("Sessions", some "is_open") 1 ["self", "host"] (sp_Sessions_is_open K) := by
  refine okd (k := 0) T 2 rfl sc_Sessions_is_open (fun _ _ _ _ _ _ us hl => match us, hl with | [_, _], _ => rfl) (fun vs H Q E h => ?_) (fun f cdv A outer s H vs Q E hr h => ?_)
  · obtain ⟨p, dx, dm, dn, h, kos, rfl, h1, h2, hQ⟩ := h
    rfl
  · obtain ⟨p, dx, dm, dn, h, kos, rfl, h1, h2, hQ⟩ := h
    have hu := hu_of hr
    refine ⟨_, (pss_one (ps_ret (pe_cmp (pc_din hu (pv 1) (pe_fld (pv 0) rfl)) rfl))), ?_⟩
    refine w_start (σ' := [some _, some _]) rfl ?_
    walk_at "w0"
    walk_at "w"
    exact hQ
def SesA (K : PySem.W.Frag) (H : Hp) (p dx dm dn : Addr) : Prop := H p = some (.ins (CS K) dx (f_Sessions (.ref dm) (.ref dn)))
def sp_Sessions_connecting (K : PySem.W.Frag) : Sp := fun vs H Q _ => ∃ (p dx dm dn : Addr) (h n : Int) (M : Int → Option Mk3) (O : Int → Bool) (z : Nat), vs = [.ref p, .int h, .int n] ∧ SesA K H p dx dm dn ∧ DS H dm dn M O z ∧ Q (.str (conn (M h) n)) H
theorem ok_Sessions_connecting (T : Tx fa fn ts exs w K mg) : Okd P w K mg base ("Sessions", some "connecting") 2 ["self", "host", "number"] (sp_Sessions_connecting K) := by
  refine okd (k := 1) T 8 rfl sc_Sessions_connecting (fun _ _ _ _ _ _ us hl => match us, hl with | [_, _, _], _ => rfl) (fun vs H Q E h => ?_) (fun f cdv A outer s H vs Q E hr h => ?_)
  · obtain ⟨p, dx, dm, dn, h, n, M, O, z, rfl, h1, D, hQ⟩ := h
    rfl
  · obtain ⟨p, dx, dm, dn, h, n, M, O, z, rfl, h1, D, hQ⟩ := h
    have hu := hu_of hr
    refine ⟨_, (pss_cons (ps_set (i := 3) sc_Sessions_connecting.nd rfl (Or.inl rfl) (pe_methO (pv 0) (T.cls 4) (T.meth 5) (ok_Sessions_mark_of T) (hr.mono (by decide)) (passes_call (takes_of rfl rfl rfl rfl) (fun _ _ _ _ h => h)) (pa_cons (pv 1) pa_nil)))
      (pss_cons (ps_if (PW.pt (pw_or (pt_cmpR o_isN (pv 3) pe_non (nomark _)) (pw_or1 (pt_cmpR op_gt (pv 2) (pe_ix ix_tup (pv 3) pe_int (fun _ _ => rfl)) (nomark _))))) (pss_one (ps_ret pe_str)) pss_nil)
      (pss_cons (ps_if (pt_cmpR (op_eqD hr.units) (pv 2) (pe_ix ix_tup (pv 3) pe_int (fun _ _ => rfl)) (nomark _)) (pss_one (ps_ret pe_str)) pss_nil)
      (pss_one (ps_ret pe_str))))), ?_⟩
    refine w_start (σ' := [some _, some _, some _, none]) rfl ?_
    have h1 : H p = some (.ins (CS K) dx (f_Sessions (.ref dm) (.ref dn))) := h1
    obtain ⟨kvs, kos, h2, h3, hM, hO, _, _⟩ := D.ex
    walk_at "w0"
    walk_at "w"
    refine ⟨p, dx, dm, dn, h, kvs, rfl, h1, h2, ?_⟩
    rcases hM h with ⟨e1, e2⟩ | ⟨k, t, an, td, e1, e2, e3, e4, e5, e6⟩
    · rw [e1]
      rw [e2] at hQ
      dsimp only [Option.getD]
      walk_at "w"
      exact hQ
    · rw [e1]
      rw [e2] at hQ
      dsimp only [Option.getD]
      dsimp only [conn] at hQ
      walk_at "w"
      walk_at "if"
      · intro c1
        rw [if_pos c1] at hQ
        walk_at "w"
        exact hQ
      · intro c1
        rw [if_neg c1] at hQ
        walk_at "w"
        walk_at "if"
        · intro c2
          rw [if_pos c2] at hQ
          walk_at "w"
          exact hQ
        · intro c2
          rw [if_neg c2] at hQ
          walk_at "w"
          exact hQ
def sp_Sessions_next_told (K : PySem.W.Frag) : Sp := fun vs H Q _ => ∃ (p dx dm dn : Addr) (h : Int) (M : Int → Option Mk3) (O : Int → Bool) (z : Nat), vs = [.ref p, .int h] ∧ SesA K H p dx dm dn ∧ DS H dm dn M O z ∧ ∀ H' v, Same H H' → Im H' v (toldD (M h)) → Q v H'
theorem ok_Sessions_next_told (T : Tx fa fn ts exs w K mg) : Okd P w K mg base ("Sessions", some "next_told") 2 ["self", "host"] (sp_Sessions_next_told K) := by
  refine okd (k := 1) T 4 rfl sc_Sessions_next_told (fun _ _ _ _ _ _ us hl => match us, hl with | [_, _], _ => rfl) (fun vs H Q E h => ?_) (fun f cdv A outer s H vs Q E hr h => ?_)
  · obtain ⟨p, dx, dm, dn, h, M, O, z, rfl, h1, D, hQ⟩ := h
    rfl
  · obtain ⟨p, dx, dm, dn, h, M, O, z, rfl, h1, D, hQ⟩ := h
    have hu := hu_of hr
    refine ⟨_, (pss_cons (ps_set (i := 2) sc_Sessions_next_told.nd rfl (Or.inl rfl) (pe_methO (pv 0) (T.cls 4) (T.meth 5) (ok_Sessions_mark_of T) (hr.mono (by decide)) (passes_call (takes_of rfl rfl rfl rfl) (fun _ _ _ _ h => h)) (pa_cons (pv 1) pa_nil)))
      (pss_cons (ps_if (pt_cmpR o_isN (pv 2) pe_non (nomark _)) (pss_one (ps_ret pe_non)) pss_nil)
      (pss_cons (ps_if (pt_cmpR (op_eqD hr.units) (pe_ix ix_tup (pv 2) pe_int (fun _ _ => rfl)) pe_int (nomark _)) (pss_one (ps_ret (pe_ix ix_tup (pv 2) pe_int (fun _ _ => rfl)))) pss_nil)
      (pss_one (ps_ret (pe_tup (pa_cons (pe_ix ix_tup (pv 2) pe_int (fun _ _ => rfl)) (pa_cons (pe_ix ix_tup (pv 2) pe_int (fun _ _ => rfl)) (pa_cons (pe_ix ix_tup (pv 2) pe_int (fun _ _ => rfl)) pa_nil))))))))), ?_⟩
    refine w_start (σ' := [some _, some _, none]) rfl ?_
    have h1 : H p = some (.ins (CS K) dx (f_Sessions (.ref dm) (.ref dn))) := h1
    obtain ⟨kvs, kos, h2, h3, hM, hO, _, _⟩ := D.ex
    walk_at "w0"
    walk_at "w"
    refine ⟨p, dx, dm, dn, h, kvs, rfl, h1, h2, ?_⟩
    rcases hM h with ⟨e1, e2⟩ | ⟨k, t, an, td, e1, e2, e3, e4, e5, e6⟩
    · rw [e1]
      rw [e2] at hQ
      dsimp only [Option.getD]
      walk_at "w"
      exact hQ _ _ (fun _ _ e => e) .non
    · rw [e1]
      rw [e2] at hQ
      dsimp only [Option.getD]
      dsimp only [toldD] at hQ
      walk_at "w"
      walk_at "if"
      · intro c1
        rw [if_pos c1] at hQ
        walk_at "w"
        exact hQ _ _ (fun _ _ e => e) e5
      · intro c1
        rw [if_neg c1] at hQ
        walk_at "w"
        intro q nq
        exact hQ _ _ (same_new nq) (.tup upd_same (.cons (.int _) (.cons (.int _) (.cons (e4.mono (tk_new nq)) .nil))))
def sp_Sessions_kind_of (K : PySem.W.Frag) : Sp := fun vs H Q _ => ∃ (p dx dm dn : Addr) (h s c : Int) (M : Int → Option Mk3) (O : Int → Bool) (z : Nat), vs = [.ref p, .int h, .int s, .int c] ∧ SesA K H p dx dm dn ∧ DS H dm dn M O z ∧ Q (.str (kindF (O h) (M h) s c)) H
theorem ok_Sessions_kind_of (T : Tx fa fn ts exs w K mg) : Okd P w K mg base ("Sessions", some "kind_of") 2 ["self", "host", "session", "counter"] (sp_Sessions_kind_of K) := by
  refine okd (k := 1) T 9 rfl sc_Sessions_kind_of (fun _ _ _ _ _ _ us hl => match us, hl with | [_, _, _, _], _ => rfl) (fun vs H Q E h => ?_) (fun f cdv A outer s H vs Q E hr h => ?_)
  · obtain ⟨p, dx, dm, dn, h, s, c, M, O, z, rfl, h1, D, hQ⟩ := h
    rfl
  · obtain ⟨p, dx, dm, dn, h, s, c, M, O, z, rfl, h1, D, hQ⟩ := h
    have hu := hu_of hr
    refine ⟨_, (pss_cons (ps_if (pt_not (pt_val (pe_methO (pv 0) (T.cls 4) (T.meth 7) (ok_Sessions_is_open T) (hr.mono (by decide)) (passes_call (takes_of rfl rfl rfl rfl) (fun _ _ _ _ h => h)) (pa_cons (pv 1) pa_nil)))) (pss_one (ps_ret pe_str)) pss_nil)
      (pss_cons (ps_asg (pe_methO (pv 0) (T.cls 4) (T.meth 5) (ok_Sessions_mark_of T) (hr.mono (by decide)) (passes_call (takes_of rfl rfl rfl rfl) (fun _ _ _ _ h => h)) (pa_cons (pv 1) pa_nil)) (pg_tup rfl (pgs_cons (pg_name (i := 4) sc_Sessions_kind_of.nd rfl (Or.inl rfl)) (pgs_cons (pg_name (i := 5) sc_Sessions_kind_of.nd rfl (Or.inl rfl)) (pgs_cons (pg_name (i := 6) sc_Sessions_kind_of.nd rfl (Or.inl rfl)) (pgs_cons (pg_name (i := 6) sc_Sessions_kind_of.nd rfl (Or.inl rfl)) pgs_nil))))))
      (pss_cons (ps_if (PW.pt (pw_or (pt_cmpR op_lt (pv 2) (pv 4) (nomark _)) (pw_or1 (PW.pt (pw_and (pt_cmpR op_eq (pv 2) (pv 4) (nomark _)) (pw_and1 (pt_cmpR op_lt (pv 3) (pv 5) (nomark _)))))))) (pss_one (ps_ret pe_str)) pss_nil)
      (pss_cons (ps_if (PW.pt (pw_or (pt_cmpR op_gt (pv 2) (pv 4) (nomark _)) (pw_or1 (pt_cmpR op_gt (pv 3) (pe_op op_add (pv 5) pe_int) (nomark _))))) (pss_one (ps_ret pe_str)) pss_nil)
      (pss_cons (ps_if (pt_cmpR op_eq (pv 3) (pv 5) (nomark _)) (pss_one (ps_ret pe_str)) pss_nil)
      (pss_one (ps_ret pe_str))))))), ?_⟩
    refine w_start (σ' := [some _, some _, some _, some _, none, none, none]) rfl ?_
    have h1 : H p = some (.ins (CS K) dx (f_Sessions (.ref dm) (.ref dn))) := h1
    obtain ⟨kvs, kos, h2, h3, hM, hO, _, _⟩ := D.ex
    walk_at "w0"
    walk_at "w"
    refine ⟨p, dx, dm, dn, h, kos, rfl, h1, h3, ?_⟩
    rw [hO]
    cases ho : O h with
    | false =>
      rw [ho] at hQ
      simp only [Bool.false_eq_true, if_false, Option.isSome_none]
      walk_at "w"
      exact hQ
    | true =>
      rw [ho] at hQ
      simp only [if_true, Option.isSome_some]
      walk_at "w"
      refine ⟨p, dx, dm, dn, h, kvs, rfl, h1, h2, ?_⟩
      rcases hM h with ⟨e1, e2⟩ | ⟨k, t, an, td, e1, e2, e3, e4, e5, e6⟩
      · have := D.op h ho
        rw [e2] at this; cases this
      · rw [e1]
        rw [e2] at hQ
        dsimp only [Option.getD]
        dsimp only [kindF] at hQ
        walk_at "w"
        by_cases c1 : s < k.s
        · rw [if_pos (.inl c1)] at hQ
          walk_at "if"
          walk_at "w"
          exact hQ
        walk_at "if"
        walk_at "w"
        by_cases c2 : s = k.s ∧ c < k.c
        · rw [if_pos (.inr c2)] at hQ
          obtain ⟨c2, c3⟩ := c2
          walk_at "if"
          walk_at "w"
          walk_at "if"
          walk_at "w"
          exact hQ
        rw [if_neg (show ¬ (s < k.s ∨ s = k.s ∧ c < k.c) by omega)] at hQ
        by_cases c3 : s = k.s
        · walk_at "if"
          walk_at "w"
          walk_at "if"
          walk_at "w"
          by_cases c4 : k.s < s ∨ k.c + 1 < c
          · rw [if_pos (show s > k.s ∨ c > k.c + 1 from c4)] at hQ
            by_cases c5 : k.s < s
            · walk_at "if"
              walk_at "w"
              exact hQ
            · walk_at "if"
              walk_at "w"
              walk_at "if"
              walk_at "w"
              exact hQ
          · rw [if_neg (show ¬ (s > k.s ∨ c > k.c + 1) from c4)] at hQ
            walk_at "if"
            walk_at "w"
            walk_at "if"
            walk_at "w"
            walk_at "if"
            · intro c5
              rw [if_pos c5] at hQ
              walk_at "w"
              exact hQ
            · intro c5
              rw [if_neg c5] at hQ
              walk_at "w"
              exact hQ
        · rw [if_pos (show s > k.s ∨ c > k.c + 1 by omega)] at hQ
          walk_at "if"
          walk_at "w"
          walk_at "if"
          walk_at "w"
          exact hQ
def sp_Sessions_kept_answer (K : PySem.W.Frag) : Sp := fun vs H Q _ => ∃ (p dx dm dn : Addr) (h s c : Int) (M : Int → Option Mk3) (O : Int → Bool) (z : Nat), vs = [.ref p, .int h, .int s, .int c] ∧ SesA K H p dx dm dn ∧ DS H dm dn M O z ∧ ∀ v, Im H v (keptD (O h) (M h) s c) → Q v H
theorem ok_Sessions_kept_answer (T : Tx fa fn ts exs w K mg) : Okd P w K mg base ("Sessions", some "kept_answer") 2 ["self", "host", "session", "counter"] (sp_Sessions_kept_answer K) := by
  refine okd (k := 1) T 11 rfl sc_Sessions_kept_answer (fun _ _ _ _ _ _ us hl => match us, hl with | [_, _, _, _], _ => rfl) (fun vs H Q E h => ?_) (fun f cdv A outer s H vs Q E hr h => ?_)
  · obtain ⟨p, dx, dm, dn, h, s, c, M, O, z, rfl, h1, D, hQ⟩ := h
    rfl
  · obtain ⟨p, dx, dm, dn, h, s, c, M, O, z, rfl, h1, D, hQ⟩ := h
    have hu := hu_of hr
    refine ⟨_, (pss_cons (ps_if (PW.pt (pw_or (pt_not (pt_val (pe_methO (pv 0) (T.cls 4) (T.meth 7) (ok_Sessions_is_open T) (hr.mono (by decide)) (passes_call (takes_of rfl rfl rfl rfl) (fun _ _ _ _ h => h)) (pa_cons (pv 1) pa_nil)))) (pw_or1 (pt_cmpR op_eq (pv 3) pe_int (nomark _))))) (pss_one (ps_ret pe_non)) pss_nil)
      (pss_cons (ps_set (i := 4) sc_Sessions_kept_answer.nd rfl (Or.inl rfl) (pe_methO (pv 0) (T.cls 4) (T.meth 5) (ok_Sessions_mark_of T) (hr.mono (by decide)) (passes_call (takes_of rfl rfl rfl rfl) (fun _ _ _ _ h => h)) (pa_cons (pv 1) pa_nil)))
      (pss_cons (ps_if (PW.pt (pw_or (pt_cmpR (op_neD hr.units) (pe_ix ix_tup (pv 4) pe_int (fun _ _ => rfl)) (pv 2) (nomark _)) (pw_or1 (pt_cmpR (op_neD hr.units) (pe_ix ix_tup (pv 4) pe_int (fun _ _ => rfl)) (pv 3) (nomark _))))) (pss_one (ps_ret pe_non)) pss_nil)
      (pss_one (ps_ret (pe_ix ix_tup (pv 4) pe_int (fun _ _ => rfl))))))), ?_⟩
    refine w_start (σ' := [some _, some _, some _, some _, none]) rfl ?_
    have h1 : H p = some (.ins (CS K) dx (f_Sessions (.ref dm) (.ref dn))) := h1
    obtain ⟨kvs, kos, h2, h3, hM, hO, _, _⟩ := D.ex
    walk_at "w0"
    walk_at "w"
    refine ⟨p, dx, dm, dn, h, kos, rfl, h1, h3, ?_⟩
    rw [hO]
    cases ho : O h with
    | false =>
      rw [ho] at hQ
      simp only [Bool.false_eq_true, if_false, Option.isSome_none]
      walk_at "w"
      exact hQ _ .non
    | true =>
      rw [ho] at hQ
      simp only [if_true, Option.isSome_some]
      walk_at "w"
      rcases hM h with ⟨e1, e2⟩ | ⟨k, t, an, td, e1, e2, e3, e4, e5, e6⟩
      · have := D.op h ho
        rw [e2] at this; cases this
      rw [e2] at hQ
      dsimp only [keptD] at hQ
      by_cases c0 : c = 0
      · rw [if_pos (.inl c0)] at hQ
        walk_at "if"
        walk_at "w"
        exact hQ _ .non
      walk_at "if"
      walk_at "w"
      refine ⟨p, dx, dm, dn, h, kvs, rfl, h1, h2, ?_⟩
      rw [e1]
      dsimp only [Option.getD]
      walk_at "w"
      walk_at "if"
      · intro c1
        rw [if_pos (.inr (.inl c1))] at hQ
        walk_at "w"
        exact hQ _ .non
      · intro c1
        walk_at "w"
        walk_at "if"
        · intro c2
          rw [if_pos (.inr (.inr c2))] at hQ
          walk_at "w"
          exact hQ _ .non
        · intro c2
          rw [if_neg (fun z => z.elim c0 fun z => z.elim (fun z => z c1) fun z => z c2)] at hQ
          walk_at "w"
          exact hQ _ e4
theorem putM_at {M : Int → Option Mk3} {h : Int} {x : Mk3} : putM M h x h = some x := by unfold putM; rw [if_pos rfl]
theorem reps_put {H : Hp} {kvs : List (Key × V)} {M : Int → Option Mk3} {h : Int} {v : V} {x : Mk3} (R : ∀ k, RepM H (valV kvs (.inl k)) (M k)) (r : RepM H (some v) (some x)) (k : Int) : RepM H (valV (putK kvs (.inl h) v) (.inl k)) (putM M h x k) := by
  rw [valV_put]
  unfold putM
  by_cases e : k = h
  · subst e
    rw [if_pos rfl, if_pos rfl]; exact r
  · rw [if_neg (fun z => e (Sum.inl.inj z)), if_neg e]; exact R k
theorem opens_put {kos : List (Key × V)} {O : Int → Bool} {h : Int} (R : ∀ k, valV kos (.inl k) = if O k then some (.bl true) else none) (k : Int) : valV (putK kos (.inl h) (.bl true)) (.inl k) = if putO O h k then some (V.bl true) else none := by
  rw [valV_put]
  unfold putO
  by_cases e : k = h
  · subst e
    rw [if_pos rfl, if_pos rfl]; rfl
  · rw [if_neg (fun z => e (Sum.inl.inj z)), if_neg e]; exact R k
/-- the law's and the program's marks move alike -/
structure Mv (H H' : Hp) (dm dn : Addr) : Prop where
  keep : ∀ b o, H b = some o → b ≠ dm → b ≠ dn → H' b = some o
  tk : TK H H'
def sp_Sessions_begin (K : PySem.W.Frag) : Sp := fun vs H Q E => ∃ (p dx dm dn : Addr) (h n : Int) (M : Int → Option Mk3) (O : Int → Bool) (z : Nat), vs = [.ref p, .int h, .int n] ∧ SesA K H p dx dm dn ∧ DS H dm dn M O z ∧ z ≤ 90000 ∧ (conn (M h) n ≠ "new" → E (.ref (NV K)) none H) ∧
  (conn (M h) n = "new" → ∀ H' v, Im H' v (toldD (M h)) → DS H' dm dn (putM M h ⟨n, 0, .none, toldD (M h)⟩) (putO O h) (z + 1) → Mv H H' dm dn → Q v H')
theorem DS.deps {H : Hp} {dm dn : Addr} {M : Int → Option Mk3} {O : Int → Bool} {z : Nat} (D : DS H dm dn M O z) (h : Int) : ∀ k, M h = some k → k.da.depth ≤ 1 ∧ k.dt.depth ≤ 2 := fun k e => by
  obtain ⟨kvs, kos, h2, h3, hM, _⟩ := D.ex
  rcases hM h with ⟨_, e2⟩ | ⟨k', t, an, td, e1, e2, e3, e4, e5, e6, e7⟩
  · rw [e2] at e; cases e
  · rw [e2] at e; cases e; exact ⟨e6, e7⟩
theorem ok_Sessions_begin (T : Tx fa fn ts exs w K mg) : Okd P w K mg base ("Sessions", some "begin") 3 ["self", "host", "number"] (sp_Sessions_begin K) := by
  refine okd (k := 2) T 13 rfl sc_Sessions_begin (fun _ _ _ _ _ _ us hl => match us, hl with | [_, _, _], _ => rfl) (fun vs H Q E h => ?_) (fun f cdv A outer s H vs Q E hr h => ?_)
  · obtain ⟨p, dx, dm, dn, h, n, M, O, z, rfl, h1, D, hz, hE, hQ⟩ := h
    rfl
  · obtain ⟨p, dx, dm, dn, h, n, M, O, z, rfl, h1, D, hz, hE, hQ⟩ := h
    have hu := hu_of hr
    refine ⟨_, (pss_cons (ps_if (pt_cmpR op_ne (pe_methO (pv 0) (T.cls 4) (T.meth 12) (ok_Sessions_connecting T) (hr.mono (by decide)) (passes_call (takes_of rfl rfl rfl rfl) (fun _ _ _ _ h => h)) (pa_cons (pv 1) (pa_cons (pv 2) pa_nil))) pe_str (nomark _)) (pss_one (ps_raise rfl (takes_of rfl rfl rfl rfl) (pmk_own0 PySem.F.excBase_ValueError (T.exc 13) (T.glo 14) rfl))) pss_nil)
      (pss_cons (ps_set (i := 3) sc_Sessions_begin.nd rfl (Or.inl rfl) (pe_methO (pv 0) (T.cls 4) (T.meth 10) (ok_Sessions_next_told T) (hr.mono (by decide)) (passes_call (takes_of rfl rfl rfl rfl) (fun _ _ _ _ h => h)) (pa_cons (pv 1) pa_nil)))
      (pss_cons (ps_dput hu (pe_fld (pv 0) rfl) (pv 1) (pe_tup (pa_cons (pv 2) (pa_cons pe_int (pa_cons pe_non (pa_cons (pv 3) pa_nil))))) rfl)
      (pss_cons (ps_dput hu (pe_fld (pv 0) rfl) (pv 1) pe_bl rfl)
      (pss_one (ps_ret (pv 3))))))), ?_⟩
    refine w_start (σ' := [some _, some _, some _, none]) rfl ?_
    have h1' : H p = some (.ins (CS K) dx (f_Sessions (.ref dm) (.ref dn))) := h1
    walk_at "w0"
    walk_at "w"
    refine ⟨p, dx, dm, dn, h, n, M, O, z, rfl, h1, D, ?_⟩
    walk_at "w"
    walk_at "if"
    · intro c
      walk_at "w"
      exact hE c
    · intro c
      walk_at "w"
      refine ⟨p, dx, dm, dn, h, M, O, z, rfl, h1, D, fun H1 v sm iv => ?_⟩
      have h1'' := sm _ _ h1'
      obtain ⟨kvs, kos, h2, h3, hM, hO, l1, l2⟩ := (D.same sm).ex
      have nm : p ≠ dm := ne_of h1'' h2 (by intro z; cases z)
      have nn : p ≠ dn := ne_of h1'' h3 (by intro z; cases z)
      walk_at "w"
      intro t nt
      have tm : t ≠ dm := Ne.symm (ne_of_none h2 nt)
      have tn : t ≠ dn := Ne.symm (ne_of_none h3 nt)
      have mn := D.ne
      have g1 := at_new (o' := HO.tup [.int n, .int 0, .non, v]) nt h1''
      have g2 := at_new (o' := HO.tup [.int n, .int 0, .non, v]) nt h2
      have g3 := at_new (o' := HO.tup [.int n, .int 0, .non, v]) nt h3
      have z1 : kvs.length < sizeLine := lt_line (by omega)
      have z2 : kos.length < sizeLine := lt_line (by omega)
      walk_at "w"
      have f3 := at_ne (o' := HO.dK (putK kvs (.inl h) (.ref t))) (Ne.symm mn) g3
      have tk : TK H1 (upd (upd (upd H1 t (.tup [.int n, .int 0, .non, v])) dm (.dK (putK kvs (.inl h) (.ref t)))) dn (.dK (putK kos (.inl h) (.bl true)))) := (tk_new nt).trans ((TK.dK g2).trans (TK.dK f3))
      have ht : (upd (upd (upd H1 t (.tup [.int n, .int 0, .non, v])) dm (.dK (putK kvs (.inl h) (.ref t)))) dn (.dK (putK kos (.inl h) (.bl true)))) t = some (.tup [.int n, .int 0, .non, v]) := at_ne tn (at_ne tm upd_same)
      refine hQ c _ v (iv.mono tk) ⟨⟨_, _, at_ne mn upd_same, upd_same, reps_put (fun k => (hM k).mono tk) (.inr ⟨_, t, .non, v, rfl, rfl, ht, .non, iv.mono tk, by simp [PyData.depth], toldD_depth (D.deps h)⟩), opens_put hO, Nat.le_trans putK_le (by omega), Nat.le_trans putK_le (by omega)⟩, fun k hk => ?_, mn⟩ ⟨fun b o e n1 n2 => at_ne n2 (at_ne n1 (at_new nt (sm _ _ e))), sm.tk.trans tk⟩
      unfold putO at hk
      unfold putM
      by_cases e : k = h
      · rw [if_pos e]; rfl
      · rw [if_neg e] at hk ⊢; exact D.op k hk
def keepM (M : Int → Option Mk3) (h : Int) (d : PyData) : Int → Option Mk3 := match M h with
  | none => M
  | some k => putM M h ⟨k.s, k.c + 1, d, k.dt⟩
def sp_Sessions_keep (K : PySem.W.Frag) : Sp := fun vs H Q E => ∃ (p dx dm dn : Addr) (h : Int) (an : V) (d : PyData) (M : Int → Option Mk3) (O : Int → Bool) (z : Nat), vs = [.ref p, .int h, an] ∧ SesA K H p dx dm dn ∧ DS H dm dn M O z ∧ z ≤ 90000 ∧ Im H an d ∧ d.depth ≤ 1 ∧ (O h = false → E (.ref (NV K)) none H) ∧
  (O h = true → ∀ H', DS H' dm dn (keepM M h d) O (z + 1) → Mv H H' dm dn → Q .non H')
theorem ok_Sessions_keep (T : Tx fa fn ts exs w K mg) : Okd P w K mg base ("Sessions", some "keep") 2 ["self", "host", "answer"] (sp_Sessions_keep K) := by
  refine okd (k := 1) T 15 rfl sc_Sessions_keep (fun _ _ _ _ _ _ us hl => match us, hl with | [_, _, _], _ => rfl) (fun vs H Q E h => ?_) (fun f cdv A outer s H vs Q E hr h => ?_)
  · obtain ⟨p, dx, dm, dn, h, an, d, M, O, z, rfl, h1, D, hz, ia, id_, hE, hQ⟩ := h
    rfl
  · obtain ⟨p, dx, dm, dn, h, an, d, M, O, z, rfl, h1, D, hz, ia, id_, hE, hQ⟩ := h
    have hu := hu_of hr
    refine ⟨_, (pss_cons (ps_if (pt_not (pt_val (pe_methO (pv 0) (T.cls 4) (T.meth 7) (ok_Sessions_is_open T) (hr.mono (by decide)) (passes_call (takes_of rfl rfl rfl rfl) (fun _ _ _ _ h => h)) (pa_cons (pv 1) pa_nil)))) (pss_one (ps_raise rfl (takes_of rfl rfl rfl rfl) (pmk_own0 PySem.F.excBase_ValueError (T.exc 13) (T.glo 14) rfl))) pss_nil)
      (pss_cons (ps_asg (pe_methO (pv 0) (T.cls 4) (T.meth 5) (ok_Sessions_mark_of T) (hr.mono (by decide)) (passes_call (takes_of rfl rfl rfl rfl) (fun _ _ _ _ h => h)) (pa_cons (pv 1) pa_nil)) (pg_tup rfl (pgs_cons (pg_name (i := 3) sc_Sessions_keep.nd rfl (Or.inl rfl)) (pgs_cons (pg_name (i := 4) sc_Sessions_keep.nd rfl (Or.inl rfl)) (pgs_cons (pg_name (i := 5) sc_Sessions_keep.nd rfl (Or.inl rfl)) (pgs_cons (pg_name (i := 6) sc_Sessions_keep.nd rfl (Or.inl rfl)) pgs_nil))))))
      (pss_one (ps_dput hu (pe_fld (pv 0) rfl) (pv 1) (pe_tup (pa_cons (pv 3) (pa_cons (pe_op op_add (pv 4) pe_int) (pa_cons (pv 2) (pa_cons (pv 6) pa_nil))))) rfl)))), ?_⟩
    refine w_start (σ' := [some _, some _, some _, none, none, none, none]) rfl ?_
    have h1' : H p = some (.ins (CS K) dx (f_Sessions (.ref dm) (.ref dn))) := h1
    obtain ⟨kvs, kos, h2, h3, hM, hO, l1, l2⟩ := D.ex
    have mn := D.ne
    walk_at "w0"
    walk_at "w"
    refine ⟨p, dx, dm, dn, h, kos, rfl, h1', h3, ?_⟩
    rw [hO]
    cases ho : O h with
    | false =>
      simp only [Bool.false_eq_true, if_false, Option.isSome_none]
      walk_at "w"
      exact hE ho
    | true =>
      simp only [if_true, Option.isSome_some]
      walk_at "w"
      refine ⟨p, dx, dm, dn, h, kvs, rfl, h1', h2, ?_⟩
      rcases hM h with ⟨e1, e2⟩ | ⟨k, t, a0, td, e1, e2, e3, e4, e5, e6, e7⟩
      · have := D.op h ho
        rw [e2] at this; cases this
      rw [e1]
      dsimp only [Option.getD]
      walk_at "w"
      intro u nu
      have g1 := at_new (o' := HO.tup [.int k.s, .int (k.c + 1), an, td]) nu h1'
      have g2 := at_new (o' := HO.tup [.int k.s, .int (k.c + 1), an, td]) nu h2
      have um : u ≠ dm := Ne.symm (ne_of_none h2 nu)
      have z1 : kvs.length < sizeLine := lt_line (by omega)
      walk_at "w"
      have tk : TK H (upd (upd H u (.tup [.int k.s, .int (k.c + 1), an, td])) dm (.dK (putK kvs (.inl h) (.ref u)))) := (tk_new nu).trans (TK.dK g2)
      refine hQ ho _ ⟨⟨_, kos, upd_same, at_ne (Ne.symm mn) (at_new nu h3), ?_, hO, Nat.le_trans putK_le (by omega), by omega⟩, fun j hj => ?_, mn⟩ ⟨fun b o e n1 n2 => at_ne n1 (at_new nu e), tk⟩
      · unfold keepM
        rw [e2]
        exact reps_put (fun k => (hM k).mono tk) (.inr ⟨_, u, an, td, rfl, rfl, at_ne um upd_same, ia.mono tk, e5.mono tk, id_, e7⟩)
      · unfold keepM
        rw [e2]
        dsimp only [putM]
        split
        · rfl
        · exact D.op j hj
local macro_rules | `(tactic| walk_at "caught") => `(tactic| (refine' ⟨true, by assumption, fun _ a ha => ?_, nofun⟩; walk_at "w"; refine' w_isG (by assumption) (by assumption) ?_; walk_at "w"))
def sp_Sessions___init__ (K : PySem.W.Frag) : Sp := fun vs H Q _ => ∃ (p dx d : Addr) (kvs : List (Key × V)), vs = [.ref p, .ref d] ∧ H p = some (.ins (CS K) dx []) ∧ H d = some (.dK kvs) ∧
  ∀ H' dm dn, H dm = none → H dn = none → dm ≠ dn → SesA K H' p dx dm dn → H' dm = some (.dK kvs) → H' dn = some (.dK []) → (∀ b o, H b = some o → b ≠ p → H' b = some o) → Q .non H'
theorem ok_Sessions___init__ (T : Tx fa fn ts exs w K mg) : Okd P w K mg base ("Sessions", some "__init__") 1 ["self", "marks"] (sp_Sessions___init__ K) := by
  refine okd (k := 0) T 1 rfl sc_Sessions___init__ (fun _ _ _ _ _ _ us hl => match us, hl with | [_, _], _ => rfl) (fun vs H Q E h => ?_) (fun f cdv A outer s H vs Q E hr h => ?_)
  · obtain ⟨p, dx, d, kvs, rfl, h1, h2, hQ⟩ := h
    rfl
  · obtain ⟨p, dx, d, kvs, rfl, h1, h2, hQ⟩ := h
    have hu := hu_of hr
    refine ⟨_, (pss_cons (ps_fld (pv 0) (pe_callTy c_dict (by rfl) (T.free 3) (by decide +kernel) (pa_cons (pv 1) pa_nil)) rfl)
      (pss_one (ps_fld (pv 0) pe_dnewK rfl))), ?_⟩
    refine w_start (σ' := [some _, some _]) rfl ?_
    walk_at "w0"
    walk_at "w"
    intro dm n1
    have pm : p ≠ dm := ne_of_none h1 n1
    walk_at "w"
    intro dn n2
    obtain ⟨nm, np, n2'⟩ := none2 n2
    walk_at "w"
    rw [f_Sessions_mk]
    exact hQ _ dm dn n1 n2' (Ne.symm nm) upd_same (at_ne (Ne.symm pm) (at_ne (Ne.symm nm) (at_ne (Ne.symm pm) upd_same))) (at_ne np upd_same) fun b o e n => at_ne n (at_new n2 (at_ne n (at_new n1 e)))
/-! ## the law's own marks -/
def sp__law_told (K : PySem.W.Frag) : Sp := fun vs H Q _ => ∃ (gm gn : Addr) (h : Int) (M : Int → Option Mk3) (O : Int → Bool) (z : Nat), vs = [.ref gm, .int h] ∧ DS H gm gn M O z ∧ ∀ H' v, Same H H' → Im H' v (toldD (M h)) → Q v H'
theorem ok__law_told (T : Tx fa fn ts exs w K mg) : Okd P w K mg base ("_law_told", none) 1 ["_law_marks", "_law_host"] (sp__law_told K) := by
  refine okd (k := 0) T 5 rfl sc__law_told (fun _ _ _ _ _ _ us hl => match us, hl with | [_, _], _ => rfl) (fun vs H Q E h => ?_) (fun f cdv A outer s H vs Q E hr h => ?_)
  · obtain ⟨gm, gn, h, M, O, z, rfl, D, hQ⟩ := h
    rfl
  · obtain ⟨gm, gn, h, M, O, z, rfl, D, hQ⟩ := h
    have hu := hu_of hr
    refine ⟨_, (pss_cons (ps_if (pt_cmp (pc_dnotin hu (pv 1) (pv 0))) (pss_one (ps_ret pe_non)) pss_nil)
      (pss_cons (ps_set (i := 2) sc__law_told.nd rfl (Or.inl rfl) (pe_dget hu (pv 0) (pv 1) (fun _ _ => rfl)))
      (pss_cons (ps_if (pt_cmpR (op_eqD hr.units) (pe_ix ix_tup (pv 2) pe_int (fun _ _ => rfl)) pe_int (nomark _)) (pss_one (ps_ret (pe_ix ix_tup (pv 2) pe_int (fun _ _ => rfl)))) pss_nil)
      (pss_one (ps_ret (pe_tup (pa_cons (pe_ix ix_tup (pv 2) pe_int (fun _ _ => rfl)) (pa_cons (pe_ix ix_tup (pv 2) pe_int (fun _ _ => rfl)) (pa_cons (pe_ix ix_tup (pv 2) pe_int (fun _ _ => rfl)) pa_nil))))))))), ?_⟩
    refine w_start (σ' := [some _, some _, none]) rfl ?_
    obtain ⟨kvs, kos, h2, h3, hM, hO, _, _⟩ := D.ex
    walk_at "w0"
    walk_at "w"
    rcases hM h with ⟨e1, e2⟩ | ⟨k, t, an, td, e1, e2, e3, e4, e5, e6⟩
    · rw [e1]
      rw [e2] at hQ
      dsimp only [Option.isSome]
      walk_at "w"
      exact hQ _ _ (fun _ _ e => e) .non
    · rw [e1]
      rw [e2] at hQ
      dsimp only [Option.isSome]
      dsimp only [toldD] at hQ
      walk_at "w"
      walk_at "if"
      · intro c1
        rw [if_pos c1] at hQ
        walk_at "w"
        exact hQ _ _ (fun _ _ e => e) e5
      · intro c1
        rw [if_neg c1] at hQ
        walk_at "w"
        intro q nq
        exact hQ _ _ (same_new nq) (.tup upd_same (.cons (.int _) (.cons (.int _) (.cons (e4.mono (tk_new nq)) .nil))))
def sp__law_connecting (K : PySem.W.Frag) : Sp := fun vs H Q _ => ∃ (gm gn : Addr) (h n : Int) (M : Int → Option Mk3) (O : Int → Bool) (z : Nat), vs = [.ref gm, .int h, .int n] ∧ DS H gm gn M O z ∧ Q (.str (conn (M h) n)) H
theorem ok__law_connecting (T : Tx fa fn ts exs w K mg) : Okd P w K mg base ("_law_connecting", none) 1 ["_law_marks", "_law_host", "_law_number"] (sp__law_connecting K) := by
  refine okd (k := 0) T 7 rfl sc__law_connecting (fun _ _ _ _ _ _ us hl => match us, hl with | [_, _, _], _ => rfl) (fun vs H Q E h => ?_) (fun f cdv A outer s H vs Q E hr h => ?_)
  · obtain ⟨gm, gn, h, n, M, O, z, rfl, D, hQ⟩ := h
    rfl
  · obtain ⟨gm, gn, h, n, M, O, z, rfl, D, hQ⟩ := h
    have hu := hu_of hr
    refine ⟨_, (pss_cons (ps_if (PW.pt (pw_or (pt_cmp (pc_dnotin hu (pv 1) (pv 0))) (pw_or1 (pt_cmpR op_gt (pv 2) (pe_ix ix_tup (pe_dget hu (pv 0) (pv 1) (fun _ _ => rfl)) pe_int (fun _ _ => rfl)) (nomark _))))) (pss_one (ps_ret pe_str)) pss_nil)
      (pss_cons (ps_if (pt_cmpR (op_eqD hr.units) (pv 2) (pe_ix ix_tup (pe_dget hu (pv 0) (pv 1) (fun _ _ => rfl)) pe_int (fun _ _ => rfl)) (nomark _)) (pss_one (ps_ret pe_str)) pss_nil)
      (pss_one (ps_ret pe_str)))), ?_⟩
    refine w_start (σ' := [some _, some _, some _]) rfl ?_
    obtain ⟨kvs, kos, h2, h3, hM, hO, _, _⟩ := D.ex
    walk_at "w0"
    walk_at "w"
    rcases hM h with ⟨e1, e2⟩ | ⟨k, t, an, td, e1, e2, e3, e4, e5, e6⟩
    · rw [e1]
      rw [e2] at hQ
      dsimp only [Option.isSome]
      walk_at "w"
      exact hQ
    · rw [e1]
      rw [e2] at hQ
      dsimp only [Option.isSome]
      dsimp only [conn] at hQ
      walk_at "w"
      walk_at "if"
      · intro c1
        rw [if_pos c1] at hQ
        walk_at "w"
        exact hQ
      · intro c1
        rw [if_neg c1] at hQ
        walk_at "w"
        walk_at "if"
        · intro c2
          rw [if_pos c2] at hQ
          walk_at "w"
          exact hQ
        · intro c2
          rw [if_neg c2] at hQ
          walk_at "w"
          exact hQ
def sp__law_kind (K : PySem.W.Frag) : Sp := fun vs H Q _ => ∃ (gm gn : Addr) (h s c : Int) (M : Int → Option Mk3) (O : Int → Bool) (z : Nat), vs = [.ref gm, .ref gn, .int h, .int s, .int c] ∧ DS H gm gn M O z ∧ Q (.str (kindF (O h) (M h) s c)) H
theorem ok__law_kind (T : Tx fa fn ts exs w K mg) : Okd P w K mg base ("_law_kind", none) 1 ["_law_marks", "_law_opened", "_law_host", "_law_session", "_law_counter"] (sp__law_kind K) := by
  refine okd (k := 0) T 10 rfl sc__law_kind (fun _ _ _ _ _ _ us hl => match us, hl with | [_, _, _, _, _], _ => rfl) (fun vs H Q E h => ?_) (fun f cdv A outer s H vs Q E hr h => ?_)
  · obtain ⟨gm, gn, h, s, c, M, O, z, rfl, D, hQ⟩ := h
    rfl
  · obtain ⟨gm, gn, h, s, c, M, O, z, rfl, D, hQ⟩ := h
    have hu := hu_of hr
    refine ⟨_, (pss_cons (ps_if (pt_cmp (pc_dnotin hu (pv 2) (pv 1))) (pss_one (ps_ret pe_str)) pss_nil)
      (pss_cons (ps_set (i := 5) sc__law_kind.nd rfl (Or.inl rfl) (pe_dget hu (pv 0) (pv 2) (fun _ _ => rfl)))
      (pss_cons (ps_if (PW.pt (pw_or (pt_cmpR op_lt (pv 3) (pe_ix ix_tup (pv 5) pe_int (fun _ _ => rfl)) (nomark _)) (pw_or1 (PW.pt (pw_and (pt_cmpR (op_eqD hr.units) (pv 3) (pe_ix ix_tup (pv 5) pe_int (fun _ _ => rfl)) (nomark _)) (pw_and1 (pt_cmpR op_lt (pv 4) (pe_ix ix_tup (pv 5) pe_int (fun _ _ => rfl)) (nomark _)))))))) (pss_one (ps_ret pe_str)) pss_nil)
      (pss_cons (ps_if (PW.pt (pw_or (pt_cmpR op_gt (pv 3) (pe_ix ix_tup (pv 5) pe_int (fun _ _ => rfl)) (nomark _)) (pw_or1 (pt_cmpR op_gt (pv 4) (pe_op op_add (pe_ix ix_tup (pv 5) pe_int (fun _ _ => rfl)) pe_int) (nomark _))))) (pss_one (ps_ret pe_str)) pss_nil)
      (pss_cons (ps_if (pt_cmpR (op_eqD hr.units) (pv 4) (pe_ix ix_tup (pv 5) pe_int (fun _ _ => rfl)) (nomark _)) (pss_one (ps_ret pe_str)) pss_nil)
      (pss_one (ps_ret pe_str))))))), ?_⟩
    refine w_start (σ' := [some _, some _, some _, some _, some _, none]) rfl ?_
    obtain ⟨kvs, kos, h2, h3, hM, hO, _, _⟩ := D.ex
    walk_at "w0"
    walk_at "w"
    rw [hO]
    cases ho : O h with
    | false =>
      rw [ho] at hQ
      simp only [Bool.false_eq_true, if_false, Option.isSome_none]
      walk_at "w"
      exact hQ
    | true =>
      rw [ho] at hQ
      simp only [if_true, Option.isSome_some]
      rcases hM h with ⟨e1, e2⟩ | ⟨k, t, an, td, e1, e2, e3, e4, e5, e6⟩
      · have := D.op h ho
        rw [e2] at this; cases this
      · rw [e2] at hQ
        dsimp only [kindF] at hQ
        walk_at "w"
        by_cases c1 : s < k.s
        · rw [if_pos (.inl c1)] at hQ
          walk_at "if"
          walk_at "w"
          exact hQ
        walk_at "if"
        walk_at "w"
        by_cases c2 : s = k.s ∧ c < k.c
        · rw [if_pos (.inr c2)] at hQ
          obtain ⟨c2, c3⟩ := c2
          walk_at "if"
          walk_at "w"
          walk_at "if"
          walk_at "w"
          exact hQ
        rw [if_neg (show ¬ (s < k.s ∨ s = k.s ∧ c < k.c) by omega)] at hQ
        by_cases c3 : s = k.s
        · walk_at "if"
          walk_at "w"
          walk_at "if"
          walk_at "w"
          by_cases c4 : k.s < s ∨ k.c + 1 < c
          · rw [if_pos (show s > k.s ∨ c > k.c + 1 from c4)] at hQ
            by_cases c5 : k.s < s
            · walk_at "if"
              walk_at "w"
              exact hQ
            · walk_at "if"
              walk_at "w"
              walk_at "if"
              walk_at "w"
              exact hQ
          · rw [if_neg (show ¬ (s > k.s ∨ c > k.c + 1) from c4)] at hQ
            walk_at "if"
            walk_at "w"
            walk_at "if"
            walk_at "w"
            walk_at "if"
            · intro c5
              rw [if_pos c5] at hQ
              walk_at "w"
              exact hQ
            · intro c5
              rw [if_neg c5] at hQ
              walk_at "w"
              exact hQ
        · rw [if_pos (show s > k.s ∨ c > k.c + 1 by omega)] at hQ
          walk_at "if"
          walk_at "w"
          walk_at "if"
          walk_at "w"
          exact hQ
def sp__law_kept (K : PySem.W.Frag) : Sp := fun vs H Q _ => ∃ (gm gn : Addr) (h s c : Int) (M : Int → Option Mk3) (O : Int → Bool) (z : Nat), vs = [.ref gm, .ref gn, .int h, .int s, .int c] ∧ DS H gm gn M O z ∧ ∀ H' v, Same H H' → Im H' v (keptD (O h) (M h) s c) → Q v H'
theorem ok__law_kept (T : Tx fa fn ts exs w K mg) : Okd P w K mg base ("_law_kept", none) 1 ["_law_marks", "_law_opened", "_law_host", "_law_session", "_law_counter"] (sp__law_kept K) := by
  refine okd (k := 0) T 12 rfl sc__law_kept (fun _ _ _ _ _ _ us hl => match us, hl with | [_, _, _, _, _], _ => rfl) (fun vs H Q E h => ?_) (fun f cdv A outer s H vs Q E hr h => ?_)
  · obtain ⟨gm, gn, h, s, c, M, O, z, rfl, D, hQ⟩ := h
    rfl
  · obtain ⟨gm, gn, h, s, c, M, O, z, rfl, D, hQ⟩ := h
    have hu := hu_of hr
    refine ⟨_, (pss_cons (ps_if (PW.pt (pw_or (pt_cmp (pc_dnotin hu (pv 2) (pv 1))) (pw_or (pt_cmpR op_eq (pv 4) pe_int (nomark _)) (pw_or1 (pt_cmpR (op_neD hr.units) (pe_slice sl_tupA (pe_dget hu (pv 0) (pv 2) (fun _ _ => rfl)) po_none (po_some pe_int)) (pe_tup (pa_cons (pv 3) (pa_cons (pv 4) pa_nil))) (nomark _)))))) (pss_one (ps_ret pe_non)) pss_nil)
      (pss_one (ps_ret (pe_ix ix_tup (pe_dget hu (pv 0) (pv 2) (fun _ _ => rfl)) pe_int (fun _ _ => rfl))))), ?_⟩
    refine w_start (σ' := [some _, some _, some _, some _, some _]) rfl ?_
    obtain ⟨kvs, kos, h2, h3, hM, hO, _, _⟩ := D.ex
    walk_at "w0"
    walk_at "w"
    rw [hO]
    cases ho : O h with
    | false =>
      rw [ho] at hQ
      simp only [Bool.false_eq_true, if_false, Option.isSome_none]
      walk_at "w"
      exact hQ _ _ (fun _ _ e => e) .non
    | true =>
      rw [ho] at hQ
      simp only [if_true, Option.isSome_some]
      rcases hM h with ⟨e1, e2⟩ | ⟨k, t, an, td, e1, e2, e3, e4, e5, e6⟩
      · have := D.op h ho
        rw [e2] at this; cases this
      rw [e2] at hQ
      dsimp only [keptD] at hQ
      walk_at "w"
      by_cases c0 : c = 0
      · rw [if_pos (.inl c0)] at hQ
        walk_at "if"
        walk_at "w"
        exact hQ _ _ (fun _ _ e => e) .non
      walk_at "if"
      walk_at "w"
      refine w_slA e3 (fun h => absurd h.2 (show ¬ HT.sIx 4 4 (some 2) = 4 by decide)) (fun _ q nq => ?_)
      walk_at "w"
      intro u nu
      have sm : Same H _ := (same_new (o := HO.tup [.int k.s, .int k.c]) nq).trans (same_new (o := HO.tup [.int s, .int c]) nu)
      have g2 := sm _ _ h2
      have g3 := sm _ _ e3
      have r1 : Rep K (upd (upd H q (.tup [.int k.s, .int k.c])) u (.tup [.int s, .int c])) 1 (.ref q) (.tuple [.int k.s, .int k.c]) := Rep.tup (at_new nu upd_same) (.cons .int (.cons .int .nil))
      have r2 : Rep K (upd (upd H q (.tup [.int k.s, .int k.c])) u (.tup [.int s, .int c])) 1 (.ref u) (.tuple [.int s, .int c]) := Rep.tup upd_same (.cons .int (.cons .int .nil))
      refine w_neR r1 r2 (by decide) (by decide) ?_
      rw [show PyData.eqv (.tuple [.int k.s, .int k.c]) (.tuple [.int s, .int c]) = decide (k.s = s ∧ k.c = c) from by rw [Bool.eq_iff_iff]; simp [PyData.eqv, PyData.eqvAll]]
      walk_at "w"
      walk_at "if"
      · intro c1
        rw [if_pos (.inr (by by_cases z : k.s = s; exact .inr fun z2 => c1 ⟨z, z2⟩; exact .inl z))] at hQ
        walk_at "w"
        exact hQ _ _ sm .non
      · intro c1
        rw [if_neg (fun z => z.elim c0 fun z => z.elim (fun z => z c1.1) fun z => z c1.2)] at hQ
        walk_at "w"
        exact hQ _ _ sm (e4.mono sm.tk)
def sp__law_begin (K : PySem.W.Frag) : Sp := fun vs H Q E => ∃ (p dx dm dn : Addr) (h n : Int) (M : Int → Option Mk3) (O : Int → Bool) (z : Nat), vs = [.ref p, .int h, .int n] ∧ SesA K H p dx dm dn ∧ DS H dm dn M O z ∧ z ≤ 90000 ∧ (conn (M h) n ≠ "new" → Q (.bl true) H) ∧
  (conn (M h) n = "new" → ∀ H' q v, Im H' v (toldD (M h)) → H' q = some (.lst [v]) → DS H' dm dn (putM M h ⟨n, 0, .none, toldD (M h)⟩) (putO O h) (z + 1) → Mv H H' dm dn → Q (.ref q) H')
theorem ok__law_begin (T : Tx fa fn ts exs w K mg) : Okd P w K mg base ("_law_begin", none) 4 ["_law_sessions", "_law_host", "_law_number"] (sp__law_begin K) := by
  refine okd (k := 3) T 14 rfl sc__law_begin (fun _ _ _ _ _ _ us hl => match us, hl with | [_, _, _], _ => rfl) (fun vs H Q E h => ?_) (fun f cdv A outer s H vs Q E hr h => ?_)
  · obtain ⟨p, dx, dm, dn, h, n, M, O, z, rfl, h1, D, hz, hE, hQ⟩ := h
    rfl
  · obtain ⟨p, dx, dm, dn, h, n, M, O, z, rfl, h1, D, hz, hE, hQ⟩ := h
    have hu := hu_of hr
    refine ⟨_, (pss_one (ps_try_as (i := 3) rfl rfl sc__law_begin.nd rfl rfl ⟨rfl, by decide, .inl (T.glo 17)⟩ (takes_of rfl rfl rfl rfl) (fun W pn xe tk po => (pss_one (ps_ret (pe_lst (pa_cons (pe_methOS K (pv 0) (T.cls 4) (T.meth 16) (ok_Sessions_begin T) (hr.mono (by decide)) (fun σ => passAt tk σ) (pa_cons (pv 1) (pa_cons (pv 2) pa_nil))) pa_nil))))) (fun a oe cls d pn hz hf => (pss_one (ps_ret (pe_callB (call_isG hz hf) (by rfl) (T.free 8) (by decide +kernel) (pa_cons (pv 3) (pa_cons (pe_globR rfl (T.glo 14)) pa_nil)))))))), ?_⟩
    refine w_start (σ' := [some _, some _, some _, none]) rfl ?_
    have h1' : H p = some (.ins (CS K) dx (f_Sessions (.ref dm) (.ref dn))) := h1
    have xm := T.exm 33
    have xC := excB_ok (T.ex 0)
    have xk := kitB2_ok (T.ex 1)
    walk_at "w0"
    walk_at "w"
    refine ⟨p, dx, dm, dn, h, n, M, O, z, rfl, h1, D, hz, fun c => ?_, fun c H' v iv D' mv => ?_⟩
    · walk_at "caught"
      exact hE c
    · walk_at "w"
      intro q nq
      exact hQ c _ q v (iv.mono (tk_new nq)) upd_same (D'.same (same_new nq)) ⟨fun b o e n1 n2 => at_new nq (mv.keep b o e n1 n2), mv.tk.trans (tk_new nq)⟩
def sp__law_keep (K : PySem.W.Frag) : Sp := fun vs H Q E => ∃ (p dx dm dn : Addr) (h : Int) (an : V) (d : PyData) (M : Int → Option Mk3) (O : Int → Bool) (z : Nat), vs = [.ref p, .int h, an] ∧ SesA K H p dx dm dn ∧ DS H dm dn M O z ∧ z ≤ 90000 ∧ Im H an d ∧ d.depth ≤ 1 ∧ (O h = false → Q (.bl true) H) ∧
  (O h = true → ∀ H' q, H' q = some (.lst [.non]) → DS H' dm dn (keepM M h d) O (z + 1) → Mv H H' dm dn → Q (.ref q) H')
theorem ok__law_keep (T : Tx fa fn ts exs w K mg) : Okd P w K mg base ("_law_keep", none) 3 ["_law_sessions", "_law_host", "_law_answer"] (sp__law_keep K) := by
  refine okd (k := 2) T 16 rfl sc__law_keep (fun _ _ _ _ _ _ us hl => match us, hl with | [_, _, _], _ => rfl) (fun vs H Q E h => ?_) (fun f cdv A outer s H vs Q E hr h => ?_)
  · obtain ⟨p, dx, dm, dn, h, an, d, M, O, z, rfl, h1, D, hz, ia, id_, hE, hQ⟩ := h
    rfl
  · obtain ⟨p, dx, dm, dn, h, an, d, M, O, z, rfl, h1, D, hz, ia, id_, hE, hQ⟩ := h
    have hu := hu_of hr
    refine ⟨_, (pss_one (ps_try_as (i := 3) rfl rfl sc__law_keep.nd rfl rfl ⟨rfl, by decide, .inl (T.glo 17)⟩ (takes_of rfl rfl rfl rfl) (fun W pn xe tk po => (pss_one (ps_ret (pe_lst (pa_cons (pe_methOS K (pv 0) (T.cls 4) (T.meth 18) (ok_Sessions_keep T) (hr.mono (by decide)) (fun σ => passAt tk σ) (pa_cons (pv 1) (pa_cons (pv 2) pa_nil))) pa_nil))))) (fun a oe cls d pn hz hf => (pss_one (ps_ret (pe_callB (call_isG hz hf) (by rfl) (T.free 8) (by decide +kernel) (pa_cons (pv 3) (pa_cons (pe_globR rfl (T.glo 14)) pa_nil)))))))), ?_⟩
    refine w_start (σ' := [some _, some _, some _, none]) rfl ?_
    have h1' : H p = some (.ins (CS K) dx (f_Sessions (.ref dm) (.ref dn))) := h1
    have xm := T.exm 33
    have xC := excB_ok (T.ex 0)
    have xk := kitB2_ok (T.ex 1)
    walk_at "w0"
    walk_at "w"
    refine ⟨p, dx, dm, dn, h, an, d, M, O, z, rfl, h1, D, hz, ia, id_, fun c => ?_, fun c H' D' mv => ?_⟩
    · walk_at "caught"
      exact hE c
    · walk_at "w"
      intro q nq
      exact hQ c _ q upd_same (D'.same (same_new nq)) ⟨fun b o e n1 n2 => at_new nq (mv.keep b o e n1 n2), mv.tk.trans (tk_new nq)⟩
def mkD (m : Option Mk3) : PyData := match m with
  | none => .none
  | some k => .tuple [.int k.s, .int k.c, k.da, k.dt]
theorem RepM.rep {K : PySem.W.Frag} {H : Hp} {o : Option V} {m : Option Mk3} (h : RepM H o m) : Rep K H 3 (o.getD .non) (mkD m) := by
  rcases h with ⟨rfl, rfl⟩ | ⟨k, t, an, td, rfl, rfl, e3, e4, e5, e6, e7⟩
  · exact Rep.non
  · exact (Im.tup e3 (.cons (.int _) (.cons (.int _) (.cons e4 (.cons e5 .nil))))).rep (by simp only [PyData.depth, PyData.depthAll]; omega)
def sp__law_shows (K : PySem.W.Frag) : Sp := fun vs H Q E => ∃ (p dx dm dn gm gn : Addr) (M : Int → Option Mk3) (O : Int → Bool) (z z' : Nat), vs = [.ref p, .ref gm, .ref gn] ∧ SesA K H p dx dm dn ∧ DS H dm dn M O z ∧ DS H gm gn M O z' ∧ ∀ H', Same H H' → Q (.bl true) H'
theorem ok__law_shows (T : Tx fa fn ts exs w K mg) : Okd P w K mg base ("_law_shows", none) 3 ["_law_sessions", "_law_marks", "_law_opened"] (sp__law_shows K) := by
  refine okd (k := 2) T 6 rfl sc__law_shows (fun _ _ _ _ _ _ us hl => match us, hl with | [_, _, _], _ => rfl) (fun vs H Q E h => ?_) (fun f cdv A outer s H vs Q E hr h => ?_)
  · obtain ⟨p, dx, dm, dn, gm, gn, M, O, z, z', rfl, h1, D, G, hQ⟩ := h
    rfl
  · obtain ⟨p, dx, dm, dn, gm, gn, M, O, z, z', rfl, h1, D, G, hQ⟩ := h
    have hu := hu_of hr
    refine ⟨_, (pss_cons (ps_for (passes_of rfl) rfl (pi_range1 rfl (T.free 6) (pa_cons pe_int pa_nil)) (pg_name (i := 3) sc__law_shows.nd rfl (Or.inl rfl)) (pss_cons (ps_set (i := 4) sc__law_shows.nd rfl (Or.inl rfl) (pe_methO (pv 0) (T.cls 4) (T.meth 7) (ok_Sessions_is_open T) (hr.mono (by decide)) (passes_call (takes_of rfl rfl rfl rfl) (fun _ _ _ _ h => h)) (pa_cons (pv 3) pa_nil)))
      (pss_cons (ps_if (PW.pt (pw_or (pt_cmpR (op_neD hr.units) (pe_methO (pv 0) (T.cls 4) (T.meth 5) (ok_Sessions_mark_of T) (hr.mono (by decide)) (passes_call (takes_of rfl rfl rfl rfl) (fun _ _ _ _ h => h)) (pa_cons (pv 3) pa_nil)) (pe_dget1 hu (pv 1) (pv 3) ⟨rfl, rfl, rfl, rfl⟩) (nomark _)) (pw_or (pt_not (pt_val (pe_callB call_isi (by rfl) (T.free 8) (by decide +kernel) (pa_cons (pv 4) (pa_cons (pe_bltn (v := .ty "bool") rfl (T.free 9) (by decide +kernel) rfl) pa_nil))))) (pw_or1 (pt_cmpR op_ne (pv 4) (pe_cmp (pc_din hu (pv 3) (pv 2)) rfl) (nomark _)))))) (pss_one (ps_ret pe_bl)) pss_nil)
      (pss_one (ps_if (pt_cmpR (op_neD hr.units) (pe_methO (pv 0) (T.cls 4) (T.meth 10) (ok_Sessions_next_told T) (hr.mono (by decide)) (passes_call (takes_of rfl rfl rfl rfl) (fun _ _ _ _ h => h)) (pa_cons (pv 3) pa_nil)) (pe_callO (ok__law_told T) (hr.mono (by decide)) rfl (T.glo 11) (passes_call (takes_of rfl rfl rfl rfl) (fun _ _ _ _ h => h)) (pa_cons (pv 1) (pa_cons (pv 3) pa_nil))) (nomark _)) (pss_one (ps_ret pe_bl)) pss_nil)))))
      (pss_one (ps_ret pe_bl))), ?_⟩
    refine w_start (σ' := [some _, some _, some _, none, none]) rfl ?_
    walk_at "w0"
    walk_at "w"
    refine loop_range (fun i σ H' => ∃ (v3 v4 : Option V), σ = [some (.ref p), some (.ref gm), some (.ref gn), v3, v4] ∧ Same H H') ⟨none, none, rfl, fun _ _ e => e⟩ ?_ ?_
    · rintro i σ H1 hi ⟨v3, v4, rfl, sm⟩
      have h1' : H1 p = some (.ins (CS K) dx (f_Sessions (.ref dm) (.ref dn))) := sm _ _ h1
      have D1 := D.same sm
      have G1 := G.same sm
      obtain ⟨kvs, kos, h2, h3, hM, hO, _, _⟩ := D1.ex
      obtain ⟨gvs, gos, g2, g3, gM, gO, _, _⟩ := G1.ex
      walk_at "w"
      refine ⟨p, dx, dm, dn, 0 + (i : Int), kos, rfl, h1', h3, ?_⟩
      walk_at "w"
      refine ⟨p, dx, dm, dn, 0 + (i : Int), kvs, rfl, h1', h2, ?_⟩
      walk_at "w"
      refine w_neS' (hM _).rep (gM _).rep (by decide) (by decide) ?_
      walk_at "w"
      rw [hO, gO]
      refine w_ifF (by simp) ?_
      walk_at "w"
      refine ⟨p, dx, dm, dn, 0 + (i : Int), M, O, z, rfl, h1', D1, fun H2 v s2 iv => ?_⟩
      walk_at "w"
      refine ⟨gm, gn, 0 + (i : Int), M, O, z', rfl, G1.same s2, fun H3 v' s3 iv' => ?_⟩
      have dd := toldD_depth (D1.deps (0 + (i : Int)))
      refine w_neS' ((iv.mono s3.tk).rep dd) (iv'.rep dd) (by decide) (by decide) ?_
      walk_at "w"
      exact ⟨_, _, rfl, (sm.trans s2).trans s3⟩
    · rintro σ H1 ⟨v3, v4, rfl, sm⟩
      walk_at "w"
      exact hQ _ sm
def AllO (H H' : Hp) (ds : List Addr) : Prop := ∀ b o, H b = some o → b ∉ ds → H' b = some o
theorem AllO.same {H H' : Hp} {ds : List Addr} (s : Same H H') : AllO H H' ds := fun b o e _ => s b o e
theorem AllO.trans {H H1 H' : Hp} {ds : List Addr} (s : AllO H H1 ds) (k : AllO H1 H' ds) : AllO H H' ds := fun b o e n => k b o (s b o e n) n
theorem AllO.but {H H' : Hp} {ds : List Addr} {tp : Addr} (s : But tp H H') (h : tp ∈ ds) : AllO H H' ds := fun b o e n => s b o e fun z => n (by rw [z]; exact h)
theorem AllO.mv {H H' : Hp} {ds : List Addr} {dm dn : Addr} (s : Mv H H' dm dn) (h1 : dm ∈ ds) (h2 : dn ∈ ds) : AllO H H' ds := fun b o e n => s.keep b o e (fun z => n (by rw [z]; exact h1)) fun z => n (by rw [z]; exact h2)
structure Both (K : PySem.W.Frag) (H : Hp) (p dx dm dn gm gn tp l : Addr) (ns : List Int) (M : Int → Option Mk3) (O : Int → Bool) (z : Nat) : Prop where
  A : SesA K H p dx dm dn
  D : DS H dm dn M O z
  G : DS H gm gn M O z
  T : Tp H tp l ns
  nd : [dm, dn, gm, gn, tp, l, p].Nodup
section
variable {H H' : Hp} {p dx dm dn gm gn tp l : Addr} {ns : List Int} {M M' : Int → Option Mk3} {O O' : Int → Bool} {z : Nat}
theorem Both.same (B : Both K H p dx dm dn gm gn tp l ns M O z) (s : Same H H') : Both K H' p dx dm dn gm gn tp l ns M O z := ⟨s _ _ B.A, B.D.same s, B.G.same s, B.T.same s, B.nd⟩
theorem But.tk {i r s : Int} {tp : Addr} (T : Tp H tp l ns) (s : But tp H H') : TK H H' := fun a xs e => s a _ e (by
  obtain ⟨i, r, q, h, _⟩ := T.at_
  exact ne_of e h (by intro z; cases z))
theorem Both.draw (B : Both K H p dx dm dn gm gn tp l ns M O z) (s : But tp H H') (T : Tp H' tp l ns) : Both K H' p dx dm dn gm gn tp l ns M O z := by
  have nd := B.nd
  simp only [List.nodup_cons, List.mem_cons, List.not_mem_nil, or_false, not_or, List.nodup_nil, and_true, not_false_eq_true] at nd
  obtain ⟨⟨_, _, _, n1, _, _⟩, ⟨_, _, n2, _, _⟩, ⟨_, n3, _, _⟩, ⟨n4, _, _⟩, ⟨_, n5⟩, _⟩ := nd
  have tk : TK H H' := But.tk (i := 0) (r := 0) (s := 0) B.T s
  exact ⟨s _ _ B.A (Ne.symm n5), B.D.keep tk (fun o e => s _ o e n1) (fun o e => s _ o e n2), B.G.keep tk (fun o e => s _ o e n3) (fun o e => s _ o e n4), T, B.nd⟩
/-- first the program's marks move, then the law's -/
theorem Both.move {H0 H1 H2 : Hp} {x : Nat} (B : Both K H0 p dx dm dn gm gn tp l ns M O z) (D : DS H1 dm dn M' O' x) (m : Mv H0 H1 dm dn) (G : DS H1 gm gn M O z → DS H2 gm gn M' O' x) (m2 : Mv H1 H2 gm gn) : Both K H2 p dx dm dn gm gn tp l ns M' O' x := by
  have nd := B.nd
  simp only [List.nodup_cons, List.mem_cons, List.not_mem_nil, or_false, not_or, List.nodup_nil, and_true, not_false_eq_true] at nd
  obtain ⟨⟨a1, a2, a3, a4, a5, a6⟩, ⟨b1, b2, b3, b4, b5⟩, ⟨c1, c2, c3, c4⟩, ⟨d1, d2, d3⟩, ⟨e1, e2⟩, f1⟩ := nd
  have k1 : ∀ {b : Addr} {o : HO}, H0 b = some o → b ≠ dm → b ≠ dn → b ≠ gm → b ≠ gn → H2 b = some o := fun e n1 n2 n3 n4 => m2.keep _ _ (m.keep _ _ e n1 n2) n3 n4
  exact ⟨k1 B.A (Ne.symm a6) (Ne.symm b5) (Ne.symm c4) (Ne.symm d3), D.keep m2.tk (fun o e => m2.keep _ o e a2 a3) (fun o e => m2.keep _ o e b1 b2),
    G (B.G.keep m.tk (fun o e => m.keep _ o e (Ne.symm a2) (Ne.symm b1)) (fun o e => m.keep _ o e (Ne.symm a3) (Ne.symm b2))),
    B.T.keep fun b o h e => by
      rcases h with rfl | rfl
      · exact k1 e (Ne.symm a4) (Ne.symm b3) (Ne.symm c2) (Ne.symm d1)
      · exact k1 e (Ne.symm a5) (Ne.symm b4) (Ne.symm c3) (Ne.symm d2), B.nd⟩
end
theorem next_is {k : Mk3} : kindF true (some k) k.s (k.c + 1) = "next" := by
  unfold kindF
  dsimp only
  rw [if_neg (by omega), if_neg (by omega), if_neg (by omega)]
theorem again_is {k : Mk3} : kindF true (some k) k.s k.c = "again" := by
  unfold kindF
  dsimp only
  rw [if_neg (by omega), if_neg (by omega), if_pos rfl]
theorem keptD_depth {o : Bool} {m : Option Mk3} {s c : Int} (h : ∀ k, m = some k → k.da.depth ≤ 1 ∧ k.dt.depth ≤ 2) : (keptD o m s c).depth ≤ 1 := by
  unfold keptD
  split
  · split
    · simp [PyData.depth]
    · exact (h _ rfl).1
  · simp [PyData.depth]
section
variable {H : Hp} {dm dn t : Addr} {M : Int → Option Mk3} {O : Int → Bool} {z : Nat} {kvs kos : List (Key × V)} {n h : Int} {v an td : V} {d : PyData} {k : Mk3}
theorem DS.putB (D : DS H dm dn M O z) (h2 : H dm = some (.dK kvs)) (h3 : H dn = some (.dK kos)) (hM : ∀ k, RepM H (valV kvs (.inl k)) (M k)) (hO : ∀ k, valV kos (.inl k) = if O k then some (.bl true) else none) (l1 : kvs.length ≤ z) (l2 : kos.length ≤ z) (nt : H t = none) (iv : Im H v (toldD (M h))) :
    DS (upd (upd (upd H t (.tup [.int n, .int 0, .non, v])) dm (.dK (putK kvs (.inl h) (.ref t)))) dn (.dK (putK kos (.inl h) (.bl true)))) dm dn (putM M h ⟨n, 0, .none, toldD (M h)⟩) (putO O h) (z + 1) ∧
    Mv H (upd (upd (upd H t (.tup [.int n, .int 0, .non, v])) dm (.dK (putK kvs (.inl h) (.ref t)))) dn (.dK (putK kos (.inl h) (.bl true)))) dm dn := by
  have mn := D.ne
  have tm : t ≠ dm := Ne.symm (ne_of_none h2 nt)
  have tn : t ≠ dn := Ne.symm (ne_of_none h3 nt)
  have g2 := at_new (o' := HO.tup [.int n, .int 0, .non, v]) nt h2
  have g3 := at_new (o' := HO.tup [.int n, .int 0, .non, v]) nt h3
  have f3 := at_ne (o' := HO.dK (putK kvs (.inl h) (.ref t))) (Ne.symm mn) g3
  have tk : TK H (upd (upd (upd H t (.tup [.int n, .int 0, .non, v])) dm (.dK (putK kvs (.inl h) (.ref t)))) dn (.dK (putK kos (.inl h) (.bl true)))) := (tk_new nt).trans ((TK.dK g2).trans (TK.dK f3))
  refine ⟨⟨⟨_, _, at_ne mn upd_same, upd_same, reps_put (fun k => (hM k).mono tk) (.inr ⟨_, t, .non, v, rfl, rfl, at_ne tn (at_ne tm upd_same), .non, iv.mono tk, by simp [PyData.depth], toldD_depth (D.deps h)⟩), opens_put hO, Nat.le_trans putK_le (by omega), Nat.le_trans putK_le (by omega)⟩, fun k hk => ?_, mn⟩, ⟨fun b o e n1 n2 => at_ne n2 (at_ne n1 (at_new nt e)), tk⟩⟩
  unfold putO at hk
  unfold putM
  by_cases e : k = h
  · rw [if_pos e]; rfl
  · rw [if_neg e] at hk ⊢; exact D.op k hk
theorem DS.putA (D : DS H dm dn M O z) (h2 : H dm = some (.dK kvs)) (h3 : H dn = some (.dK kos)) (hM : ∀ k, RepM H (valV kvs (.inl k)) (M k)) (hO : ∀ k, valV kos (.inl k) = if O k then some (.bl true) else none) (l1 : kvs.length ≤ z) (l2 : kos.length ≤ z) (nt : H t = none) (e : M h = some k) (ia : Im H an d) (id_ : d.depth ≤ 1) (it : Im H td k.dt) :
    DS (upd (upd H t (.tup [.int k.s, .int (k.c + 1), an, td])) dm (.dK (putK kvs (.inl h) (.ref t)))) dm dn (keepM M h d) O (z + 1) ∧
    Mv H (upd (upd H t (.tup [.int k.s, .int (k.c + 1), an, td])) dm (.dK (putK kvs (.inl h) (.ref t)))) dm dn := by
  have mn := D.ne
  have tm : t ≠ dm := Ne.symm (ne_of_none h2 nt)
  have g2 := at_new (o' := HO.tup [.int k.s, .int (k.c + 1), an, td]) nt h2
  have tk : TK H (upd (upd H t (.tup [.int k.s, .int (k.c + 1), an, td])) dm (.dK (putK kvs (.inl h) (.ref t)))) := (tk_new nt).trans (TK.dK g2)
  refine ⟨⟨⟨_, kos, upd_same, at_ne (Ne.symm mn) (at_new nt h3), ?_, hO, Nat.le_trans putK_le (by omega), by omega⟩, fun j hj => ?_, mn⟩, ⟨fun b o e n1 n2 => at_ne n1 (at_new nt e), tk⟩⟩
  · unfold keepM
    rw [e]
    exact reps_put (fun k => (hM k).mono tk) (.inr ⟨_, t, an, td, rfl, rfl, at_ne tm upd_same, ia.mono tk, it.mono tk, id_, (D.deps h k e).2⟩)
  · unfold keepM
    rw [e]
    dsimp only [putM]
    split
    · rfl
    · exact D.op j hj
end
def sp__law_deed (K : PySem.W.Frag) : Sp := fun vs H Q E => ∃ (p dx dm dn gm gn tp l : Addr) (ns : List Int) (M : Int → Option Mk3) (O : Int → Bool) (z : Nat), vs = [.ref p, .ref gm, .ref gn, .ref tp] ∧ Both K H p dx dm dn gm gn tp l ns M O z ∧ z ≤ 80000 ∧
  ∀ H' M' O', Both K H' p dx dm dn gm gn tp l ns M' O' (z + 1) → AllO H H' [dm, dn, gm, gn, tp] → Q (.bl true) H'
theorem ok__law_deed (T : Tx fa fn ts exs w K mg) : Okd P w K mg base ("_law_deed", none) 5 ["_law_sessions", "_law_marks", "_law_opened", "_law_tape"] (sp__law_deed K) := by
  refine okd (k := 4) T 17 rfl sc__law_deed (fun _ _ _ _ _ _ us hl => match us, hl with | [_, _, _, _], _ => rfl) (fun vs H Q E h => ?_) (fun f cdv A outer s H vs Q E hr h => ?_)
  · obtain ⟨p, dx, dm, dn, gm, gn, tp, l, ns, M, O, z, rfl, B, hz, hQ⟩ := h
    rfl
  · obtain ⟨p, dx, dm, dn, gm, gn, tp, l, ns, M, O, z, rfl, B, hz, hQ⟩ := h
    have hu := hu_of hr
    refine ⟨_, (pss_cons (ps_set (i := 4) sc__law_deed.nd rfl (Or.inl rfl) (pe_callO (ok__law_next T) (hr.mono (by decide)) rfl (T.glo 19) (passes_call (takes_of rfl rfl rfl rfl) (fun _ _ _ _ h => h)) (pa_cons (pv 3) (pa_cons pe_int pa_nil))))
      (pss_cons (ps_set (i := 5) sc__law_deed.nd rfl (Or.inl rfl) (pe_dget2 hu (pv 1) (pv 4) (pe_tup (pa_cons pe_int (pa_cons pe_int (pa_cons pe_non (pa_cons pe_non pa_nil))))) ⟨rfl, rfl, rfl, rfl⟩))
      (pss_cons (ps_set (i := 6) sc__law_deed.nd rfl (Or.inl rfl) (pe_callB (c_max2 rfl) (by rfl) (T.free 20) (by decide +kernel) (pa_cons pe_int (pa_cons (pe_op op_sub (pe_op op_add (pe_ix ix_tup (pv 5) pe_int (fun _ _ => rfl)) (pe_callO (ok__law_next T) (hr.mono (by decide)) rfl (T.glo 19) (passes_call (takes_of rfl rfl rfl rfl) (fun _ _ _ _ h => h)) (pa_cons (pv 3) (pa_cons pe_int pa_nil)))) pe_int) pa_nil))))
      (pss_cons (ps_set (i := 7) sc__law_deed.nd rfl (Or.inl rfl) (pe_callB (c_max2 rfl) (by rfl) (T.free 20) (by decide +kernel) (pa_cons pe_int (pa_cons (pe_op op_sub (pe_op op_add (pe_ix ix_tup (pv 5) pe_int (fun _ _ => rfl)) (pe_callO (ok__law_next T) (hr.mono (by decide)) rfl (T.glo 19) (passes_call (takes_of rfl rfl rfl rfl) (fun _ _ _ _ h => h)) (pa_cons (pv 3) (pa_cons pe_int pa_nil)))) pe_int) pa_nil))))
      (pss_cons (ps_set (i := 8) sc__law_deed.nd rfl (Or.inl rfl) (pe_callO (ok__law_connecting T) (hr.mono (by decide)) rfl (T.glo 21) (passes_call (takes_of rfl rfl rfl rfl) (fun _ _ _ _ h => h)) (pa_cons (pv 1) (pa_cons (pv 4) (pa_cons (pv 6) pa_nil)))))
      (pss_cons (ps_if (pt_cmpR op_ne (pe_methO (pv 0) (T.cls 4) (T.meth 12) (ok_Sessions_connecting T) (hr.mono (by decide)) (passes_call (takes_of rfl rfl rfl rfl) (fun _ _ _ _ h => h)) (pa_cons (pv 4) (pa_cons (pv 6) pa_nil))) (pv 8) (nomark _)) (pss_one (ps_ret pe_bl)) pss_nil)
      (pss_cons (ps_if (pt_cmpR op_ne (pe_methO (pv 0) (T.cls 4) (T.meth 22) (ok_Sessions_kind_of T) (hr.mono (by decide)) (passes_call (takes_of rfl rfl rfl rfl) (fun _ _ _ _ h => h)) (pa_cons (pv 4) (pa_cons (pv 6) (pa_cons (pv 7) pa_nil)))) (pe_callO (ok__law_kind T) (hr.mono (by decide)) rfl (T.glo 23) (passes_call (takes_of rfl rfl rfl rfl) (fun _ _ _ _ h => h)) (pa_cons (pv 1) (pa_cons (pv 2) (pa_cons (pv 4) (pa_cons (pv 6) (pa_cons (pv 7) pa_nil)))))) (nomark _)) (pss_one (ps_ret pe_bl)) pss_nil)
      (pss_cons (ps_if (pt_cmpR (op_neD hr.units) (pe_methO (pv 0) (T.cls 4) (T.meth 24) (ok_Sessions_kept_answer T) (hr.mono (by decide)) (passes_call (takes_of rfl rfl rfl rfl) (fun _ _ _ _ h => h)) (pa_cons (pv 4) (pa_cons (pv 6) (pa_cons (pv 7) pa_nil)))) (pe_callO (ok__law_kept T) (hr.mono (by decide)) rfl (T.glo 25) (passes_call (takes_of rfl rfl rfl rfl) (fun _ _ _ _ h => h)) (pa_cons (pv 1) (pa_cons (pv 2) (pa_cons (pv 4) (pa_cons (pv 6) (pa_cons (pv 7) pa_nil)))))) (nomark _)) (pss_one (ps_ret pe_bl)) pss_nil)
      (pss_cons (ps_if (pt_cmpR op_eq (pe_callO (ok__law_next T) (hr.mono (by decide)) rfl (T.glo 19) (passes_call (takes_of rfl rfl rfl rfl) (fun _ _ _ _ h => h)) (pa_cons (pv 3) (pa_cons pe_int pa_nil))) pe_int (nomark _)) (pss_cons (ps_set (i := 9) sc__law_deed.nd rfl (Or.inl rfl) (pe_callO (ok__law_told T) (hr.mono (by decide)) rfl (T.glo 11) (passes_call (takes_of rfl rfl rfl rfl) (fun _ _ _ _ h => h)) (pa_cons (pv 1) (pa_cons (pv 4) pa_nil))))
      (pss_cons (ps_set (i := 10) sc__law_deed.nd rfl (Or.inl rfl) (pe_callO (ok__law_begin T) (hr.mono (by decide)) rfl (T.glo 26) (passes_call (takes_of rfl rfl rfl rfl) (fun _ _ _ _ h => h)) (pa_cons (pv 0) (pa_cons (pv 4) (pa_cons (pv 6) pa_nil)))))
      (pss_cons (ps_if (pt_cmpR op_ne (pv 8) pe_str (nomark _)) (pss_one (ps_ret (pe_cmpR op_isBl (pv 10) pe_bl (nomark _)))) pss_nil)
      (pss_cons (ps_dput hu (pv 1) (pv 4) (pe_tup (pa_cons (pv 6) (pa_cons pe_int (pa_cons pe_non (pa_cons (pv 9) pa_nil))))) rfl)
      (pss_cons (ps_dput hu (pv 2) (pv 4) pe_bl rfl)
      (pss_one (ps_ret (pe_cmpR (op_eqD hr.units) (pv 10) (pe_lst (pa_cons (pv 9) pa_nil)) (nomark _))))))))) pss_nil)
      (pss_cons (ps_set (i := 11) sc__law_deed.nd rfl (Or.inl rfl) (pe_tup (pa_cons (pe_ix ix_list (pe_lst (pa_cons pe_str (pa_cons pe_str (pa_cons pe_str pa_nil)))) (pe_callO (ok__law_next T) (hr.mono (by decide)) rfl (T.glo 19) (passes_call (takes_of rfl rfl rfl rfl) (fun _ _ _ _ h => h)) (pa_cons (pv 3) (pa_cons pe_int pa_nil))) (fun _ _ => rfl)) (pa_cons (pe_callO (ok__law_next T) (hr.mono (by decide)) rfl (T.glo 19) (passes_call (takes_of rfl rfl rfl rfl) (fun _ _ _ _ h => h)) (pa_cons (pv 3) (pa_cons pe_int pa_nil))) pa_nil))))
      (pss_cons (ps_if (pt_cmp (pc_dnotin hu (pv 4) (pv 2))) (pss_one (ps_ret (pe_cmpR op_isBl (pe_callO (ok__law_keep T) (hr.mono (by decide)) rfl (T.glo 27) (passes_call (takes_of rfl rfl rfl rfl) (fun _ _ _ _ h => h)) (pa_cons (pv 0) (pa_cons (pv 4) (pa_cons (pv 11) pa_nil)))) pe_bl (nomark _)))) pss_nil)
      (pss_cons (ps_if (PW.pt (pw_or (pt_cmpR op_ne (pe_methO (pv 0) (T.cls 4) (T.meth 22) (ok_Sessions_kind_of T) (hr.mono (by decide)) (passes_call (takes_of rfl rfl rfl rfl) (fun _ _ _ _ h => h)) (pa_cons (pv 4) (pa_cons (pe_ix ix_tup (pv 5) pe_int (fun _ _ => rfl)) (pa_cons (pe_op op_add (pe_ix ix_tup (pv 5) pe_int (fun _ _ => rfl)) pe_int) pa_nil)))) pe_str (nomark _)) (pw_or1 (pt_cmpR (op_neD hr.units) (pe_callO (ok__law_keep T) (hr.mono (by decide)) rfl (T.glo 27) (passes_call (takes_of rfl rfl rfl rfl) (fun _ _ _ _ h => h)) (pa_cons (pv 0) (pa_cons (pv 4) (pa_cons (pv 11) pa_nil)))) (pe_lst (pa_cons pe_non pa_nil)) (nomark _))))) (pss_one (ps_ret pe_bl)) pss_nil)
      (pss_cons (ps_dput hu (pv 1) (pv 4) (pe_tup (pa_cons (pe_ix ix_tup (pv 5) pe_int (fun _ _ => rfl)) (pa_cons (pe_op op_add (pe_ix ix_tup (pv 5) pe_int (fun _ _ => rfl)) pe_int) (pa_cons (pv 11) (pa_cons (pe_ix ix_tup (pv 5) pe_int (fun _ _ => rfl)) pa_nil))))) rfl)
      (pss_one (ps_ret (pe_cmpR op_eq (pe_methO (pv 0) (T.cls 4) (T.meth 22) (ok_Sessions_kind_of T) (hr.mono (by decide)) (passes_call (takes_of rfl rfl rfl rfl) (fun _ _ _ _ h => h)) (pa_cons (pv 4) (pa_cons (pe_ix ix_tup (pv 5) pe_int (fun _ _ => rfl)) (pa_cons (pe_op op_add (pe_ix ix_tup (pv 5) pe_int (fun _ _ => rfl)) pe_int) pa_nil)))) pe_str (nomark _))))))))))))))))), ?_⟩
    refine w_start (σ' := [some _, some _, some _, some _, none, none, none, none, none, none, none, none]) rfl ?_
    walk_at "w0"
    walk_at "w"
    refine ⟨tp, l, ns, 4, rfl, B.T, by decide, fun H1 h _ _ T1 b1 => ?_⟩
    have B1 := B.draw b1 T1
    have a1 : AllO H H1 [dm, dn, gm, gn, tp] := AllO.but b1 (by simp)
    obtain ⟨gvs, gos, g2, g3, gM, gO, _, _⟩ := B1.G.ex
    walk_at "w"
    intro t0 nt0
    have s2 : Same H1 (upd H1 t0 (.tup [.int 1, .int 0, .non, .non])) := same_new nt0
    have ht0 : (upd H1 t0 (.tup [.int 1, .int 0, .non, .non])) t0 = some (.tup [.int 1, .int 0, .non, .non]) := upd_same
    have B2 := B1.same s2
    have g2' := s2 _ _ g2
    obtain ⟨k, t, an, td, et, hk, ht, e4, e5, e6, e7⟩ : ∃ (k : Mk3) (t : Addr) (an td : V), (valV gvs (.inl h)).getD (.ref t0) = .ref t ∧ (∀ k', M h = some k' → k' = k) ∧ (upd H1 t0 (.tup [.int 1, .int 0, .non, .non])) t = some (.tup [.int k.s, .int k.c, an, td]) ∧ Im (upd H1 t0 (.tup [.int 1, .int 0, .non, .non])) an k.da ∧ Im (upd H1 t0 (.tup [.int 1, .int 0, .non, .non])) td k.dt ∧ k.da.depth ≤ 1 ∧ k.dt.depth ≤ 2 := by
      rcases gM h with ⟨e1, e2⟩ | ⟨k, t, an, td, e1, e2, e3, e4, e5, e6, e7⟩
      · exact ⟨⟨1, 0, .none, .none⟩, t0, .non, .non, by rw [e1]; rfl, (fun k' e => by rw [e2] at e; cases e), ht0, .non, .non, by simp [PyData.depth], by simp [PyData.depth]⟩
      · exact ⟨k, t, an, td, by rw [e1]; rfl, (fun k' e => by rw [e2] at e; cases e; rfl), s2 _ _ e3, e4.mono s2.tk, e5.mono s2.tk, e6, e7⟩
    generalize hH2 : upd H1 t0 (.tup [.int 1, .int 0, .non, .non]) = H2 at *
    clear ht0
    walk_at "w"
    rw [et]
    walk_at "w"
    refine ⟨tp, l, ns, 4, rfl, B2.T, by decide, fun H3 v3 _ _ T3 b3 => ?_⟩
    have B3 := B2.draw b3 T3
    have tk3 : TK H2 H3 := But.tk (i := 0) (r := 0) (s := 0) B2.T b3
    have ht3 := tk3 _ _ ht
    walk_at "w"
    generalize (if k.s + v3 - 1 > 1 then k.s + v3 - 1 else 1) = n
    refine ⟨tp, l, ns, 4, rfl, B3.T, by decide, fun H4 v4 _ _ T4 b4 => ?_⟩
    have B4 := B3.draw b4 T4
    have tk4 : TK H3 H4 := But.tk (i := 0) (r := 0) (s := 0) B3.T b4
    have ht4 := tk4 _ _ ht3
    walk_at "w"
    generalize (if k.c + v4 - 1 > 1 then k.c + v4 - 1 else 1) = c
    refine ⟨gm, gn, h, n, M, O, z, rfl, B4.G, ?_⟩
    have p4 : H4 p = some (.ins (CS K) dx (f_Sessions (.ref dm) (.ref dn))) := B4.A
    walk_at "w"
    refine ⟨p, dx, dm, dn, h, n, M, O, z, rfl, B4.A, B4.D, ?_⟩
    walk_at "w"
    refine w_ifF (by simp) ?_
    walk_at "w"
    refine ⟨p, dx, dm, dn, h, n, c, M, O, z, rfl, B4.A, B4.D, ?_⟩
    walk_at "w"
    refine ⟨gm, gn, h, n, c, M, O, z, rfl, B4.G, ?_⟩
    walk_at "w"
    refine w_ifF (by simp) ?_
    walk_at "w"
    refine ⟨p, dx, dm, dn, h, n, c, M, O, z, rfl, B4.A, B4.D, fun v i1 => ?_⟩
    walk_at "w"
    refine ⟨gm, gn, h, n, c, M, O, z, rfl, B4.G, fun H5 v' s5 i2 => ?_⟩
    have dk := keptD_depth (o := O h) (s := n) (c := c) (B4.D.deps h)
    refine w_neS' ((i1.mono s5.tk).rep dk) (i2.rep dk) (by decide) (by decide) ?_
    have B5 := B4.same s5
    have p5 := s5 _ _ p4
    have ht5 := s5.tk _ _ ht4
    have a5 : AllO H H5 [dm, dn, gm, gn, tp] := ((((a1.trans (.same s2)).trans (.but b3 (by simp))).trans (.but b4 (by simp))).trans (.same s5))
    have e45 : Im H5 an k.da := e4.mono ((tk3.trans tk4).trans s5.tk)
    have e55 : Im H5 td k.dt := e5.mono ((tk3.trans tk4).trans s5.tk)
    walk_at "w"
    refine ⟨tp, l, ns, 3, rfl, B5.T, by decide, fun H6 v6 _ _ T6 b6 => ?_⟩
    have B6 := B5.draw b6 T6
    have tk6 : TK H5 H6 := But.tk (i := 0) (r := 0) (s := 0) B5.T b6
    have ht6 := tk6 _ _ ht5
    have e56 : Im H6 td k.dt := e55.mono tk6
    have a6 := a5.trans (.but b6 (by simp))
    walk_at "w"
    walk_at "if"
    · intro c6
      walk_at "w"
      refine ⟨gm, gn, h, M, O, z, rfl, B6.G, fun H7 v7 s7 i7 => ?_⟩
      have B7 := B6.same s7
      walk_at "w"
      refine ⟨p, dx, dm, dn, h, n, M, O, z, rfl, B7.A, B7.D, by omega, fun hc => ?_, fun hc H8 q v8 i8 h8 D8 m8 => ?_⟩
      · walk_at "w"
        refine w_ifT (by simpa using hc) ?_
        walk_at "w"
        exact hQ _ M O ⟨B7.A, B7.D.more (by omega), B7.G.more (by omega), B7.T, B7.nd⟩ (a6.trans (.same s7))
      · walk_at "w"
        refine w_ifF (by simpa using hc) ?_
        have nd := B7.nd
        simp only [List.nodup_cons, List.mem_cons, List.not_mem_nil, or_false, not_or, List.nodup_nil, and_true, not_false_eq_true] at nd
        obtain ⟨⟨_, a2, a3, _, _, _⟩, ⟨b1', b2', _, _, _⟩, _⟩ := nd
        have G8 : DS H8 gm gn M O z := B7.G.keep m8.tk (fun o e => m8.keep _ o e (Ne.symm a2) (Ne.symm b1')) (fun o e => m8.keep _ o e (Ne.symm a3) (Ne.symm b2'))
        obtain ⟨gv, go, q2, q3, qM, qO, l1, l2⟩ := G8.ex
        have i78 : Im H8 v7 (toldD (M h)) := i7.mono m8.tk
        have z1 : gv.length < sizeLine := lt_line (by omega)
        have z2 : go.length < sizeLine := lt_line (by omega)
        walk_at "w"
        intro t9 nt9
        have q4 := at_new (o' := HO.tup [.int n, .int 0, .non, v7]) nt9 q2
        have q5 := at_ne (o' := HO.dK (putK gv (.inl h) (.ref t9))) (Ne.symm G8.ne) (at_new (o' := HO.tup [.int n, .int 0, .non, v7]) nt9 q3)
        obtain ⟨D9, m9⟩ := G8.putB q2 q3 qM qO l1 l2 nt9 i78 (n := n)
        have h9 := m9.keep q _ h8 (ne_of h8 q2 (by intro z; cases z)) (ne_of h8 q3 (by intro z; cases z))
        have B9 := B7.move D8 m8 (fun _ => D9) m9
        walk_at "w"
        intro q6 nq6
        have s9 := same_new (o := HO.lst [v7]) nq6
        have dd := toldD_depth (B7.D.deps h)
        refine w_eqS' (Rep.lst (s9 _ _ h9) (.cons ((i8.mono (m9.tk.trans s9.tk)).rep dd) .nil)) (Rep.lst upd_same (.cons ((i78.mono (m9.tk.trans s9.tk)).rep dd) .nil)) (by decide) (by decide) ?_
        exact hQ _ _ _ (B9.same s9) ((((a6.trans (.same s7)).trans (.mv m8 (by simp) (by simp))).trans (.mv m9 (by simp) (by simp))).trans (.same s9))
    · intro c6
      walk_at "w"
      intro q7 nq7
      have s7 := same_new (o := HO.lst [.str "ok", .str "conflict", .str "room"]) nq7
      have B7 := B6.same s7
      walk_at "w"
      refine ⟨tp, l, ns, 3, rfl, B7.T, by decide, fun H8 v8 h80 h81 T8 b8 => ?_⟩
      have B8 := B7.draw b8 T8
      have hq8 := b8 q7 _ upd_same (by
        obtain ⟨i, r, q, h, _⟩ := B6.T.at_
        exact Ne.symm (ne_of_none h nq7))
      have tk8 : TK _ H8 := But.tk (i := 0) (r := 0) (s := 0) B7.T b8
      obtain ⟨w, hw⟩ : ∃ w : Str, atI [V.str "ok", V.str "conflict", V.str "room"] v8 = some (.str w) ∧ PyData.canLay0 (.str w) = true := by
        have h3 : v8 = 0 ∨ v8 = 1 ∨ v8 = 2 := by omega
        rcases h3 with rfl | rfl | rfl
        · exact ⟨_, rfl, by decide +kernel⟩
        · exact ⟨_, rfl, by decide +kernel⟩
        · exact ⟨_, rfl, by decide +kernel⟩
      refine w_ixL hq8 hw.1 ?_
      walk_at "w"
      refine ⟨tp, l, ns, 9, rfl, B8.T, by decide, fun H9 v9 _ _ T9 b9 => ?_⟩
      have B9 := B8.draw b9 T9
      have tk9 : TK H8 H9 := But.tk (i := 0) (r := 0) (s := 0) B8.T b9
      have ht9 := tk9 _ _ (tk8 _ _ (s7.tk _ _ ht6))
      have e59 : Im H9 td k.dt := e56.mono ((s7.tk.trans tk8).trans tk9)
      have a9 := ((a6.trans (.same s7)).trans (.but b8 (by simp))).trans (.but (ds := [dm, dn, gm, gn, tp]) b9 (by simp))
      walk_at "w"
      intro an9 na9
      have s10 := same_new (o := HO.tup [.str w, .int v9]) na9
      have ia : Im (upd H9 an9 (.tup [.str w, .int v9])) (.ref an9) (.tuple [.str w, .int v9]) := .tup upd_same (.cons (.str _ hw.2) (.cons (.int _) .nil))
      have id9 : (PyData.tuple [.str w, .int v9]).depth ≤ 1 := by simp [PyData.depth, PyData.depthAll]
      have B10 := B9.same s10
      have ht10 := s10.tk _ _ ht9
      have e510 := e59.mono s10.tk
      have a10 := a9.trans (.same s10)
      generalize hH10 : upd H9 an9 (.tup [.str w, .int v9]) = H10 at *
      have p10 : H10 p = some (.ins (CS K) dx (f_Sessions (.ref dm) (.ref dn))) := B10.A
      obtain ⟨gv, go, q2, q3, qM, qO, l1, l2⟩ := B10.G.ex
      walk_at "w"
      rw [qO]
      cases ho : O h with
      | false =>
        simp only [Bool.false_eq_true, if_false, Option.isSome_none]
        walk_at "w"
        refine ⟨p, dx, dm, dn, h, .ref an9, _, M, O, z, rfl, B10.A, B10.D, by omega, ia, id9, fun _ => ?_, fun hc => absurd hc (by rw [ho]; decide)⟩
        walk_at "w"
        exact hQ _ M O ⟨B10.A, B10.D.more (by omega), B10.G.more (by omega), B10.T, B10.nd⟩ a10
      | true =>
        simp only [if_true, Option.isSome_some]
        have eM : M h = some k := by
          have := B10.D.op h ho
          cases e : M h with
          | none => rw [e] at this; cases this
          | some k' => rw [hk k' e]
        walk_at "w"
        refine ⟨p, dx, dm, dn, h, k.s, k.c + 1, M, O, z, rfl, B10.A, B10.D, ?_⟩
        rw [ho, eM, next_is]
        walk_at "w"
        refine w_ifF (by decide +kernel) ?_
        walk_at "w"
        refine ⟨p, dx, dm, dn, h, .ref an9, _, M, O, z, rfl, B10.A, B10.D, by omega, ia, id9, fun hc => absurd ho (by rw [hc]; decide), fun _ H11 q11 h11 D11 m11 => ?_⟩
        have nd := B10.nd
        simp only [List.nodup_cons, List.mem_cons, List.not_mem_nil, or_false, not_or, List.nodup_nil, and_true, not_false_eq_true] at nd
        obtain ⟨⟨_, a2, a3, _, _, _⟩, ⟨b1', b2', _, _, _⟩, _⟩ := nd
        have G11 : DS H11 gm gn M O z := B10.G.keep m11.tk (fun o e => m11.keep _ o e (Ne.symm a2) (Ne.symm b1')) (fun o e => m11.keep _ o e (Ne.symm a3) (Ne.symm b2'))
        obtain ⟨gv, go, q2, q3, qM, qO, l1, l2⟩ := G11.ex
        walk_at "w"
        intro q12 n12
        have s12 := same_new (o := HO.lst [.non]) n12
        refine w_neS' (Rep.lst (s12 _ _ h11) (.cons (Rep.non (n := 0)) .nil)) (Rep.lst upd_same (.cons (Rep.non (n := 0)) .nil)) (by decide) (by decide) ?_
        have G12 := G11.same s12
        have D12 := D11.same s12
        have m12 : Mv H10 _ dm dn := ⟨fun b o e n1 n2 => s12 _ _ (m11.keep b o e n1 n2), m11.tk.trans s12.tk⟩
        have q2' := s12 _ _ q2
        have q3' := s12 _ _ q3
        have ht12 := m12.tk _ _ ht10
        have e512 := e510.mono m12.tk
        have ia12 := ia.mono m12.tk
        have z1 : gv.length < sizeLine := lt_line (by omega)
        generalize hH12 : upd H11 q12 (.lst [.non]) = H12 at *
        walk_at "w"
        intro t13 nt13
        obtain ⟨D13, m13⟩ := G12.putA q2' q3' (fun k => (qM k).mono s12.tk) qO l1 l2 nt13 eM ia12 id9 e512
        have B13 := B10.move D12 m12 (fun _ => D13) m13
        have q4 := at_new (o' := HO.tup [.int k.s, .int (k.c + 1), .ref an9, td]) nt13 q2'
        have p13 := B13.A
        have p13 : upd (upd H12 t13 (.tup [.int k.s, .int (k.c + 1), .ref an9, td])) gm (.dK (putK gv (.inl h) (.ref t13))) p = some (.ins (CS K) dx (f_Sessions (.ref dm) (.ref dn))) := p13
        walk_at "w"
        refine ⟨p, dx, dm, dn, h, k.s, k.c + 1, _, O, z + 1, rfl, B13.A, B13.D, ?_⟩
        rw [ho, show keepM M h (.tuple [.str w, .int v9]) h = some ⟨k.s, k.c + 1, .tuple [.str w, .int v9], k.dt⟩ from by unfold keepM; rw [eM]; exact putM_at, again_is (k := ⟨k.s, k.c + 1, .tuple [.str w, .int v9], k.dt⟩)]
        walk_at "w"
        have fin := hQ _ _ _ B13 ((a10.trans (.mv m12 (by simp) (by simp))).trans (.mv m13 (by simp) (by simp)))
        exact fin
def sp_law (K : PySem.W.Frag) : Sp := fun vs H Q _ => ∃ (a : Addr) (ns : List Int), vs = [.ref a] ∧ SqL K H a (ns.map V.int) ∧ ns.length ≤ 63 ∧ ∀ H', Q (.bl true) H'
structure Kv (H : Hp) (gm : Addr) (kvs : List (Key × V)) (M : Int → Option Mk3) (i : Nat) : Prop where
  at_ : H gm = some (.dK kvs)
  rep : ∀ k, RepM H (valV kvs (.inl k)) (M k)
  nd : (kvs.map (·.1)).Nodup
  rf : ∀ pr ∈ kvs, ∃ c, pr.2 = .ref c
  lo : ∀ pr ∈ kvs, ∃ j : Nat, j < i ∧ pr.1 = .inl (j : Int)
  len : kvs.length ≤ i
theorem Kv.keep {H H' : Hp} {gm : Addr} {kvs : List (Key × V)} {M : Int → Option Mk3} {i : Nat} (X : Kv H gm kvs M i) (k : H gm = some (.dK kvs) → H' gm = some (.dK kvs)) (tk : TK H H') : Kv H' gm kvs M i := ⟨k X.at_, fun j => (X.rep j).mono tk, X.nd, X.rf, X.lo, X.len⟩
theorem Kv.more {H : Hp} {gm : Addr} {kvs : List (Key × V)} {M : Int → Option Mk3} {i : Nat} (X : Kv H gm kvs M i) : Kv H gm kvs M (i + 1) := ⟨X.at_, X.rep, X.nd, X.rf, fun pr h => let ⟨j, h1, h2⟩ := X.lo pr h; ⟨j, by omega, h2⟩, by have := X.len; omega⟩
theorem Kv.fresh {H : Hp} {gm : Addr} {kvs : List (Key × V)} {M : Int → Option Mk3} {i : Nat} (X : Kv H gm kvs M i) : valV kvs (.inl (i : Int)) = none := by
  cases e : valV kvs (.inl (i : Int)) with
  | none => rfl
  | some v =>
    unfold valV at e
    cases e2 : kvs.find? fun kv => decide (kv.1 = .inl (i : Int)) with
    | none => rw [e2] at e; cases e
    | some pr =>
      have h1 := List.find?_some e2
      obtain ⟨j, hj, h2⟩ := X.lo pr (List.mem_of_find?_eq_some e2)
      have h1 := of_decide_eq_true h1
      rw [h2] at h1
      have := Sum.inl.inj h1
      omega
theorem Kv.put {H : Hp} {gm t : Addr} {kvs : List (Key × V)} {M : Int → Option Mk3} {i : Nat} {k : Mk3} {an td : V} (X : Kv H gm kvs M i) (nt : H t = none) (h1 : Im H an k.da) (h2 : Im H td k.dt) (d1 : k.da.depth ≤ 1) (d2 : k.dt.depth ≤ 2) :
    Kv (upd (upd H t (.tup [.int k.s, .int k.c, an, td])) gm (.dK (putK kvs (.inl (i : Int)) (.ref t)))) gm (putK kvs (.inl (i : Int)) (.ref t)) (putM M i k) (i + 1) := by
  have tm : t ≠ gm := Ne.symm (ne_of_none X.at_ nt)
  have g2 := at_new (o' := HO.tup [.int k.s, .int k.c, an, td]) nt X.at_
  have tk : TK H (upd (upd H t (.tup [.int k.s, .int k.c, an, td])) gm (.dK (putK kvs (.inl (i : Int)) (.ref t)))) := (tk_new nt).trans (TK.dK g2)
  have e := putK_new (.ref t) X.fresh
  refine ⟨upd_same, reps_put (fun k => (X.rep k).mono tk) (.inr ⟨k, t, an, td, rfl, rfl, at_ne tm upd_same, h1.mono tk, h2.mono tk, d1, d2⟩), ?_, ?_, ?_, Nat.le_trans putK_le (by have := X.len; omega)⟩
  · rw [e, List.map_append, List.nodup_append]
    refine ⟨X.nd, by simp, fun x hx y hy => ?_⟩
    obtain ⟨pr, hp, rfl⟩ := List.mem_map.mp hx
    obtain ⟨j, hj, h3⟩ := X.lo pr hp
    simp at hy
    rw [h3, hy]
    intro z
    have := Sum.inl.inj z
    omega
  · rw [e]
    intro pr hp
    rcases List.mem_append.mp hp with hp | hp
    · exact X.rf pr hp
    · rw [List.mem_singleton.mp hp]; exact ⟨t, rfl⟩
  · rw [e]
    intro pr hp
    rcases List.mem_append.mp hp with hp | hp
    · obtain ⟨j, h3, h4⟩ := X.lo pr hp
      exact ⟨j, by omega, h4⟩
    · rw [List.mem_singleton.mp hp]; exact ⟨i, by omega, rfl⟩
theorem ok_law (T : Tx fa fn ts exs w K mg) {fd : FuncData} (F : FunD K "law" "law" (defArgs s_law) (defBody s_law) (defScope s_law) [] [] (He.ga K "law") fd) : FnOk P w K mg base (L2.CX P w) 6 (He.ga K "law") fd ["_law_script"] (sp_law K) := by
  refine FunD.ok (k := 5) F sc_law (fun vs H Q E h => ?_) (fun cdv A outer s H vs Q E hr h => ?_)
  · obtain ⟨a, ns, rfl, hS, hlen, hQ⟩ := h
    rfl
  · obtain ⟨a, ns, rfl, hS, hlen, hQ⟩ := h
    have hu := hu_of hr
    refine ⟨_, (pss_cons (ps_set (i := 1) sc_law.nd rfl (Or.inl rfl) (pe_lst (pa_cons (pe_callTy c_list (by rfl) (T.free 28) (by decide +kernel) (pa_cons (pv 0) pa_nil)) (pa_cons pe_int (pa_cons pe_int (pa_cons pe_int pa_nil))))))
      (pss_cons (ps_set (i := 2) sc_law.nd rfl (Or.inl rfl) pe_dnewK)
      (pss_cons (ps_for (passes_of rfl) rfl (pi_range1 rfl (T.free 6) (pa_cons pe_int pa_nil)) (pg_name (i := 3) sc_law.nd rfl (Or.inl rfl)) (pss_one (ps_if (pt_cmpR op_gt (pe_callO (ok__law_next T) (hr.mono (by decide)) rfl (T.glo 19) (passes_call (takes_of rfl rfl rfl rfl) (fun _ _ _ _ h => h)) (pa_cons (pv 1) (pa_cons pe_int pa_nil))) pe_int (nomark _)) (pss_cons (ps_set (i := 4) sc_law.nd rfl (Or.inl rfl) (pe_ix ix_list (pe_lst (pa_cons pe_non (pa_cons (pe_tup (pa_cons pe_int (pa_cons pe_int (pa_cons (pe_tup (pa_cons pe_str (pa_cons pe_non pa_nil))) pa_nil)))) pa_nil))) (pe_callO (ok__law_next T) (hr.mono (by decide)) rfl (T.glo 19) (passes_call (takes_of rfl rfl rfl rfl) (fun _ _ _ _ h => h)) (pa_cons (pv 1) (pa_cons pe_int pa_nil))) (fun _ _ => rfl)))
      (pss_cons (ps_set (i := 5) sc_law.nd rfl (Or.inl rfl) (pe_callO (ok__law_next T) (hr.mono (by decide)) rfl (T.glo 19) (passes_call (takes_of rfl rfl rfl rfl) (fun _ _ _ _ h => h)) (pa_cons (pv 1) (pa_cons pe_int pa_nil))))
      (pss_cons (ps_set (i := 6) sc_law.nd rfl (Or.inl rfl) pe_non)
      (C8.pss_cut (ps_if (pt_cmpR op_gt (pv 5) pe_int (nomark _)) (pss_one (ps_set (i := 6) sc_law.nd rfl (Or.inl rfl) (pe_tup (pa_cons pe_str (pa_cons (pe_ix ix_list (pe_lst (pa_cons pe_non (pa_cons pe_int pa_nil))) (pe_callO (ok__law_next T) (hr.mono (by decide)) rfl (T.glo 19) (passes_call (takes_of rfl rfl rfl rfl) (fun _ _ _ _ h => h)) (pa_cons (pv 1) (pa_cons pe_int pa_nil))) (fun _ _ => rfl)) pa_nil))))) pss_nil)
      (pss_one (ps_dput hu (pv 2) (pv 3) (pe_tup (pa_cons (pe_op op_add pe_int (pe_ix ix_list (pe_lst (pa_cons (pe_callO (ok__law_next T) (hr.mono (by decide)) rfl (T.glo 19) (passes_call (takes_of rfl rfl rfl rfl) (fun _ _ _ _ h => h)) (pa_cons (pv 1) (pa_cons pe_int pa_nil))) (pa_cons (pe_op op_pow pe_int pe_int) pa_nil))) (pe_callO (ok__law_next T) (hr.mono (by decide)) rfl (T.glo 19) (passes_call (takes_of rfl rfl rfl rfl) (fun _ _ _ _ h => h)) (pa_cons (pv 1) (pa_cons pe_int pa_nil))) (fun _ _ => rfl))) (pa_cons (pv 5) (pa_cons (pv 6) (pa_cons (pv 4) pa_nil))))) rfl)))))) pss_nil)))
      (pss_cons (ps_set (i := 7) sc_law.nd rfl (Or.inl rfl) (pe_callTy c_dict (by rfl) (T.free 3) (by decide +kernel) (pa_cons (pv 2) pa_nil)))
      (pss_cons (ps_set (i := 8) sc_law.nd rfl (Or.inl rfl) (pe_makeO (T.mkr 29) (ok_Sessions___init__ T) (hr.mono (by decide)) rfl (T.glo 30) (passes_call (takes_of rfl rfl rfl rfl) (fun _ _ _ _ h => h)) (pa_cons (pv 7) pa_nil)))
      (pss_cons (ps_set (i := 9) sc_law.nd rfl (Or.inl rfl) (pe_callTy c_dict (by rfl) (T.free 3) (by decide +kernel) (pa_cons (pv 2) pa_nil)))
      (pss_cons (ps_set (i := 10) sc_law.nd rfl (Or.inl rfl) pe_dnewK)
      (pss_cons (ps_if (pt_not (pt_val (pe_callO (ok__law_shows T) (hr.mono (by decide)) rfl (T.glo 31) (passes_call (takes_of rfl rfl rfl rfl) (fun _ _ _ _ h => h)) (pa_cons (pv 8) (pa_cons (pv 2) (pa_cons (pv 10) pa_nil)))))) (pss_one (ps_ret pe_bl)) pss_nil)
      (pss_cons (ps_for (passes_of rfl) rfl (pi_range1 rfl (T.free 6) (pa_cons (pe_op op_add pe_int (pe_callO (ok__law_next T) (hr.mono (by decide)) rfl (T.glo 19) (passes_call (takes_of rfl rfl rfl rfl) (fun _ _ _ _ h => h)) (pa_cons (pv 1) (pa_cons pe_int pa_nil)))) pa_nil)) (pg_name (i := 11) sc_law.nd rfl (Or.inl rfl)) (pss_one (ps_if (PW.pt (pw_or (pt_not (pt_val (pe_callO (ok__law_deed T) (hr.mono (by decide)) rfl (T.glo 32) (passes_call (takes_of rfl rfl rfl rfl) (fun _ _ _ _ h => h)) (pa_cons (pv 8) (pa_cons (pv 2) (pa_cons (pv 10) (pa_cons (pv 1) pa_nil))))))) (pw_or1 (pt_not (pt_val (pe_callO (ok__law_shows T) (hr.mono (by decide)) rfl (T.glo 31) (passes_call (takes_of rfl rfl rfl rfl) (fun _ _ _ _ h => h)) (pa_cons (pv 8) (pa_cons (pv 2) (pa_cons (pv 10) pa_nil))))))))) (pss_one (ps_ret pe_bl)) pss_nil)))
      (pss_one (ps_ret (pe_cmpR (op_eqV hr.units) (pv 7) (pv 9) (nomark _))))))))))))), ?_⟩
    refine w_start (σ' := [some _, none, none, none, none, none, none, none, none, none, none, none]) rfl ?_
    walk_at "w0"
    walk_at "w"
    refine ⟨a, _, rfl, .inl hS, fun l nl => ?_⟩
    walk_at "w"
    intro tp ntp
    obtain ⟨tl, ntp'⟩ := none1 ntp
    have T0 : Tp (upd (upd H l (.lst (ns.map V.int))) tp (.lst [.ref l, .int 0, .int 0, .int 7])) tp l ns := ⟨⟨0, 0, 7, upd_same, by decide, by decide, by decide, by decide⟩, at_new ntp upd_same, tl.symm⟩
    generalize hH0 : upd (upd H l (.lst (ns.map V.int))) tp (.lst [.ref l, .int 0, .int 0, .int 7]) = H0 at T0 ⊢
    walk_at "w"
    intro gm ngm
    have T1 : Tp (upd H0 gm (.dK [])) tp l ns := T0.same (same_new ngm)
    have gtp : gm ≠ tp := fun z => by
      obtain ⟨i, r, s, h, _⟩ := T0.at_
      rw [z, h] at ngm; cases ngm
    have gl : gm ≠ l := fun z => by
      rw [z, T0.src] at ngm; cases ngm
    walk_at "w"
    refine loop_range (fun i σ H' => ∃ (kvs : List (Key × V)) (M : Int → Option Mk3) (v3 v4 v5 v6 : Option V), σ = [some (.ref a), some (.ref tp), some (.ref gm), v3, v4, v5, v6, none, none, none, none, none] ∧ Tp H' tp l ns ∧ Kv H' gm kvs M i)
      ⟨[], fun _ => none, none, none, none, none, rfl, T1, ⟨upd_same, fun k => .inl ⟨rfl, rfl⟩, List.nodup_nil, nofun, nofun, Nat.le_refl _⟩⟩ ?_ ?_
    · rintro i σ H1 hi ⟨kvs, M, v3, v4, v5, v6, rfl, T1, X1⟩
      have hi : i < 4 := hi
      rw [Int.zero_add]
      walk_at "w"
      refine ⟨tp, l, ns, 3, rfl, T1, by decide, fun H2 x _ _ T2 b2 => ?_⟩
      have X2 := X1.keep (fun e => b2 _ _ e gtp) (fun a xs e => b2 a _ e (ne_of e T1.at_.choose_spec.choose_spec.choose_spec.1 (by intro z; cases z)))
      walk_at "w"
      walk_at "if"
      · intro c1
        walk_at "w"
        intro p1 np1
        walk_at "w"
        intro p2 np2
        walk_at "w"
        intro p3 np3
        have e1 : (upd (upd (upd H2 p1 (.tup [.str "ok", .non])) p2 (.tup [.int 1, .int 2, .ref p1])) p3 (.lst [.non, .ref p2])) p1 = some (.tup [.str "ok", .non]) := at_new np3 (at_new np2 upd_same)
        have e2 : (upd (upd (upd H2 p1 (.tup [.str "ok", .non])) p2 (.tup [.int 1, .int 2, .ref p1])) p3 (.lst [.non, .ref p2])) p2 = some (.tup [.int 1, .int 2, .ref p1]) := at_new np3 upd_same
        have e3 : (upd (upd (upd H2 p1 (.tup [.str "ok", .non])) p2 (.tup [.int 1, .int 2, .ref p1])) p3 (.lst [.non, .ref p2])) p3 = some (.lst [.non, .ref p2]) := upd_same
        have s3 : Same H2 (upd (upd (upd H2 p1 (.tup [.str "ok", .non])) p2 (.tup [.int 1, .int 2, .ref p1])) p3 (.lst [.non, .ref p2])) := (same_new np1).trans ((same_new np2).trans (same_new np3))
        have p3t : p3 ≠ tp := by
          obtain ⟨_, _, n3⟩ := none2 np3
          exact Ne.symm (ne_of_none T2.at_.choose_spec.choose_spec.choose_spec.1 n3)
        have T3 := T2.same s3
        have X3 := X2.keep (fun e => s3 _ _ e) s3.tk
        generalize hH3 : upd (upd (upd H2 p1 (.tup [.str "ok", .non])) p2 (.tup [.int 1, .int 2, .ref p1])) p3 (.lst [.non, .ref p2]) = H3 at *
        walk_at "w"
        refine ⟨tp, l, ns, 2, rfl, T3, by decide, fun H4 x4 z40 z41 T4 b4 => ?_⟩
        have tk4 : TK H3 H4 := But.tk (i := 0) (r := 0) (s := 0) T3 b4
        have X4 := X3.keep (fun e => b4 _ _ e gtp) tk4
        obtain ⟨td, dt, hd, itd, ddt⟩ : ∃ td dt, atI [V.non, .ref p2] x4 = some td ∧ Im H4 td dt ∧ dt.depth ≤ 2 := by
          have h2 : x4 = 0 ∨ x4 = 1 := by omega
          rcases h2 with rfl | rfl
          · exact ⟨_, _, rfl, .non, by simp [PyData.depth]⟩
          · exact ⟨_, _, rfl, .tup (tk4 _ _ e2) (.cons (.int _) (.cons (.int _) (.cons (.tup (tk4 _ _ e1) (.cons (.str _ (by decide +kernel)) (.cons .non .nil))) .nil))), by simp [PyData.depth, PyData.depthAll]⟩
        refine w_ixL (b4 _ _ e3 p3t) hd ?_
        walk_at "w"
        refine ⟨tp, l, ns, 3, rfl, T4, by decide, fun H5 x5 z50 z51 T5 b5 => ?_⟩
        have tk5 : TK H4 H5 := But.tk (i := 0) (r := 0) (s := 0) T4 b5
        have X5 := X4.keep (fun e => b5 _ _ e gtp) tk5
        walk_at "w"
        refine w_cut (fun σ H' => ∃ an da, σ = [some (.ref a), some (.ref tp), some (.ref gm), some (.int (i : Int)), some td, some (.int x5), some an, none, none, none, none, none] ∧ Tp H' tp l ns ∧ But tp H5 H' ∧ Im H' an da ∧ da.depth ≤ 1) ?_ ?_
        · walk_at "w"
          walk_at "if"
          · intro c2
            walk_at "w"
            intro q1 nq1
            have T6 := T5.same (same_new (o := HO.lst [.non, .int 40]) nq1)
            have q1t : q1 ≠ tp := Ne.symm (ne_of_none T5.at_.choose_spec.choose_spec.choose_spec.1 nq1)
            walk_at "w"
            refine ⟨tp, l, ns, 2, rfl, T6, by decide, fun H7 x7 z70 z71 T7 b7 => ?_⟩
            obtain ⟨v, d, hv, iv, dv⟩ : ∃ v d, atI [V.non, .int 40] x7 = some v ∧ Im H7 v d ∧ d.depth ≤ 0 := by
              have h2 : x7 = 0 ∨ x7 = 1 := by omega
              rcases h2 with rfl | rfl
              · exact ⟨_, _, rfl, .non, by simp [PyData.depth]⟩
              · exact ⟨_, _, rfl, .int _, by simp [PyData.depth]⟩
            refine w_ixL (b7 _ _ upd_same q1t) hv ?_
            walk_at "w"
            intro q2 nq2
            walk_at "w"
            refine ⟨.ref q2, _, rfl, T7.same (same_new nq2), ((But.same (same_new nq1)).trans b7).trans (.same (same_new nq2)), .tup upd_same (.cons (.str _ (by decide +kernel)) (.cons (iv.mono (tk_new nq2)) .nil)), ?_⟩
            have h0 : d.depth = 0 := by omega
            simp [PyData.depth, PyData.depthAll, h0]
          · intro c2
            walk_at "w"
            exact ⟨.non, .none, rfl, T5, fun _ _ e _ => e, .non, by simp [PyData.depth]⟩
        · rintro σ H6 ⟨an, da, rfl, T6, b6, ia, dda⟩
          have tk6 : TK H5 H6 := But.tk (i := 0) (r := 0) (s := 0) T5 b6
          have X6 := X5.keep (fun e => b6 _ _ e gtp) tk6
          walk_at "w"
          refine ⟨tp, l, ns, 5, rfl, T6, by decide, fun H7 x7 _ _ T7 b7 => ?_⟩
          have tk7 : TK H6 H7 := But.tk (i := 0) (r := 0) (s := 0) T6 b7
          have X7 := X6.keep (fun e => b7 _ _ e gtp) tk7
          walk_at "w"
          intro q1 nq1
          have s8 := same_new (o := HO.lst [.int x7, .int (10 ^ (20 : Int).toNat)]) nq1
          have T8 := T7.same s8
          have q1t : q1 ≠ tp := Ne.symm (ne_of_none T7.at_.choose_spec.choose_spec.choose_spec.1 nq1)
          have X8 := X7.keep (fun e => s8 _ _ e) s8.tk
          walk_at "w"
          refine ⟨tp, l, ns, 2, rfl, T8, by decide, fun H9 x9 z90 z91 T9 b9 => ?_⟩
          have tk9 : TK _ H9 := But.tk (i := 0) (r := 0) (s := 0) T8 b9
          have X9 := X8.keep (fun e => b9 _ _ e gtp) tk9
          obtain ⟨b, hb⟩ : ∃ b : Int, atI [V.int x7, .int (10 ^ (20 : Int).toNat)] x9 = some (.int b) := by
            have h2 : x9 = 0 ∨ x9 = 1 := by omega
            rcases h2 with rfl | rfl
            · exact ⟨_, rfl⟩
            · exact ⟨_, rfl⟩
          refine w_ixL (b9 _ _ upd_same q1t) hb ?_
          walk_at "w"
          intro t nt
          have g9 := at_new (o' := HO.tup [.int (2 + b), .int x5, an, td]) nt X9.at_
          have hz : kvs.length < sizeLine := lt_line (by have := X9.len; omega)
          walk_at "w"
          have X10 := X9.put (k := ⟨2 + b, x5, da, dt⟩) nt ((ia.mono tk7).mono (s8.tk.trans tk9)) ((((itd.mono tk5).mono tk6).mono tk7).mono (s8.tk.trans tk9)) dda ddt
          refine w_dp g9 hz ?_
          exact ⟨_, _, _, _, _, _, rfl, T9.keep fun b o h e => at_ne (by rcases h with rfl | rfl; exact Ne.symm gtp; exact Ne.symm gl) (at_new nt e), X10⟩
      · intro c1
        walk_at "w"
        exact ⟨kvs, M, _, _, _, _, rfl, T2, X2.more⟩
    · rintro σ H1 ⟨kvs, M, v3, v4, v5, v6, rfl, T1, X1⟩
      have hk := X1.at_
      walk_at "w"
      intro pd npd
      have s2 := same_new (o := HO.dK kvs) npd
      have hpd : (upd H1 pd (.dK kvs)) pd = some (.dK kvs) := upd_same
      have T2 := T1.same s2
      have X2 := X1.keep (fun e => s2 _ _ e) s2.tk
      generalize hH2 : upd H1 pd (.dK kvs) = H2 at s2 hpd T2 X2 ⊢
      walk_at "w"
      intro p dx np ndx ne
      have s3 : ∀ b o, H2 b = some o → (upd (upd H2 dx (.own p)) p (.ins (He.ga K "Sessions") dx [])) b = some o := fun b o e => at_ne (ne_of_none e np) (at_new ndx e)
      refine ⟨p, dx, pd, kvs, rfl, upd_same, s3 _ _ hpd, fun H4 dm dn n1 n2 mn A4 h4 h5 kp => ⟨rfl, ?_⟩⟩
      have s4 : Same H2 H4 := fun b o e => kp b o (s3 _ _ e) (ne_of_none e np)
      have m1 : H2 dm = none := by
        cases e : H2 dm with
        | none => rfl
        | some o => rw [s3 _ _ e] at n1; cases n1
      have m2 : H2 dn = none := by
        cases e : H2 dn with
        | none => rfl
        | some o => rw [s3 _ _ e] at n2; cases n2
      have pm : p ≠ dm := fun z => by rw [← z, upd_same] at n1; cases n1
      have pn : p ≠ dn := fun z => by rw [← z, upd_same] at n2; cases n2
      have X4 := X2.keep (fun e => s4 _ _ e) s4.tk
      have T4 := T2.same s4
      have hk4 := X4.at_
      walk_at "w"
      intro kd nkd
      have s5 := same_new (o := HO.dK kvs) nkd
      walk_at "w"
      intro gn ngn
      obtain ⟨gk, ngn'⟩ := none1 ngn
      have s6 := s5.trans (same_new (o := HO.dK []) ngn)
      have X6 := X4.keep (fun e => s6 _ _ e) s6.tk
      have T6 := T4.same s6
      have dd : DS (upd (upd H4 kd (.dK kvs)) gn (.dK [])) dm dn M (fun _ => false) 4 := ⟨⟨kvs, [], s6 _ _ h4, s6 _ _ h5, X6.rep, fun k => rfl, X6.len, by decide⟩, nofun, mn⟩
      have gg : DS (upd (upd H4 kd (.dK kvs)) gn (.dK [])) gm gn M (fun _ => false) 4 := ⟨⟨kvs, [], X6.at_, upd_same, X6.rep, fun k => rfl, X6.len, by decide⟩, nofun, ne_of_none X4.at_ ngn'⟩
      have htp := T2.at_.choose_spec.choose_spec.choose_spec.1
      have hl2 := T2.src
      have h2gm := X2.at_
      have f1 : ∀ {c : Addr} {o : HO}, H2 c = some o → dm ≠ c := fun e => Ne.symm (ne_of_none e m1)
      have f2 : ∀ {c : Addr} {o : HO}, H2 c = some o → dn ≠ c := fun e => Ne.symm (ne_of_none e m2)
      have f3 : ∀ {c : Addr} {o : HO}, H4 c = some o → gn ≠ c := fun e => Ne.symm (ne_of_none e ngn')
      have f4 : ∀ {c : Addr} {o : HO}, H4 c = some o → kd ≠ c := fun e => Ne.symm (ne_of_none e nkd)
      have pf : ∀ {c : Addr} {o : HO}, H2 c = some o → c ≠ p := fun e => ne_of_none e np
      have B6 : Both K (upd (upd H4 kd (.dK kvs)) gn (.dK [])) p dx dm dn gm gn tp l ns M (fun _ => false) 4 := by
        refine ⟨s6 _ _ A4, dd, gg, T6, ?_⟩
        simp only [List.nodup_cons, List.mem_cons, List.not_mem_nil, or_false, not_or, List.nodup_nil, and_true, not_false_eq_true]
        exact ⟨⟨mn, f1 h2gm, Ne.symm (f3 h4), f1 htp, f1 hl2, Ne.symm pm⟩, ⟨f2 h2gm, Ne.symm (f3 h5), f2 htp, f2 hl2, Ne.symm pn⟩, ⟨Ne.symm (f3 X4.at_), gtp, gl, pf h2gm⟩, ⟨f3 (s4 _ _ htp), f3 T4.src, f3 A4⟩, ⟨Ne.symm T1.ne, pf htp⟩, pf hl2⟩
      have k1 : (upd (upd H4 kd (.dK kvs)) gn (.dK [])) pd = some (.dK kvs) := s6 _ _ (s4 _ _ hpd)
      have k2 : (upd (upd H4 kd (.dK kvs)) gn (.dK [])) kd = some (.dK kvs) := at_new ngn upd_same
      have npd2 : pd ≠ gm := Ne.symm (ne_of_none X1.at_ npd)
      have o1 : pd ∉ [dm, dn, gm, gn, tp] := by
        simp only [List.mem_cons, List.not_mem_nil, or_false, not_or]
        exact ⟨Ne.symm (f1 hpd), Ne.symm (f2 hpd), npd2, Ne.symm (f3 (s4 _ _ hpd)), Ne.symm (ne_of_none T1.at_.choose_spec.choose_spec.choose_spec.1 npd)⟩
      have o2 : kd ∉ [dm, dn, gm, gn, tp] := by
        simp only [List.mem_cons, List.not_mem_nil, or_false, not_or]
        exact ⟨f4 h4, f4 h5, f4 X4.at_, Ne.symm gk, f4 (s4 _ _ htp)⟩
      generalize hH6 : upd (upd H4 kd (.dK kvs)) gn (.dK []) = H6 at B6 k1 k2 ⊢
      walk_at "w"
      refine ⟨p, dx, dm, dn, gm, gn, M, _, 4, 4, rfl, B6.A, B6.D, B6.G, fun H7 s7 => ?_⟩
      have B7 := B6.same s7
      walk_at "w"
      refine ⟨tp, l, ns, 40, rfl, B7.T, by decide, fun H8 x8 _ _ T8 b8 => ?_⟩
      have B8 := B7.draw b8 T8
      have a8 : AllO H6 H8 [dm, dn, gm, gn, tp] := AllO.trans (.same s7) (.but b8 (by simp))
      walk_at "w"
      refine loop_range (fun i σ H' => ∃ (M : Int → Option Mk3) (O : Int → Bool) (v11 : Option V), σ = [some (.ref a), some (.ref tp), some (.ref gm), v3, v4, v5, v6, some (.ref pd), some (.ref p), some (.ref kd), some (.ref gn), v11] ∧ Both K H' p dx dm dn gm gn tp l ns M O (4 + i) ∧ AllO H6 H' [dm, dn, gm, gn, tp])
        ⟨M, _, none, rfl, B8, a8⟩ ?_ ?_
      · rintro i σ H9 hi ⟨M, O, v11, rfl, B9, a9⟩
        have hi : i < 41 := by omega
        walk_at "w"
        refine ⟨p, dx, dm, dn, gm, gn, tp, l, ns, M, O, 4 + i, rfl, B9, by omega, fun H10 M' O' B10 a10 => ?_⟩
        walk_at "w"
        refine ⟨p, dx, dm, dn, gm, gn, M', O', _, _, rfl, B10.A, B10.D, B10.G, fun H11 s11 => ?_⟩
        walk_at "w"
        exact ⟨M', O', _, rfl, B10.same s11, (a9.trans a10).trans (.same s11)⟩
      · rintro σ H9 ⟨M, O, v11, rfl, B9, a9⟩
        walk_at "w"
        exact w_eqDs (a9 _ _ k1 o1) (a9 _ _ k2 o2) X1.nd X1.rf (hQ _)
end
abbrev R : PySem.W.OpenRow := PySem.W.OpenLaw.row PySem.Challenge.rw_spindlegate_k39_sessions
abbrev hk : PySem.W.Hook := He.hookX 5 fa fn ts [] exA
def ob (s : PySem.W.SharedT) : He.AlX := He.obsX 5 fa fn ts [] exA (HandSHeadRun.getT s)
theorem ob_eq (s : PySem.W.SharedT) : ob s = hk.obs s.abs := He.obsX_eq (HandSHeadRun.getT_eq s)
theorem run (w : World) : HandSHeadRun.RunEq R (PySem.W.view R.prog [15]) hk ob 2000 ["SpindleError", "NotValid", "Sessions", "_law_next", "_law_told", "_law_connecting", "_law_kind", "_law_begin", "_law_keep", "_law_shows", "_law_kept", "_law_deed"] w := by
  intro os
  kernel_rfl
theorem facts {P : Program} {w : World} {K : PySem.W.Frag} {h : Heap} {mg : Str → Option Value} {f : Addr} (X : K.In h) (G : h.Ns mainGlobals mg) (hfa : mg ("law" : Str) = some (.ref f)) (c : He.SaysX fa fn ts [] exA w h K) :
    ∃ fd : FuncData, (∀ (s : Shared) (v : Value), BindsTo s fd ⟨[v], []⟩ [("_law_script", v)]) ∧ ∀ base : Heap, K.In base → base.Ns mainGlobals mg → FnOk P w K mg base (L2.CX P w) 6 f fd ["_law_script"] (sp_law K) := by
  obtain ⟨fd, F⟩ := c.t.d.def_ 18 (d := d_law) rfl
  have e := hfa.symm.trans (He.glo_ok X G (c.t.d.fact 36 (f := .glo "law") rfl))
  cases e
  have b := FunD.bindsA (ps := ["_law_script"]) F fun _ _ _ _ _ _ us hl => match us, hl with | [_], _ => rfl
  exact ⟨fd, fun s v => b s [v] rfl, fun base _ _ => ok_law ⟨⟨h, X, G⟩, c.t, c.more⟩ F⟩
end K39
open PySem PySem.W PySem.Calls PyProof.Rows
set_option maxRecDepth 100000 in
set_option maxHeartbeats 0 in
theorem PySem.Challenge.cw_spindlegate_k39_sessions_holds : PySem.Challenge.rw_spindlegate_k39_sessions.Holds := by
  w_on; o_law
  refine HandSHeadRun.head_any (r := OpenLaw.row PySem.Challenge.rw_spindlegate_k39_sessions) (q := view (OpenLaw.row PySem.Challenge.rw_spindlegate_k39_sessions).prog [15]) (H := K39.hk) (ob := K39.ob) (M := 2000) (loose := ["SpindleError", "NotValid", "Sessions", "_law_next", "_law_told", "_law_connecting", "_law_kind", "_law_begin", "_law_keep", "_law_shows", "_law_kept", "_law_deed"]) (d := HandSHeadRun.topDef (OpenLaw.row PySem.Challenge.rw_spindlegate_k39_sessions).prog 15) (kwd := []) K39.ob_eq
    (by kernel_rfl) (fun s => by kernel_rfl) K39.run (by kernel_rfl) (by kernel_rfl) (by kernel_rfl) (by rfl) (by first | assumption | decide +kernel) (by decide +kernel) ⟨rfl, rfl, rfl, rfl, rfl, by decide +kernel⟩ ?hw ?hc
  case hw => w_witness2
  case hc =>
    refine Sp.walk_ofW (l := PySem.Challenge.rw_spindlegate_k39_sessions) (n := 63) (k := 6) (x := "_law_script") rfl (by decide) (by kernel_rfl) ⟨rfl, by decide, by decide⟩ ?F
    intro w mg fa h Y G hmg0
    obtain ⟨K, KX, c⟩ := Y
    have hmg : mg ("law" : PySem.Str) = some (.ref fa) := by
      have e : (HandSHeadRun.topDef (OpenLaw.row PySem.Challenge.rw_spindlegate_k39_sessions).prog 15).name = ("law" : PySem.Str) := by kernel_rfl
      rw [← e]
      exact hmg0
    obtain ⟨fd, hb, hF⟩ := K39.facts (P := (PySem.Challenge.rw_spindlegate_k39_sessions).prog) (w := w) KX G hmg c
    exact ⟨K, fd, K39.sp_law K, KX, hb, fun H a ns hl _ hS => ⟨a, ns, rfl, hS, hl, fun _ => rfl⟩, hF⟩

