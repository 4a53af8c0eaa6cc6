import PyProof.Rows.All
import Wide.All
import OpenK.AllK
import Wide.FinOn
import PyProof.EqAt
import PyProof.EqKinds
import PyProof.TupleCall
import PyProof.P3Eq
import HandS.ForMost
import HandS.Exc
import HandS.TryOnly
import HandS.ExcOwn
import HandS.WordsExc
import HandS.ExcIs
import HandS.IsInst
import HandS.Codes
import HandS.Small
import HandS.Flow
import HandS.Style
import HandS.Zip
import HandS.TupAny
import HandS.SortInts
import HandS.Defaults
import HandS.HeadEnd
import HandS.HeadHook1
import HandS.HeadHook2
import HandS.HeadHook3
import HandS.HeadHook4
import HandS.Head0
import HandS.Head1
import HandS.Head2
import PySem.Challenge.RW_spindlegate_k01_flash
set_option Elab.async false
set_option linter.all false
set_option maxRecDepth 100000
set_option maxHeartbeats 4000000
namespace Sp
open PySem PySem.Spec PyProof.Rows L2

/-! ### the head's facts in use -/
structure Tx (fa : List He.Fa) (fn : List He.DefD) (ts : List He.Tab) (exs : List (PySem.W.Frag → Bool)) (w : World) (K : PySem.W.Frag) (mg : Str → Option Value) : Prop where
  hp : ∃ h : Heap, K.In h ∧ h.Ns mainGlobals mg
  says : He.SaysT fa fn ts w K
  more : (exs.all fun f => f K) = true
section
variable {fa : List He.Fa} {fn : List He.DefD} {ts : List He.Tab} {exs : List (PySem.W.Frag → Bool)} {w : World} {K : PySem.W.Frag} {mg : Str → Option Value}
theorem Tx.glo (T : Tx fa fn ts exs w K mg) (i : Nat) {x : Str} (e : fa[i]? = some (.glo x) := by rfl) : mg x = some (.ref (He.ga K x)) :=
  let ⟨_, X, G⟩ := T.hp; He.glo_ok X G (T.says.d.fact i e)
theorem Tx.free (T : Tx fa fn ts exs w K mg) (i : Nat) {x : Str} (e : fa[i]? = some (.free x) := by rfl) : mg x = none :=
  let ⟨_, X, G⟩ := T.hp; He.free_ok X G (T.says.d.fact i e)
theorem Tx.int (T : Tx fa fn ts exs w K mg) (i : Nat) {x : Str} {n : Int} (e : fa[i]? = some (.int x n) := by rfl) : ∃ t, mg x = some (.int n t) :=
  let ⟨_, X, G⟩ := T.hp; He.int_ok X G (T.says.d.fact i e)
theorem Tx.str (T : Tx fa fn ts exs w K mg) (i : Nat) {x z : Str} (e : fa[i]? = some (.str x z) := by rfl) : ∃ t, mg x = some (.str z t) :=
  let ⟨_, X, G⟩ := T.hp; He.str_ok X G (T.says.d.fact i e)
theorem Tx.cls (T : Tx fa fn ts exs w K mg) (i : Nat) {x : Str} (e : fa[i]? = some (.cls x) := by rfl) : Cls K (He.ga K x) := He.cls_ok (T.says.d.fact i e)
theorem Tx.noat (T : Tx fa fn ts exs w K mg) (i : Nat) {x f : Str} (e : fa[i]? = some (.noat x f) := by rfl) : NoAttr K (He.ga K x) f := He.noat_ok (T.says.d.fact i e)
theorem Tx.meth (T : Tx fa fn ts exs w K mg) (i : Nat) {x m : Str} (e : fa[i]? = some (.meth x m) := by rfl) : Meth K (He.ga K x) m (He.ma K (He.ga K x) m) := He.meth_ok (T.says.d.fact i e)
theorem Tx.mkr (T : Tx fa fn ts exs w K mg) (i : Nat) {x : Str} (e : fa[i]? = some (.mkr x) := by rfl) : Mk K (He.ga K x) (He.ma K (He.ga K x) "__init__") := He.mkr_ok (T.says.d.fact i e)
theorem Tx.exc (T : Tx fa fn ts exs w K mg) (i : Nat) {x : Str} (e : fa[i]? = some (.exc x) := by rfl) : PySem.W.excIn K (He.ga K x) He.veBase "ValueError.__new__" = true ∧ PySem.W.keepIn K (.ref (He.ga K x)) = true ∧ PySem.W.subIn K (.ref (He.ga K x)) (.type "BaseException") = some true ∧
    PySem.W.typeIn K (.ref (He.ga K x)) = some (.type "type") := He.exc_ok (T.says.d.fact i e)
theorem Tx.exm (T : Tx fa fn ts exs w K mg) (i : Nat) {x y : Str} {b : Bool} (e : fa[i]? = some (.exm x y b) := by rfl) : PySem.W.exmOne K (.ref (He.ga K x)) (.ref (He.ga K y)) = some b := He.exm_ok (T.says.d.fact i e)
theorem Tx.ex (T : Tx fa fn ts exs w K mg) (i : Nat) {f : PySem.W.Frag → Bool} (e : exs[i]? = some f := by rfl) : f K = true := List.all_eq_true.mp T.more f (List.mem_of_getElem? e)
end
/-! what the class of an own error says, as a look -/
def excB (x : Str) (K : PySem.W.Frag) : Bool :=
  He.eqO (PySem.W.findIn K (.ref (He.ga K x)) "__getattribute__") (some (some (.builtin "BaseException.__getattribute__"))) && (He.eqO (PySem.W.findIn K (.ref (He.ga K x)) "__getattr__") (some none) && (decide (PySem.W.subIn K (.ref (He.ga K x)) (.type "BaseException") = some true) &&
  (PySem.W.hasDictIn K (He.ga K x) && (He.eqO (PySem.W.findIn K (.ref (He.ga K x)) "__class__") (some (some (.builtin "object.__class__"))) && (He.eqO (PySem.W.specialIn K (.builtin "object.__class__") "__get__") (some (some (.builtin "getset_descriptor.__get__"))) &&
  (decide (PySem.W.takesIn K (.builtin "object.__class__") = some true) && decide (PySem.W.mroIn K (He.ga K x) (.type "object") = some true)))))))
theorem excB_ok {x : Str} {K : PySem.W.Frag} (h : excB x K = true) : ExcC K (He.ga K x) := by
  obtain ⟨h1, h⟩ := He.ba h
  obtain ⟨h2, h⟩ := He.ba h
  obtain ⟨h3, h⟩ := He.ba h
  obtain ⟨h4, h⟩ := He.ba h
  obtain ⟨h5, h⟩ := He.ba h
  obtain ⟨h6, h⟩ := He.ba h
  obtain ⟨h7, h8⟩ := He.ba h
  exact ⟨He.eqO_ok h1, He.eqO_ok h2, of_decide_eq_true h3, h4, He.eqO_ok h5, He.eqO_ok h6, of_decide_eq_true h7, of_decide_eq_true h8⟩
/-- isinstance of an error of the class x and a class y -/
def kitB2 (x y : Str) (b : Bool) (K : PySem.W.Frag) : Bool := decide (PySem.W.kitOne K (.ref (He.ga K x)) (.ref (He.ga K y)) = some b)
theorem kitB2_ok {x y : Str} {b : Bool} {K : PySem.W.Frag} (h : kitB2 x y b K = true) : PySem.W.kitOne K (.ref (He.ga K x)) (.ref (He.ga K y)) = some b := of_decide_eq_true h
/-- isinstance(e, C) within a suite, whatever error it holds -/
def rIsG (K : PySem.W.Frag) (a : Addr) (cls : Value) (d : Option Addr) : List V → Hp → VK → Prop := fun xs H Q => ∃ D c b, cls = .ref D ∧ d = none ∧ ExcC K D ∧ xs = [.ref a, .ref c] ∧ PySem.W.kitOne K (.ref D) (.ref c) = some b ∧ Q (.bl b) H
theorem call_isG {X : Cx} {a : Addr} {cls : Value} {d : Option Addr} {oe : Obj} {pn : List (Addr × Obj)} (hz : Zc cls d oe) (hf : ∃ vs, oe.data = .fields vs) : CallR (X.suite a ((a, oe) :: pn)) (.builtin "isinstance") (rIsG X.K a cls d) := by
  intro pins s σ H xs us Q I r h
  obtain ⟨D, c, b, rfl, rfl, C, rfl, e, q⟩ := h
  exact call_isE C hz hf pins s σ H _ us Q I r ⟨.ref c, .ref c, b, rfl, fun u ru => ru, e, q⟩
theorem w_isG {K : PySem.W.Frag} {a D c : Addr} {b : Bool} {H : Hp} {Q : VK} (C : ExcC K D) (e : PySem.W.kitOne K (.ref D) (.ref c) = some b) (k : Q (.bl b) H) : rIsG K a (.ref D) none [.ref a, .ref c] H Q := ⟨D, c, b, rfl, rfl, C, rfl, e, k⟩

/-! ### a def that holds its promise -/
def Okd (P : Program) (w : World) (K : PySem.W.Frag) (mg : Str → Option Value) (base : Heap) (p : Str × Option Str) (k : Nat) (ps : List Str) (sp : Sp) : Prop :=
  ∃ fd, Binds K fd ps [] ∧ PySem.W.keepIn K (.ref (He.fAd K p)) = true ∧ FnOk P w K mg base (L2.CX P w) k (He.fAd K p) fd ps sp
section
variable {P : Program} {w : World} {K : PySem.W.Frag} {mg : Str → Option Value} {base : Heap} {fa : List He.Fa} {fn : List He.DefD} {ts : List He.Tab} {exs : List (PySem.W.Frag → Bool)}
theorem okd (T : Tx fa fn ts exs w K mg) (i : Nat) {at_ : Str × Option Str} {name qual : Str} {params : Arguments} {body : List Stmt} {scope : Scope} {N ps : List Str} {k : Nat} {sp : Sp}
    (e : fn[i]? = some ⟨at_, name, qual, params, body, scope, [], []⟩) (S : FnScope N ps scope)
    (hb : ∀ (kV doc pm : Value) (an : Option Addr) (cdv ct : Value) (us : List Value), us.length = ps.length → bindArgs (PySem.W.fnOf name qual params body scope .none kV doc pm an cdv ct) ⟨us, []⟩ = pure (ps.zip us))
    (len : ∀ vs H Q E, sp vs H Q E → vs.length = ps.length)
    (hbody : ∀ (f : Addr) (cdv : Value) (A : Around) (outer : List Env) (s : Shared) (H : Hp) (vs : List V) (Q : VK) (E : XK), Room k (A.deeper (envOfC qual scope s.heap.objs.size f cdv)) → sp vs H Q E →
      ∃ t, PSs (cxOf (L2.CX P w) P w K mg base N qual scope f cdv A outer s H E) body t ∧ t { nx := fun _ H' => Q .non H', rt := Q } (start N vs) H) :
    Okd P w K mg base at_ (k + 1) ps sp := by
  obtain ⟨fd, F⟩ := T.says.d.def_ i e
  exact ⟨fd, F.bindsN hb, F.kp, FunD.ok F S len (hbody _)⟩
end
section
variable {X : Cx} {k : Nat} {ps : List Str} {sp : Sp} {E : XK} {x m C : Str} {p pos apos : Pos} {e o : Expr} {es : List Expr} {ta : TE} {t : TA}
theorem pe_callO (O : Okd X.prog X.w X.K X.mg X.base (x, none) k ps sp) (hr : Room k X.A) (hg : Gl X x) (hm : X.mg x = some (.ref (He.ga X.K x))) (hx : Passes (L2.CX X.prog X.w) X E) (ha : PA X (e :: es) t) (hdb : (x == ("__debug__" : Str)) = false := by decide)
    (he : starEach (e :: es) X.env = (false, eval e X.env) :: starEach es X.env := by rfl) (hpl : (backTo pos (starEach es X.env)).any (·.1) = false := by rfl) : PE X (.Call (.Name x p) (e :: es) [] pos) (tCall sp [] E t) :=
  let ⟨_, hb, hk, F⟩ := O; pe_call F hr hg hm hk hb .nil hx ha hdb he hpl
theorem pe_callO0 (O : Okd X.prog X.w X.K X.mg X.base (x, none) k ps sp) (hr : Room k X.A) (hg : Gl X x) (hm : X.mg x = some (.ref (He.ga X.K x))) (hx : Passes (L2.CX X.prog X.w) X E) (hdb : (x == ("__debug__" : Str)) = false := by decide) :
    PE X (.Call (.Name x p) [] [] pos) (tCall sp [] E tNil) :=
  let ⟨_, hb, hk, F⟩ := O; pe_call0 F hr hg hm hk hb .nil hx hdb
theorem pe_callOS {E : L2.St → XK} (O : Okd X.prog X.w X.K X.mg X.base (x, none) k ps sp) (hr : Room k X.A) (hg : Gl X x) (hm : X.mg x = some (.ref (He.ga X.K x))) (hx : ∀ σ, PassesAt (L2.CX X.prog X.w) X σ (E σ)) (ha : PA X (e :: es) t) (hdb : (x == ("__debug__" : Str)) = false := by decide)
    (he : starEach (e :: es) X.env = (false, eval e X.env) :: starEach es X.env := by rfl) (hpl : (backTo pos (starEach es X.env)).any (·.1) = false := by rfl) : PE X (.Call (.Name x p) (e :: es) [] pos) (tCallS sp E t) :=
  let ⟨_, hb, hk, F⟩ := O; pe_callS F hr hg hm hk hb hx ha hdb he hpl
theorem pe_methO {pl : Sem Bool} (he : PE X o ta) (c : Cls X.K (He.ga X.K C)) (hm : Meth X.K (He.ga X.K C) m (He.ma X.K (He.ga X.K C) m)) (O : Okd X.prog X.w X.K X.mg X.base (C, some m) k ps sp) (hr : Room k X.A) (hx : Passes (L2.CX X.prog X.w) X E) (ha : PA X (e :: es) t)
    (hst : starEach (e :: es) X.env = (false, eval e X.env) :: starEach es X.env := by rfl) (hpl : (backTo pos (starEach es X.env)).any (·.1) = false := by rfl)
    (ht : eval (.Call (.Attribute o m apos) (e :: es) [] pos) X.env = (do
      let ov ← eval o X.env
      standAt apos.atName
      let (f, first) ← holding [ov] (getMethod ov m pl)
      callWith pos f first (backTo pos (starEach (e :: es) X.env)) (backToKw pos (keywordEach [] X.env))) := by rfl) :
    PE X (.Call (.Attribute o m apos) (e :: es) [] pos) (tMeth (He.ga X.K C) m sp [] E ta t) :=
  let ⟨_, hb, _, F⟩ := O; pe_meth he c hm F hr hb .nil hx ha hst hpl ht
theorem pe_methO0 {pl : Sem Bool} (he : PE X o ta) (c : Cls X.K (He.ga X.K C)) (hm : Meth X.K (He.ga X.K C) m (He.ma X.K (He.ga X.K C) m)) (O : Okd X.prog X.w X.K X.mg X.base (C, some m) k ps sp) (hr : Room k X.A) (hx : Passes (L2.CX X.prog X.w) X E)
    (ht : eval (.Call (.Attribute o m apos) [] [] pos) X.env = (do
      let ov ← eval o X.env
      standAt apos.atName
      let (f, first) ← holding [ov] (getMethod ov m pl)
      callWith pos f first (backTo pos (starEach [] X.env)) (backToKw pos (keywordEach [] X.env))) := by rfl) :
    PE X (.Call (.Attribute o m apos) [] [] pos) (tMeth (He.ga X.K C) m sp [] E ta tNil) :=
  let ⟨_, hb, _, F⟩ := O; pe_meth0 he c hm F hr hb .nil hx ht
theorem pe_makeO (M : Mk X.K (He.ga X.K C) (He.ma X.K (He.ga X.K C) "__init__")) (O : Okd X.prog X.w X.K X.mg X.base (C, some "__init__") k ps sp) (hr : Room (k + 1) X.A) (hg : Gl X C) (hm : X.mg C = some (.ref (He.ga X.K C))) (hx : Passes (L2.CX X.prog X.w) X E)
    (ha : PA X (e :: es) t) (hdb : (C == ("__debug__" : Str)) = false := by decide) (he : starEach (e :: es) X.env = (false, eval e X.env) :: starEach es X.env := by rfl) (hpl : (backTo pos (starEach es X.env)).any (·.1) = false := by rfl) :
    PE X (.Call (.Name C p) (e :: es) [] pos) (tMake (He.ga X.K C) sp [] E t) :=
  let ⟨_, hb, _, F⟩ := O; pe_make M F hr hg hm hb .nil hx ha hdb he hpl
theorem pe_makeO0 (M : Mk X.K (He.ga X.K C) (He.ma X.K (He.ga X.K C) "__init__")) (O : Okd X.prog X.w X.K X.mg X.base (C, some "__init__") k ps sp) (hr : Room (k + 1) X.A) (hg : Gl X C) (hm : X.mg C = some (.ref (He.ga X.K C))) (hx : Passes (L2.CX X.prog X.w) X E)
    (hdb : (C == ("__debug__" : Str)) = false := by decide) : PE X (.Call (.Name C p) [] [] pos) (tMake (He.ga X.K C) sp [] E tNil) :=
  let ⟨_, hb, _, F⟩ := O; pe_make0 M F hr hg hm hb .nil hx hdb
/-! ### a module's names as values -/
theorem pe_globI {n : Int} (hg : Gl X x) (hm : ∃ t, X.mg x = some (.int n t)) (hd : (x == ("__debug__" : Str)) = false := by decide) : PE X (.Name x pos) (tC (.int n)) :=
  let ⟨_, h⟩ := hm; pe_glob hg h ⟨_, rfl⟩ hd
theorem pe_globS {z : Str} (hg : Gl X x) (hm : ∃ t, X.mg x = some (.str z t)) (hd : (x == ("__debug__" : Str)) = false := by decide) : PE X (.Name x pos) (tC (.str z)) :=
  let ⟨_, h⟩ := hm; pe_glob hg h ⟨_, rfl⟩ hd
theorem pe_globR {a : Addr} (hg : Gl X x) (hm : X.mg x = some (.ref a)) (hd : (x == ("__debug__" : Str)) = false := by decide) : PE X (.Name x pos) (tC (.ref a)) := pe_glob hg hm rfl hd
/-! ### raise C() -/
theorem pmk_own0 {a : Addr} {B newId initId : String} {bmB : List Value} (F : ExcBaseFacts B newId initId bmB)
    (q : PySem.W.excIn X.K a bmB newId = true ∧ PySem.W.keepIn X.K (.ref a) = true ∧ PySem.W.subIn X.K (.ref a) (.type "BaseException") = some true ∧ PySem.W.typeIn X.K (.ref a) = some (.type "type")) (gC : X.mg x = some (.ref a)) (hg : Gl X x)
    (hdb : (x == ("__debug__" : Str)) = false := by decide) : PMk X (.Call (.Name x p) [] [] pos) (fun _ H Q => Q (.ref a) none H) := by
  obtain ⟨q1, q2, q3, q4⟩ := q
  intro pins s σ H Q I h
  refine wpAny_Call_Name_kw (ld_glob I hg gC ?_ hdb)
  refine PySem.W.callWith_K0 I.kIn q2 ?_
  show wpAny _ _ (call (.ref a) []) _ _ _
  obtain ⟨bm, N, nm, qn, bs, hdct, sn, sub, ab, col, dd, k0, k1, k2, k3, k5, mN, hC, hN, hni, T⟩ := exc_obj I.kIn q1
  refine wpAny_call_exc_subT F T hC hN hni (fun h' e hm => ?_) (by show 0 ≤ sizeLine; rw [sizeLine_eq]; omega)
  exact mk_of I hm (raises_own q3 q4) h (I.hok.gone hm.new)
end

/-! ### readings, step by step: each with a head of its own -/
abbrev TSt := L2.St
def rBl (QB : Bool → Hp → Prop) (x : V) (H : Hp) : Prop := ∃ k, x = .bl k ∧ QB k H
def rIf (b : Bool) (A B : Prop) : Prop := if b = true then A else B
def rNewT (xs : List V) (H : Hp) (Q : VK) : Prop := xs.length ≤ sizeLine ∧ ∀ p, H p = none → Q (.ref p) (upd H p (.tup xs))
def rNewL (xs : List V) (H : Hp) (Q : VK) : Prop := xs.length ≤ sizeLine ∧ ∀ p, H p = none → Q (.ref p) (upd H p (.lst xs))
theorem putF_le {f : Str} {y : V} {n : Nat} : ∀ {fs : List (Str × V)}, fs.length ≤ n → (putF f y fs).length ≤ n + 1
  | [], _ => by show 1 ≤ n + 1; omega
  | (g, x) :: r, h => by
    unfold putF
    have h2 : r.length + 1 ≤ n := h
    split
    · show r.length + 1 ≤ n + 1; omega
    · have := putF_le (f := f) (y := y) (n := n - 1) (fs := r) (by omega)
      show (putF f y r).length + 1 ≤ n + 1; omega
theorem putF_lt {f : Str} {y : V} {n : Nat} {fs : List (Str × V)} (h : fs.length < n) : (putF f y fs).length < n + 1 := Nat.lt_of_le_of_lt (putF_le (Nat.le_refl _)) (Nat.succ_lt_succ h)
def rFldG (K : PySem.W.Frag) (f : Str) (x : V) (H : Hp) (Q : VK) : Prop := ∃ a C dx fs v, x = .ref a ∧ H a = some (.ins C dx fs) ∧ Cls K C ∧ NoAttr K C f ∧ fs.lookup f = some v ∧ Q v H
def rFldS (K : PySem.W.Frag) (f : Str) (y x : V) (H : Hp) (R : Hp → Prop) : Prop := ∃ a C dx fs, x = .ref a ∧ H a = some (.ins C dx fs) ∧ Cls K C ∧ NoAttr K C f ∧ fs.length < 1000 ∧ R (upd H a (.ins C dx (putF f y fs)))
def rMethA (C : Addr) (m : Str) (x : V) (H : Hp) (R : Prop) : Prop := ∃ a dx fs, x = .ref a ∧ H a = some (.ins C dx fs) ∧ fs.lookup m = none ∧ R
def rLenA (K : PySem.W.Frag) : List V → Hp → VK → Prop := fun xs H Q => ∃ x n, xs = [x] ∧ LenV K x H n ∧ Q (.int (n : Nat)) H
def rIntA : List V → Hp → VK → Prop := fun xs H Q => (∃ i, xs = [.int i] ∧ Q (.int i) H) ∨ ∃ k, xs = [.bl k] ∧ Q (.int (if k then 1 else 0)) H
def rAbsA : List V → Hp → VK → Prop := fun xs H Q => ∃ i, xs = [.int i] ∧ Q (.int (if i < 0 then -i else i)) H
def rMinA : List V → Hp → VK → Prop := fun xs H Q => ∃ i j, xs = [.int i, .int j] ∧ Q (.int (if j < i then j else i)) H
def rMaxA : List V → Hp → VK → Prop := fun xs H Q => ∃ i j, xs = [.int i, .int j] ∧ Q (.int (if j > i then j else i)) H
def rListA (K : PySem.W.Frag) : List V → Hp → VK → Prop := fun xs H Q => ∃ p ys, xs = [.ref p] ∧ (SqL K H p ys ∨ SqT K H p ys) ∧ ∀ l, H l = none → Q (.ref l) (upd H l (.lst ys))
def rIsNA : R2 := fun x y H Q => y = .non ∧ Q (.bl (decide (x = .non))) H
def rNotNA : R2 := fun x y H Q => y = .non ∧ Q (.bl (!decide (x = .non))) H
def rTru (K : PySem.W.Frag) (x : V) (H : Hp) (QB : Bool → Hp → Prop) : Prop := ∃ k, TruV K x H k ∧ QB k H
def tTruA (K : PySem.W.Frag) (te : TE) : TT := fun σ H Q => te σ H fun x H' => rTru K x H' Q
def rItL (K : PySem.W.Frag) (x : V) (H : Hp) (R : It → Hp → Prop) : Prop := ∃ a, x = .ref a ∧ (∃ xs, SqL K H a xs) ∧ R (Itl K a) H
def rItT (K : PySem.W.Frag) (x : V) (H : Hp) (R : It → Hp → Prop) : Prop := ∃ a, x = .ref a ∧ (∃ xs, SqT K H a xs) ∧ R (Itt K a) H
def rItR1 (vs : List V) (H : Hp) (R : It → Hp → Prop) : Prop := ∃ j : Int, vs = [.int j] ∧ -(2 ^ 62) ≤ j ∧ j < 2 ^ 62 ∧ R (Itr 0 j.toNat) H
def rItR2 (vs : List V) (H : Hp) (R : It → Hp → Prop) : Prop := ∃ i j : Int, vs = [.int i, .int j] ∧ (-(2 ^ 62) ≤ i ∧ i < 2 ^ 62 ∧ -(2 ^ 62) ≤ j ∧ j < 2 ^ 62) ∧ R (Itr i (j - i).toNat) H
def Loop (g : TG) (tb : TS) (D : Ends) (σ : TSt) (J : It) (H1 : Hp) : Prop := ∃ W : Nat → Nat → TSt → Hp → Prop, (∃ m, W 0 m σ H1) ∧ ∀ i m σ H, W i m σ H →
  (J.stop i H ∧ D.nx σ H) ∨ (J.go i H ∧ ∃ N : TSt → Hp → Prop, (∀ σ' H', N σ' H' → ∃ m', m' < m ∧ W (i + 1) m' σ' H') ∧ ∀ x H', J.yld i H x H' → g x σ H' fun σ2 H2 => tb { D with nx := N, ct := N, bk := D.nx } σ2 H2)
section
variable {X : Cx}
theorem pt_truthA {e : Expr} {te : TE} (h : PE X e te) (hs : ∀ whole, isTrue e X.env whole = (do let v ← whole; standAt e.pos; holding [v] (truthy v)) := by intro _; rfl) : PT X e (tTruA X.K te) := pt_truth h hs
theorem c_len : CallR X (.builtin "len") (rLenA X.K) := call_len
theorem c_int : CallR X (.type "int") rIntA := call_int1
theorem c_abs : CallR X (.builtin "abs") rAbsA := call_abs
theorem c_min2 (hc : X.calm = true) : CallR X (.builtin "min") rMinA := call_min2 hc
theorem c_max2 (hc : X.calm = true) : CallR X (.builtin "max") rMaxA := call_max2 hc
theorem c_list : CallR X (.type "list") (rListA X.K) := call_list_of
theorem o_isN : OpR X (compareOp .Is) rIsNA := op_isN
theorem o_notN : OpR X (compareOp .IsNot) rNotNA := op_notN
end
section
variable {nx bk ct : TSt → Hp → Prop} {rt : VK} {K : PySem.W.Frag} {σ : TSt} {H : Hp} {Q : VK} {QB : Bool → Hp → Prop} {QA : List V → Hp → Prop} {D : Ends} {v x y : V} {i j : Int} {b c : Bool} {p a : Addr} {xs ys : List V} {ta tb te tc : TE} {tt tu : TT} {tA : TA} {r : R2} {s u : TS} {A B R : Prop}
theorem w_start {t : TS} {σ' : TSt} (e : σ = σ') (k : t D σ' H) : t D σ H := by rw [e]; exact k
theorem w_var {n : Nat} (h : σ[n]? = some (some v)) (k : Q v H) : tVar n σ H Q := ⟨v, h, k⟩
theorem w_c (k : Q v H) : tC v σ H Q := k
theorem w_op (k : ta σ H fun x H1 => tb σ H1 fun y H2 => r x y H2 Q) : tOp r ta tb σ H Q := k
theorem w_un {r : V → Hp → VK → Prop} (k : ta σ H fun x H1 => r x H1 Q) : tUn r ta σ H Q := k
theorem w_I0 {g : Int → Int → V} (k : Q (g i j) H) : rI0 g (.int i) (.int j) H Q := ⟨i, j, rfl, rfl, k⟩
theorem w_I {C : Int → Int → Prop} {g : Int → Int → V} (hc : C i j) (k : Q (g i j) H) : rI C g (.int i) (.int j) H Q := ⟨i, j, rfl, rfl, hc, k⟩
theorem w_U {g : Int → V} (k : Q (g i) H) : rU g (.int i) H Q := ⟨i, rfl, k⟩
theorem w_eq (h : scal x y = true) (k : Q (.bl (decide (x = y))) H) : rEq x y H Q := ⟨h, k⟩
theorem w_ne (h : scal x y = true) (k : Q (.bl (!decide (x = y))) H) : rNe x y H Q := ⟨h, k⟩
theorem w_eqI (k : Q (.bl (decide (i = j))) H) : rEq (.int i) (.int j) H Q := ⟨rfl, by rw [show decide (V.int i = V.int j) = decide (i = j) from by simp]; exact k⟩
theorem w_neI (k : Q (.bl (!decide (i = j))) H) : rNe (.int i) (.int j) H Q := ⟨rfl, by rw [show decide (V.int i = V.int j) = decide (i = j) from by simp]; exact k⟩
theorem w_eqB (k : Q (.bl (b == c)) H) : rEq (.bl b) (.bl c) H Q := ⟨rfl, by rw [dec_bl]; exact k⟩
theorem w_neB (k : Q (.bl (!(b == c))) H) : rNe (.bl b) (.bl c) H Q := ⟨rfl, by rw [dec_bl]; exact k⟩
theorem w_eqS {i j : Str} (k : Q (.bl (decide (i = j))) H) : rEq (.str i) (.str j) H Q := ⟨rfl, by rw [show decide (V.str i = V.str j) = decide (i = j) from by simp]; exact k⟩
theorem w_neS {i j : Str} (k : Q (.bl (!decide (i = j))) H) : rNe (.str i) (.str j) H Q := ⟨rfl, by rw [show decide (V.str i = V.str j) = decide (i = j) from by simp]; exact k⟩
theorem w_test (k : te σ H fun x H' => rBl QB x H') : tTest te σ H QB := k
theorem w_B (k : te σ H fun x H' => rBl QB x H') : tB te σ H QB := k
theorem w_bl (k : QB b H) : rBl QB (.bl b) H := ⟨b, rfl, k⟩
theorem w_and (k : tt σ H fun c H1 => rIf c (tu σ H1 QB) (QB false H1)) : tAnd tt tu σ H QB := k
theorem w_or (k : tt σ H fun c H1 => rIf c (QB true H1) (tu σ H1 QB)) : tOr tt tu σ H QB := k
theorem w_not (k : tt σ H fun c H1 => QB (!c) H1) : tNot tt σ H QB := k
theorem w_andV (k : ta σ H fun x H1 => rBl (fun c H1 => rIf c (tb σ H1 Q) (Q (.bl false) H1)) x H1) : tAndV ta tb σ H Q := k
theorem w_orV (k : ta σ H fun x H1 => rBl (fun c H1 => rIf c (Q (.bl true) H1) (tb σ H1 Q)) x H1) : tOrV ta tb σ H Q := k
theorem w_notV (k : ta σ H fun x H1 => rBl (fun c H1 => Q (.bl (!c)) H1) x H1) : tNotV ta σ H Q := k
theorem w_ifE (k : tt σ H fun c H1 => rIf c (ta σ H1 Q) (tb σ H1 Q)) : tIf tt ta tb σ H Q := k
theorem w_tru (k : te σ H fun x H' => rTru K x H' QB) : tTruA K te σ H QB := k
theorem w_nil (k : QA [] H) : tNil σ H QA := k
theorem w_cons (k : ta σ H fun x H1 => tA σ H1 fun xs H2 => QA (x :: xs) H2) : tCons ta tA σ H QA := k
theorem w_tup (k : tA σ H fun xs H1 => rNewT xs H1 Q) : tTup tA σ H Q := k
theorem w_lst (k : tA σ H fun xs H1 => rNewL xs H1 Q) : tLst tA σ H Q := k
theorem w_newT (h : xs.length ≤ sizeLine) (k : ∀ p, H p = none → Q (.ref p) (upd H p (.tup xs))) : rNewT xs H Q := ⟨h, k⟩
theorem w_newL (h : xs.length ≤ sizeLine) (k : ∀ p, H p = none → Q (.ref p) (upd H p (.lst xs))) : rNewL xs H Q := ⟨h, k⟩
theorem w_call {sp : Sp} {dvs : List V} {E : XK} (k : tA σ H fun vs H1 => sp (vs ++ dvs) H1 Q E) : tCall sp dvs E tA σ H Q := k
theorem w_callS {sp : Sp} {E : TSt → XK} (k : tA σ H fun vs H1 => sp vs H1 Q (E σ)) : tCallS sp E tA σ H Q := k
theorem w_meth {C : Addr} {m : Str} {sp : Sp} {dvs : List V} {E : XK} (k : ta σ H fun x H1 => rMethA C m x H1 (tA σ H1 fun vs H2 => sp (x :: (vs ++ dvs)) H2 Q E)) : tMeth C m sp dvs E ta tA σ H Q := k
theorem w_m {C dx : Addr} {m : Str} {fs : List (Str × V)} (h : H a = some (.ins C dx fs)) (hl : fs.lookup m = none) (k : R) : rMethA C m (.ref a) H R := ⟨a, dx, fs, rfl, h, hl, k⟩
theorem w_methP {C dx : Addr} {m : Str} {sp : Sp} {dvs : List V} {E : XK} {fs : List (Str × V)} {n : Nat} (e : σ[n]? = some (some (.ref a))) (h : H a = some (.ins C dx fs)) (hl : fs.lookup m = none) (k : tA σ H fun vs H2 => sp (.ref a :: (vs ++ dvs)) H2 Q E) :
    tMeth C m sp dvs E (tVar n) tA σ H Q := ⟨.ref a, e, a, dx, fs, rfl, h, hl, k⟩
theorem w_make {C : Addr} {sp : Sp} {dvs : List V} {E : XK} (k : tA σ H fun vs H1 => ∀ x dx, H1 x = none → H1 dx = none → dx ≠ x → sp (.ref x :: (vs ++ dvs)) (upd (upd H1 dx (.own x)) x (.ins C dx [])) (fun v H2 => v = .non ∧ Q (.ref x) H2) E) : tMake C sp dvs E tA σ H Q := k
theorem w_CB {r : List V → Hp → VK → Prop} (k : tA σ H fun vs H1 => r vs H1 Q) : tCB r tA σ H Q := k
def rBMA (K : PySem.W.Frag) (T : String) (r : V → List V → Hp → VK → Prop) (tA : TA) (σ : TSt) (Q : VK) (x : V) (H : Hp) : Prop := tyV K T x H ∧ tA σ H fun xs H2 => r x xs H2 Q
theorem w_BM0 {T : String} {r : V → List V → Hp → VK → Prop} (k : ta σ H fun x H1 => rBMA K T r tNil σ Q x H1) : tBM0 K T r ta σ H Q := k
theorem w_BM {T : String} {r : V → List V → Hp → VK → Prop} (k : ta σ H fun x H1 => rBMA K T r tA σ Q x H1) : tBM K T r ta tA σ H Q := k
theorem w_BMl {r : V → List V → Hp → VK → Prop} (h : H p = some (.lst xs)) (k : tA σ H fun ys H2 => r (.ref p) ys H2 Q) : rBMA K "list" r tA σ Q (.ref p) H := ⟨.inl ⟨rfl, _, SqL.of h⟩, k⟩
theorem w_append (h : H p = some (.lst xs)) (hz : xs.length < sizeLine) (k : Q .non (upd H p (.lst (xs ++ [y])))) : rAppend (.ref p) [y] H Q := ⟨p, xs, y, rfl, rfl, h, hz, k⟩
theorem w_fld {f : Str} (k : ta σ H fun x H1 => rFldG K f x H1 Q) : tFld K ta f σ H Q := k
theorem w_f {C dx : Addr} {f : Str} {fs : List (Str × V)} (h : H a = some (.ins C dx fs)) (hc : Cls K C) (hn : NoAttr K C f) (hl : fs.lookup f = some v) (k : Q v H) : rFldG K f (.ref a) H Q := ⟨a, C, dx, fs, v, rfl, h, hc, hn, hl, k⟩
theorem w_seq (k : s ⟨u ⟨nx, rt, bk, ct⟩, rt, bk, ct⟩ σ H) : tSeq s u ⟨nx, rt, bk, ct⟩ σ H := k
theorem w_cut (Mid : TSt → Hp → Prop) (h : s ⟨Mid, rt, bk, ct⟩ σ H) (k : ∀ σ' H', Mid σ' H' → u ⟨nx, rt, bk, ct⟩ σ' H') : C8.tCut s u ⟨nx, rt, bk, ct⟩ σ H := ⟨Mid, h, k⟩
theorem w_next (k : nx σ H) : tNext ⟨nx, rt, bk, ct⟩ σ H := k
theorem w_brk (k : bk σ H) : tBreak ⟨nx, rt, bk, ct⟩ σ H := k
theorem w_cont (k : ct σ H) : tCont ⟨nx, rt, bk, ct⟩ σ H := k
theorem w_asg {g : TG} (k : te σ H fun x H1 => g x σ H1 nx) : tAsg te g ⟨nx, rt, bk, ct⟩ σ H := k
theorem w_name {n : Nat} {R : TSt → Hp → Prop} (k : R (σ.set n (some v)) H) : gName n v σ H R := k
theorem w_drop (k : te σ H fun _ H1 => nx σ H1) : tDrop te ⟨nx, rt, bk, ct⟩ σ H := k
theorem w_ret (k : te σ H rt) : tRet te ⟨nx, rt, bk, ct⟩ σ H := k
theorem w_retN (k : rt .non H) : tRetN ⟨nx, rt, bk, ct⟩ σ H := k
theorem w_if (k : tt σ H fun b H1 => rIf b (s D σ H1) (u D σ H1)) : tIfS tt s u D σ H := k
theorem w_aug {n : Nat} {ti : TIp} (h : σ[n]? = some (some x)) (k : te σ H fun y H1 => ti x y H1 fun z H2 => nx (σ.set n (some z)) H2) : tAug n te ti ⟨nx, rt, bk, ct⟩ σ H := ⟨x, h, k⟩
theorem w_sfld {f : Str} (k : te σ H fun y H1 => ta σ H1 fun x H2 => rFldS K f y x H2 (nx σ)) : sFld K ta te f ⟨nx, rt, bk, ct⟩ σ H := k
theorem w_sf {C dx : Addr} {f : Str} {fs : List (Str × V)} {R : Hp → Prop} (h : H a = some (.ins C dx fs)) (hc : Cls K C) (hn : NoAttr K C f) (hl : fs.length < 1000) (k : R (upd H a (.ins C dx (putF f y fs)))) : rFldS K f y (.ref a) H R := ⟨a, C, dx, fs, rfl, h, hc, hn, hl, k⟩
theorem w_ixL (h : H p = some (.lst xs)) (e : atI xs i = some v) (k : Q v H) : rIxL K (.ref p) (.int i) H Q := ⟨p, xs, i, v, rfl, rfl, SqL.of h, e, k⟩
theorem w_ixT (h : H p = some (.tup xs)) (e : atI xs i = some v) (k : Q v H) : rIxT K (.ref p) (.int i) H Q := ⟨p, xs, i, v, rfl, rfl, SqT.of h, e, k⟩
theorem w_ixK (h : SqL K H p xs) (e : atI xs i = some v) (k : Q v H) : rIxL K (.ref p) (.int i) H Q := ⟨p, xs, i, v, rfl, rfl, h, e, k⟩
theorem w_lenL (h : H p = some (.lst xs)) (k : Q (.int xs.length) H) : rLenA K [.ref p] H Q := ⟨_, _, rfl, .inl ⟨xs, SqL.of h, rfl⟩, k⟩
theorem w_lenK (h : SqL K H p xs) (k : Q (.int xs.length) H) : rLenA K [.ref p] H Q := ⟨_, _, rfl, .inl ⟨xs, h, rfl⟩, k⟩
theorem w_lenT (h : H p = some (.tup xs)) (k : Q (.int xs.length) H) : rLenA K [.ref p] H Q := ⟨_, _, rfl, .inr ⟨xs, SqT.of h, rfl⟩, k⟩
theorem w_int (k : Q (.int i) H) : rIntA [.int i] H Q := .inl ⟨i, rfl, k⟩
theorem w_intB (k : Q (.int (if b then 1 else 0)) H) : rIntA [.bl b] H Q := .inr ⟨b, rfl, k⟩
theorem w_abs (k : Q (.int (if i < 0 then -i else i)) H) : rAbsA [.int i] H Q := ⟨i, rfl, k⟩
theorem w_min2 (k : Q (.int (if j < i then j else i)) H) : rMinA [.int i, .int j] H Q := ⟨i, j, rfl, k⟩
theorem w_max2 (k : Q (.int (if j > i then j else i)) H) : rMaxA [.int i, .int j] H Q := ⟨i, j, rfl, k⟩
theorem w_isN (k : Q (.bl (decide (x = .non))) H) : rIsNA x .non H Q := ⟨rfl, k⟩
theorem w_notN (k : Q (.bl (!decide (x = .non))) H) : rNotNA x .non H Q := ⟨rfl, k⟩
theorem w_listL (h : H p = some (.lst ys)) (k : ∀ l, H l = none → Q (.ref l) (upd H l (.lst ys))) : rListA K [.ref p] H Q := ⟨p, ys, rfl, .inl (SqL.of h), k⟩
theorem w_eqD {d e : PyData} (h1 : Dp K H x d) (h2 : Dp K H y e) (s1 : SeqAt.shaped d = true) (s2 : SeqAt.shaped e = true) (k : Q (.bl (PyData.eqv d e)) H) : rEqD K x y H Q := ⟨d, e, h1, h2, s1, s2, k⟩
theorem w_neD {d e : PyData} (h1 : Dp K H x d) (h2 : Dp K H y e) (s1 : SeqAt.shaped d = true) (s2 : SeqAt.shaped e = true) (k : Q (.bl (!PyData.eqv d e)) H) : rNeD K x y H Q := ⟨d, e, h1, h2, s1, s2, k⟩
theorem w_isi {t u : Value} {z : V} (hc : ClsV z u) (ht : TyX K H x t) (e : PySem.W.kitOne K t u = some b) (k : Q (.bl b) H) : rIsi K [x, z] H Q := ⟨x, z, t, u, b, rfl, hc, ht, e, k⟩
theorem w_truL (h : H p = some (.lst xs)) (k : QB (!xs.isEmpty) H) : rTru K (.ref p) H QB := ⟨_, .inl ⟨xs, SqL.of h, rfl⟩, k⟩
theorem w_truB (k : QB b H) : rTru K (.bl b) H QB := ⟨b, rfl, k⟩
theorem w_popAt {n : Nat} (h : H p = some (.lst xs)) (h1 : -(2 ^ 63) ≤ i) (h2 : i < 2 ^ 63) (e : seqIndex? i xs.length = some n) (e2 : xs[n]? = some y) (k : Q y (upd H p (.lst (xs.eraseIdx n)))) : rPopAt (.ref p) [.int i] H Q := ⟨p, xs, i, n, y, rfl, rfl, h, h1, h2, e, e2, k⟩
theorem w_iRng1 {R : It → Hp → Prop} (k : tA σ H fun vs H1 => rItR1 vs H1 R) : iRng1 tA σ H R := k
theorem w_iRng2 {R : It → Hp → Prop} (k : tA σ H fun vs H1 => rItR2 vs H1 R) : iRng2 tA σ H R := k
theorem w_rng1 {R : It → Hp → Prop} (h1 : -(2 ^ 62) ≤ j) (h2 : j < 2 ^ 62) (k : R (Itr 0 j.toNat) H) : rItR1 [.int j] H R := ⟨j, rfl, h1, h2, k⟩
theorem w_rng2 {R : It → Hp → Prop} (h : -(2 ^ 62) ≤ i ∧ i < 2 ^ 62 ∧ -(2 ^ 62) ≤ j ∧ j < 2 ^ 62) (k : R (Itr i (j - i).toNat) H) : rItR2 [.int i, .int j] H R := ⟨i, j, rfl, h, k⟩
theorem w_iList {R : It → Hp → Prop} (k : te σ H fun x H1 => rItL K x H1 R) : iList K te σ H R := k
theorem w_iTup {R : It → Hp → Prop} (k : te σ H fun x H1 => rItT K x H1 R) : iTup K te σ H R := k
theorem w_itL {R : It → Hp → Prop} (h : H a = some (.lst xs)) (k : R (Itl K a) H) : rItL K (.ref a) H R := ⟨a, rfl, ⟨xs, SqL.of h⟩, k⟩
theorem w_itK {R : It → Hp → Prop} (h : SqL K H a xs) (k : R (Itl K a) H) : rItL K (.ref a) H R := ⟨a, rfl, ⟨xs, h⟩, k⟩
theorem w_itT {R : It → Hp → Prop} (h : H a = some (.tup xs)) (k : R (Itt K a) H) : rItT K (.ref a) H R := ⟨a, rfl, ⟨xs, SqT.of h⟩, k⟩
theorem w_for {wi : TI} {g : TG} {tb : TS} (k : wi σ H fun J H1 => Loop g tb D σ J H1) : tFor wi g tb D σ H := k
/-- over a list that the body leaves as it is; over a range -/
theorem loop_list {g : TG} {tb : TS} (Pv : Nat → TSt → Hp → Prop) (h0 : Pv 0 σ H) (hl : ∀ i σ H, i ≤ xs.length → Pv i σ H → SqL K H a xs)
    (hs : ∀ i x σ H, xs[i]? = some x → Pv i σ H → g x σ H fun σ2 H2 => tb ⟨Pv (i + 1), rt, nx, Pv (i + 1)⟩ σ2 H2) (hd : ∀ σ H, Pv xs.length σ H → nx σ H) : Loop g tb ⟨nx, rt, bk, ct⟩ σ (Itl K a) H := for_list (D := ⟨nx, rt, bk, ct⟩) Pv h0 hl hs hd
theorem loop_tup {g : TG} {tb : TS} (Pv : Nat → TSt → Hp → Prop) (h0 : Pv 0 σ H) (hl : ∀ i σ H, i ≤ xs.length → Pv i σ H → SqT K H a xs)
    (hs : ∀ i x σ H, xs[i]? = some x → Pv i σ H → g x σ H fun σ2 H2 => tb ⟨Pv (i + 1), rt, nx, Pv (i + 1)⟩ σ2 H2) (hd : ∀ σ H, Pv xs.length σ H → nx σ H) : Loop g tb ⟨nx, rt, bk, ct⟩ σ (Itt K a) H := for_tup (D := ⟨nx, rt, bk, ct⟩) Pv h0 hl hs hd
theorem loop_range {lo : Int} {n : Nat} {g : TG} {tb : TS} (Pv : Nat → TSt → Hp → Prop) (h0 : Pv 0 σ H)
    (hs : ∀ i σ H, i < n → Pv i σ H → g (.int (lo + i)) σ H fun σ2 H2 => tb ⟨Pv (i + 1), rt, nx, Pv (i + 1)⟩ σ2 H2) (hd : ∀ σ H, Pv n σ H → nx σ H) : Loop g tb ⟨nx, rt, bk, ct⟩ σ (Itr lo n) H := for_range (D := ⟨nx, rt, bk, ct⟩) Pv h0 hs hd
theorem w_ite {c A B : Prop} [Decidable c] (h1 : c → A) (h2 : ¬ c → B) : rIf (decide c) A B := by
  unfold rIf
  by_cases h : c
  · rw [decide_eq_true h, if_pos rfl]; exact h1 h
  · rw [decide_eq_false h, if_neg Bool.false_ne_true]; exact h2 h
theorem w_iteN {c A B : Prop} [Decidable c] (h1 : ¬ c → A) (h2 : c → B) : rIf (!decide c) A B := by
  unfold rIf
  by_cases h : c
  · rw [decide_eq_true h]; exact h2 h
  · rw [decide_eq_false h]; exact h1 h
theorem w_iteB (h1 : b = true → A) (h2 : b = false → B) : rIf b A B := by
  cases b
  · exact h2 rfl
  · exact h1 rfl
theorem w_iteNB (h1 : b = false → A) (h2 : b = true → B) : rIf (!b) A B := by
  cases b
  · exact h1 rfl
  · exact h2 rfl
theorem w_ifT (h : b = true) (k : A) : rIf b A B := by rw [h]; exact k
theorem w_ifF (h : b = false) (k : B) : rIf b A B := by rw [h]; exact k
theorem w_iteT (k : A) : rIf true A B := k
theorem w_iteF (k : B) : rIf false A B := k
theorem w_iteNT (k : B) : rIf (!true) A B := k
theorem w_iteNF (k : A) : rIf (!false) A B := k
theorem w_iteNNT (k : A) : rIf (!!true) A B := k
theorem w_iteNNF (k : B) : rIf (!!false) A B := k
end
section
variable {K : PySem.W.Frag} {H : Hp} {Q : VK} {b : Bool} {i : Int} {z : Str} {p : Addr} {xs : List V} {kvs : List (Key × V)} {kts : List (List Key × V)}
theorem isi_non_int (k : Q (.bl false) H) : rIsi K [.non, .ty "int"] H Q := w_isi (b := false) (.ty _) (.base .non) (kit_ty (by decide +kernel)) k
theorem isi_non_bool (k : Q (.bl false) H) : rIsi K [.non, .ty "bool"] H Q := w_isi (b := false) (.ty _) (.base .non) (kit_ty (by decide +kernel)) k
theorem isi_non_str (k : Q (.bl false) H) : rIsi K [.non, .ty "str"] H Q := w_isi (b := false) (.ty _) (.base .non) (kit_ty (by decide +kernel)) k
theorem isi_non_tuple (k : Q (.bl false) H) : rIsi K [.non, .ty "tuple"] H Q := w_isi (b := false) (.ty _) (.base .non) (kit_ty (by decide +kernel)) k
theorem isi_non_list (k : Q (.bl false) H) : rIsi K [.non, .ty "list"] H Q := w_isi (b := false) (.ty _) (.base .non) (kit_ty (by decide +kernel)) k
theorem isi_non_dict (k : Q (.bl false) H) : rIsi K [.non, .ty "dict"] H Q := w_isi (b := false) (.ty _) (.base .non) (kit_ty (by decide +kernel)) k
theorem isi_bl_int (k : Q (.bl true) H) : rIsi K [.bl b, .ty "int"] H Q := w_isi (b := true) (.ty _) (.base (.bl _)) (kit_ty (by decide +kernel)) k
theorem isi_bl_bool (k : Q (.bl true) H) : rIsi K [.bl b, .ty "bool"] H Q := w_isi (b := true) (.ty _) (.base (.bl _)) (kit_ty (by decide +kernel)) k
theorem isi_bl_str (k : Q (.bl false) H) : rIsi K [.bl b, .ty "str"] H Q := w_isi (b := false) (.ty _) (.base (.bl _)) (kit_ty (by decide +kernel)) k
theorem isi_bl_tuple (k : Q (.bl false) H) : rIsi K [.bl b, .ty "tuple"] H Q := w_isi (b := false) (.ty _) (.base (.bl _)) (kit_ty (by decide +kernel)) k
theorem isi_bl_list (k : Q (.bl false) H) : rIsi K [.bl b, .ty "list"] H Q := w_isi (b := false) (.ty _) (.base (.bl _)) (kit_ty (by decide +kernel)) k
theorem isi_bl_dict (k : Q (.bl false) H) : rIsi K [.bl b, .ty "dict"] H Q := w_isi (b := false) (.ty _) (.base (.bl _)) (kit_ty (by decide +kernel)) k
theorem isi_int_int (k : Q (.bl true) H) : rIsi K [.int i, .ty "int"] H Q := w_isi (b := true) (.ty _) (.base (.int _)) (kit_ty (by decide +kernel)) k
theorem isi_int_bool (k : Q (.bl false) H) : rIsi K [.int i, .ty "bool"] H Q := w_isi (b := false) (.ty _) (.base (.int _)) (kit_ty (by decide +kernel)) k
theorem isi_int_str (k : Q (.bl false) H) : rIsi K [.int i, .ty "str"] H Q := w_isi (b := false) (.ty _) (.base (.int _)) (kit_ty (by decide +kernel)) k
theorem isi_int_tuple (k : Q (.bl false) H) : rIsi K [.int i, .ty "tuple"] H Q := w_isi (b := false) (.ty _) (.base (.int _)) (kit_ty (by decide +kernel)) k
theorem isi_int_list (k : Q (.bl false) H) : rIsi K [.int i, .ty "list"] H Q := w_isi (b := false) (.ty _) (.base (.int _)) (kit_ty (by decide +kernel)) k
theorem isi_int_dict (k : Q (.bl false) H) : rIsi K [.int i, .ty "dict"] H Q := w_isi (b := false) (.ty _) (.base (.int _)) (kit_ty (by decide +kernel)) k
theorem isi_str_int (k : Q (.bl false) H) : rIsi K [.str z, .ty "int"] H Q := w_isi (b := false) (.ty _) (.base (.str _)) (kit_ty (by decide +kernel)) k
theorem isi_str_bool (k : Q (.bl false) H) : rIsi K [.str z, .ty "bool"] H Q := w_isi (b := false) (.ty _) (.base (.str _)) (kit_ty (by decide +kernel)) k
theorem isi_str_str (k : Q (.bl true) H) : rIsi K [.str z, .ty "str"] H Q := w_isi (b := true) (.ty _) (.base (.str _)) (kit_ty (by decide +kernel)) k
theorem isi_str_tuple (k : Q (.bl false) H) : rIsi K [.str z, .ty "tuple"] H Q := w_isi (b := false) (.ty _) (.base (.str _)) (kit_ty (by decide +kernel)) k
theorem isi_str_list (k : Q (.bl false) H) : rIsi K [.str z, .ty "list"] H Q := w_isi (b := false) (.ty _) (.base (.str _)) (kit_ty (by decide +kernel)) k
theorem isi_str_dict (k : Q (.bl false) H) : rIsi K [.str z, .ty "dict"] H Q := w_isi (b := false) (.ty _) (.base (.str _)) (kit_ty (by decide +kernel)) k
theorem isi_lst_int (h : H p = some (.lst xs)) (k : Q (.bl false) H) : rIsi K [.ref p, .ty "int"] H Q := w_isi (b := false) (.ty _) (.base (.lst h)) (kit_ty (by decide +kernel)) k
theorem isi_lst_bool (h : H p = some (.lst xs)) (k : Q (.bl false) H) : rIsi K [.ref p, .ty "bool"] H Q := w_isi (b := false) (.ty _) (.base (.lst h)) (kit_ty (by decide +kernel)) k
theorem isi_lst_str (h : H p = some (.lst xs)) (k : Q (.bl false) H) : rIsi K [.ref p, .ty "str"] H Q := w_isi (b := false) (.ty _) (.base (.lst h)) (kit_ty (by decide +kernel)) k
theorem isi_lst_tuple (h : H p = some (.lst xs)) (k : Q (.bl false) H) : rIsi K [.ref p, .ty "tuple"] H Q := w_isi (b := false) (.ty _) (.base (.lst h)) (kit_ty (by decide +kernel)) k
theorem isi_lst_list (h : H p = some (.lst xs)) (k : Q (.bl true) H) : rIsi K [.ref p, .ty "list"] H Q := w_isi (b := true) (.ty _) (.base (.lst h)) (kit_ty (by decide +kernel)) k
theorem isi_lst_dict (h : H p = some (.lst xs)) (k : Q (.bl false) H) : rIsi K [.ref p, .ty "dict"] H Q := w_isi (b := false) (.ty _) (.base (.lst h)) (kit_ty (by decide +kernel)) k
theorem isi_tup_int (h : H p = some (.tup xs)) (k : Q (.bl false) H) : rIsi K [.ref p, .ty "int"] H Q := w_isi (b := false) (.ty _) (.base (.tup h)) (kit_ty (by decide +kernel)) k
theorem isi_tup_bool (h : H p = some (.tup xs)) (k : Q (.bl false) H) : rIsi K [.ref p, .ty "bool"] H Q := w_isi (b := false) (.ty _) (.base (.tup h)) (kit_ty (by decide +kernel)) k
theorem isi_tup_str (h : H p = some (.tup xs)) (k : Q (.bl false) H) : rIsi K [.ref p, .ty "str"] H Q := w_isi (b := false) (.ty _) (.base (.tup h)) (kit_ty (by decide +kernel)) k
theorem isi_tup_tuple (h : H p = some (.tup xs)) (k : Q (.bl true) H) : rIsi K [.ref p, .ty "tuple"] H Q := w_isi (b := true) (.ty _) (.base (.tup h)) (kit_ty (by decide +kernel)) k
theorem isi_tup_list (h : H p = some (.tup xs)) (k : Q (.bl false) H) : rIsi K [.ref p, .ty "list"] H Q := w_isi (b := false) (.ty _) (.base (.tup h)) (kit_ty (by decide +kernel)) k
theorem isi_tup_dict (h : H p = some (.tup xs)) (k : Q (.bl false) H) : rIsi K [.ref p, .ty "dict"] H Q := w_isi (b := false) (.ty _) (.base (.tup h)) (kit_ty (by decide +kernel)) k
theorem isi_dK_int (h : H p = some (.dK kvs)) (k : Q (.bl false) H) : rIsi K [.ref p, .ty "int"] H Q := w_isi (b := false) (.ty _) (.base (.dK h)) (kit_ty (by decide +kernel)) k
theorem isi_dK_bool (h : H p = some (.dK kvs)) (k : Q (.bl false) H) : rIsi K [.ref p, .ty "bool"] H Q := w_isi (b := false) (.ty _) (.base (.dK h)) (kit_ty (by decide +kernel)) k
theorem isi_dK_str (h : H p = some (.dK kvs)) (k : Q (.bl false) H) : rIsi K [.ref p, .ty "str"] H Q := w_isi (b := false) (.ty _) (.base (.dK h)) (kit_ty (by decide +kernel)) k
theorem isi_dK_tuple (h : H p = some (.dK kvs)) (k : Q (.bl false) H) : rIsi K [.ref p, .ty "tuple"] H Q := w_isi (b := false) (.ty _) (.base (.dK h)) (kit_ty (by decide +kernel)) k
theorem isi_dK_list (h : H p = some (.dK kvs)) (k : Q (.bl false) H) : rIsi K [.ref p, .ty "list"] H Q := w_isi (b := false) (.ty _) (.base (.dK h)) (kit_ty (by decide +kernel)) k
theorem isi_dK_dict (h : H p = some (.dK kvs)) (k : Q (.bl true) H) : rIsi K [.ref p, .ty "dict"] H Q := w_isi (b := true) (.ty _) (.base (.dK h)) (kit_ty (by decide +kernel)) k
theorem isi_dT_int (h : H p = some (.dT kts)) (k : Q (.bl false) H) : rIsi K [.ref p, .ty "int"] H Q := w_isi (b := false) (.ty _) (.base (.dT h)) (kit_ty (by decide +kernel)) k
theorem isi_dT_bool (h : H p = some (.dT kts)) (k : Q (.bl false) H) : rIsi K [.ref p, .ty "bool"] H Q := w_isi (b := false) (.ty _) (.base (.dT h)) (kit_ty (by decide +kernel)) k
theorem isi_dT_str (h : H p = some (.dT kts)) (k : Q (.bl false) H) : rIsi K [.ref p, .ty "str"] H Q := w_isi (b := false) (.ty _) (.base (.dT h)) (kit_ty (by decide +kernel)) k
theorem isi_dT_tuple (h : H p = some (.dT kts)) (k : Q (.bl false) H) : rIsi K [.ref p, .ty "tuple"] H Q := w_isi (b := false) (.ty _) (.base (.dT h)) (kit_ty (by decide +kernel)) k
theorem isi_dT_list (h : H p = some (.dT kts)) (k : Q (.bl false) H) : rIsi K [.ref p, .ty "list"] H Q := w_isi (b := false) (.ty _) (.base (.dT h)) (kit_ty (by decide +kernel)) k
theorem isi_dT_dict (h : H p = some (.dT kts)) (k : Q (.bl true) H) : rIsi K [.ref p, .ty "dict"] H Q := w_isi (b := true) (.ty _) (.base (.dT h)) (kit_ty (by decide +kernel)) k
end
/-! ### comparisons in a chain; xs[i] op= v; comprehensions -/
section
variable {K : PySem.W.Frag} {σ : TSt} {H : Hp} {Q : VK} {ta tb tc te : TE} {r r' : R2} {X : Cx} {nx bk ct : TSt → Hp → Prop} {rt : VK}
theorem w_chain (k : ta σ H fun x H1 => tb σ H1 fun y H2 => r x y H2 fun z H3 => rBl (fun c H3 => rIf c (tc σ H3 fun w H4 => r' y w H4 Q) (Q (.bl false) H3)) z H3) : tChain r r' ta tb tc σ H Q := k
theorem get_list : PGet X (rIxL X.K) := by
  intro pins s σ H x y v u Q I rx ry h
  obtain ⟨p, xs, i, z, rfl, rfl, hq, he, q⟩ := h
  cases rx
  obtain ⟨t, rfl⟩ := ry
  obtain ⟨its, r, pl, hz⟩ := I.list hq
  obtain ⟨j, h1, h2, h3, h4, h5⟩ := atI_get he
  obtain ⟨w, ew, rw'⟩ := r.get h2
  have hl := r.length
  have hn := line63
  have fin : EP X pins σ Q w s := ⟨z, H, I, rw', q⟩
  by_cases h0 : 0 ≤ i
  · have hj : i.toNat = j := by
      rw [seqIndex_of h0 h5] at h1
      exact Option.some.inj h1
    exact wpAny_getItem_list pl.isList h0 (by omega) (by rw [hj]; simpa using ew) fin
  · have hj : (i + xs.length).toNat = j := by
      rw [seqIndex_neg (by omega) h4] at h1
      exact Option.some.inj h1
    exact wpAny_getItem_list_neg pl.isList (by omega) (by simp; omega) (by omega) (by simpa [← hl, hj] using ew) fin
def rIpAdd : V → V → Hp → VK → Prop := fun x y H Q => ∃ i j, x = .int i ∧ y = .int j ∧ Q (.int (i + j)) H
theorem i_add : PIp X .Add rIpAdd := ip_add
def rIpSub : V → V → Hp → VK → Prop := fun x y H Q => ∃ i j, x = .int i ∧ y = .int j ∧ Q (.int (i - j)) H
theorem i_sub : PIp X .Sub rIpSub := ip_sub
theorem n_add : InOp X .Add rIpAdd := in_add
theorem n_sub : InOp X .Sub rIpSub := in_sub
theorem w_ipAdd {i j : Int} (k : Q (.int (i + j)) H) : rIpAdd (.int i) (.int j) H Q := ⟨i, j, rfl, rfl, k⟩
theorem w_ipSub {i j : Int} (k : Q (.int (i - j)) H) : rIpSub (.int i) (.int j) H Q := ⟨i, j, rfl, rfl, k⟩
theorem w_augS {to ti : TE} {tget : V → V → Hp → VK → Prop} {tip : TIp} {tset : TSet}
    (k : to σ H fun o H1 => ti σ H1 fun i H2 => tget o i H2 fun x H3 => te σ H3 fun y H4 => tip x y H4 fun z H5 => tset o i z H5 fun H6 => nx σ H6) : tAugS to ti te tget tip tset ⟨nx, rt, bk, ct⟩ σ H := k
theorem w_setL {p : Addr} {xs : List V} {i : Int} {j : Nat} {v : V} {R : Hp → Prop} (h : H p = some (.lst xs)) (e : ixN xs.length i = some j) (k : R (upd H p (.lst (xs.set j v)))) : rSetL (.ref p) (.int i) v H R := ⟨p, xs, i, j, rfl, rfl, h, e, k⟩
theorem w_gsub {to ti : TE} {t : TSet} {v : V} {R : TSt → Hp → Prop} (k : to σ H fun o H1 => ti σ H1 fun i H2 => t o i v H2 fun H3 => R σ H3) : gSub to ti t v σ H R := k
def rFldA (K : PySem.W.Frag) (te : TE) (rd : V → V → Hp → VK → Prop) (f : Str) (nx : TSt → Hp → Prop) (σ : TSt) (x : V) (H1 : Hp) : Prop := ∃ a C dx fs v, x = .ref a ∧ H1 a = some (.ins C dx fs) ∧ Cls K C ∧ NoAttr K C f ∧ fs.lookup f = some v ∧
  te σ H1 fun y H2 => rd v y H2 fun z H3 => ∃ dx' fs', H3 a = some (.ins C dx' fs') ∧ fs'.length < 1000 ∧ nx σ (upd H3 a (.ins C dx' (putF f z fs')))
theorem w_fldaug {rd : V → V → Hp → VK → Prop} {f : Str} (k : ta σ H fun x H1 => rFldA K te rd f nx σ x H1) : sFldAug K ta te rd f ⟨nx, rt, bk, ct⟩ σ H := k
theorem w_fa {a C dx : Addr} {f : Str} {fs : List (Str × V)} {v : V} {rd : V → V → Hp → VK → Prop} (h : H a = some (.ins C dx fs)) (hc : Cls K C) (hn : NoAttr K C f) (hl : fs.lookup f = some v)
    (k : te σ H fun y H2 => rd v y H2 fun z H3 => ∃ dx' fs', H3 a = some (.ins C dx' fs') ∧ fs'.length < 1000 ∧ nx σ (upd H3 a (.ins C dx' (putF f z fs')))) : rFldA K te rd f nx σ (.ref a) H := ⟨a, C, dx, fs, v, rfl, h, hc, hn, hl, k⟩
/-- a list comprehension: D the new list -/
def Comp (g : TG) (tt : TT) (te : TE) (vs : List Nat) (σ : TSt) (Q : VK) (J : It) (H1 : Hp) : Prop := ∀ D, H1 D = none → ∃ W : Nat → Nat → Hp → Prop, (∃ m, W 0 m (upd H1 D (.lst []))) ∧ ∀ i m H, W i m H →
  (J.stop i H ∧ Q (.ref D) H) ∨ (J.go i H ∧ ∃ Nx : Hp → Prop, (∀ H', Nx H' → ∃ m', m' < m ∧ W (i + 1) m' H') ∧ ∀ x H', J.yld i H x H' → g x (wipe σ vs) H' fun σ2 H2 => wipe σ2 vs = wipe σ vs ∧ tt σ2 H2 fun b H3 =>
    if b = true then te σ2 H3 fun y H4 => ∃ acc, H4 D = some (.lst acc) ∧ acc.length < sizeLine ∧ Nx (upd H4 D (.lst (acc ++ [y]))) else Nx H3)
theorem w_lc {wi : TI} {g : TG} {tt : TT} {vs : List Nat} (k : wi σ H fun J H1 => Comp g tt te vs σ Q J H1) : tLc wi g tt te vs σ H Q := k
def rPut (D : Addr) (R : Hp → Prop) (y : V) (H : Hp) : Prop := ∃ acc, H D = some (.lst acc) ∧ acc.length < sizeLine ∧ R (upd H D (.lst (acc ++ [y])))
theorem w_put {D : Addr} {acc : List V} {y : V} {R : Hp → Prop} (h : H D = some (.lst acc)) (hz : acc.length < sizeLine) (k : R (upd H D (.lst (acc ++ [y])))) : rPut D R y H := ⟨acc, h, hz, k⟩
def rWipe (σ2 : TSt) (vs : List Nat) (σ : TSt) (R : Prop) : Prop := wipe σ2 vs = wipe σ vs ∧ R
theorem w_wipe {σ2 : TSt} {vs : List Nat} {R : Prop} (h : wipe σ2 vs = wipe σ vs) (k : R) : rWipe σ2 vs σ R := ⟨h, k⟩
theorem w_yes {QB : Bool → Hp → Prop} (k : QB true H) : tYes σ H QB := k
/-- over a list, a range, a tuple -/
theorem comp_list {a : Addr} {xs : List V} {g : TG} {tt : TT} {vs : List Nat} (Pv : Addr → Nat → Hp → Prop) (h0 : ∀ D, H D = none → Pv D 0 (upd H D (.lst []))) (hl : ∀ D i H', H D = none → i ≤ xs.length → Pv D i H' → SqL K H' a xs)
    (hs : ∀ D i x H', H D = none → xs[i]? = some x → Pv D i H' → g x (wipe σ vs) H' fun σ2 H2 => rWipe σ2 vs σ (tt σ2 H2 fun b H3 => rIf b (te σ2 H3 fun y H4 => rPut D (Pv D (i + 1)) y H4) (Pv D (i + 1) H3)))
    (hd : ∀ D H', H D = none → Pv D xs.length H' → Q (.ref D) H') : Comp g tt te vs σ Q (Itl K a) H := fun D hD => lc_list (Pv D) (h0 D hD) (fun i H' h p => hl D i H' hD h p) (fun i x H' h p => hs D i x H' hD h p) (fun H' p => hd D H' hD p)
theorem comp_range {lo : Int} {n : Nat} {g : TG} {tt : TT} {vs : List Nat} (Pv : Addr → Nat → Hp → Prop) (h0 : ∀ D, H D = none → Pv D 0 (upd H D (.lst [])))
    (hs : ∀ D i H', H D = none → i < n → Pv D i H' → g (.int (lo + i)) (wipe σ vs) H' fun σ2 H2 => rWipe σ2 vs σ (tt σ2 H2 fun b H3 => rIf b (te σ2 H3 fun y H4 => rPut D (Pv D (i + 1)) y H4) (Pv D (i + 1) H3)))
    (hd : ∀ D H', H D = none → Pv D n H' → Q (.ref D) H') : Comp g tt te vs σ Q (Itr lo n) H := fun D hD => lc_range (Pv D) (h0 D hD) (fun i H' h p => hs D i H' hD h p) (fun H' p => hd D H' hD p)
theorem w_rep {p : Addr} {xs : List V} {n : Int} (h : H p = some (.lst xs)) (h1 : -(2 ^ 63) ≤ n) (h2 : n < 2 ^ 63) (hz : xs.length * n.toNat ≤ sizeLine) (k : ∀ q, H q = none → Q (.ref q) (upd H q (.lst (List.replicate n.toNat xs).flatten))) : rRep (.ref p) (.int n) H Q := ⟨p, n, xs, rfl, rfl, h, h1, h2, hz, k⟩
end
/-! the same with the fragment named (within a comprehension's own scope) -/
section
variable {X : Cx}
theorem pe_fldK (K : PySem.W.Frag) {e : Expr} {ta : TE} {f : Str} {pos : Pos} (he : PE X e ta) (hb : attributeBase e f X.env (eval e X.env) = eval e X.env) (h : X.K = K := by rfl) : PE X (.Attribute e f pos) (tFld K ta f) := by subst h; exact pe_fld he hb
theorem pt_truthAK (K : PySem.W.Frag) {e : Expr} {te : TE} (h : PE X e te) (hs : ∀ whole, isTrue e X.env whole = (do let v ← whole; standAt e.pos; holding [v] (truthy v)) := by intro _; rfl) (hK : X.K = K := by rfl) : PT X e (tTruA K te) := by subst hK; exact pt_truthA h hs
theorem c_listK (K : PySem.W.Frag) (h : X.K = K := by rfl) : CallR X (.type "list") (rListA K) := by subst h; exact c_list
theorem c_lenK (K : PySem.W.Frag) (h : X.K = K := by rfl) : CallR X (.builtin "len") (rLenA K) := by subst h; exact c_len
theorem ix_listK (K : PySem.W.Frag) (h : X.K = K := by rfl) : IxR X (rIxL K) := by subst h; exact ix_list
theorem ix_tupK (K : PySem.W.Frag) (h : X.K = K := by rfl) : IxR X (rIxT K) := by subst h; exact ix_tup
theorem ix_seqK (K : PySem.W.Frag) (h : X.K = K := by rfl) : IxR X (rIx K) := by subst h; exact ix_seq
theorem call_isiK (K : PySem.W.Frag) (h : X.K = K := by rfl) : CallR X (.builtin "isinstance") (rIsi K) := by subst h; exact call_isi
theorem call_isGK (K : PySem.W.Frag) {X : Cx} {a : Addr} {cls : Value} {d : Option Addr} {oe : Obj} {pn : List (Addr × Obj)} (hz : Zc cls d oe) (hf : ∃ vs, oe.data = .fields vs) (h : X.K = K := by rfl) : CallR (X.suite a ((a, oe) :: pn)) (.builtin "isinstance") (rIsG K a cls d) := by subst h; exact call_isG hz hf
theorem op_catAK (K : PySem.W.Frag) (h : X.K = K := by rfl) : OpR X (binaryOp .Add) (rCatA K) := by subst h; exact op_catA
end
/-! ### heaps -/
theorem at_new {H : Hp} {a p : Addr} {o o' : HO} (n : H p = none) (h : H a = some o) : upd H p o' a = some o := by rw [upd_ne (ne_of_none h n)]; exact h
theorem at_ne {H : Hp} {a p : Addr} {o o' : HO} (n : a ≠ p) (h : H a = some o) : upd H p o' a = some o := by rw [upd_ne n]; exact h
theorem no_new {H : Hp} {q p : Addr} {o' : HO} (n : q ≠ p) (h : H q = none) : upd H p o' q = none := by rw [upd_ne n]; exact h
theorem none1 {H : Hp} {q a : Addr} {o : HO} (h : upd H a o q = none) : q ≠ a ∧ H q = none := by
  have e : q ≠ a := fun e => by rw [e, upd_same] at h; cases h
  exact ⟨e, by rwa [upd_ne e] at h⟩
theorem none2 {H : Hp} {q a b : Addr} {o o' : HO} (h : upd (upd H a o) b o' q = none) : q ≠ a ∧ q ≠ b ∧ H q = none :=
  let ⟨e, h⟩ := none1 h; let ⟨e', h⟩ := none1 h; ⟨e', e, h⟩
theorem none3 {H : Hp} {q a b c : Addr} {o o' o2 : HO} (h : upd (upd (upd H a o) b o') c o2 q = none) : q ≠ a ∧ q ≠ b ∧ q ≠ c ∧ H q = none :=
  let ⟨e, h⟩ := none1 h; let ⟨e1, e2, h⟩ := none2 h; ⟨e1, e2, e, h⟩
theorem none4 {H : Hp} {q a b c d : Addr} {o o' o2 o3 : HO} (h : upd (upd (upd (upd H a o) b o') c o2) d o3 q = none) : q ≠ a ∧ q ≠ b ∧ q ≠ c ∧ q ≠ d ∧ H q = none :=
  let ⟨e, h⟩ := none1 h; let ⟨e1, e2, e3, h⟩ := none3 h; ⟨e1, e2, e3, e, h⟩
theorem same_new0 {H : Hp} {p : Addr} {o : HO} (h : H p = none) : Same H (upd H p o) := fun b u e => by rw [upd_ne (ne_of_none e h)]; exact e
theorem lt_line {n : Nat} (h : n ≤ 100000) : n < sizeLine := Nat.lt_of_le_of_lt h (by decide)
theorem le_line {n : Nat} (h : n ≤ 100000) : n ≤ sizeLine := Nat.le_trans h (by decide)

/-! ### o.m(..) within a suite: what it lets out may name the slots -/
def tMethX (C : Addr) (m : Str) (sp : Sp) (E : TSt → XK) (ta : TE) (t : TA) : TE := fun σ H Q => ta σ H fun x H1 => rMethA C m x H1 (t σ H1 fun vs H2 => sp (x :: vs) H2 Q (E σ))
section
variable {X : Cx} {k : Nat} {ps : List Str} {sp : Sp} {E : TSt → XK} {m C : Str} {pos apos : Pos} {e o : Expr} {es : List Expr} {ta : TE} {t : TA}
theorem pe_methOS (K : PySem.W.Frag) {pl : Sem Bool} (he : PE X o ta) (c : Cls K (He.ga K C)) (hm : Meth K (He.ga K C) m (He.ma K (He.ga K C) m)) (O : Okd X.prog X.w K X.mg X.base (C, some m) k ps sp) (hr : Room k X.A) (hx : ∀ σ, PassesAt (L2.CX X.prog X.w) X σ (E σ)) (ha : PA X (e :: es) t)
    (hst : starEach (e :: es) X.env = (false, eval e X.env) :: starEach es X.env := by rfl) (hpl : (backTo pos (starEach es X.env)).any (·.1) = false := by rfl)
    (ht : eval (.Call (.Attribute o m apos) (e :: es) [] pos) X.env = (do
      let ov ← eval o X.env
      standAt apos.atName
      let (f, first) ← holding [ov] (getMethod ov m pl)
      callWith pos f first (backTo pos (starEach (e :: es) X.env)) (backToKw pos (keywordEach [] X.env))) := by rfl) (hK : X.K = K := by rfl) :
    PE X (.Call (.Attribute o m apos) (e :: es) [] pos) (tMethX (He.ga K C) m sp E ta t) := by
  subst hK
  obtain ⟨_, hb, _, F⟩ := O
  refine ⟨fun pins s σ H Q I h => ?_⟩
  refine PySem.W.methodCall_KW (pl := pl) (thn (he.run pins s σ H _ I h) fun u s1 ⟨x, H1, I1, rx, a, dx, fs, ex, ea, l, q⟩ => ?_) ht
  subst ex
  cases rx
  refine getmeth_ok I1 ea c hm l ?_
  refine PySem.W.callWith_K (first := [.ref a]) (h₀ := X.base) I.ok.mod.kin hm.kp (thn (ha.run pos pins s1 σ H1 _ I1 q) fun us s2 ⟨vs, H2, I2, r, q2⟩ => ⟨I2.kIn, ?_⟩) hst hpl
  exact run_fnS (us := .ref a :: us) (vs := .ref a :: vs) F hr hb (hx σ) I2 (.cons rfl r) q2
theorem pe_methOS0 (K : PySem.W.Frag) {pl : Sem Bool} (he : PE X o ta) (c : Cls K (He.ga K C)) (hm : Meth K (He.ga K C) m (He.ma K (He.ga K C) m)) (O : Okd X.prog X.w K X.mg X.base (C, some m) k ps sp) (hr : Room k X.A) (hx : ∀ σ, PassesAt (L2.CX X.prog X.w) X σ (E σ))
    (ht : eval (.Call (.Attribute o m apos) [] [] pos) X.env = (do
      let ov ← eval o X.env
      standAt apos.atName
      let (f, first) ← holding [ov] (getMethod ov m pl)
      callWith pos f first (backTo pos (starEach [] X.env)) (backToKw pos (keywordEach [] X.env))) := by rfl) (hK : X.K = K := by rfl) :
    PE X (.Call (.Attribute o m apos) [] [] pos) (tMethX (He.ga K C) m sp E ta tNil) := by
  subst hK
  obtain ⟨_, hb, _, F⟩ := O
  refine ⟨fun pins s σ H Q I h => ?_⟩
  refine PySem.W.methodCall_KW (pl := pl) (thn (he.run pins s σ H _ I h) fun u s1 ⟨x, H1, I1, rx, a, dx, fs, ex, ea, l, q⟩ => ?_) ht
  subst ex
  cases rx
  refine getmeth_ok I1 ea c hm l ?_
  exact PySem.W.callWith_K0 (first := [.ref a]) I1.kIn hm.kp (run_fnS (us := [.ref a]) (vs := [.ref a]) F hr hb (hx σ) I1 (.cons rfl .nil) q)
theorem w_methX {σ : TSt} {H : Hp} {Q : VK} {C : Addr} (k : ta σ H fun x H1 => rMethA C m x H1 (t σ H1 fun vs H2 => sp (x :: vs) H2 Q (E σ))) : tMethX C m sp E ta t σ H Q := k
end
/-! ### data -/
/-- v stands for d, a datum of small depth -/
def Rep (K : PySem.W.Frag) (H : Hp) (n : Nat) (v : V) (d : PyData) : Prop := Dp K H v d ∧ d.canLay0 = true ∧ d.depth ≤ n
section
variable {K : PySem.W.Frag} {H H' : Hp} {v x y : V} {xs ys : List V} {d e : PyData} {n m : Nat} {Q : VK} {p : Addr}
theorem Rep.non : Rep K H n .non .none := ⟨.non, by simp [PyData.canLay0], by simp [PyData.depth]⟩
theorem Rep.bl {b : Bool} : Rep K H n (.bl b) (.bool b) := ⟨.bl b, by simp [PyData.canLay0], by simp [PyData.depth]⟩
theorem Rep.int {i : Int} : Rep K H n (.int i) (.int i) := ⟨.int i, by simp [PyData.canLay0], by simp [PyData.depth]⟩
theorem Rep.str {s : Str} (h : PyData.canLay0 (.str s) = true) : Rep K H n (.str s) (.str s) := ⟨.str s, h, by simp [PyData.depth]⟩
theorem Rep.mono (h : Rep K H n v d) (k : n ≤ m) : Rep K H m v d := ⟨h.1, h.2.1, Nat.le_trans h.2.2 k⟩
inductive Reps (K : PySem.W.Frag) (H : Hp) (n : Nat) : List V → List PyData → Prop
  | nil : Reps K H n [] []
  | cons {v : V} {d : PyData} {vs : List V} {ds : List PyData} : Rep K H n v d → Reps K H n vs ds → Reps K H n (v :: vs) (d :: ds)
theorem Reps.all {ds : List PyData} (h : Reps K H n xs ds) : DpAll K H xs ds ∧ PyData.canLayAll0 ds = true ∧ PyData.depthAll ds ≤ n := by
  induction h with
  | nil => exact ⟨.nil, by simp [PyData.canLayAll0], by simp [PyData.depthAll]⟩
  | cons a b ih => exact ⟨.cons a.1 ih.1, by simp [PyData.canLayAll0, a.2.1, ih.2.1], by simp only [PyData.depthAll]; exact Nat.max_le.mpr ⟨a.2.2, ih.2.2⟩⟩
theorem Rep.tup {ds : List PyData} (h : H p = some (.tup xs)) (r : Reps K H n xs ds) : Rep K H (n + 1) (.ref p) (.tuple ds) := by
  obtain ⟨a, b, c⟩ := r.all
  exact ⟨.tup (SqT.of h) a, by simp only [PyData.canLay0]; exact b, by simp only [PyData.depth]; omega⟩
theorem Rep.lst {ds : List PyData} (h : H p = some (.lst xs)) (r : Reps K H n xs ds) : Rep K H (n + 1) (.ref p) (.list ds) := by
  obtain ⟨a, b, c⟩ := r.all
  exact ⟨.lst (SqL.of h) a, by simp only [PyData.canLay0]; exact b, by simp only [PyData.depth]; omega⟩
theorem Rep.shaped (h : Rep K H n v d) (k : n ≤ 64) : SeqAt.shaped d = true := by
  unfold SeqAt.shaped
  rw [h.2.1, decide_eq_true (Nat.le_trans h.2.2 k)]; rfl
theorem Reps.of (h : ∀ x ∈ xs, ∃ d, Rep K H n x d) : ∃ ds, Reps K H n xs ds := by
  induction xs with
  | nil => exact ⟨[], .nil⟩
  | cons a r ih =>
    obtain ⟨d, hd⟩ := h a (List.mem_cons_self ..)
    obtain ⟨ds, hs⟩ := ih fun x hx => h x (List.mem_cons_of_mem _ hx)
    exact ⟨d :: ds, .cons hd hs⟩
theorem Rep.refl (h : Rep K H n v d) : PyData.eqv d d = true := PySem.SeqAt.eqv_refl d h.2.1
theorem w_eqR (h1 : Rep K H n x d) (h2 : Rep K H m y e) (k1 : n ≤ 64) (k2 : m ≤ 64) (k : Q (.bl (PyData.eqv d e)) H) : rEqD K x y H Q := ⟨d, e, h1.1, h2.1, h1.shaped k1, h2.shaped k2, k⟩
theorem w_neR (h1 : Rep K H n x d) (h2 : Rep K H m y e) (k1 : n ≤ 64) (k2 : m ≤ 64) (k : Q (.bl (!PyData.eqv d e)) H) : rNeD K x y H Q := ⟨d, e, h1.1, h2.1, h1.shaped k1, h2.shaped k2, k⟩
/-- the same datum on both sides -/
theorem w_eqS' (h1 : Rep K H n x d) (h2 : Rep K H m y d) (k1 : n ≤ 64) (k2 : m ≤ 64) (k : Q (.bl true) H) : rEqD K x y H Q := w_eqR h1 h2 k1 k2 (by rw [h1.refl]; exact k)
theorem w_neS' (h1 : Rep K H n x d) (h2 : Rep K H m y d) (k1 : n ≤ 64) (k2 : m ≤ 64) (k : Q (.bl false) H) : rNeD K x y H Q := w_neR h1 h2 k1 k2 (by rw [h1.refl]; exact k)
end
theorem Reps.len {K : PySem.W.Frag} {H : Hp} {n : Nat} {xs : List V} {ds : List PyData} (h : Reps K H n xs ds) : ds.isEmpty = xs.isEmpty := by cases h <;> rfl
theorem eqv_nil {ds : List PyData} : PyData.eqv (.list ds) (.list []) = ds.isEmpty := by cases ds <;> simp [PyData.eqv, PyData.eqvAll]
theorem eqv_bool {a b : Bool} : PyData.eqv (.bool a) (.bool b) = (a == b) := by simp [PyData.eqv]
theorem w_eqBB {K : PySem.W.Frag} {H : Hp} {Q : VK} {a b : Bool} (h : a = b) (k : Q (.bl true) H) : rEqD K (.bl a) (.bl b) H Q := by
  subst h
  exact w_eqS' (Rep.bl (n := 0)) (Rep.bl (n := 0)) (by decide) (by decide) k
/-! ### data that never changes -/
mutual
inductive Im (H : Hp) : V → PyData → Prop
  | non : Im H .non .none
  | bl (b : Bool) : Im H (.bl b) (.bool b)
  | int (i : Int) : Im H (.int i) (.int i)
  | str (s : Str) (h : PyData.canLay0 (.str s) = true) : Im H (.str s) (.str s)
  | tup {a : Addr} {xs : List V} {ds : List PyData} : H a = some (.tup xs) → Ims H xs ds → Im H (.ref a) (.tuple ds)
inductive Ims (H : Hp) : List V → List PyData → Prop
  | nil : Ims H [] []
  | cons {v : V} {vs : List V} {d : PyData} {ds : List PyData} : Im H v d → Ims H vs ds → Ims H (v :: vs) (d :: ds)
end
/-- tuples stay -/
def TK (H H' : Hp) : Prop := ∀ a xs, H a = some (.tup xs) → H' a = some (.tup xs)
theorem TK.refl (H : Hp) : TK H H := fun _ _ h => h
theorem TK.trans {H H1 H2 : Hp} (h : TK H H1) (k : TK H1 H2) : TK H H2 := fun a xs e => k a xs (h a xs e)
theorem _root_.L2.Same.tk {H H' : Hp} (h : Same H H') : TK H H' := fun a xs e => h a _ e
theorem tk_new {H : Hp} {p : Addr} {o : HO} (n : H p = none) : TK H (upd H p o) := (same_new0 n).tk
theorem tk_lst {H : Hp} {p : Addr} {o : HO} {ys : List V} (n : H p = some (.lst ys)) : TK H (upd H p o) := fun a xs e => by rw [upd_ne (ne_of e n (by intro z; cases z))]; exact e
theorem tk_ins {H : Hp} {p C dx : Addr} {fs : List (Str × V)} {o : HO} (n : H p = some (.ins C dx fs)) : TK H (upd H p o) := fun a xs e => by rw [upd_ne (ne_of e n (by intro z; cases z))]; exact e
section
variable {K : PySem.W.Frag} {H H' : Hp}
mutual
theorem Im.mono (k : TK H H') : ∀ {v : V} {d : PyData}, Im H v d → Im H' v d
  | _, _, .non => .non
  | _, _, .bl b => .bl b
  | _, _, .int i => .int i
  | _, _, .str s h => .str s h
  | _, _, .tup h r => .tup (k _ _ h) (Ims.mono k r)
theorem Ims.mono (k : TK H H') : ∀ {vs : List V} {ds : List PyData}, Ims H vs ds → Ims H' vs ds
  | _, _, .nil => .nil
  | _, _, .cons h r => .cons (Im.mono k h) (Ims.mono k r)
end
mutual
theorem Im.dp : ∀ {v : V} {d : PyData}, Im H v d → Dp K H v d ∧ d.canLay0 = true
  | _, _, .non => ⟨.non, by simp [PyData.canLay0]⟩
  | _, _, .bl b => ⟨.bl b, by simp [PyData.canLay0]⟩
  | _, _, .int i => ⟨.int i, by simp [PyData.canLay0]⟩
  | _, _, .str s h => ⟨.str s, h⟩
  | _, _, .tup h r => ⟨.tup (SqT.of h) (Ims.dp r).1, by simp only [PyData.canLay0]; exact (Ims.dp r).2⟩
theorem Ims.dp : ∀ {vs : List V} {ds : List PyData}, Ims H vs ds → DpAll K H vs ds ∧ PyData.canLayAll0 ds = true
  | _, _, .nil => ⟨.nil, by simp [PyData.canLayAll0]⟩
  | _, _, .cons h r => ⟨.cons (Im.dp h).1 (Ims.dp r).1, by simp only [PyData.canLayAll0, Bool.and_eq_true]; exact ⟨(Im.dp h).2, (Ims.dp r).2⟩⟩
end
theorem Im.rep {v : V} {d : PyData} {n : Nat} (h : Im H v d) (k : d.depth ≤ n) : Rep K H n v d := ⟨(Im.dp h).1, (Im.dp (K := K) h).2, k⟩
end
/-! ### what changed: the objects of one owner alone, or new ones -/
structure Chg (own own' : Addr → Prop) (H H' : Hp) : Prop where
  keep : ∀ b o, H b = some o → ¬ own b → H' b = some o
  new : ∀ b, own' b → own b ∨ H b = none
  tk : TK H H'
theorem Chg.refl {own : Addr → Prop} {H : Hp} : Chg own own H H := ⟨fun _ _ e _ => e, fun _ h => .inl h, TK.refl H⟩
theorem w_inT {K : PySem.W.Frag} {H : Hp} {Q : VK} {x : V} {xs : List V} {p : Addr} {b : Bool} (h : H p = some (.tup xs)) (hx : flatV x = true) (ha : xs.all flatV = true) (e : inV x xs = b) (k : Q (.bl b) H) : rIn K false x (.ref p) H Q := ⟨p, xs, rfl, .inr (SqT.of h), hx, ha, by rw [if_neg (by decide), e]; exact k⟩
theorem w_iaL {K : PySem.W.Frag} {H : Hp} {Q : VK} {p : Addr} {xs : List V} {i : Int} {v : V} (h : H p = some (.lst xs)) (e : atI xs i = some v) (k : Q v H) : rIx K (.ref p) (.int i) H Q := .inl (w_ixL h e k)
theorem w_iaT {K : PySem.W.Frag} {H : Hp} {Q : VK} {p : Addr} {xs : List V} {i : Int} {v : V} (h : H p = some (.tup xs)) (e : atI xs i = some v) (k : Q v H) : rIx K (.ref p) (.int i) H Q := .inr (.inl (w_ixT h e k))
theorem w_ninT {K : PySem.W.Frag} {H : Hp} {Q : VK} {x : V} {xs : List V} {p : Addr} {b : Bool} (h : H p = some (.tup xs)) (hx : flatV x = true) (ha : xs.all flatV = true) (e : inV x xs = b) (k : Q (.bl !b) H) : rIn K true x (.ref p) H Q := ⟨p, xs, rfl, .inr (SqT.of h), hx, ha, by rw [if_pos rfl, e]; exact k⟩
theorem Chg.same {own : Addr → Prop} {H H' : Hp} (s : Same H H') : Chg own own H H' := ⟨fun b o e _ => s b o e, fun _ h => .inl h, s.tk⟩
theorem Chg.pre {own own' : Addr → Prop} {H H1 H' : Hp} (s : Same H H1) (c : Chg own own' H1 H') : Chg own own' H H' := ⟨fun b o e n => c.keep b o (s b o e) n, fun b h => (c.new b h).imp id s.free, s.tk.trans c.tk⟩
theorem Chg.trans {own own1 own2 : Addr → Prop} {H H1 H' : Hp} (c : Chg own own1 H H1) (d : Chg own1 own2 H1 H') (g : ∀ b, H1 b = none → H b = none) : Chg own own2 H H' :=
  ⟨fun b o e n => d.keep b o (c.keep b o e n) fun h => (c.new b h).elim n fun z => (by rw [e] at z; cases z), fun b h => (d.new b h).elim (c.new b) fun z => .inr (g b z), c.tk.trans d.tk⟩
section
variable {K : PySem.W.Frag} {H : Hp} {Q : VK} {i j : Int} {a b : Bool}
theorem eqD_non_non (k : Q (.bl true) H) : rEqD K (.non) (.non) H Q := w_eqR (Rep.non (n := 0)) (Rep.non (n := 0)) (by decide) (by decide) (by rw [show PyData.eqv (.none) (.none) = true from by simp [PyData.eqv]]; exact k)
theorem neD_non_non (k : Q (.bl false) H) : rNeD K (.non) (.non) H Q := w_neR (Rep.non (n := 0)) (Rep.non (n := 0)) (by decide) (by decide) (by rw [show PyData.eqv (.none) (.none) = true from by simp [PyData.eqv]]; exact k)
theorem eqD_int_int (k : Q (.bl (decide (i = j))) H) : rEqD K (.int i) (.int j) H Q := w_eqR (Rep.int (n := 0)) (Rep.int (n := 0)) (by decide) (by decide) (by rw [show PyData.eqv (.int i) (.int j) = decide (i = j) from by rw [Bool.eq_iff_iff]; simp [PyData.eqv]]; exact k)
theorem neD_int_int (k : Q (.bl (!decide (i = j))) H) : rNeD K (.int i) (.int j) H Q := w_neR (Rep.int (n := 0)) (Rep.int (n := 0)) (by decide) (by decide) (by rw [show PyData.eqv (.int i) (.int j) = decide (i = j) from by rw [Bool.eq_iff_iff]; simp [PyData.eqv]]; exact k)
theorem eqD_bl_bl (k : Q (.bl ((a == b))) H) : rEqD K (.bl a) (.bl b) H Q := w_eqR (Rep.bl (n := 0)) (Rep.bl (n := 0)) (by decide) (by decide) (by rw [show PyData.eqv (.bool a) (.bool b) = (a == b) from by simp [PyData.eqv]]; exact k)
theorem neD_bl_bl (k : Q (.bl (!(a == b))) H) : rNeD K (.bl a) (.bl b) H Q := w_neR (Rep.bl (n := 0)) (Rep.bl (n := 0)) (by decide) (by decide) (by rw [show PyData.eqv (.bool a) (.bool b) = (a == b) from by simp [PyData.eqv]]; exact k)
theorem eqD_non_int (k : Q (.bl false) H) : rEqD K (.non) (.int j) H Q := w_eqR (Rep.non (n := 0)) (Rep.int (n := 0)) (by decide) (by decide) (by rw [show PyData.eqv (.none) (.int j) = false from by simp [PyData.eqv]]; exact k)
theorem neD_non_int (k : Q (.bl true) H) : rNeD K (.non) (.int j) H Q := w_neR (Rep.non (n := 0)) (Rep.int (n := 0)) (by decide) (by decide) (by rw [show PyData.eqv (.none) (.int j) = false from by simp [PyData.eqv]]; exact k)
theorem eqD_int_non (k : Q (.bl false) H) : rEqD K (.int i) (.non) H Q := w_eqR (Rep.int (n := 0)) (Rep.non (n := 0)) (by decide) (by decide) (by rw [show PyData.eqv (.int i) (.none) = false from by simp [PyData.eqv]]; exact k)
theorem neD_int_non (k : Q (.bl true) H) : rNeD K (.int i) (.non) H Q := w_neR (Rep.int (n := 0)) (Rep.non (n := 0)) (by decide) (by decide) (by rw [show PyData.eqv (.int i) (.none) = false from by simp [PyData.eqv]]; exact k)
theorem eqD_non_bl (k : Q (.bl false) H) : rEqD K (.non) (.bl b) H Q := w_eqR (Rep.non (n := 0)) (Rep.bl (n := 0)) (by decide) (by decide) (by rw [show PyData.eqv (.none) (.bool b) = false from by simp [PyData.eqv]]; exact k)
theorem neD_non_bl (k : Q (.bl true) H) : rNeD K (.non) (.bl b) H Q := w_neR (Rep.non (n := 0)) (Rep.bl (n := 0)) (by decide) (by decide) (by rw [show PyData.eqv (.none) (.bool b) = false from by simp [PyData.eqv]]; exact k)
theorem eqD_bl_non (k : Q (.bl false) H) : rEqD K (.bl a) (.non) H Q := w_eqR (Rep.bl (n := 0)) (Rep.non (n := 0)) (by decide) (by decide) (by rw [show PyData.eqv (.bool a) (.none) = false from by simp [PyData.eqv]]; exact k)
theorem neD_bl_non (k : Q (.bl true) H) : rNeD K (.bl a) (.non) H Q := w_neR (Rep.bl (n := 0)) (Rep.non (n := 0)) (by decide) (by decide) (by rw [show PyData.eqv (.bool a) (.none) = false from by simp [PyData.eqv]]; exact k)
end
/-! ### indices -/
theorem atI_mod {α : Type} {xs : List α} {i : Int} {v : α} (h : xs[(i % (xs.length : Int)).toNat]? = some v) : atI xs (i % (xs.length : Int)) = some v := by
  have h1 := (List.getElem?_eq_some_iff.mp h).1
  have h0 : 0 ≤ i % (xs.length : Int) := Int.emod_nonneg _ (by omega)
  have e := atI_nat h
  rwa [Int.toNat_of_nonneg h0] at e
theorem atI_of {α : Type} {xs : List α} {i : Int} {v : α} (h0 : 0 ≤ i) (h : xs[i.toNat]? = some v) : atI xs i = some v := by
  have e := atI_nat h
  rwa [Int.toNat_of_nonneg h0] at e
theorem seq_mod {n : Nat} {i : Int} (h : 0 < n) : seqIndex? (i % (n : Int)) n = some (i % (n : Int)).toNat := by
  have h0 : 0 ≤ i % (n : Int) := Int.emod_nonneg _ (by omega)
  have h1 : i % (n : Int) < n := Int.emod_lt_of_pos _ (by omega)
  exact seqIndex_of h0 h1
theorem ints_mod {xs : List Int} {m : Int} (z : Int) (hm : m = xs.length) (h : 0 < xs.length) : ∃ b, atI (xs.map V.int) (z % m) = some (.int b) ∧ b ∈ xs := by
  subst hm
  have h0 : 0 ≤ z % (xs.length : Int) := Int.emod_nonneg _ (by omega)
  have h1 : z % (xs.length : Int) < xs.length := Int.emod_lt_of_pos _ (by omega)
  have hl : (z % (xs.length : Int)).toNat < xs.length := by omega
  exact ⟨_, atI_of h0 (by rw [List.getElem?_map, List.getElem?_eq_getElem hl]; rfl), List.getElem_mem hl⟩
theorem get_map {α β : Type} {f : α → β} {xs : List α} {i : Nat} {y : β} (h : (xs.map f)[i]? = some y) : ∃ x, xs[i]? = some x ∧ y = f x := by
  rw [List.getElem?_map] at h
  cases e : xs[i]? with
  | none => rw [e] at h; cases h
  | some x => rw [e] at h; exact ⟨x, rfl, (Option.some.inj h).symm⟩
theorem get_some {α : Type} {xs : List α} {i : Nat} (h : i < xs.length) : ∃ x, xs[i]? = some x := ⟨xs[i], List.getElem?_eq_getElem h⟩
theorem take_next {α : Type} {xs : List α} {i : Nat} {x : α} (h : xs[i]? = some x) : xs.take (i + 1) = xs.take i ++ [x] := by
  obtain ⟨hl, e⟩ := List.getElem?_eq_some_iff.mp h
  rw [List.take_add_one, h]; rfl
/-- all but what M names is as it was -/
def Kept (M : Addr → Prop) (H H' : Hp) : Prop := ∀ b o, H b = some o → ¬ M b → H' b = some o
theorem _root_.L2.Same.kept {M : Addr → Prop} {H H' : Hp} (h : Same H H') : Kept M H H' := fun b o e _ => h b o e
theorem Kept.trans {M : Addr → Prop} {H H1 H2 : Hp} (h : Kept M H H1) (k : Kept M H1 H2) : Kept M H H2 := fun b o e n => k b o (h b o e n) n
theorem same_new {H : Hp} {p : Addr} {o : HO} (h : H p = none) : Same H (upd H p o) := fun b u e => by rw [upd_ne (ne_of_none e h)]; exact e
theorem _root_.L2.Same.upd_new {H H' : Hp} {p : Addr} {o : HO} (s : Same H H') (h : H p = none) : Same H (upd H' p o) := fun b u e => by rw [upd_ne (ne_of_none e h)]; exact s b u e
theorem kept_upd {M : Addr → Prop} {H : Hp} {p : Addr} {o : HO} (h : M p) : Kept M H (upd H p o) := fun b u e n => by rw [upd_ne (fun q => n (by rw [q]; exact h))]; exact e
/-! ### the end: what a def lets out depends on the world -/
theorem noX {w : World} {P : Program} (H : Hp) (s : Shared) (e : Value) (s' : Shared) (h : L2.CX P w [] H s (fun _ _ _ => False) e s') : False := by
  obtain ⟨_, _, _, _, _, _, _, _, _, _, _, _, z⟩ := h
  exact z
theorem walk_ofW {l : PySem.W.OpenLaw} {n k : Nat} {q : Program} {loose : List Str} {XP : (Str → Option Value) → Heap → Prop} {YP : World → Heap → Prop} {d : DefRec} {x : Str}
    (hn : l.most = some n) (hn2 : n ≤ sizeLine) (hdf : d.params.defaults = []) (hr : Room k callerA)
    (F : ∀ (w : World) (mg : Str → Option Value) (fa : Addr) (h : Heap), YP w h → h.Ns mainGlobals mg → mg d.name = some (.ref fa) →
      ∃ (K : PySem.W.Frag) (fd : FuncData) (sp : Sp), K.In h ∧ (∀ (s : Shared) (u : Value), BindsTo s fd ⟨[u], []⟩ [(x, u)]) ∧
        (∀ (H : Hp) (a : Addr) (ns : List Int), ns.length ≤ n → Only H → SqL K H a (ns.map V.int) → sp [.ref a] H (fun v _ => v = .bl true) fun _ _ _ => False) ∧
        ∀ base : Heap, K.In base → base.Ns mainGlobals mg → FnOk l.prog w K mg base (L2.CX l.prog w) k fa fd [x] sp) :
    PySem.W.WalkO q loose XP YP l.row.toRowW d [] (fun f vs => PySem.call f vs) := by
  refine Att.attach_call hn hdf fun w s₀ s₁ mg mb fa o pm cd doc a vs ns G Y ho hd hcd hmg hobj hints hlen hg => ?_
  obtain ⟨K, fd, sp, KX, hb, hsp, hF⟩ := F w mg fa _ Y G.T.g hmg
  exact law_call KX G.T.g G.T.b G.T.builtins G.T.nolimit hg hobj hints (Nat.le_trans hlen hn2) hr hF hb (fun H hO hS => hsp H a ns hlen hO hS) fun H e s' h => noX H s₁ e s' h
end Sp

set_option Elab.async false
set_option linter.all false
set_option maxRecDepth 100000
set_option maxHeartbeats 2000000
namespace K01
open PySem PySem.Spec PyProof.Rows L2 Sp
def top (i : Nat) : Stmt := PySem.Challenge.pw_spindlegate_k01_flash.main.body.getD i (.Pass ⟨0, 0, 0, 0⟩)
abbrev s__law_tape : Stmt := top 13
def d__law_tape : He.DefD := ⟨("_law_tape", none), "_law_tape", "_law_tape", defArgs s__law_tape, defBody s__law_tape, defScope s__law_tape, [], []⟩
abbrev s__law_at : Stmt := top 14
def d__law_at : He.DefD := ⟨("_law_at", none), "_law_at", "_law_at", defArgs s__law_at, defBody s__law_at, defScope s__law_at, [], []⟩
abbrev s_is_between : Stmt := top 9
def d_is_between : He.DefD := ⟨("is_between", none), "is_between", "is_between", defArgs s_is_between, defBody s_is_between, defScope s_is_between, [], []⟩
abbrev s_Flash___init__ : Stmt := inClass (top 11) 0
def d_Flash___init__ : He.DefD := ⟨("Flash", some "__init__"), "__init__", "Flash.__init__", defArgs s_Flash___init__, defBody s_Flash___init__, defScope s_Flash___init__, [], []⟩
abbrev s_Flash_image : Stmt := inClass (top 11) 11
def d_Flash_image : He.DefD := ⟨("Flash", some "image"), "image", "Flash.image", defArgs s_Flash_image, defBody s_Flash_image, defScope s_Flash_image, [], []⟩
abbrev s__law_image : Stmt := top 19
def d__law_image : He.DefD := ⟨("_law_image", none), "_law_image", "_law_image", defArgs s__law_image, defBody s__law_image, defScope s__law_image, [], []⟩
abbrev s__law_next : Stmt := top 16
def d__law_next : He.DefD := ⟨("_law_next", none), "_law_next", "_law_next", defArgs s__law_next, defBody s__law_next, defScope s__law_next, [], []⟩
abbrev s__law_due : Stmt := top 17
def d__law_due : He.DefD := ⟨("_law_due", none), "_law_due", "_law_due", defArgs s__law_due, defBody s__law_due, defScope s__law_due, [], []⟩
abbrev s__law_same : Stmt := top 18
def d__law_same : He.DefD := ⟨("_law_same", none), "_law_same", "_law_same", defArgs s__law_same, defBody s__law_same, defScope s__law_same, [], []⟩
abbrev s_Flash_check_block : Stmt := inClass (top 11) 1
def d_Flash_check_block : He.DefD := ⟨("Flash", some "check_block"), "check_block", "Flash.check_block", defArgs s_Flash_check_block, defBody s_Flash_check_block, defScope s_Flash_check_block, [], []⟩
abbrev s_Flash_check_page : Stmt := inClass (top 11) 2
def d_Flash_check_page : He.DefD := ⟨("Flash", some "check_page"), "check_page", "Flash.check_page", defArgs s_Flash_check_page, defBody s_Flash_check_page, defScope s_Flash_check_page, [], []⟩
abbrev s_next_page : Stmt := top 10
def d_next_page : He.DefD := ⟨("next_page", none), "next_page", "next_page", defArgs s_next_page, defBody s_next_page, defScope s_next_page, [], []⟩
abbrev s_Flash_operate : Stmt := inClass (top 11) 4
def d_Flash_operate : He.DefD := ⟨("Flash", some "operate"), "operate", "Flash.operate", defArgs s_Flash_operate, defBody s_Flash_operate, defScope s_Flash_operate, [], []⟩
abbrev s_Flash_program : Stmt := inClass (top 11) 5
def d_Flash_program : He.DefD := ⟨("Flash", some "program"), "program", "Flash.program", defArgs s_Flash_program, defBody s_Flash_program, defScope s_Flash_program, [], []⟩
abbrev s_Flash_fill : Stmt := inClass (top 11) 7
def d_Flash_fill : He.DefD := ⟨("Flash", some "fill"), "fill", "Flash.fill", defArgs s_Flash_fill, defBody s_Flash_fill, defScope s_Flash_fill, [], []⟩
abbrev s_Flash_erase : Stmt := inClass (top 11) 6
def d_Flash_erase : He.DefD := ⟨("Flash", some "erase"), "erase", "Flash.erase", defArgs s_Flash_erase, defBody s_Flash_erase, defScope s_Flash_erase, [], []⟩
abbrev s_Flash_wear : Stmt := inClass (top 11) 8
def d_Flash_wear : He.DefD := ⟨("Flash", some "wear"), "wear", "Flash.wear", defArgs s_Flash_wear, defBody s_Flash_wear, defScope s_Flash_wear, [], []⟩
abbrev s_Flash_read : Stmt := inClass (top 11) 3
def d_Flash_read : He.DefD := ⟨("Flash", some "read"), "read", "Flash.read", defArgs s_Flash_read, defBody s_Flash_read, defScope s_Flash_read, [], []⟩
abbrev s__law_do : Stmt := top 15
def d__law_do : He.DefD := ⟨("_law_do", none), "_law_do", "_law_do", defArgs s__law_do, defBody s__law_do, defScope s__law_do, [], []⟩
abbrev s_law : Stmt := top 20
def d_law : He.DefD := ⟨("law", none), "law", "law", defArgs s_law, defBody s_law, defScope s_law, [], []⟩
theorem sc__law_tape : FnScope ["_law_script", "_law_tape_here", "_law_k", "_law_value", "_law_step"] ["_law_script"] (defScope s__law_tape) := ⟨rfl, rfl, rfl, by decide +kernel, rfl, by decide +kernel, by decide +kernel⟩
theorem sc__law_at : FnScope ["_law_tape_here", "_law_k"] ["_law_tape_here", "_law_k"] (defScope s__law_at) := ⟨rfl, rfl, rfl, by decide +kernel, rfl, by decide +kernel, by decide +kernel⟩
theorem sc_is_between : FnScope ["value", "low", "high"] ["value", "low", "high"] (defScope s_is_between) := ⟨rfl, rfl, rfl, by decide +kernel, rfl, by decide +kernel, by decide +kernel⟩
theorem sc_Flash___init__ : FnScope ["self", "blocks", ".0", "block"] ["self", "blocks"] (defScope s_Flash___init__) := ⟨rfl, rfl, rfl, by decide +kernel, rfl, by decide +kernel, by decide +kernel⟩
theorem sc_Flash_image : FnScope ["self", ".0", "block"] ["self"] (defScope s_Flash_image) := ⟨rfl, rfl, rfl, by decide +kernel, rfl, by decide +kernel, by decide +kernel⟩
theorem sc__law_image : FnScope ["_law_flash", "_law_held", "_law_wears", "_law_told", "_law_due_here", ".0", "_law_block"] ["_law_flash", "_law_held", "_law_wears"] (defScope s__law_image) := ⟨rfl, rfl, rfl, by decide +kernel, rfl, by decide +kernel, by decide +kernel⟩
theorem sc__law_next : FnScope ["_law_pages", "_law_page"] ["_law_pages"] (defScope s__law_next) := ⟨rfl, rfl, rfl, by decide +kernel, rfl, by decide +kernel, by decide +kernel⟩
theorem sc__law_due : FnScope ["_law_held", "_law_wears", "_law_act", "_law_block", "_law_page", "_law_record"] ["_law_held", "_law_wears", "_law_act", "_law_block", "_law_page", "_law_record"] (defScope s__law_due) := ⟨rfl, rfl, rfl, by decide +kernel, rfl, by decide +kernel, by decide +kernel⟩
theorem sc__law_same : FnScope ["_law_told", "_law_due_here"] ["_law_told", "_law_due_here"] (defScope s__law_same) := ⟨rfl, rfl, rfl, by decide +kernel, rfl, by decide +kernel, by decide +kernel⟩
theorem sc_Flash_check_block : FnScope ["self", "block"] ["self", "block"] (defScope s_Flash_check_block) := ⟨rfl, rfl, rfl, by decide +kernel, rfl, by decide +kernel, by decide +kernel⟩
theorem sc_Flash_check_page : FnScope ["self", "block", "page"] ["self", "block", "page"] (defScope s_Flash_check_page) := ⟨rfl, rfl, rfl, by decide +kernel, rfl, by decide +kernel, by decide +kernel⟩
theorem sc_next_page : FnScope ["pages", "last", "page"] ["pages"] (defScope s_next_page) := ⟨rfl, rfl, rfl, by decide +kernel, rfl, by decide +kernel, by decide +kernel⟩
theorem sc_Flash_operate : FnScope ["self", "operation"] ["self", "operation"] (defScope s_Flash_operate) := ⟨rfl, rfl, rfl, by decide +kernel, rfl, by decide +kernel, by decide +kernel⟩
theorem sc_Flash_program : FnScope ["self", "block", "page", "record"] ["self", "block", "page", "record"] (defScope s_Flash_program) := ⟨rfl, rfl, rfl, by decide +kernel, rfl, by decide +kernel, by decide +kernel⟩
theorem sc_Flash_fill : FnScope ["self", "block", "content"] ["self", "block", "content"] (defScope s_Flash_fill) := ⟨rfl, rfl, rfl, by decide +kernel, rfl, by decide +kernel, by decide +kernel⟩
theorem sc_Flash_erase : FnScope ["self", "block"] ["self", "block"] (defScope s_Flash_erase) := ⟨rfl, rfl, rfl, by decide +kernel, rfl, by decide +kernel, by decide +kernel⟩
theorem sc_Flash_wear : FnScope ["self", "block"] ["self", "block"] (defScope s_Flash_wear) := ⟨rfl, rfl, rfl, by decide +kernel, rfl, by decide +kernel, by decide +kernel⟩
theorem sc_Flash_read : FnScope ["self", "block", "page"] ["self", "block", "page"] (defScope s_Flash_read) := ⟨rfl, rfl, rfl, by decide +kernel, rfl, by decide +kernel, by decide +kernel⟩
theorem sc__law_do : FnScope ["_law_flash", "_law_act", "_law_block", "_law_page", "_law_record", "e"] ["_law_flash", "_law_act", "_law_block", "_law_page", "_law_record"] (defScope s__law_do) := ⟨rfl, rfl, rfl, by decide +kernel, rfl, by decide +kernel, by decide +kernel⟩
theorem sc_law : FnScope ["_law_script", "_law_tape_here", "_law_blocks", "_law_flash", "_law_block", "_law_held", "_law_wears", "_law_k", "_law_number", "_law_pick", "_law_act", "_law_page", "_law_record", "_law_due_here", ".0"] ["_law_script"] (defScope s_law) := ⟨rfl, rfl, rfl, by decide +kernel, rfl, by decide +kernel, by decide +kernel⟩
def fn : List He.DefD := [d__law_tape, d__law_at, d_is_between, d_Flash___init__, d_Flash_image, d__law_image, d__law_next, d__law_due, d__law_same, d_Flash_check_block, d_Flash_check_page, d_next_page, d_Flash_operate, d_Flash_program, d_Flash_fill, d_Flash_erase, d_Flash_wear, d_Flash_read, d__law_do, d_law]
def fa : List He.Fa := [.free "range", .free "len", .free "abs", .free "int", .free "isinstance", .free "bool", .glo "is_between", .int "MAX_BLOCKS" 24, .int "MIN_BLOCKS" 8, .exc "NotValid", .glo "NotValid", .int "PAGES" 8, .free "list", .cls "Flash", .meth "Flash" "image", .glo "_law_next", .free "tuple", .meth "Flash" "check_block", .exc "PowerOff", .glo "PowerOff", .meth "Flash" "check_page", .glo "next_page", .meth "Flash" "operate", .meth "Flash" "fill", .exc "SpindleError", .meth "Flash" "program", .meth "Flash" "erase", .meth "Flash" "wear", .meth "Flash" "read", .glo "SpindleError", .glo "_law_tape", .glo "_law_at", .mkr "Flash", .glo "Flash", .glo "_law_image", .free "min", .free "max", .glo "_law_due", .glo "_law_same", .glo "_law_do", .exm "NotValid" "SpindleError" true, .noat "Flash" "blocks", .noat "Flash" "broken", .noat "Flash" "held", .noat "Flash" "left", .noat "Flash" "power", .noat "Flash" "wears", .glo "law"]
def ts : List He.Tab := []
def exs : List (PySem.W.Frag → Bool) := [excB "NotValid", kitB2 "NotValid" "NotValid" true]
def exA (K : PySem.W.Frag) : Bool := exs.all fun f => f K
local macro_rules | `(tactic| walk_at "hp") => `(tactic| first
  | assumption
  | exact upd_same
  | (with_reducible refine' at_new ?n1 ?h1); (case n1 => assumption); (case h1 => walk_at "hp")
  | (with_reducible refine' at_ne ?n1 ?h1); (case n1 => walk_at "ne"); (case h1 => walk_at "hp"))
local macro_rules | `(tactic| walk_at "ne") => `(tactic| first
  | assumption
  | (exact Ne.symm (by assumption))
  | (exact ne_of_none (by assumption) (by assumption))
  | (exact Ne.symm (ne_of_none (by assumption) (by assumption)))
  | (exact ne_of (by assumption) (by assumption) (by intro z; cases z)))
local macro_rules | `(tactic| walk_at "lk") => `(tactic| first | rfl | assumption | (simp; done))
local macro_rules | `(tactic| walk_at "w1") => `(tactic| first
  | ((with_reducible refine' w_var ?h1 ?_); (case h1 => exact rfl))
  | (with_reducible refine' w_c ?_)
  | (with_reducible refine' w_op ?_)
  | (with_reducible refine' w_I0 ?_)
  | ((with_reducible refine' w_I ?h1 ?_); (case h1 => first | assumption | (show (0 : Int) < _; omega) | (exact ⟨by omega, by omega⟩) | (exact Or.inr ⟨by omega, by omega⟩) | (exact Or.inl ⟨by omega, by omega⟩) | (exact ⟨by omega, by omega, by decide⟩)))
  | (with_reducible refine' w_seq ?_)
  | (with_reducible refine' w_asg ?_)
  | (with_reducible refine' w_name ?_)
  | (with_reducible refine' w_cons ?_)
  | (with_reducible refine' w_nil ?_)
  | (with_reducible refine' w_test ?_)
  | (with_reducible refine' w_bl ?_)
  | (with_reducible refine' w_if ?_)
  | (with_reducible refine' w_ret ?_)
  | (with_reducible refine' w_next ?_)
  | (with_reducible refine' w_drop ?_)
  | (with_reducible refine' w_brk ?_)
  | (with_reducible refine' w_cont ?_)
  | (with_reducible refine' w_B ?_)
  | (with_reducible refine' w_and ?_)
  | (with_reducible refine' w_or ?_)
  | (with_reducible refine' w_not ?_)
  | (with_reducible refine' w_iteT ?_)
  | (with_reducible refine' w_iteF ?_)
  | (with_reducible refine' w_eqI ?_)
  | (with_reducible refine' w_neI ?_)
  | (with_reducible refine' w_eqB ?_)
  | (with_reducible refine' w_neB ?_)
  | (with_reducible refine' w_andV ?_)
  | (with_reducible refine' w_orV ?_)
  | (with_reducible refine' w_notV ?_)
  | (with_reducible refine' w_ifE ?_)
  | (with_reducible refine' w_un ?_)
  | (with_reducible refine' w_chain ?_)
  | (with_reducible refine' w_augS ?_)
  | (with_reducible refine' w_ipAdd ?_)
  | (with_reducible refine' w_ipSub ?_)
  | (with_reducible refine' w_gsub ?_)
  | (with_reducible refine' w_fldaug ?_)
  | (with_reducible refine' w_lc ?_)
  | (with_reducible refine' w_yes ?_)
  | ((with_reducible refine' w_wipe ?h1 ?_); (case h1 => exact rfl))
  | ((with_reducible refine' w_put ?h1 ?h2 ?_); (case h1 => walk_at "hp"); (case h2 => walk_at "sz"))
  | ((with_reducible refine' w_fa ?h1 ?h2 ?h3 ?h4 ?_); (case h1 => walk_at "hp"); (case h2 => walk_at "cls"); (case h3 => walk_at "cls"); (case h4 => walk_at "lk"))
  | ((with_reducible refine' w_rep ?h1 ?h2 ?h3 ?h4 ?_); (case h1 => walk_at "hp"); (case h2 => omega); (case h3 => omega); (case h4 => walk_at "sz"))
  | (with_reducible refine' w_U ?_)
  | (with_reducible refine' w_CB ?_)
  | (with_reducible refine' w_BM ?_)
  | (with_reducible refine' w_BM0 ?_)
  | (with_reducible refine' w_call ?_)
  | (with_reducible refine' w_callS ?_)
  | (with_reducible refine' w_meth ?_)
  | (with_reducible refine' w_methX ?_)
  | (with_reducible refine' w_make ?_)
  | (with_reducible refine' w_fld ?_)
  | (with_reducible refine' w_sfld ?_)
  | (with_reducible refine' w_retN ?_)
  | (with_reducible refine' w_for ?_)
  | (with_reducible refine' w_iList ?_)
  | (with_reducible refine' w_iRng1 ?_)
  | ((with_reducible refine' w_tup ?_))
  | ((with_reducible refine' w_lst ?_))
  | ((with_reducible refine' w_f ?h1 ?h2 ?h3 ?h4 ?_); (case h1 => walk_at "hp"); (case h2 => walk_at "cls"); (case h3 => walk_at "cls"); (case h4 => walk_at "lk"))
  | ((with_reducible refine' w_sf ?h1 ?h2 ?h3 ?h4 ?_); (case h1 => walk_at "hp"); (case h2 => walk_at "cls"); (case h3 => walk_at "cls"); (case h4 => walk_at "ln"))
  | ((with_reducible refine' w_m ?h1 ?h2 ?_); (case h1 => walk_at "hp"); (case h2 => walk_at "lk"))
  | ((with_reducible refine' w_BMl ?h1 ?_); (case h1 => walk_at "hp"))
  | ((with_reducible refine' w_append ?h1 ?h2 ?_); (case h1 => walk_at "hp"); (case h2 => walk_at "sz"))
  | ((with_reducible refine' w_ixL ?h1 ?h2 ?_); (case h1 => walk_at "hp"); (case h2 => walk_at "lk"))
  | ((with_reducible refine' w_ixT ?h1 ?h2 ?_); (case h1 => walk_at "hp"); (case h2 => walk_at "lk"))
  | ((with_reducible refine' w_iaL ?h1 ?h2 ?_); (case h1 => walk_at "hp"); (case h2 => walk_at "lk"))
  | ((with_reducible refine' w_iaT ?h1 ?h2 ?_); (case h1 => walk_at "hp"); (case h2 => walk_at "lk"))
  | ((with_reducible refine' w_lenL ?h1 ?_); (case h1 => walk_at "hp"))
  | ((with_reducible refine' w_lenK ?h1 ?_); (case h1 => assumption))
  | ((with_reducible refine' w_lenT ?h1 ?_); (case h1 => walk_at "hp"))
  | (with_reducible refine' w_tru ?_)
  | ((with_reducible refine' w_truL ?h1 ?_); (case h1 => walk_at "hp"))
  | (with_reducible refine' w_truB ?_)
  | (with_reducible refine' w_int ?_)
  | (with_reducible refine' w_intB ?_)
  | (with_reducible refine' w_abs ?_)
  | (with_reducible refine' w_min2 ?_)
  | (with_reducible refine' w_max2 ?_)
  | (with_reducible refine' eqD_non_non ?_)
  | (with_reducible refine' eqD_int_int ?_)
  | (with_reducible refine' eqD_bl_bl ?_)
  | (with_reducible refine' eqD_non_int ?_)
  | (with_reducible refine' eqD_int_non ?_)
  | (with_reducible refine' eqD_non_bl ?_)
  | (with_reducible refine' eqD_bl_non ?_)
  | (with_reducible refine' neD_non_non ?_)
  | (with_reducible refine' neD_int_int ?_)
  | (with_reducible refine' neD_bl_bl ?_)
  | (with_reducible refine' neD_non_int ?_)
  | (with_reducible refine' neD_int_non ?_)
  | (with_reducible refine' neD_non_bl ?_)
  | (with_reducible refine' neD_bl_non ?_)
  | (with_reducible refine' w_isN ?_)
  | (with_reducible refine' w_notN ?_)
  | (with_reducible refine' w_eqS ?_)
  | (with_reducible refine' w_neS ?_)
  | (with_reducible refine' w_iteNT ?_)
  | (with_reducible refine' w_iteNF ?_)
  | (with_reducible refine' w_iteNNT ?_)
  | (with_reducible refine' w_iteNNF ?_)
  | (with_reducible refine' w_iRng2 ?_)
  | (with_reducible refine' w_iTup ?_)
  | ((with_reducible refine' w_newT ?h1 ?_); (case h1 => walk_at "sz"))
  | ((with_reducible refine' w_newL ?h1 ?_); (case h1 => walk_at "sz"))
  | ((with_reducible refine' w_rng1 ?h1 ?h2 ?_); (case h1 => omega); (case h2 => omega))
  | ((with_reducible refine' w_itL ?h1 ?_); (case h1 => walk_at "hp"))
  | ((with_reducible refine' w_itK ?h1 ?_); (case h1 => assumption))
  | ((with_reducible refine' w_itT ?h1 ?_); (case h1 => walk_at "hp")))
local macro_rules | `(tactic| walk_at "ln") => `(tactic| first | decide | (refine putF_lt ?_; walk_at "ln") | (walk_at "lk"))
local macro_rules | `(tactic| walk_at "sz") => `(tactic| first
  | (exact le_line (by first | decide | (simp; done) | (simp; omega) | omega))
  | (exact lt_line (by first | decide | (simp; done) | (simp; omega) | omega)))
local macro_rules | `(tactic| walk_at "if") => `(tactic| first
  | ((with_reducible refine' w_ifT (decide_eq_true ?h1) ?_); (case h1 => first | assumption | omega))
  | ((with_reducible refine' w_ifF (decide_eq_false ?h1) ?_); (case h1 => first | assumption | omega))
  | (with_reducible refine' w_ite ?_ ?_)
  | (with_reducible refine' w_iteN ?_ ?_)
  | (with_reducible refine' w_iteNB ?_ ?_)
  | (with_reducible refine' w_iteB ?_ ?_))
local macro_rules | `(tactic| walk_at "w0") => `(tactic| (dsimp only [cxOf]))
local macro_rules | `(tactic| walk_at "w") => `(tactic| repeat (first | (walk_at "w1") | (with_reducible show rIsi _ _ _ _; walk_at "isi")))
local macro_rules | `(tactic| walk_at "isi") => `(tactic| first
  | (with_reducible refine' isi_non_int ?_)
  | (with_reducible refine' isi_non_bool ?_)
  | (with_reducible refine' isi_non_str ?_)
  | (with_reducible refine' isi_non_tuple ?_)
  | (with_reducible refine' isi_non_list ?_)
  | (with_reducible refine' isi_non_dict ?_)
  | (with_reducible refine' isi_bl_int ?_)
  | (with_reducible refine' isi_bl_bool ?_)
  | (with_reducible refine' isi_bl_str ?_)
  | (with_reducible refine' isi_bl_tuple ?_)
  | (with_reducible refine' isi_bl_list ?_)
  | (with_reducible refine' isi_bl_dict ?_)
  | (with_reducible refine' isi_int_int ?_)
  | (with_reducible refine' isi_int_bool ?_)
  | (with_reducible refine' isi_int_str ?_)
  | (with_reducible refine' isi_int_tuple ?_)
  | (with_reducible refine' isi_int_list ?_)
  | (with_reducible refine' isi_int_dict ?_)
  | (with_reducible refine' isi_str_int ?_)
  | (with_reducible refine' isi_str_bool ?_)
  | (with_reducible refine' isi_str_str ?_)
  | (with_reducible refine' isi_str_tuple ?_)
  | (with_reducible refine' isi_str_list ?_)
  | (with_reducible refine' isi_str_dict ?_)
  | ((with_reducible refine' isi_lst_int ?h1 ?_); (case h1 => walk_at "hp"))
  | ((with_reducible refine' isi_lst_bool ?h1 ?_); (case h1 => walk_at "hp"))
  | ((with_reducible refine' isi_lst_str ?h1 ?_); (case h1 => walk_at "hp"))
  | ((with_reducible refine' isi_lst_tuple ?h1 ?_); (case h1 => walk_at "hp"))
  | ((with_reducible refine' isi_lst_list ?h1 ?_); (case h1 => walk_at "hp"))
  | ((with_reducible refine' isi_lst_dict ?h1 ?_); (case h1 => walk_at "hp"))
  | ((with_reducible refine' isi_tup_int ?h1 ?_); (case h1 => walk_at "hp"))
  | ((with_reducible refine' isi_tup_bool ?h1 ?_); (case h1 => walk_at "hp"))
  | ((with_reducible refine' isi_tup_str ?h1 ?_); (case h1 => walk_at "hp"))
  | ((with_reducible refine' isi_tup_tuple ?h1 ?_); (case h1 => walk_at "hp"))
  | ((with_reducible refine' isi_tup_list ?h1 ?_); (case h1 => walk_at "hp"))
  | ((with_reducible refine' isi_tup_dict ?h1 ?_); (case h1 => walk_at "hp"))
  | ((with_reducible refine' isi_dK_int ?h1 ?_); (case h1 => walk_at "hp"))
  | ((with_reducible refine' isi_dK_bool ?h1 ?_); (case h1 => walk_at "hp"))
  | ((with_reducible refine' isi_dK_str ?h1 ?_); (case h1 => walk_at "hp"))
  | ((with_reducible refine' isi_dK_tuple ?h1 ?_); (case h1 => walk_at "hp"))
  | ((with_reducible refine' isi_dK_list ?h1 ?_); (case h1 => walk_at "hp"))
  | ((with_reducible refine' isi_dK_dict ?h1 ?_); (case h1 => walk_at "hp"))
  | ((with_reducible refine' isi_dT_int ?h1 ?_); (case h1 => walk_at "hp"))
  | ((with_reducible refine' isi_dT_bool ?h1 ?_); (case h1 => walk_at "hp"))
  | ((with_reducible refine' isi_dT_str ?h1 ?_); (case h1 => walk_at "hp"))
  | ((with_reducible refine' isi_dT_tuple ?h1 ?_); (case h1 => walk_at "hp"))
  | ((with_reducible refine' isi_dT_list ?h1 ?_); (case h1 => walk_at "hp"))
  | ((with_reducible refine' isi_dT_dict ?h1 ?_); (case h1 => walk_at "hp")))

local macro_rules | `(tactic| walk_at "cls") => `(tactic| first | (exact Tx.cls (fa := fa) (fn := fn) (ts := ts) (exs := exs) (by assumption) 13) | (exact Tx.noat (fa := fa) (fn := fn) (ts := ts) (exs := exs) (by assumption) 41) | (exact Tx.noat (fa := fa) (fn := fn) (ts := ts) (exs := exs) (by assumption) 42) | (exact Tx.noat (fa := fa) (fn := fn) (ts := ts) (exs := exs) (by assumption) 43) | (exact Tx.noat (fa := fa) (fn := fn) (ts := ts) (exs := exs) (by assumption) 44) | (exact Tx.noat (fa := fa) (fn := fn) (ts := ts) (exs := exs) (by assumption) 45) | (exact Tx.noat (fa := fa) (fn := fn) (ts := ts) (exs := exs) (by assumption) 46))
section
variable {P : Program} {w : World} {K : PySem.W.Frag} {mg : Str → Option Value} {base : Heap}
/-! the tape of draws: numbers from 0 to 999 -/
def TapeOk (ts : List Int) : Prop := ∀ t ∈ ts, 0 ≤ t ∧ t < 1000
theorem TapeOk.add {ts : List Int} {x : Int} (h : TapeOk ts) (h0 : 0 ≤ x) (h1 : x < 1000) : TapeOk (ts ++ [x]) := fun t ht => by
  rcases List.mem_append.mp ht with ht | ht
  · exact h t ht
  · rw [List.mem_singleton.mp ht]; exact ⟨h0, h1⟩
theorem at_ints {ns : List Int} {k : Int} (h0 : 0 ≤ k) (h : k < (ns.length : Int)) : atI (ns.map V.int) k = some (.int (ns.getD k.toNat 0)) := by
  refine atI_of h0 ?_
  have hl : k.toNat < ns.length := by omega
  rw [List.getElem?_map, List.getElem?_eq_getElem hl, List.getD_eq_getElem?_getD, List.getElem?_eq_getElem hl]; rfl
def sp__law_tape (K : PySem.W.Frag) : Sp := fun vs H Q _ => ∃ (a : Addr) (ns : List Int), vs = [.ref a] ∧ SqL K H a (ns.map V.int) ∧ ns.length ≤ 63 ∧ ∀ (p : Addr) (ts : List Int), H p = none → TapeOk ts → ts.length ≤ 4000 → Q (.ref p) (upd H p (.lst (ts.map V.int)))
theorem ok__law_tape (T : Tx fa fn ts exs w K mg) : Okd P w K mg base ("_law_tape", none) 1 ["_law_script"] (sp__law_tape K) := by
  refine okd (k := 0) T 0 rfl sc__law_tape (fun _ _ _ _ _ _ us hl => match us, hl with | [_], _ => rfl) (fun vs H Q E h => ?_) (fun f cdv A outer s H vs Q E hr h => ?_)
  · obtain ⟨a, ns, rfl, hS, hlen, hQ⟩ := h
    rfl
  · obtain ⟨a, ns, rfl, hS, hlen, hQ⟩ := h
    have hu := hu_of hr
    refine ⟨_, (pss_cons (ps_set (i := 1) sc__law_tape.nd rfl (Or.inl rfl) (pe_lst pa_nil))
      (pss_cons (ps_for (passes_of rfl) rfl (pi_range1 rfl (T.free 0) (pa_cons (pe_callB c_len (by rfl) (T.free 1) PySem.boot_len (pa_cons (pv 0) pa_nil)) pa_nil)) (pg_name (i := 2) sc__law_tape.nd rfl (Or.inl rfl)) (pss_cons (ps_set (i := 3) sc__law_tape.nd rfl (Or.inl rfl) (pe_callB c_abs (by rfl) (T.free 2) (by decide +kernel) (pa_cons (pe_callTy c_int (by rfl) (T.free 3) (by decide +kernel) (pa_cons (pe_ix ix_list (pv 0) (pv 2) (fun _ _ => rfl)) pa_nil)) pa_nil)))
      (pss_one (ps_if (pt_cmpR op_ge (pv 3) (pe_op op_pow pe_int pe_int) (nomark _)) (pss_one (ps_for (passes_of rfl) rfl (pi_range1 rfl (T.free 0) (pa_cons pe_int pa_nil)) (pg_name (i := 4) sc__law_tape.nd rfl (Or.inl rfl)) (pss_one (ps_if (pt_cmpR op_gt (pv 3) pe_int (nomark _)) (pss_cons (ps_expr (pe_bm PySem.F.plainAttrs_list PySem.F.slot_list_append PySem.F.type_list_append mt_append (pv 1) (pa_cons (pe_op op_mod (pv 3) pe_int) pa_nil)))
      (pss_one (ps_set (i := 3) sc__law_tape.nd rfl (Or.inl rfl) (pe_op op_fdiv (pv 3) pe_int)))) pss_nil)))) (pss_one (ps_for (passes_of rfl) rfl (pi_range1 rfl (T.free 0) (pa_cons pe_int pa_nil)) (pg_name (i := 4) sc__law_tape.nd rfl (Or.inl rfl)) (pss_cons (ps_set (i := 3) sc__law_tape.nd rfl (Or.inl rfl) (pe_op op_mod (pe_op op_add (pe_op op_add (pe_op op_mul (pv 3) pe_int) (pe_op op_mul pe_int (pe_op op_add (pv 2) pe_int))) (pe_op op_mul pe_int (pv 4))) pe_int))
      (pss_cons (ps_set (i := 3) sc__law_tape.nd rfl (Or.inl rfl) (pe_op op_mod (pe_op op_mul (pv 3) pe_int) pe_int))
      (pss_one (ps_expr (pe_bm PySem.F.plainAttrs_list PySem.F.slot_list_append PySem.F.type_list_append mt_append (pv 1) (pa_cons (pe_op op_mod (pe_op op_fdiv (pv 3) pe_int) pe_int) pa_nil))))))))))))
      (pss_one (ps_ret (pv 1))))), ?_⟩
    refine w_start (σ' := [some _, none, none, none, none]) rfl ?_
    walk_at "w0"
    walk_at "w"
    intro p hp
    have hS1 : ∀ {o : HO}, SqL K (upd H p o) a (ns.map V.int) := (same_new hp).seq hS
    walk_at "w"
    refine w_lenK hS1 ?_
    rw [List.length_map]
    walk_at "w"
    refine loop_range (fun i σ H' => ∃ (ts : List Int) (v2 v3 v4 : Option V), σ = [some (.ref a), some (.ref p), v2, v3, v4] ∧ H' = upd H p (.lst (ts.map V.int)) ∧ TapeOk ts ∧ ts.length ≤ 60 * i)
      ⟨[], none, none, none, rfl, rfl, fun t h => (by cases h), by simp⟩ ?_ ?_
    · rintro i σ H' hi ⟨ts, v2, v3, v4, rfl, rfl, ht, hl⟩
      have hi : i < ns.length := by omega
      walk_at "w"
      refine w_ixK hS1 (at_ints (by omega) (by omega)) ?_
      walk_at "w"
      generalize hv : (if ns.getD (0 + (i : Int)).toNat 0 < 0 then -ns.getD (0 + (i : Int)).toNat 0 else ns.getD (0 + (i : Int)).toNat 0) = v
      have hv0 : 0 ≤ v := by rw [← hv]; split <;> omega
      clear hv
      walk_at "if"
      · intro hc
        walk_at "w"
        refine loop_range (fun j σ H' => ∃ (ts' : List Int) (v : Int) (v4 : Option V), σ = [some (.ref a), some (.ref p), some (.int (0 + i)), some (.int v), v4] ∧ H' = upd H p (.lst (ts'.map V.int)) ∧ 0 ≤ v ∧ TapeOk ts' ∧ ts'.length ≤ ts.length + j)
          ⟨ts, v, _, rfl, rfl, hv0, ht, Nat.le_refl _⟩ ?_ ?_
        · rintro j σ H' hj ⟨ts', v, v4, rfl, rfl, hv, ht', hl'⟩
          have hj : j < 60 := hj
          walk_at "w"
          walk_at "if"
          · intro hc
            have hz : (ts'.map V.int).length < sizeLine := lt_line (by rw [List.length_map]; omega)
            walk_at "w"
            exact ⟨ts' ++ [v % 1000], _, _, rfl, by rw [upd_upd, List.map_append]; rfl, Int.ediv_nonneg hv (by decide), ht'.add (by omega) (by omega), by simp; omega⟩
          · intro hc
            walk_at "w"
            exact ⟨ts', _, _, rfl, rfl, hv, ht', by omega⟩
        · rintro σ H' ⟨ts', v, v4, rfl, rfl, hv, ht', hl'⟩
          have hl' : ts'.length ≤ ts.length + 60 := hl'
          exact ⟨ts', _, _, _, rfl, rfl, ht', by omega⟩
      · intro hc
        walk_at "w"
        refine loop_range (fun j σ H' => ∃ (ts' : List Int) (v : Int) (v4 : Option V), σ = [some (.ref a), some (.ref p), some (.int (0 + i)), some (.int v), v4] ∧ H' = upd H p (.lst (ts'.map V.int)) ∧ TapeOk ts' ∧ ts'.length ≤ ts.length + j)
          ⟨ts, v, _, rfl, rfl, ht, Nat.le_refl _⟩ ?_ ?_
        · rintro j σ H' hj ⟨ts', v, v4, rfl, rfl, ht', hl'⟩
          have hj : j < 4 := hj
          walk_at "w"
          have hz : (ts'.map V.int).length < sizeLine := lt_line (by rw [List.length_map]; omega)
          exact ⟨ts' ++ [_], _, _, rfl, by rw [upd_upd, List.map_append]; rfl, ht'.add (by omega) (by omega), by simp; omega⟩
        · rintro σ H' ⟨ts', v, v4, rfl, rfl, ht', hl'⟩
          have hl' : ts'.length ≤ ts.length + 4 := hl'
          exact ⟨ts', _, _, _, rfl, rfl, ht', by omega⟩
    · rintro σ H' ⟨ts, v2, v3, v4, rfl, rfl, ht, hl⟩
      walk_at "w"
      exact hQ p ts hp ht (by omega)
def sp__law_at (K : PySem.W.Frag) : Sp := fun vs H Q _ => ∃ (p : Addr) (ts : List Int) (k : Int), vs = [.ref p, .int k] ∧ H p = some (.lst (ts.map V.int)) ∧ TapeOk ts ∧ 0 ≤ k ∧ ∀ v, 0 ≤ v → v < 1000 → Q (.int v) H
theorem ok__law_at (T : Tx fa fn ts exs w K mg) : Okd P w K mg base ("_law_at", none) 1 ["_law_tape_here", "_law_k"] (sp__law_at K) := by
  refine okd (k := 0) T 1 rfl sc__law_at (fun _ _ _ _ _ _ us hl => match us, hl with | [_, _], _ => rfl) (fun vs H Q E h => ?_) (fun f cdv A outer s H vs Q E hr h => ?_)
  · obtain ⟨p, ts, k, rfl, hp, ht, hk, hQ⟩ := h
    rfl
  · obtain ⟨p, ts, k, rfl, hp, ht, hk, hQ⟩ := h
    have hu := hu_of hr
    refine ⟨_, (pss_cons (ps_if (pt_cmpR op_lt (pv 1) (pe_callB c_len (by rfl) (T.free 1) PySem.boot_len (pa_cons (pv 0) pa_nil)) (nomark _)) (pss_one (ps_ret (pe_ix ix_list (pv 0) (pv 1) (fun _ _ => rfl)))) pss_nil)
      (pss_one (ps_ret pe_int))), ?_⟩
    refine w_start (σ' := [some _, some _]) rfl ?_
    walk_at "w0"
    walk_at "w"
    walk_at "if"
    · intro hc
      rw [List.length_map] at hc
      walk_at "w"
      refine w_ixL hp (at_ints hk hc) ?_
      walk_at "w"
      have hm : ts.getD k.toNat 0 ∈ ts := by
        have hl : k.toNat < ts.length := by omega
        rw [List.getD_eq_getElem?_getD, List.getElem?_eq_getElem hl]
        exact List.getElem_mem hl
      exact hQ _ (ht _ hm).1 (ht _ hm).2
    · intro hc
      walk_at "w"
      exact hQ 0 (by decide) (by decide)
/-! ## the flash -/
abbrev NV (K : PySem.W.Frag) : Addr := He.ga K "NotValid"
abbrev PO (K : PySem.W.Frag) : Addr := He.ga K "PowerOff"
abbrev CF (K : PySem.W.Frag) : Addr := He.ga K "Flash"
def sp_is_between (K : PySem.W.Frag) : Sp := fun vs H Q _ => ∃ (x : V) (lo hi : Int), vs = [x, .int lo, .int hi] ∧ ((∃ i, x = .int i ∧ Q (.bl (decide (lo ≤ i ∧ i ≤ hi))) H) ∨ (((∃ s, x = .str s) ∨ (∃ b, x = .bl b) ∨ x = .non) ∧ Q (.bl false) H))
theorem ok_is_between (T : Tx fa fn ts exs w K mg) : Okd P w K mg base ("is_between", none) 1 ["value", "low", "high"] (sp_is_between K) := by
  refine okd (k := 0) T 2 rfl sc_is_between (fun _ _ _ _ _ _ us hl => match us, hl with | [_, _, _], _ => rfl) (fun vs H Q E h => ?_) (fun f cdv A outer s H vs Q E hr h => ?_)
  · obtain ⟨x, lo, hi, rfl, h⟩ := h
    rfl
  · obtain ⟨x, lo, hi, rfl, h⟩ := h
    have hu := hu_of hr
    refine ⟨_, (pss_cons (ps_if (PW.pt (pw_or (pt_not (pt_val (pe_callB call_isi (by rfl) (T.free 4) (by decide +kernel) (pa_cons (pv 0) (pa_cons (pe_bltn (v := .ty "int") rfl (T.free 3) (by decide +kernel) rfl) pa_nil))))) (pw_or1 (pt_val (pe_callB call_isi (by rfl) (T.free 4) (by decide +kernel) (pa_cons (pv 0) (pa_cons (pe_bltn (v := .ty "bool") rfl (T.free 5) (by decide +kernel) rfl) pa_nil))))))) (pss_one (ps_ret pe_bl)) pss_nil)
      (pss_one (ps_ret (pe_chain op_le op_le (pv 1) (pv 0) (pv 2))))), ?_⟩
    refine w_start (σ' := [some _, some _, some _]) rfl ?_
    walk_at "w0"
    rcases h with ⟨i, rfl, hQ⟩ | ⟨hx, hQ⟩
    · walk_at "w"
      walk_at "if"
      · intro h1
        walk_at "w"
        rw [show decide (i ≤ hi) = decide (lo ≤ i ∧ i ≤ hi) from by simp [h1]]
        exact hQ
      · intro h1
        walk_at "w"
        rw [show decide (lo ≤ i ∧ i ≤ hi) = false from by simp [h1]] at hQ
        exact hQ
    · rcases hx with ⟨z, rfl⟩ | ⟨b, rfl⟩ | rfl
      · walk_at "w"
        exact hQ
      · walk_at "w"
        exact hQ
      · walk_at "w"
        exact hQ
/-! a block's pages: what was programmed, then the erased ones -/
def pad (fs : List V) : List V := fs ++ List.replicate (8 - fs.length) .non
structure Row (fs : List V) : Prop where
  len : fs.length ≤ 8
  nn : ∀ x ∈ fs, x ≠ .non
theorem pad_len {fs : List V} (h : fs.length ≤ 8) : (pad fs).length = 8 := by
  unfold pad; rw [List.length_append, List.length_replicate]; omega
theorem pad_lo {fs : List V} {i : Nat} (h : i < fs.length) : (pad fs)[i]? = fs[i]? := by
  unfold pad; rw [List.getElem?_append_left h]
theorem pad_hi {fs : List V} {i : Nat} (h : fs.length ≤ i) (h8 : i < 8) : (pad fs)[i]? = some .non := by
  unfold pad; rw [List.getElem?_append_right h, List.getElem?_replicate, if_pos (by omega)]
theorem pad_set {fs : List V} {x : V} (h : fs.length < 8) : (pad fs).set fs.length x = pad (fs ++ [x]) := by
  unfold pad
  rw [List.set_append_right _ _ (Nat.le_refl _), Nat.sub_self, List.length_append, List.append_assoc]
  congr 1
  obtain ⟨m, hm⟩ : ∃ m, 8 - fs.length = m + 1 := ⟨7 - fs.length, by omega⟩
  rw [hm, List.replicate_succ, List.set_cons_zero, show 8 - (fs.length + [x].length) = m from by simp; omega]
  rfl
theorem Row.add {fs : List V} {x : V} (h : Row fs) (hl : fs.length < 8) (hx : x ≠ .non) : Row (fs ++ [x]) := ⟨by simp; omega, fun y hy => by
  rcases List.mem_append.mp hy with hy | hy
  · exact h.nn y hy
  · rw [List.mem_singleton.mp hy]; exact hx⟩
theorem Row.nil : Row [] := ⟨by simp, fun x h => by cases h⟩
theorem pad_nil : pad [] = List.replicate 8 .non := rfl
def sp_next_page (K : PySem.W.Frag) : Sp := fun vs H Q _ => ∃ (r : Addr) (fs : List V), vs = [.ref r] ∧ H r = some (.lst (pad fs)) ∧ Row fs ∧ Q (.int fs.length) H
theorem ok_next_page (T : Tx fa fn ts exs w K mg) : Okd P w K mg base ("next_page", none) 1 ["pages"] (sp_next_page K) := by
  refine okd (k := 0) T 11 rfl sc_next_page (fun _ _ _ _ _ _ us hl => match us, hl with | [_], _ => rfl) (fun vs H Q E h => ?_) (fun f cdv A outer s H vs Q E hr h => ?_)
  · obtain ⟨r, fs, rfl, hr1, R, hQ⟩ := h
    rfl
  · obtain ⟨r, fs, rfl, hr1, R, hQ⟩ := h
    have hu := hu_of hr
    refine ⟨_, (pss_cons (ps_set (i := 1) sc_next_page.nd rfl (Or.inl rfl) pe_int)
      (pss_cons (ps_for (passes_of rfl) rfl (pi_range1 rfl (T.free 0) (pa_cons (pe_globI rfl (T.int 11)) pa_nil)) (pg_name (i := 2) sc_next_page.nd rfl (Or.inl rfl)) (pss_one (ps_if (pt_cmpR o_notN (pe_ix ix_list (pv 0) (pv 2) (fun _ _ => rfl)) pe_non (nomark _)) (pss_one (ps_set (i := 1) sc_next_page.nd rfl (Or.inl rfl) (pe_op op_add (pv 2) pe_int))) pss_nil)))
      (pss_one (ps_ret (pv 1))))), ?_⟩
    refine w_start (σ' := [some _, none, none]) rfl ?_
    walk_at "w0"
    walk_at "w"
    refine loop_range (fun i σ H' => ∃ (v2 : Option V), σ = [some (.ref r), some (.int (min i fs.length : Nat)), v2] ∧ H' = H) ⟨none, by simp, rfl⟩ ?_ ?_
    · rintro i σ H' hi ⟨v2, rfl, rfl⟩
      have hi : i < 8 := hi
      walk_at "w"
      by_cases hl : i < fs.length
      · obtain ⟨x, hx⟩ := get_some hl
        refine w_ixL hr1 (v := x) (atI_of (by omega) (by rw [show ((0 : Int) + i).toNat = i from by omega, pad_lo hl, hx])) ?_
        have hn : decide (x = .non) = false := decide_eq_false (R.nn x (List.mem_of_getElem? hx))
        walk_at "w"
        rw [hn]
        walk_at "w"
        exact ⟨_, by rw [show min (i + 1) fs.length = i + 1 from by omega]; show _ = [_, some (V.int ((i + 1 : Nat) : Int)), _]; rw [show ((i + 1 : Nat) : Int) = 0 + (i : Int) + 1 from by omega]; rfl, rfl⟩
      · refine w_ixL hr1 (v := .non) (atI_of (by omega) (by rw [show ((0 : Int) + i).toNat = i from by omega, pad_hi (by omega) hi])) ?_
        walk_at "w"
        refine w_ifF (by decide +kernel) ?_
        walk_at "w"
        exact ⟨_, by rw [show min (i + 1) fs.length = min i fs.length from by omega]; rfl, rfl⟩
    · rintro σ H' ⟨v2, rfl, rfl⟩
      have hl := R.len
      walk_at "w"
      rw [show min (8 : Int).toNat fs.length = fs.length from by have : (8 : Int).toNat = 8 := rfl; omega]
      exact hQ
/-! the object -/
def f_Flash (x0 x1 x2 x3 x4 x5 : V) : List (Str × V) := [("blocks", x0), ("held", x1), ("wears", x2), ("left", x3), ("power", x4), ("broken", x5)]
section
variable {x0 x1 x2 x3 x4 x5 y : V}
theorem f_Flash_b_0_1 : (("blocks" : Str) == ("held" : Str)) = false := by decide +kernel
theorem f_Flash_n_0_1 : ¬ (("blocks" : Str) = ("held" : Str)) := by decide +kernel
theorem f_Flash_b_0_2 : (("blocks" : Str) == ("wears" : Str)) = false := by decide +kernel
theorem f_Flash_n_0_2 : ¬ (("blocks" : Str) = ("wears" : Str)) := by decide +kernel
theorem f_Flash_b_0_3 : (("blocks" : Str) == ("left" : Str)) = false := by decide +kernel
theorem f_Flash_n_0_3 : ¬ (("blocks" : Str) = ("left" : Str)) := by decide +kernel
theorem f_Flash_b_0_4 : (("blocks" : Str) == ("power" : Str)) = false := by decide +kernel
theorem f_Flash_n_0_4 : ¬ (("blocks" : Str) = ("power" : Str)) := by decide +kernel
theorem f_Flash_b_0_5 : (("blocks" : Str) == ("broken" : Str)) = false := by decide +kernel
theorem f_Flash_n_0_5 : ¬ (("blocks" : Str) = ("broken" : Str)) := by decide +kernel
theorem f_Flash_b_1_0 : (("held" : Str) == ("blocks" : Str)) = false := by decide +kernel
theorem f_Flash_n_1_0 : ¬ (("held" : Str) = ("blocks" : Str)) := by decide +kernel
theorem f_Flash_b_1_2 : (("held" : Str) == ("wears" : Str)) = false := by decide +kernel
theorem f_Flash_n_1_2 : ¬ (("held" : Str) = ("wears" : Str)) := by decide +kernel
theorem f_Flash_b_1_3 : (("held" : Str) == ("left" : Str)) = false := by decide +kernel
theorem f_Flash_n_1_3 : ¬ (("held" : Str) = ("left" : Str)) := by decide +kernel
theorem f_Flash_b_1_4 : (("held" : Str) == ("power" : Str)) = false := by decide +kernel
theorem f_Flash_n_1_4 : ¬ (("held" : Str) = ("power" : Str)) := by decide +kernel
theorem f_Flash_b_1_5 : (("held" : Str) == ("broken" : Str)) = false := by decide +kernel
theorem f_Flash_n_1_5 : ¬ (("held" : Str) = ("broken" : Str)) := by decide +kernel
theorem f_Flash_b_2_0 : (("wears" : Str) == ("blocks" : Str)) = false := by decide +kernel
theorem f_Flash_n_2_0 : ¬ (("wears" : Str) = ("blocks" : Str)) := by decide +kernel
theorem f_Flash_b_2_1 : (("wears" : Str) == ("held" : Str)) = false := by decide +kernel
theorem f_Flash_n_2_1 : ¬ (("wears" : Str) = ("held" : Str)) := by decide +kernel
theorem f_Flash_b_2_3 : (("wears" : Str) == ("left" : Str)) = false := by decide +kernel
theorem f_Flash_n_2_3 : ¬ (("wears" : Str) = ("left" : Str)) := by decide +kernel
theorem f_Flash_b_2_4 : (("wears" : Str) == ("power" : Str)) = false := by decide +kernel
theorem f_Flash_n_2_4 : ¬ (("wears" : Str) = ("power" : Str)) := by decide +kernel
theorem f_Flash_b_2_5 : (("wears" : Str) == ("broken" : Str)) = false := by decide +kernel
theorem f_Flash_n_2_5 : ¬ (("wears" : Str) = ("broken" : Str)) := by decide +kernel
theorem f_Flash_b_3_0 : (("left" : Str) == ("blocks" : Str)) = false := by decide +kernel
theorem f_Flash_n_3_0 : ¬ (("left" : Str) = ("blocks" : Str)) := by decide +kernel
theorem f_Flash_b_3_1 : (("left" : Str) == ("held" : Str)) = false := by decide +kernel
theorem f_Flash_n_3_1 : ¬ (("left" : Str) = ("held" : Str)) := by decide +kernel
theorem f_Flash_b_3_2 : (("left" : Str) == ("wears" : Str)) = false := by decide +kernel
theorem f_Flash_n_3_2 : ¬ (("left" : Str) = ("wears" : Str)) := by decide +kernel
theorem f_Flash_b_3_4 : (("left" : Str) == ("power" : Str)) = false := by decide +kernel
theorem f_Flash_n_3_4 : ¬ (("left" : Str) = ("power" : Str)) := by decide +kernel
theorem f_Flash_b_3_5 : (("left" : Str) == ("broken" : Str)) = false := by decide +kernel
theorem f_Flash_n_3_5 : ¬ (("left" : Str) = ("broken" : Str)) := by decide +kernel
theorem f_Flash_b_4_0 : (("power" : Str) == ("blocks" : Str)) = false := by decide +kernel
theorem f_Flash_n_4_0 : ¬ (("power" : Str) = ("blocks" : Str)) := by decide +kernel
theorem f_Flash_b_4_1 : (("power" : Str) == ("held" : Str)) = false := by decide +kernel
theorem f_Flash_n_4_1 : ¬ (("power" : Str) = ("held" : Str)) := by decide +kernel
theorem f_Flash_b_4_2 : (("power" : Str) == ("wears" : Str)) = false := by decide +kernel
theorem f_Flash_n_4_2 : ¬ (("power" : Str) = ("wears" : Str)) := by decide +kernel
theorem f_Flash_b_4_3 : (("power" : Str) == ("left" : Str)) = false := by decide +kernel
theorem f_Flash_n_4_3 : ¬ (("power" : Str) = ("left" : Str)) := by decide +kernel
theorem f_Flash_b_4_5 : (("power" : Str) == ("broken" : Str)) = false := by decide +kernel
theorem f_Flash_n_4_5 : ¬ (("power" : Str) = ("broken" : Str)) := by decide +kernel
theorem f_Flash_b_5_0 : (("broken" : Str) == ("blocks" : Str)) = false := by decide +kernel
theorem f_Flash_n_5_0 : ¬ (("broken" : Str) = ("blocks" : Str)) := by decide +kernel
theorem f_Flash_b_5_1 : (("broken" : Str) == ("held" : Str)) = false := by decide +kernel
theorem f_Flash_n_5_1 : ¬ (("broken" : Str) = ("held" : Str)) := by decide +kernel
theorem f_Flash_b_5_2 : (("broken" : Str) == ("wears" : Str)) = false := by decide +kernel
theorem f_Flash_n_5_2 : ¬ (("broken" : Str) = ("wears" : Str)) := by decide +kernel
theorem f_Flash_b_5_3 : (("broken" : Str) == ("left" : Str)) = false := by decide +kernel
theorem f_Flash_n_5_3 : ¬ (("broken" : Str) = ("left" : Str)) := by decide +kernel
theorem f_Flash_b_5_4 : (("broken" : Str) == ("power" : Str)) = false := by decide +kernel
theorem f_Flash_n_5_4 : ¬ (("broken" : Str) = ("power" : Str)) := by decide +kernel
theorem f_Flash_g0 : (f_Flash x0 x1 x2 x3 x4 x5).lookup ("blocks" : Str) = some x0 := by simp [f_Flash, List.lookup, f_Flash_b_0_1, f_Flash_b_0_2, f_Flash_b_0_3, f_Flash_b_0_4, f_Flash_b_0_5]
theorem f_Flash_p0 : putF ("blocks" : Str) y (f_Flash x0 x1 x2 x3 x4 x5) = f_Flash y x1 x2 x3 x4 x5 := by simp [f_Flash, putF, f_Flash_n_1_0, f_Flash_n_2_0, f_Flash_n_3_0, f_Flash_n_4_0, f_Flash_n_5_0]
theorem f_Flash_g1 : (f_Flash x0 x1 x2 x3 x4 x5).lookup ("held" : Str) = some x1 := by simp [f_Flash, List.lookup, f_Flash_b_1_0, f_Flash_b_1_2, f_Flash_b_1_3, f_Flash_b_1_4, f_Flash_b_1_5]
theorem f_Flash_p1 : putF ("held" : Str) y (f_Flash x0 x1 x2 x3 x4 x5) = f_Flash x0 y x2 x3 x4 x5 := by simp [f_Flash, putF, f_Flash_n_0_1, f_Flash_n_2_1, f_Flash_n_3_1, f_Flash_n_4_1, f_Flash_n_5_1]
theorem f_Flash_g2 : (f_Flash x0 x1 x2 x3 x4 x5).lookup ("wears" : Str) = some x2 := by simp [f_Flash, List.lookup, f_Flash_b_2_0, f_Flash_b_2_1, f_Flash_b_2_3, f_Flash_b_2_4, f_Flash_b_2_5]
theorem f_Flash_p2 : putF ("wears" : Str) y (f_Flash x0 x1 x2 x3 x4 x5) = f_Flash x0 x1 y x3 x4 x5 := by simp [f_Flash, putF, f_Flash_n_0_2, f_Flash_n_1_2, f_Flash_n_3_2, f_Flash_n_4_2, f_Flash_n_5_2]
theorem f_Flash_g3 : (f_Flash x0 x1 x2 x3 x4 x5).lookup ("left" : Str) = some x3 := by simp [f_Flash, List.lookup, f_Flash_b_3_0, f_Flash_b_3_1, f_Flash_b_3_2, f_Flash_b_3_4, f_Flash_b_3_5]
theorem f_Flash_p3 : putF ("left" : Str) y (f_Flash x0 x1 x2 x3 x4 x5) = f_Flash x0 x1 x2 y x4 x5 := by simp [f_Flash, putF, f_Flash_n_0_3, f_Flash_n_1_3, f_Flash_n_2_3, f_Flash_n_4_3, f_Flash_n_5_3]
theorem f_Flash_g4 : (f_Flash x0 x1 x2 x3 x4 x5).lookup ("power" : Str) = some x4 := by simp [f_Flash, List.lookup, f_Flash_b_4_0, f_Flash_b_4_1, f_Flash_b_4_2, f_Flash_b_4_3, f_Flash_b_4_5]
theorem f_Flash_p4 : putF ("power" : Str) y (f_Flash x0 x1 x2 x3 x4 x5) = f_Flash x0 x1 x2 x3 y x5 := by simp [f_Flash, putF, f_Flash_n_0_4, f_Flash_n_1_4, f_Flash_n_2_4, f_Flash_n_3_4, f_Flash_n_5_4]
theorem f_Flash_g5 : (f_Flash x0 x1 x2 x3 x4 x5).lookup ("broken" : Str) = some x5 := by simp [f_Flash, List.lookup, f_Flash_b_5_0, f_Flash_b_5_1, f_Flash_b_5_2, f_Flash_b_5_3, f_Flash_b_5_4]
theorem f_Flash_p5 : putF ("broken" : Str) y (f_Flash x0 x1 x2 x3 x4 x5) = f_Flash x0 x1 x2 x3 x4 y := by simp [f_Flash, putF, f_Flash_n_0_5, f_Flash_n_1_5, f_Flash_n_2_5, f_Flash_n_3_5, f_Flash_n_4_5]
theorem f_Flash_no {m : Str} (h0 : ¬ m = "blocks") (h1 : ¬ m = "held") (h2 : ¬ m = "wears") (h3 : ¬ m = "left") (h4 : ¬ m = "power") (h5 : ¬ m = "broken") : (f_Flash x0 x1 x2 x3 x4 x5).lookup m = none := by
  have b0 : (m == ("blocks" : Str)) = false := by simpa using h0
  have b1 : (m == ("held" : Str)) = false := by simpa using h1
  have b2 : (m == ("wears" : Str)) = false := by simpa using h2
  have b3 : (m == ("left" : Str)) = false := by simpa using h3
  have b4 : (m == ("power" : Str)) = false := by simpa using h4
  have b5 : (m == ("broken" : Str)) = false := by simpa using h5
  simp [f_Flash, List.lookup, b0, b1, b2, b3, b4, b5]
theorem f_Flash_mk : (putF ("broken" : Str) x5 (putF ("power" : Str) x4 (putF ("left" : Str) x3 (putF ("wears" : Str) x2 (putF ("held" : Str) x1 (putF ("blocks" : Str) x0 [])))))) = f_Flash x0 x1 x2 x3 x4 x5 := by simp [f_Flash, putF, f_Flash_n_0_1, f_Flash_n_0_2, f_Flash_n_0_3, f_Flash_n_0_4, f_Flash_n_0_5, f_Flash_n_1_0, f_Flash_n_1_2, f_Flash_n_1_3, f_Flash_n_1_4, f_Flash_n_1_5, f_Flash_n_2_0, f_Flash_n_2_1, f_Flash_n_2_3, f_Flash_n_2_4, f_Flash_n_2_5, f_Flash_n_3_0, f_Flash_n_3_1, f_Flash_n_3_2, f_Flash_n_3_4, f_Flash_n_3_5, f_Flash_n_4_0, f_Flash_n_4_1, f_Flash_n_4_2, f_Flash_n_4_3, f_Flash_n_4_5, f_Flash_n_5_0, f_Flash_n_5_1, f_Flash_n_5_2, f_Flash_n_5_3, f_Flash_n_5_4]
theorem f_Flash_len : (f_Flash x0 x1 x2 x3 x4 x5).length = 6 := rfl
end
local macro_rules | `(tactic| walk_at "lk") => `(tactic| first | rfl | assumption | exact f_Flash_g0 | exact f_Flash_g1 | exact f_Flash_g2 | exact f_Flash_g3 | exact f_Flash_g4 | exact f_Flash_g5 | exact f_Flash_no (by decide +kernel) (by decide +kernel) (by decide +kernel) (by decide +kernel) (by decide +kernel) (by decide +kernel) | (rw [f_Flash_len]; decide))
local macro_rules | `(tactic| walk_at "pf") => `(tactic| simp only [f_Flash_p0, f_Flash_p1, f_Flash_p2, f_Flash_p3, f_Flash_p4, f_Flash_p5, f_Flash_mk])
def sp_Flash_check_block (K : PySem.W.Frag) : Sp := fun vs H Q E => ∃ (p dx : Addr) (n b : Int) (x1 x2 x3 x4 x5 : V), vs = [.ref p, .int b] ∧ H p = some (.ins (CF K) dx (f_Flash (.int n) x1 x2 x3 x4 x5)) ∧
  (0 ≤ b ∧ b < n → Q .non H) ∧ (¬ (0 ≤ b ∧ b < n) → E (.ref (NV K)) none H)
theorem ok_Flash_check_block (T : Tx fa fn ts exs w K mg) : Okd P w K mg base ("Flash", some "check_block") 2 ["self", "block"] (sp_Flash_check_block K) := by
  refine okd (k := 1) T 9 rfl sc_Flash_check_block (fun _ _ _ _ _ _ us hl => match us, hl with | [_, _], _ => rfl) (fun vs H Q E h => ?_) (fun f cdv A outer s H vs Q E hr h => ?_)
  · obtain ⟨p, dx, n, b, x1, x2, x3, x4, x5, rfl, h1, hQ, hE⟩ := h
    rfl
  · obtain ⟨p, dx, n, b, x1, x2, x3, x4, x5, rfl, h1, hQ, hE⟩ := h
    have hu := hu_of hr
    refine ⟨_, (pss_one (ps_if (pt_not (pt_val (pe_callO (ok_is_between T) (hr.mono (by decide)) rfl (T.glo 6) (passes_call (takes_of rfl rfl rfl rfl) (fun _ _ _ _ h => h)) (pa_cons (pv 1) (pa_cons pe_int (pa_cons (pe_op op_sub (pe_fld (pv 0) rfl) pe_int) pa_nil)))))) (pss_one (ps_raise rfl (takes_of rfl rfl rfl rfl) (pmk_own0 PySem.F.excBase_ValueError (T.exc 9) (T.glo 10) rfl))) pss_nil)), ?_⟩
    refine w_start (σ' := [some _, some _]) rfl ?_
    walk_at "w0"
    walk_at "w"
    refine ⟨_, _, _, rfl, .inl ⟨b, rfl, ?_⟩⟩
    walk_at "w"
    walk_at "if"
    · intro hc
      exact hE (by omega)
    · intro hc
      walk_at "w"
      exact hQ (by omega)
def sp_Flash_check_page (K : PySem.W.Frag) : Sp := fun vs H Q E => ∃ (p dx : Addr) (n b g : Int) (x1 x2 x3 x4 x5 : V), vs = [.ref p, .int b, .int g] ∧ H p = some (.ins (CF K) dx (f_Flash (.int n) x1 x2 x3 x4 x5)) ∧
  (0 ≤ b ∧ b < n ∧ 0 ≤ g ∧ g < 8 → Q .non H) ∧ (¬ (0 ≤ b ∧ b < n ∧ 0 ≤ g ∧ g < 8) → E (.ref (NV K)) none H)
theorem ok_Flash_check_page (T : Tx fa fn ts exs w K mg) : Okd P w K mg base ("Flash", some "check_page") 3 ["self", "block", "page"] (sp_Flash_check_page K) := by
  refine okd (k := 2) T 10 rfl sc_Flash_check_page (fun _ _ _ _ _ _ us hl => match us, hl with | [_, _, _], _ => rfl) (fun vs H Q E h => ?_) (fun f cdv A outer s H vs Q E hr h => ?_)
  · obtain ⟨p, dx, n, b, g, x1, x2, x3, x4, x5, rfl, h1, hQ, hE⟩ := h
    rfl
  · obtain ⟨p, dx, n, b, g, x1, x2, x3, x4, x5, rfl, h1, hQ, hE⟩ := h
    have hu := hu_of hr
    refine ⟨_, (pss_cons (ps_expr (pe_methO (pv 0) (T.cls 13) (T.meth 17) (ok_Flash_check_block T) (hr.mono (by decide)) (passes_call (takes_of rfl rfl rfl rfl) (fun _ _ _ _ h => h)) (pa_cons (pv 1) pa_nil)))
      (pss_one (ps_if (pt_not (pt_val (pe_callO (ok_is_between T) (hr.mono (by decide)) rfl (T.glo 6) (passes_call (takes_of rfl rfl rfl rfl) (fun _ _ _ _ h => h)) (pa_cons (pv 2) (pa_cons pe_int (pa_cons (pe_op op_sub (pe_globI rfl (T.int 11)) pe_int) pa_nil)))))) (pss_one (ps_raise rfl (takes_of rfl rfl rfl rfl) (pmk_own0 PySem.F.excBase_ValueError (T.exc 9) (T.glo 10) rfl))) pss_nil))), ?_⟩
    refine w_start (σ' := [some _, some _, some _]) rfl ?_
    walk_at "w0"
    walk_at "w"
    refine ⟨p, dx, n, b, x1, x2, x3, x4, x5, rfl, h1, fun hb => ?_, fun hb => hE (by omega)⟩
    walk_at "w"
    refine ⟨_, _, _, rfl, .inl ⟨g, rfl, ?_⟩⟩
    walk_at "w"
    walk_at "if"
    · intro hc
      exact hE (by omega)
    · intro hc
      walk_at "w"
      exact hQ (by omega)
def decV : V → V
  | .int k => .int (k - 1)
  | v => v
def sp_Flash_operate (K : PySem.W.Frag) : Sp := fun vs H Q E => ∃ (p dx : Addr) (op n h w left br : V) (pw : Bool), vs = [.ref p, op] ∧ H p = some (.ins (CF K) dx (f_Flash n h w left (.bl pw) br)) ∧ (left = .non ∨ ∃ k : Int, left = .int k) ∧
  (pw = false → E (.ref (PO K)) none H) ∧ (pw = true → left = .int 0 → E (.ref (PO K)) none (upd H p (.ins (CF K) dx (f_Flash n h w left (.bl false) op)))) ∧
  (pw = true → left ≠ .int 0 → ∀ H1, H1 p = some (.ins (CF K) dx (f_Flash n h w (decV left) (.bl pw) br)) → (∀ b o, H b = some o → b ≠ p → H1 b = some o) → Q .non H1)
theorem ok_Flash_operate (T : Tx fa fn ts exs w K mg) : Okd P w K mg base ("Flash", some "operate") 1 ["self", "operation"] (sp_Flash_operate K) := by
  refine okd (k := 0) T 12 rfl sc_Flash_operate (fun _ _ _ _ _ _ us hl => match us, hl with | [_, _], _ => rfl) (fun vs H Q E h => ?_) (fun f cdv A outer s H vs Q E hr h => ?_)
  · obtain ⟨p, dx, op, n, h, w, left, br, pw, rfl, h1, hl, c1, c2, c3⟩ := h
    rfl
  · obtain ⟨p, dx, op, n, h, w, left, br, pw, rfl, h1, hl, c1, c2, c3⟩ := h
    have hu := hu_of hr
    refine ⟨_, (pss_cons (ps_if (PW.pt (pw_and (pt_val (pe_fld (pv 0) rfl)) (pw_and1 (pt_cmpR (op_eqD hr.units) (pe_fld (pv 0) rfl) pe_int (nomark _))))) (pss_cons (ps_fld (pv 0) pe_bl rfl)
      (pss_cons (ps_fld (pv 0) (pv 1) rfl)
      (pss_one (ps_raise rfl (takes_of rfl rfl rfl rfl) (pmk_own0 PySem.F.excBase_ValueError (T.exc 18) (T.glo 19) rfl))))) pss_nil)
      (pss_cons (ps_if (pt_not (pt_val (pe_fld (pv 0) rfl))) (pss_one (ps_raise rfl (takes_of rfl rfl rfl rfl) (pmk_own0 PySem.F.excBase_ValueError (T.exc 18) (T.glo 19) rfl))) pss_nil)
      (pss_one (ps_if (pt_cmpR o_notN (pe_fld (pv 0) rfl) pe_non (nomark _)) (pss_one (ps_fldaug (pv 0) pe_int n_sub)) pss_nil)))), ?_⟩
    refine w_start (σ' := [some _, some _]) rfl ?_
    walk_at "w0"
    walk_at "w"
    cases pw with
    | false =>
      walk_at "w"
      exact c1 rfl
    | true =>
      walk_at "w"
      rcases hl with rfl | ⟨k, rfl⟩
      · walk_at "w"
        refine w_ifF (by decide +kernel) ?_
        walk_at "w"
        exact c3 rfl (by intro z; cases z) _ h1 fun _ _ e _ => e
      · walk_at "w"
        walk_at "if"
        · rintro rfl
          walk_at "w"
          walk_at "pf"
          rw [upd_upd]
          exact c2 rfl rfl
        · intro hk
          walk_at "w"
          rw [show decide (V.int k = V.non) = false from decide_eq_false (by intro z; cases z)]
          walk_at "w"
          refine ⟨dx, _, h1, by rw [f_Flash_len]; decide, ?_⟩
          walk_at "pf"
          exact c3 rfl (fun z => hk (by cases z; rfl)) _ upd_same fun b o e n => at_ne n e
/-! a grid: a list of lists of pages -/
structure Grid (H : Hp) (hl : Addr) (rs : List Addr) (fss : List (List V)) : Prop where
  lst : H hl = some (.lst (rs.map V.ref))
  len : rs.length = fss.length
  nd : rs.Nodup
  nh : hl ∉ rs
  row : ∀ (i : Nat) (r : Addr), rs[i]? = some r → ∃ fs, fss[i]? = some fs ∧ H r = some (.lst (pad fs))
  ok : ∀ fs ∈ fss, Row fs
section
variable {H H' : Hp} {hl r q : Addr} {rs : List Addr} {fss : List (List V)} {fs fs' : List V} {i : Nat}
theorem Grid.at (G : Grid H hl rs fss) (h : i < fss.length) : ∃ r fs, rs[i]? = some r ∧ fss[i]? = some fs ∧ H r = some (.lst (pad fs)) ∧ Row fs := by
  obtain ⟨r, hr⟩ := get_some (xs := rs) (i := i) (by rw [G.len]; exact h)
  obtain ⟨fs, h1, h2⟩ := G.row i r hr
  exact ⟨r, fs, hr, h1, h2, G.ok fs (List.mem_of_getElem? h1)⟩
theorem Grid.item (G : Grid H hl rs fss) (hr : rs[i]? = some r) : atI (rs.map V.ref) (i : Int) = some (.ref r) := atI_nat (by rw [List.getElem?_map, hr]; rfl)
theorem Grid.keep (G : Grid H hl rs fss) (k : ∀ b o, b = hl ∨ b ∈ rs → H b = some o → H' b = some o) : Grid H' hl rs fss :=
  ⟨k _ _ (.inl rfl) G.lst, G.len, G.nd, G.nh, fun i r hr => let ⟨fs, h1, h2⟩ := G.row i r hr; ⟨fs, h1, k _ _ (.inr (List.mem_of_getElem? hr)) h2⟩, G.ok⟩
theorem nd_ix {l : List Addr} {i j : Nat} {a : Addr} (h : l.Nodup) (h1 : l[i]? = some a) (h2 : l[j]? = some a) : i = j := by
  obtain ⟨hi, e1⟩ := List.getElem?_eq_some_iff.mp h1
  obtain ⟨hj, e2⟩ := List.getElem?_eq_some_iff.mp h2
  exact (List.getElem_inj h).mp (e1.trans e2.symm)
theorem mem_set' {α : Type} {l : List α} {i : Nat} {x y : α} (h : y ∈ l.set i x) : y = x ∨ y ∈ l := by
  rcases List.mem_or_eq_of_mem_set h with h | h
  · exact .inr h
  · exact .inl h
theorem nodup_set : ∀ {l : List Addr} {i : Nat} {q : Addr}, l.Nodup → q ∉ l → (l.set i q).Nodup
  | [], _, _, h, _ => by simpa using h
  | a :: l, 0, q, h, hq => by
    rw [List.set_cons_zero, List.nodup_cons]
    exact ⟨fun hm => hq (List.mem_cons_of_mem _ hm), (List.nodup_cons.mp h).2⟩
  | a :: l, i + 1, q, h, hq => by
    rw [List.set_cons_succ, List.nodup_cons]
    obtain ⟨h1, h2⟩ := List.nodup_cons.mp h
    refine ⟨fun hm => ?_, nodup_set h2 fun hm => hq (List.mem_cons_of_mem _ hm)⟩
    rcases mem_set' hm with e | hm
    · exact hq (by rw [← e]; exact List.mem_cons_self)
    · exact h1 hm
theorem Grid.set (G : Grid H hl rs fss) (hr : rs[i]? = some r) (h1 : H' r = some (.lst (pad fs'))) (k : ∀ b o, b = hl ∨ b ∈ rs → b ≠ r → H b = some o → H' b = some o) (R : Row fs') : Grid H' hl rs (fss.set i fs') := by
  have hm := List.mem_of_getElem? hr
  have hne : hl ≠ r := fun e => G.nh (by rw [e]; exact hm)
  refine ⟨k _ _ (.inl rfl) hne G.lst, by rw [List.length_set]; exact G.len, G.nd, G.nh, fun j a ha => ?_, fun x hx => ?_⟩
  · have hi : i < fss.length := by rw [← G.len]; exact (List.getElem?_eq_some_iff.mp hr).1
    by_cases hij : i = j
    · subst hij
      rw [hr] at ha; cases ha
      exact ⟨fs', List.getElem?_set_self hi, h1⟩
    · obtain ⟨fs, e1, e2⟩ := G.row j a ha
      exact ⟨fs, by rw [List.getElem?_set_ne hij]; exact e1, k _ _ (.inr (List.mem_of_getElem? ha)) (fun e => hij (nd_ix G.nd hr (by rw [← e]; exact ha))) e2⟩
  · rcases mem_set' hx with rfl | hx
    · exact R
    · exact G.ok x hx
theorem Grid.swap (G : Grid H hl rs fss) (hr : rs[i]? = some r) (hq : q ∉ rs) (hqh : q ≠ hl) (h0 : H' hl = some (.lst ((rs.set i q).map V.ref))) (h1 : H' q = some (.lst (pad fs'))) (k : ∀ b o, b ∈ rs → b ≠ r → H b = some o → H' b = some o) (R : Row fs') :
    Grid H' hl (rs.set i q) (fss.set i fs') := by
  have hil := (List.getElem?_eq_some_iff.mp hr).1
  have hi : i < fss.length := by rw [← G.len]; exact hil
  refine ⟨h0, by rw [List.length_set, List.length_set]; exact G.len, ?_, fun hm => ?_, fun j a ha => ?_, fun x hx => ?_⟩
  · exact nodup_set G.nd hq
  · rcases mem_set' hm with e | hm
    · exact hqh e.symm
    · exact G.nh hm
  · by_cases hij : i = j
    · subst hij
      rw [List.getElem?_set_self hil] at ha; cases ha
      exact ⟨fs', List.getElem?_set_self hi, h1⟩
    · rw [List.getElem?_set_ne hij] at ha
      obtain ⟨fs, e1, e2⟩ := G.row j a ha
      exact ⟨fs, by rw [List.getElem?_set_ne hij]; exact e1, k _ _ (List.mem_of_getElem? ha) (fun e => hij (nd_ix G.nd hr (by rw [← e]; exact ha))) e2⟩
  · rcases mem_set' hx with rfl | hx
    · exact R
    · exact G.ok x hx
end
structure FlV where
  n : Nat
  hl : Addr
  wl : Addr
  dx : Addr
  rs : List Addr
  fss : List (List V)
  ws : List Int
  left : V
  pw : Bool
  br : V
def FlV.own (s : FlV) (p b : Addr) : Prop := b = p ∨ b = s.wl ∨ b = s.hl ∨ b ∈ s.rs
abbrev FlV.fields (s : FlV) : List (Str × V) := f_Flash (.int s.n) (.ref s.hl) (.ref s.wl) s.left (.bl s.pw) s.br
structure FlashAt (K : PySem.W.Frag) (H : Hp) (p : Addr) (s : FlV) : Prop where
  obj : H p = some (.ins (CF K) s.dx s.fields)
  gr : Grid H s.hl s.rs s.fss
  wr : H s.wl = some (.lst (s.ws.map V.int))
  ln : s.fss.length = s.n
  lw : s.ws.length = s.n
  b8 : 8 ≤ s.n ∧ s.n ≤ 24
  nw : s.wl ≠ s.hl ∧ s.wl ∉ s.rs
  lf : s.left = .non ∨ ∃ k : Int, s.left = .int k
section
variable {H H' : Hp} {p : Addr} {s : FlV}
theorem FlashAt.kind (F : FlashAt K H p s) {b : Addr} (h : s.own p b) : ∃ o, H b = some o ∧ ∀ xs, o ≠ .tup xs := by
  rcases h with rfl | rfl | rfl | h
  · exact ⟨_, F.obj, fun xs z => by cases z⟩
  · exact ⟨_, F.wr, fun xs z => by cases z⟩
  · exact ⟨_, F.gr.lst, fun xs z => by cases z⟩
  · obtain ⟨i, hi, e⟩ := List.mem_iff_getElem.mp h
    obtain ⟨fs, _, h2⟩ := F.gr.row i b (by rw [List.getElem?_eq_getElem hi, e])
    exact ⟨_, h2, fun xs z => by cases z⟩
theorem FlashAt.there (F : FlashAt K H p s) {b : Addr} (h : s.own p b) (n : H b = none) : False := by
  obtain ⟨o, e, _⟩ := F.kind h
  rw [n] at e; cases e
theorem FlashAt.keep (F : FlashAt K H p s) (k : ∀ b o, s.own p b → H b = some o → H' b = some o) : FlashAt K H' p s :=
  ⟨k _ _ (.inl rfl) F.obj, F.gr.keep fun b o h e => k b o (.inr (.inr h)) e, k _ _ (.inr (.inl rfl)) F.wr, F.ln, F.lw, F.b8, F.nw, F.lf⟩
theorem FlashAt.same (F : FlashAt K H p s) (k : Same H H') : FlashAt K H' p s := F.keep fun b o _ e => k b o e
/-- tuples stay where only the owner's objects change -/
theorem FlashAt.tk (F : FlashAt K H p s) (k : ∀ b o, H b = some o → ¬ s.own p b → H' b = some o) : TK H H' := fun a xs e => k a _ e fun h => by
  obtain ⟨o, h1, h2⟩ := F.kind h
  rw [e] at h1
  exact h2 xs (Option.some.inj h1).symm
theorem FlashAt.np (F : FlashAt K H p s) {b : Addr} {xs : List V} (h : H b = some (.lst xs)) : b ≠ p := ne_of h F.obj (by intro z; cases z)
end
/-- self.wear(block), self.read(block, page) -/
def sp_Flash_wear (K : PySem.W.Frag) : Sp := fun vs H Q E => ∃ (p : Addr) (s : FlV) (b : Int), vs = [.ref p, .int b] ∧ FlashAt K H p s ∧ (∀ w, 0 ≤ b → b < s.n → s.ws[b.toNat]? = some w → Q (.int w) H) ∧ (¬ (0 ≤ b ∧ b < s.n) → E (.ref (NV K)) none H)
theorem ok_Flash_wear (T : Tx fa fn ts exs w K mg) : Okd P w K mg base ("Flash", some "wear") 3 ["self", "block"] (sp_Flash_wear K) := by
  refine okd (k := 2) T 16 rfl sc_Flash_wear (fun _ _ _ _ _ _ us hl => match us, hl with | [_, _], _ => rfl) (fun vs H Q E h => ?_) (fun f cdv A outer s H vs Q E hr h => ?_)
  · obtain ⟨p, s, b, rfl, F, hQ, hE⟩ := h
    rfl
  · obtain ⟨p, s, b, rfl, F, hQ, hE⟩ := h
    have hu := hu_of hr
    refine ⟨_, (pss_cons (ps_expr (pe_methO (pv 0) (T.cls 13) (T.meth 17) (ok_Flash_check_block T) (hr.mono (by decide)) (passes_call (takes_of rfl rfl rfl rfl) (fun _ _ _ _ h => h)) (pa_cons (pv 1) pa_nil)))
      (pss_one (ps_ret (pe_ix ix_list (pe_fld (pv 0) rfl) (pv 1) (fun _ _ => rfl))))), ?_⟩
    refine w_start (σ' := [some _, some _]) rfl ?_
    have h1 := F.obj
    have h2 := F.wr
    walk_at "w0"
    walk_at "w"
    refine ⟨p, s.dx, s.n, b, _, _, _, _, _, rfl, h1, fun hb => ?_, hE⟩
    obtain ⟨w, hw⟩ := get_some (xs := s.ws) (i := b.toNat) (by rw [F.lw]; omega)
    walk_at "w"
    refine w_ixL h2 (v := .int w) (atI_of hb.1 (by rw [List.getElem?_map, hw]; rfl)) ?_
    exact hQ w hb.1 hb.2 hw
def sp_Flash_read (K : PySem.W.Frag) : Sp := fun vs H Q E => ∃ (p : Addr) (s : FlV) (b g : Int), vs = [.ref p, .int b, .int g] ∧ FlashAt K H p s ∧
  (∀ fs v, 0 ≤ b → b < s.n → 0 ≤ g → g < 8 → s.pw = true → s.fss[b.toNat]? = some fs → (pad fs)[g.toNat]? = some v → Q v H) ∧ (¬ (0 ≤ b ∧ b < s.n ∧ 0 ≤ g ∧ g < 8) → E (.ref (NV K)) none H) ∧ ((0 ≤ b ∧ b < s.n ∧ 0 ≤ g ∧ g < 8) → s.pw = false → E (.ref (PO K)) none H)
theorem ok_Flash_read (T : Tx fa fn ts exs w K mg) : Okd P w K mg base ("Flash", some "read") 4 ["self", "block", "page"] (sp_Flash_read K) := by
  refine okd (k := 3) T 17 rfl sc_Flash_read (fun _ _ _ _ _ _ us hl => match us, hl with | [_, _, _], _ => rfl) (fun vs H Q E h => ?_) (fun f cdv A outer s H vs Q E hr h => ?_)
  · obtain ⟨p, s, b, g, rfl, F, hQ, hE, hP⟩ := h
    rfl
  · obtain ⟨p, s, b, g, rfl, F, hQ, hE, hP⟩ := h
    have hu := hu_of hr
    refine ⟨_, (pss_cons (ps_expr (pe_methO (pv 0) (T.cls 13) (T.meth 20) (ok_Flash_check_page T) (hr.mono (by decide)) (passes_call (takes_of rfl rfl rfl rfl) (fun _ _ _ _ h => h)) (pa_cons (pv 1) (pa_cons (pv 2) pa_nil))))
      (pss_cons (ps_if (pt_not (pt_val (pe_fld (pv 0) rfl))) (pss_one (ps_raise rfl (takes_of rfl rfl rfl rfl) (pmk_own0 PySem.F.excBase_ValueError (T.exc 18) (T.glo 19) rfl))) pss_nil)
      (pss_one (ps_ret (pe_ix ix_list (pe_ix ix_list (pe_fld (pv 0) rfl) (pv 1) (fun _ _ => rfl)) (pv 2) (fun _ _ => rfl)))))), ?_⟩
    refine w_start (σ' := [some _, some _, some _]) rfl ?_
    have h1 := F.obj
    have h2 := F.gr.lst
    walk_at "w0"
    walk_at "w"
    refine ⟨p, s.dx, s.n, b, g, _, _, _, _, _, rfl, h1, fun hb => ?_, hE⟩
    obtain ⟨r, fs, hr1, hf, h3, R⟩ := F.gr.at (i := b.toNat) (by rw [F.ln]; omega)
    obtain ⟨v, hv⟩ := get_some (xs := pad fs) (i := g.toNat) (by rw [pad_len R.len]; omega)
    walk_at "w"
    walk_at "if"
    · intro hpw
      exact hP hb hpw
    · intro hpw
      walk_at "w"
      refine w_ixL h2 (v := .ref r) (atI_of hb.1 (by rw [List.getElem?_map, hr1]; rfl)) ?_
      walk_at "w"
      exact w_ixL h3 (atI_of hb.2.2.1 hv) (hQ fs v hb.1 hb.2.1 hb.2.2.1 hb.2.2.2 hpw hf hv)
/-! ### writing -/
theorem ixN_of {n i : Nat} (h : i < n) : ixN n (i : Int) = some i := by
  unfold ixN; rw [if_pos (by omega), if_pos (by omega)]; simp
theorem ixN_int {n : Nat} {i : Int} (h0 : 0 ≤ i) (h : i < n) : ixN n i = some i.toNat := by
  unfold ixN; rw [if_pos h0, if_pos h]
theorem set_map {α β : Type} (f : α → β) (l : List α) (i : Nat) (x : α) : (l.map f).set i (f x) = (l.set i x).map f := by rw [List.map_set]
def rowOf (c : V) : List V := if c = .non then [] else List.replicate 8 c
theorem rowOf_pad {c : V} : pad (rowOf c) = List.replicate 8 c := by
  unfold rowOf
  by_cases h : c = .non
  · rw [if_pos h, h]; rfl
  · rw [if_neg h]; rfl
theorem rowOf_row {c : V} : Row (rowOf c) := by
  unfold rowOf
  by_cases h : c = .non
  · rw [if_pos h]; exact Row.nil
  · rw [if_neg h]; exact ⟨by simp, fun x hx => by rw [(List.mem_replicate.mp hx).2]; exact h⟩
def FlV.fill (s : FlV) (b : Nat) (q : Addr) (c : V) (w : Int) : FlV := { s with rs := s.rs.set b q, fss := s.fss.set b (rowOf c), ws := s.ws.set b (w + 1) }
theorem fill_own {s : FlV} {p q b : Addr} {i : Nat} {c : V} {w : Int} (h : (s.fill i q c w).own p b) : s.own p b ∨ b = q := by
  rcases h with h | h | h | h
  · exact .inl (.inl h)
  · exact .inl (.inr (.inl h))
  · exact .inl (.inr (.inr (.inl h)))
  · rcases mem_set' h with h | h
    · exact .inr h
    · exact .inl (.inr (.inr (.inr h)))
def sp_Flash_fill (K : PySem.W.Frag) : Sp := fun vs H Q _ => ∃ (p : Addr) (s : FlV) (b : Int) (c : V), vs = [.ref p, .int b, c] ∧ FlashAt K H p s ∧ 0 ≤ b ∧ b < s.n ∧
  ∀ H' q w, H q = none → s.ws[b.toNat]? = some w → FlashAt K H' p (s.fill b.toNat q c w) → Chg (s.own p) ((s.fill b.toNat q c w).own p) H H' → Q .non H'
theorem ok_Flash_fill (T : Tx fa fn ts exs w K mg) : Okd P w K mg base ("Flash", some "fill") 1 ["self", "block", "content"] (sp_Flash_fill K) := by
  refine okd (k := 0) T 14 rfl sc_Flash_fill (fun _ _ _ _ _ _ us hl => match us, hl with | [_, _, _], _ => rfl) (fun vs H Q E h => ?_) (fun f cdv A outer s H vs Q E hr h => ?_)
  · obtain ⟨p, s, b, c, rfl, F, hb0, hb1, hQ⟩ := h
    rfl
  · obtain ⟨p, s, b, c, rfl, F, hb0, hb1, hQ⟩ := h
    have hu := hu_of hr
    refine ⟨_, (pss_cons (ps_asg (pe_op op_rep (pe_lst (pa_cons (pv 2) pa_nil)) (pe_globI rfl (T.int 11))) (pg_sub (pe_fld (pv 0) rfl) (pv 1) set_list))
      (pss_one (ps_augS (pe_fld (pv 0) rfl) (pv 1) get_list pe_int i_add set_list))), ?_⟩
    refine w_start (σ' := [some _, some _, some _]) rfl ?_
    have h1 := F.obj
    have h2 := F.gr.lst
    have h3 := F.wr
    obtain ⟨w, hw⟩ := get_some (xs := s.ws) (i := b.toNat) (by rw [F.lw]; omega)
    obtain ⟨r, fs, hr1, hf, h4, R⟩ := F.gr.at (i := b.toNat) (by rw [F.ln]; omega)
    walk_at "w0"
    walk_at "w"
    intro q0 n0
    walk_at "w"
    intro q n1'
    obtain ⟨nq0, n1⟩ := none1 n1'
    have e1 := at_new (o' := HO.lst [c]) n0 h1
    have e2 := at_new (o' := HO.lst [c]) n0 h2
    have e3 := at_new (o' := HO.lst [c]) n0 h3
    walk_at "w"
    have hlen : ixN (s.rs.map V.ref).length b = some b.toNat := by rw [List.length_map, F.gr.len, F.ln]; exact ixN_int hb0 hb1
    refine w_setL (at_new n1' e2) hlen ?_
    rw [set_map]
    have e5 : upd (upd (upd H q0 (.lst [c])) q (.lst (List.replicate (8 : Int).toNat [c]).flatten)) s.hl (.lst ((s.rs.set b.toNat q).map V.ref)) s.wl = some (.lst (s.ws.map V.int)) := at_ne F.nw.1 (at_new n1' e3)
    have e6 : upd (upd (upd H q0 (.lst [c])) q (.lst (List.replicate (8 : Int).toNat [c]).flatten)) s.hl (.lst ((s.rs.set b.toNat q).map V.ref)) p = some (.ins (CF K) s.dx s.fields) := at_ne (F.np h2).symm (at_new n1' e1)
    walk_at "w"
    refine w_ixL e5 (v := .int w) (atI_of hb0 (by rw [List.getElem?_map, hw]; rfl)) ?_
    walk_at "w"
    refine w_setL e5 (by rw [List.length_map, F.lw]; exact ixN_int hb0 hb1) ?_
    rw [set_map V.int]
    have kp : ∀ b' o, H b' = some o → b' ≠ s.hl → b' ≠ s.wl → upd (upd (upd (upd H q0 (.lst [c])) q (.lst (List.replicate (8 : Int).toNat [c]).flatten)) s.hl (.lst ((s.rs.set b.toNat q).map V.ref))) s.wl (.lst ((s.ws.set b.toNat (w + 1)).map V.int)) b' = some o :=
      fun b' o e n1 n2 => at_ne n2 (at_ne n1 (at_new n1' (at_new n0 e)))
    have nq : ∀ {b' : Addr}, s.own p b' → q ≠ b' := fun h e => F.there h (by rw [← e]; exact n1)
    refine hQ _ q w n1 hw ⟨kp p _ h1 (F.np h2).symm (F.np h3).symm, ?_, upd_same, by simpa [FlV.fill] using F.ln, by simpa [FlV.fill] using F.lw, F.b8, ⟨F.nw.1, fun hm => ?_⟩, F.lf⟩ ⟨fun b' o e h => kp b' o e (fun z => h (.inr (.inr (.inl z)))) (fun z => h (.inr (.inl z))), fun b' h => ?_, F.tk fun b' o e h => kp b' o e (fun z => h (.inr (.inr (.inl z)))) (fun z => h (.inr (.inl z)))⟩
    · refine F.gr.swap hr1 (fun hm => nq (.inr (.inr (.inr hm))) rfl) (nq (.inr (.inr (.inl rfl)))) (at_ne F.nw.1.symm upd_same) ?_ (fun b' o hm hne e => kp b' o e (fun z => F.gr.nh (by rw [← z]; exact hm)) (fun z => F.nw.2 (by rw [← z]; exact hm))) rowOf_row
      rw [rowOf_pad]
      exact at_ne (nq (.inr (.inl rfl))) (at_ne (nq (.inr (.inr (.inl rfl)))) upd_same)
    · rcases mem_set' hm with e | hm
      · exact nq (.inr (.inl rfl)) e.symm
      · exact F.nw.2 hm
    · rcases fill_own h with h | h
      · exact .inl h
      · exact .inr (by rw [h]; exact n1)
/-- what is asked of a record that is programmed -/
def RecK (H : Hp) (x : V) (t : Bool) : Prop := (t = true ∧ ∃ a xs, x = .ref a ∧ H a = some (.tup xs)) ∨ (t = false ∧ ((∃ z, x = .str z) ∨ x = .non ∨ ∃ a xs, x = .ref a ∧ H a = some (.lst xs)))
def FlV.prog (s : FlV) (b : Nat) (fs : List V) (x : V) : FlV := { s with fss := s.fss.set b (fs ++ [x]), left := decV s.left }
def FlV.off (s : FlV) (t : Addr) : FlV := { s with pw := false, br := .ref t }
structure Good (s : FlV) (b g : Int) (t : Bool) : Prop where
  b0 : 0 ≤ b
  b1 : b < s.n
  g0 : 0 ≤ g
  g1 : g < 8
  tup : t = true
  nx : ∀ fs, s.fss[b.toNat]? = some fs → (fs.length : Int) = g
theorem decV_lf {v : V} (h : v = .non ∨ ∃ k : Int, v = .int k) : decV v = .non ∨ ∃ k : Int, decV v = .int k := by
  rcases h with rfl | ⟨k, rfl⟩
  · exact .inl rfl
  · exact .inr ⟨_, rfl⟩
def sp_Flash_program (K : PySem.W.Frag) : Sp := fun vs H Q E => ∃ (p : Addr) (s : FlV) (b g : Int) (x : V) (t : Bool), vs = [.ref p, .int b, .int g, x] ∧ FlashAt K H p s ∧ RecK H x t ∧
  (¬ Good s b g t → E (.ref (NV K)) none H) ∧ (Good s b g t → s.pw = false → ∀ H', Same H H' → E (.ref (PO K)) none H') ∧
  (Good s b g t → s.pw = true → s.left = .int 0 → ∀ H' a, H a = none → H' a = some (.tup [.int b, .int g, x]) → FlashAt K H' p (s.off a) → Chg (s.own p) (s.own p) H H' → E (.ref (PO K)) none H') ∧
  (Good s b g t → s.pw = true → s.left ≠ .int 0 → ∀ H' fs, s.fss[b.toNat]? = some fs → FlashAt K H' p (s.prog b.toNat fs x) → Chg (s.own p) (s.own p) H H' → Q .non H')
theorem ok_Flash_program (T : Tx fa fn ts exs w K mg) : Okd P w K mg base ("Flash", some "program") 4 ["self", "block", "page", "record"] (sp_Flash_program K) := by
  refine okd (k := 3) T 13 rfl sc_Flash_program (fun _ _ _ _ _ _ us hl => match us, hl with | [_, _, _, _], _ => rfl) (fun vs H Q E h => ?_) (fun f cdv A outer s H vs Q E hr h => ?_)
  · obtain ⟨p, s, b, g, x, t, rfl, F, hx, c1, c2, c3, c4⟩ := h
    rfl
  · obtain ⟨p, s, b, g, x, t, rfl, F, hx, c1, c2, c3, c4⟩ := h
    have hu := hu_of hr
    refine ⟨_, (pss_cons (ps_expr (pe_methO (pv 0) (T.cls 13) (T.meth 20) (ok_Flash_check_page T) (hr.mono (by decide)) (passes_call (takes_of rfl rfl rfl rfl) (fun _ _ _ _ h => h)) (pa_cons (pv 1) (pa_cons (pv 2) pa_nil))))
      (pss_cons (ps_if (PW.pt (pw_or (pt_not (pt_val (pe_callB call_isi (by rfl) (T.free 4) (by decide +kernel) (pa_cons (pv 3) (pa_cons (pe_bltn (v := .ty "tuple") rfl (T.free 16) (by decide +kernel) rfl) pa_nil))))) (pw_or1 (pt_cmpR op_ne (pe_callO (ok_next_page T) (hr.mono (by decide)) rfl (T.glo 21) (passes_call (takes_of rfl rfl rfl rfl) (fun _ _ _ _ h => h)) (pa_cons (pe_ix ix_list (pe_fld (pv 0) rfl) (pv 1) (fun _ _ => rfl)) pa_nil)) (pv 2) (nomark _))))) (pss_one (ps_raise rfl (takes_of rfl rfl rfl rfl) (pmk_own0 PySem.F.excBase_ValueError (T.exc 9) (T.glo 10) rfl))) pss_nil)
      (pss_cons (ps_expr (pe_methO (pv 0) (T.cls 13) (T.meth 22) (ok_Flash_operate T) (hr.mono (by decide)) (passes_call (takes_of rfl rfl rfl rfl) (fun _ _ _ _ h => h)) (pa_cons (pe_tup (pa_cons (pv 1) (pa_cons (pv 2) (pa_cons (pv 3) pa_nil)))) pa_nil)))
      (pss_one (ps_asg (pv 3) (pg_sub (pe_ix ix_list (pe_fld (pv 0) rfl) (pv 1) (fun _ _ => rfl)) (pv 2) set_list)))))), ?_⟩
    refine w_start (σ' := [some _, some _, some _, some _]) rfl ?_
    have h1 := F.obj
    have h2 := F.gr.lst
    walk_at "w0"
    walk_at "w"
    refine ⟨p, s.dx, s.n, b, g, _, _, _, _, _, rfl, h1, fun hb => ?_, fun hn => c1 fun G => hn ⟨G.b0, G.b1, G.g0, G.g1⟩⟩
    obtain ⟨r, fs, hr1, hf, h4, R⟩ := F.gr.at (i := b.toNat) (by rw [F.ln]; omega)
    have hit : atI (s.rs.map V.ref) b = some (.ref r) := atI_of hb.1 (by rw [List.getElem?_map, hr1]; rfl)
    walk_at "w"
    rcases hx with ⟨rfl, a, xs, rfl, ha⟩ | ⟨rfl, hx⟩
    · refine isi_tup_tuple ha ?_
      walk_at "w"
      refine ⟨r, fs, rfl, h4, R, ?_⟩
      walk_at "w"
      walk_at "if"
      · intro hne
        exact c1 fun G => hne (G.nx fs hf)
      · intro hne
        have hg : (fs.length : Int) = g := by omega
        have G : Good s b g true := ⟨hb.1, hb.2.1, hb.2.2.1, hb.2.2.2, rfl, fun fs' e => by rw [hf] at e; cases e; exact hg⟩
        walk_at "w"
        intro t3 n3
        refine ⟨p, s.dx, .ref t3, _, _, _, _, _, _, rfl, at_new n3 h1, F.lf, fun hp => c2 G hp _ (same_new n3), fun hp hl => ?_, fun hp hl H1 e1 kp1 => ?_⟩
        · have kp : ∀ b' o, H b' = some o → ¬ s.own p b' → upd (upd H t3 (.tup [.int b, .int g, .ref a])) p (.ins (CF K) s.dx (s.off t3).fields) b' = some o := fun b' o e h => at_ne (fun z => h (.inl z)) (at_new n3 e)
          have n3p : t3 ≠ p := Ne.symm (ne_of_none h1 n3)
          have F1 := F.same (same_new (o := .tup [.int b, .int g, .ref a]) n3)
          refine c3 G hp hl _ t3 n3 (at_ne n3p upd_same) ⟨upd_same, F1.gr.keep fun b' o h e => at_ne (fun z => ?_) e, at_ne (F.np F.wr) F1.wr, F.ln, F.lw, F.b8, F.nw, F.lf⟩ ⟨kp, fun b' h => .inl h, F.tk kp⟩
          rw [z] at h
          rcases h with h | h
          · exact F.np h2 h.symm
          · obtain ⟨i, hi, e2⟩ := List.mem_iff_getElem.mp h
            obtain ⟨fs2, _, h5⟩ := F.gr.row i p (by rw [List.getElem?_eq_getElem hi, e2])
            exact F.np h5 rfl
        · have kH : ∀ b' o, H b' = some o → b' ≠ p → H1 b' = some o := fun b' o e n => kp1 b' o (at_new n3 e) n
          have nrp : r ≠ p := F.np h4
          have e2 := kH _ _ h2 (F.np h2)
          have e4 := kH _ _ h4 nrp
          walk_at "w"
          have hfl : fs.length < 8 := by omega
          refine w_setL e4 (j := fs.length) (by rw [pad_len R.len]; have := ixN_of hfl; rw [hg] at this; exact this) ?_
          rw [pad_set hfl]
          have nr : ∀ {b' : Addr}, b' ∈ s.rs → b' ≠ r → b' ≠ r := fun _ h => h
          have hrm : r ∈ s.rs := List.mem_of_getElem? hr1
          have nhr : s.hl ≠ r := fun e => F.gr.nh (by rw [e]; exact hrm)
          have nwr : s.wl ≠ r := fun e => F.nw.2 (by rw [e]; exact hrm)
          have kp : ∀ b' o, H b' = some o → ¬ s.own p b' → upd H1 r (.lst (pad (fs ++ [.ref a]))) b' = some o := fun b' o e h => at_ne (fun z => h (.inr (.inr (.inr (by rw [z]; exact hrm))))) (kH b' o e fun z => h (.inl z))
          have np : ∀ {b' : Addr}, b' = s.hl ∨ b' ∈ s.rs → b' ≠ p := fun {b'} h => by
            rcases h with rfl | h
            · exact F.np h2
            · obtain ⟨i, hi, e2⟩ := List.mem_iff_getElem.mp h
              obtain ⟨fs2, _, h5⟩ := F.gr.row i b' (by rw [List.getElem?_eq_getElem hi, e2])
              exact F.np h5
          refine c4 G hp hl _ fs hf ⟨at_ne (Ne.symm nrp) e1, F.gr.set hr1 upd_same (fun b' o h n e => at_ne n (kH b' o e (np h))) (R.add hfl (by intro z; cases z)), at_ne nwr (kH _ _ F.wr (F.np F.wr)), by simpa [FlV.prog] using F.ln, F.lw, F.b8, F.nw, decV_lf F.lf⟩ ⟨kp, fun b' h => .inl h, F.tk kp⟩
    · have bad : E (.ref (NV K)) none H := c1 fun G => by cases G.tup
      rcases hx with ⟨z, rfl⟩ | rfl | ⟨a, xs, rfl, ha⟩
      · walk_at "w"
        exact bad
      · walk_at "w"
        exact bad
      · refine isi_lst_tuple ha ?_
        walk_at "w"
        exact bad
def sp_Flash_erase (K : PySem.W.Frag) : Sp := fun vs H Q E => ∃ (p : Addr) (s : FlV) (b : Int), vs = [.ref p, .int b] ∧ FlashAt K H p s ∧
  (¬ (0 ≤ b ∧ b < s.n) → E (.ref (NV K)) none H) ∧ (0 ≤ b → b < s.n → s.pw = false → ∀ H', Same H H' → E (.ref (PO K)) none H') ∧
  (0 ≤ b → b < s.n → s.pw = true → s.left = .int 0 → ∀ H' a, H a = none → H' a = some (.tup [.int b, .non, .non]) → FlashAt K H' p (s.off a) → Chg (s.own p) (s.own p) H H' → E (.ref (PO K)) none H') ∧
  (0 ≤ b → b < s.n → s.pw = true → s.left ≠ .int 0 → ∀ H' q w, H q = none → s.ws[b.toNat]? = some w → FlashAt K H' p ({ s with left := decV s.left }.fill b.toNat q .non w) → Chg (s.own p) ((s.fill b.toNat q .non w).own p) H H' → Q .non H')
theorem FlashAt.off {H : Hp} {p : Addr} {s : FlV} (F : FlashAt K H p s) {t : Addr} {xs : List V} (n3 : H t = none) : FlashAt K (upd (upd H t (.tup xs)) p (.ins (CF K) s.dx (s.off t).fields)) p (s.off t) ∧ Chg (s.own p) (s.own p) H (upd (upd H t (.tup xs)) p (.ins (CF K) s.dx (s.off t).fields)) ∧
    (upd (upd H t (.tup xs)) p (.ins (CF K) s.dx (s.off t).fields)) t = some (.tup xs) := by
  have kp : ∀ b' o, H b' = some o → ¬ s.own p b' → upd (upd H t (.tup xs)) p (.ins (CF K) s.dx (s.off t).fields) b' = some o := fun b' o e h => at_ne (fun z => h (.inl z)) (at_new n3 e)
  have n3p : t ≠ p := Ne.symm (ne_of_none F.obj n3)
  have F1 := F.same (same_new (o := .tup xs) n3)
  refine ⟨⟨upd_same, F1.gr.keep fun b' o h e => at_ne (fun z => ?_) e, at_ne (F.np F.wr) F1.wr, F.ln, F.lw, F.b8, F.nw, F.lf⟩, ⟨kp, fun b' h => .inl h, F.tk kp⟩, at_ne n3p upd_same⟩
  rw [z] at h
  rcases h with h | h
  · exact F.np F.gr.lst h.symm
  · obtain ⟨i, hi, e2⟩ := List.mem_iff_getElem.mp h
    obtain ⟨fs2, _, h5⟩ := F.gr.row i p (by rw [List.getElem?_eq_getElem hi, e2])
    exact F.np h5 rfl
theorem ok_Flash_erase (T : Tx fa fn ts exs w K mg) : Okd P w K mg base ("Flash", some "erase") 3 ["self", "block"] (sp_Flash_erase K) := by
  refine okd (k := 2) T 15 rfl sc_Flash_erase (fun _ _ _ _ _ _ us hl => match us, hl with | [_, _], _ => rfl) (fun vs H Q E h => ?_) (fun f cdv A outer s H vs Q E hr h => ?_)
  · obtain ⟨p, s, b, rfl, F, c1, c2, c3, c4⟩ := h
    rfl
  · obtain ⟨p, s, b, rfl, F, c1, c2, c3, c4⟩ := h
    have hu := hu_of hr
    refine ⟨_, (pss_cons (ps_expr (pe_methO (pv 0) (T.cls 13) (T.meth 17) (ok_Flash_check_block T) (hr.mono (by decide)) (passes_call (takes_of rfl rfl rfl rfl) (fun _ _ _ _ h => h)) (pa_cons (pv 1) pa_nil)))
      (pss_cons (ps_expr (pe_methO (pv 0) (T.cls 13) (T.meth 22) (ok_Flash_operate T) (hr.mono (by decide)) (passes_call (takes_of rfl rfl rfl rfl) (fun _ _ _ _ h => h)) (pa_cons (pe_tup (pa_cons (pv 1) (pa_cons pe_non (pa_cons pe_non pa_nil)))) pa_nil)))
      (pss_one (ps_expr (pe_methO (pv 0) (T.cls 13) (T.meth 23) (ok_Flash_fill T) (hr.mono (by decide)) (passes_call (takes_of rfl rfl rfl rfl) (fun _ _ _ _ h => h)) (pa_cons (pv 1) (pa_cons pe_non pa_nil))))))), ?_⟩
    refine w_start (σ' := [some _, some _]) rfl ?_
    have h1 := F.obj
    walk_at "w0"
    walk_at "w"
    refine ⟨p, s.dx, s.n, b, _, _, _, _, _, rfl, h1, fun hb => ?_, c1⟩
    walk_at "w"
    intro t3 n3
    refine ⟨p, s.dx, .ref t3, _, _, _, _, _, _, rfl, at_new n3 h1, F.lf, fun hp => c2 hb.1 hb.2 hp _ (same_new n3), fun hp hl => ?_, fun hp hl H1 e1 kp1 => ?_⟩
    · obtain ⟨F2, C2, e2⟩ := F.off (xs := [.int b, .non, .non]) n3
      exact c3 hb.1 hb.2 hp hl _ t3 n3 e2 F2 C2
    · have kH : ∀ b' o, H b' = some o → b' ≠ p → H1 b' = some o := fun b' o e n => kp1 b' o (at_new n3 e) n
      have np : ∀ {b' : Addr}, b' = s.hl ∨ b' ∈ s.rs → b' ≠ p := fun {b'} h => by
        rcases h with rfl | h
        · exact F.np F.gr.lst
        · obtain ⟨i, hi, e2⟩ := List.mem_iff_getElem.mp h
          obtain ⟨fs2, _, h5⟩ := F.gr.row i b' (by rw [List.getElem?_eq_getElem hi, e2])
          exact F.np h5
      have F1 : FlashAt K H1 p { s with left := decV s.left } := ⟨e1, F.gr.keep fun b' o h e => kH b' o e (np h), kH _ _ F.wr (F.np F.wr), F.ln, F.lw, F.b8, F.nw, decV_lf F.lf⟩
      have fr1 : ∀ {q : Addr}, H1 q = none → H q = none := fun {q} h => by
        cases e : H q with
        | none => rfl
        | some o =>
          by_cases hq : q = p
          · rw [hq, e1] at h; cases h
          · rw [kH q o e hq] at h; cases h
      walk_at "w"
      refine ⟨p, _, b, .non, rfl, F1, hb.1, hb.2, fun H' q w nq hw F2 C2 => ?_⟩
      walk_at "w"
      have kp : ∀ b' o, H b' = some o → ¬ s.own p b' → H' b' = some o := fun b' o e h => C2.keep b' o (kH b' o e fun z => h (.inl z)) h
      exact c4 hb.1 hb.2 hp hl H' q w (fr1 nq) hw F2 ⟨kp, fun b' h => (C2.new b' h).imp id fr1, F.tk kp⟩
/-! ### new lists of erased pages; a flash made anew -/
def NewRows (H : Hp) (D : Addr) (i : Nat) (H' : Hp) : Prop := ∃ qs : List Addr, H' D = some (.lst (qs.map V.ref)) ∧ qs.length = i ∧ qs.Nodup ∧ (∀ q ∈ qs, H' q = some (.lst (List.replicate 8 .non)) ∧ H q = none ∧ q ≠ D) ∧ Same H H'
theorem NewRows.start {H : Hp} {D : Addr} (h : H D = none) : NewRows H D 0 (upd H D (.lst [])) := ⟨[], upd_same, rfl, List.nodup_nil, fun q h => (by cases h), same_new h⟩
theorem NewRows.step {H H1 : Hp} {D q0 q : Addr} {i : Nat} {o : HO} {acc : List V} (N : NewRows H D i H1) (hD : H D = none) (n0 : H1 q0 = none) (n1 : upd H1 q0 o q = none) (ha : H1 D = some (.lst acc)) :
    NewRows H D (i + 1) (upd (upd (upd H1 q0 o) q (.lst (List.replicate 8 .non))) D (.lst (acc ++ [.ref q]))) := by
  obtain ⟨qs, h1, h2, h3, h4, h5⟩ := N
  rw [h1] at ha; cases ha
  obtain ⟨nq0, nq⟩ := none1 n1
  have qD : q ≠ D := Ne.symm (ne_of_none h1 nq)
  refine ⟨qs ++ [q], by rw [upd_same, List.map_append]; rfl, by simp [h2], ?_, fun b hb => ?_, fun b o' e => at_ne (ne_of_none e hD) (at_new n1 (at_new n0 (h5 b o' e)))⟩
  · rw [List.nodup_append]
    refine ⟨h3, by simp, fun a ha b hb => ?_⟩
    rw [List.mem_singleton.mp hb]
    rintro rfl
    rw [(h4 a ha).1] at nq; cases nq
  · rcases List.mem_append.mp hb with hb | hb
    · obtain ⟨e1, e2, e3⟩ := h4 b hb
      exact ⟨at_ne e3 (at_new n1 (at_new n0 e1)), e2, e3⟩
    · rw [List.mem_singleton.mp hb]
      exact ⟨at_ne qD upd_same, h5.free nq, qD⟩
theorem NewRows.acc {H H1 : Hp} {D : Addr} {i : Nat} (N : NewRows H D i H1) : ∃ acc, H1 D = some (.lst acc) ∧ acc.length = i := by
  obtain ⟨qs, h1, h2, _⟩ := N
  exact ⟨_, h1, by rw [List.length_map, h2]⟩
theorem NewRows.grid {H H1 : Hp} {D : Addr} {n : Nat} (N : NewRows H D n H1) : ∃ qs, Grid H1 D qs (List.replicate n []) ∧ qs.length = n ∧ ∀ q ∈ qs, H q = none := by
  obtain ⟨qs, h1, h2, h3, h4, h5⟩ := N
  refine ⟨qs, ⟨h1, by rw [List.length_replicate]; exact h2, h3, fun hm => (h4 _ hm).2.2 rfl, fun i r hr => ⟨[], ?_, ?_⟩, fun fs hf => by rw [(List.mem_replicate.mp hf).2]; exact Row.nil⟩, h2, fun q h => (h4 q h).2.1⟩
  · rw [List.getElem?_replicate, if_pos (by rw [← h2]; exact (List.getElem?_eq_some_iff.mp hr).1)]
  · rw [pad_nil]; exact (h4 r (List.mem_of_getElem? hr)).1
theorem flat1 {n : Nat} {x : V} : (List.replicate n [x]).flatten = List.replicate n x := by
  induction n with
  | zero => rfl
  | succ n ih => rw [List.replicate_succ, List.flatten_cons, ih, List.replicate_succ]; rfl
def sp_Flash___init__ (K : PySem.W.Frag) : Sp := fun vs H Q E => ∃ (p dx : Addr) (n : Int), vs = [.ref p, .int n] ∧ H p = some (.ins (CF K) dx []) ∧ (8 ≤ n ∧ n ≤ 24) ∧
  ∀ H' s, s.n = n → s.fss = List.replicate n.toNat [] → s.ws = List.replicate n.toNat 0 → s.left = .non → s.pw = true → FlashAt K H' p s → (∀ b o, H b = some o → b ≠ p → H' b = some o) → (∀ b, s.own p b → b = p ∨ H b = none) → Q .non H'
theorem ok_Flash___init__ (T : Tx fa fn ts exs w K mg) : Okd P w K mg base ("Flash", some "__init__") 2 ["self", "blocks"] (sp_Flash___init__ K) := by
  refine okd (k := 1) T 3 rfl sc_Flash___init__ (fun _ _ _ _ _ _ us hl => match us, hl with | [_, _], _ => rfl) (fun vs H Q E h => ?_) (fun f cdv A outer s H vs Q E hr h => ?_)
  · obtain ⟨p, dx, n, rfl, h1, hn, hQ⟩ := h
    rfl
  · obtain ⟨p, dx, n, rfl, h1, hn, hQ⟩ := h
    have hu := hu_of hr
    refine ⟨_, (pss_cons (ps_if (pt_not (pt_val (pe_callO (ok_is_between T) (hr.mono (by decide)) rfl (T.glo 6) (passes_call (takes_of rfl rfl rfl rfl) (fun _ _ _ _ h => h)) (pa_cons (pv 1) (pa_cons (pe_globI rfl (T.int 8)) (pa_cons (pe_globI rfl (T.int 7)) pa_nil)))))) (pss_one (ps_raise rfl (takes_of rfl rfl rfl rfl) (pmk_own0 PySem.F.excBase_ValueError (T.exc 9) (T.glo 10) rfl))) pss_nil)
      (pss_cons (ps_fld (pv 0) (pv 1) rfl)
      (pss_cons (ps_fld (pv 0) (pe_lc (own := [(".0", 2), ("block", 3)]) rfl sc_Flash___init__.nd (pi_range1 rfl (T.free 0) (pa_cons (pv 1) pa_nil)) (blkOk_by (own := [(".0", 2), ("block", 3)]) (N := ["self", "blocks", ".0", "block"]) (sc := defScope s_Flash___init__) (by decide +kernel)) (fun _ _ _ _ _ => (pg_name (i := 3) sc_Flash___init__.nd rfl (Or.inl rfl))) (fun _ _ _ _ _ => pts_nil) (fun _ _ _ _ _ => (pe_op op_rep (pe_lst (pa_cons pe_non pa_nil)) (pe_globI rfl (T.int 11))))) rfl)
      (pss_cons (ps_fld (pv 0) (pe_op op_rep (pe_lst (pa_cons pe_int pa_nil)) (pv 1)) rfl)
      (pss_cons (ps_fld (pv 0) pe_non rfl)
      (pss_cons (ps_fld (pv 0) pe_bl rfl)
      (pss_one (ps_fld (pv 0) pe_non rfl)))))))), ?_⟩
    refine w_start (σ' := [some _, some _, none, none]) rfl ?_
    obtain ⟨m, rfl⟩ := Int.eq_ofNat_of_zero_le (show 0 ≤ n by omega)
    walk_at "w0"
    walk_at "w"
    refine ⟨_, _, _, rfl, .inl ⟨(m : Int), rfl, ?_⟩⟩
    walk_at "w"
    walk_at "if"
    · intro hc
      exact absurd hn hc
    · intro hc
      walk_at "w"
      generalize hH0 : upd H p (HO.ins (CF K) dx (putF "blocks" (V.int (m : Int)) [])) = H0
      have hp0 : H0 p = some (.ins (CF K) dx (putF "blocks" (V.int (m : Int)) [])) := by rw [← hH0]; exact upd_same
      refine comp_range (fun D i H' => NewRows H0 D i H') (fun D hD => NewRows.start hD) ?_ ?_
      · intro D i H1 hD hi N
        obtain ⟨acc, ha, hal⟩ := N.acc
        have hi : i < m := hi
        walk_at "w"
        intro q0 n0
        walk_at "w"
        intro q n1
        have ha2 := at_new (o' := HO.lst (List.replicate (8 : Int).toNat [V.non]).flatten) n1 (at_new (o' := HO.lst [.non]) n0 ha)
        walk_at "w"
        have e := N.step hD n0 n1 ha
        rw [flat1]
        exact e
      · intro D H1 hD N
        have hs := N.choose_spec.2.2.2.2
        obtain ⟨qs, G, hql, hqn⟩ := N.grid
        have hp1 := hs _ _ hp0
        walk_at "w"
        intro w0 nw0
        walk_at "w"
        intro wl nwl
        walk_at "w"
        rw [f_Flash_mk]
        obtain ⟨w0p, nw0'⟩ := none1 nw0
        obtain ⟨wlp, wlw, nwl'⟩ := none2 nwl
        have kp : ∀ b o, H1 b = some o → b ≠ p → (upd (upd (upd (upd (upd (upd (upd H1 p (.ins (CF K) dx (putF "held" (.ref D) (putF "blocks" (.int (m : Int)) [])))) w0 (.lst [.int 0])) wl (.lst (List.replicate (m : Int).toNat [V.int 0]).flatten)) p (.ins (CF K) dx (putF "wears" (.ref wl) (putF "held" (.ref D) (putF "blocks" (.int (m : Int)) []))))) p (.ins (CF K) dx (putF "left" .non (putF "wears" (.ref wl) (putF "held" (.ref D) (putF "blocks" (.int (m : Int)) [])))))) p (.ins (CF K) dx (putF "power" (.bl true) (putF "left" .non (putF "wears" (.ref wl) (putF "held" (.ref D) (putF "blocks" (.int (m : Int)) []))))))) p (.ins (CF K) dx (f_Flash (.int (m : Int)) (.ref D) (.ref wl) .non (.bl true) .non))) b = some o :=
          fun b o e n => at_ne n (at_ne n (at_ne n (at_ne n (at_ne (ne_of_none e nwl') (at_ne (ne_of_none e nw0') (at_ne n e))))))
        have fr : ∀ {b : Addr}, b ≠ p → H0 b = none → H b = none := fun hb h => by rw [← hH0, upd_ne hb] at h; exact h
        have np : ∀ {b : Addr}, H0 b = none → b ≠ p := fun h e => by rw [e, hp0] at h; cases h
        have hmn : (m : Int).toNat = m := rfl
        refine hQ _ ⟨m, D, wl, dx, qs, List.replicate m [], List.replicate m 0, .non, true, .non⟩ rfl rfl rfl rfl rfl ⟨upd_same, G.keep fun b o h e => kp b o e (h.elim (fun z => by rw [z]; exact np hD) fun z => np (hqn b z)), ?_, by simp, by simp, ⟨by show 8 ≤ m; omega, by show m ≤ 24; omega⟩, ⟨Ne.symm (ne_of_none G.lst nwl'), fun hm => ?_⟩, .inl rfl⟩ (fun b o e n => kp b o (hs _ _ (by rw [← hH0]; exact at_ne n e)) n) ?_
        · show _ = some (HO.lst ((List.replicate m 0).map V.int))
          rw [List.map_replicate]
          refine at_ne wlp (at_ne wlp (at_ne wlp (at_ne wlp ?_)))
          rw [upd_same, flat1]; rfl
        · obtain ⟨i, hi, e2⟩ := List.mem_iff_getElem.mp hm
          obtain ⟨fs2, _, h5⟩ := G.row i wl (by rw [List.getElem?_eq_getElem hi, e2])
          rw [h5] at nwl'; cases nwl'
        · rintro b (h | h | h | h)
          · exact .inl h
          · have h : b = wl := h
            subst h
            exact .inr (fr wlp (hs.free nwl'))
          · have h : b = D := h
            subst h
            exact .inr (fr (np hD) hD)
          · exact .inr (fr (np (hqn b h)) (hqn b h))
abbrev Rows3 (H : Hp) (ws : List Int) (fss : List (List V)) (xs : List V) (N : Addr → Prop) : Prop := ∀ (j : Nat) (x : V), xs[j]? = some x → ∃ (w : Int) (fs : List V) (t c : Addr), ws[j]? = some w ∧ fss[j]? = some fs ∧ x = .ref t ∧ H t = some (.tup [.int w, .ref c]) ∧ H c = some (.lst (pad fs)) ∧ N c
theorem rows_rep {H : Hp} : ∀ {fss : List (List V)} (ws : List Int), (∀ fs ∈ fss, ∃ ds, Reps K H 2 (pad fs) ds) → ∃ ds, ∀ xs, xs.length = fss.length → Rows3 H ws fss xs (fun _ => True) → Reps K H 4 xs ds
  | [], _, _ => ⟨[], fun xs h _ => by cases xs with
    | nil => exact .nil
    | cons a b => cases h⟩
  | fs :: fss, [], hd => ⟨[], fun xs h r => by
    cases xs with
    | nil => cases h
    | cons x xs =>
      obtain ⟨w, fs, t, c, e, _⟩ := r 0 x rfl
      cases e⟩
  | fs :: fss, w :: ws, hd => by
    obtain ⟨d1, h1⟩ := hd fs (List.mem_cons_self ..)
    obtain ⟨ds, h2⟩ := rows_rep ws fun fs h => hd fs (List.mem_cons_of_mem _ h)
    refine ⟨.tuple [.int w, .list d1] :: ds, fun xs h r => ?_⟩
    cases xs with
    | nil => cases h
    | cons x xs =>
      obtain ⟨w', fs', t, c, e1, e2, rfl, ht, hc, _⟩ := r 0 x rfl
      cases e1; cases e2
      exact .cons (Rep.tup ht (.cons .int (.cons (Rep.lst hc h1) .nil))) (h2 xs (Nat.succ.inj h) fun j x e => r (j + 1) x e)
def sp_Flash_image (K : PySem.W.Frag) : Sp := fun vs H Q _ => ∃ (p : Addr) (s : FlV), vs = [.ref p] ∧ FlashAt K H p s ∧
  ∀ H' q xs, Same H H' → H q = none → H' q = some (.lst xs) → xs.length = s.fss.length → Rows3 H' s.ws s.fss xs (fun c => H c = none ∧ c ≠ q) → Q (.ref q) H'
theorem ok_Flash_image (T : Tx fa fn ts exs w K mg) : Okd P w K mg base ("Flash", some "image") 1 ["self"] (sp_Flash_image K) := by
  refine okd (k := 0) T 4 rfl sc_Flash_image (fun _ _ _ _ _ _ us hl => match us, hl with | [_], _ => rfl) (fun vs H Q E h => ?_) (fun f cdv A outer s H vs Q E hr h => ?_)
  · obtain ⟨p, s, rfl, F, hQ⟩ := h
    rfl
  · obtain ⟨p, s, rfl, F, hQ⟩ := h
    have hu := hu_of hr
    refine ⟨_, (pss_one (ps_ret (pe_lc (own := [(".0", 1), ("block", 2)]) rfl sc_Flash_image.nd (pi_range1 rfl (T.free 0) (pa_cons (pe_fld (pv 0) rfl) pa_nil)) (blkOk_by (own := [(".0", 1), ("block", 2)]) (N := ["self", ".0", "block"]) (sc := defScope s_Flash_image) (by decide +kernel)) (fun _ _ _ _ _ => (pg_name (i := 2) sc_Flash_image.nd rfl (Or.inl rfl))) (fun _ _ _ _ _ => pts_nil) (fun _ _ _ _ _ => (pe_tup (pa_cons (pe_ix (ix_listK K) (pe_fldK K (pv 0) rfl) (pv 2) (fun _ _ => rfl)) (pa_cons (pe_callTy (c_listK K) (by rfl) (T.free 12) (by decide +kernel) (pa_cons (pe_ix (ix_listK K) (pe_fldK K (pv 0) rfl) (pv 2) (fun _ _ => rfl)) pa_nil)) pa_nil))))))), ?_⟩
    refine w_start (σ' := [some _, none, none]) rfl ?_
    have b8 := F.b8
    have ln := F.ln
    have lw := F.lw
    have hp1 := F.obj
    walk_at "w0"
    walk_at "w"
    refine comp_range (fun D i H' => Same H H' ∧ ∃ xs, H' D = some (.lst xs) ∧ xs.length = i ∧ Rows3 H' s.ws s.fss xs (fun c => H c = none ∧ c ≠ D)) (fun D hD => ⟨same_new hD, [], upd_same, rfl, fun j x e => by cases e⟩) ?_ ?_
    · rintro D i H1 hD hi ⟨sm, xs, hx, hxl, hr⟩
      have hi : i < (s.n : Int).toNat := hi
      obtain ⟨w, hw⟩ := get_some (xs := s.ws) (i := i) (by rw [lw]; omega)
      obtain ⟨r, fs, hr1, hf, h4, R⟩ := F.gr.at (i := i) (by rw [ln]; omega)
      have hp2 := sm _ _ hp1
      have hw2 := sm _ _ F.wr
      have hg2 := sm _ _ F.gr.lst
      have hr2 := sm _ _ h4
      walk_at "w"
      refine w_ixL hw2 (v := .int w) (atI_of (by omega) (by rw [show ((0 : Int) + i).toNat = i from by omega, List.getElem?_map, hw]; rfl)) ?_
      walk_at "w"
      refine w_ixL hg2 (v := .ref r) (atI_of (by omega) (by rw [show ((0 : Int) + i).toNat = i from by omega, List.getElem?_map, hr1]; rfl)) ?_
      walk_at "w"
      refine w_listL hr2 fun c nc => ?_
      walk_at "w"
      intro t nt
      obtain ⟨ntc, nt'⟩ := none1 nt
      have hD1 := at_new (o' := HO.tup [.int w, .ref c]) nt (at_new (o' := HO.lst (pad fs)) nc hx)
      walk_at "w"
      have cD : c ≠ D := Ne.symm (ne_of_none hx nc)
      have tD : t ≠ D := Ne.symm (ne_of_none hx nt')
      refine ⟨fun b o e => at_ne (ne_of_none e hD) (at_new nt (at_new nc (sm b o e))), _, upd_same, by simp [hxl], fun j x e => ?_⟩
      by_cases hj : j < xs.length
      · rw [List.getElem?_append_left hj] at e
        obtain ⟨w', fs', t', c', e1, e2, rfl, e3, e4, e5, e6⟩ := hr j x e
        exact ⟨w', fs', t', c', e1, e2, rfl, at_ne (ne_of e3 hx (by intro z; cases z)) (at_new nt (at_new nc e3)), at_ne e6 (at_new nt (at_new nc e4)), e5, e6⟩
      · have hl := (List.getElem?_eq_some_iff.mp e).1
        have ej : j = xs.length := by simp at hl; omega
        subst ej
        rw [List.getElem?_append_right (Nat.le_refl _)] at e
        simp at e
        subst e
        rw [hxl]
        exact ⟨w, fs, t, c, hw, hf, rfl, at_ne tD upd_same, at_ne cD (at_new nt upd_same), sm.free nc, cD⟩
    · rintro D H1 hD ⟨sm, xs, hx, hxl, hr⟩
      exact hQ H1 D xs sm hD hx (by rw [hxl, ln]; rfl) hr
/-! ## the law's own words -/
def LOwn (hl wl : Addr) (gs : List Addr) (b : Addr) : Prop := b = wl ∨ b = hl ∨ b ∈ gs
structure LawAt (H : Hp) (hl wl : Addr) (gs : List Addr) (fss : List (List V)) (ws : List Int) : Prop where
  gr : Grid H hl gs fss
  wr : H wl = some (.lst (ws.map V.int))
  lw : ws.length = fss.length
  nw : wl ≠ hl ∧ wl ∉ gs
section
variable {H H' : Hp} {hl wl : Addr} {gs : List Addr} {fss : List (List V)} {ws : List Int}
theorem LawAt.kind (L : LawAt H hl wl gs fss ws) {b : Addr} (h : LOwn hl wl gs b) : ∃ xs, H b = some (.lst xs) := by
  rcases h with rfl | rfl | h
  · exact ⟨_, L.wr⟩
  · exact ⟨_, L.gr.lst⟩
  · obtain ⟨i, hi, e⟩ := List.mem_iff_getElem.mp h
    obtain ⟨fs, _, h2⟩ := L.gr.row i b (by rw [List.getElem?_eq_getElem hi, e])
    exact ⟨_, h2⟩
theorem LawAt.there (L : LawAt H hl wl gs fss ws) {b : Addr} (h : LOwn hl wl gs b) (n : H b = none) : False := by
  obtain ⟨o, e⟩ := L.kind h
  rw [n] at e; cases e
theorem LawAt.keep (L : LawAt H hl wl gs fss ws) (k : ∀ b o, LOwn hl wl gs b → H b = some o → H' b = some o) : LawAt H' hl wl gs fss ws :=
  ⟨L.gr.keep fun b o h e => k b o (.inr h) e, k _ _ (.inl rfl) L.wr, L.lw, L.nw⟩
theorem LawAt.same (L : LawAt H hl wl gs fss ws) (k : Same H H') : LawAt H' hl wl gs fss ws := L.keep fun b o _ e => k b o e
theorem LawAt.tk (L : LawAt H hl wl gs fss ws) (k : ∀ b o, H b = some o → ¬ LOwn hl wl gs b → H' b = some o) : TK H H' := fun a xs e => k a _ e fun h => by
  obtain ⟨o, h1⟩ := L.kind h
  rw [e] at h1; cases h1
end
def sp__law_next (K : PySem.W.Frag) : Sp := fun vs H Q _ => ∃ (r : Addr) (fs : List V), vs = [.ref r] ∧ H r = some (.lst (pad fs)) ∧ Row fs ∧ Q (.int fs.length) H
theorem ok__law_next (T : Tx fa fn ts exs w K mg) : Okd P w K mg base ("_law_next", none) 1 ["_law_pages"] (sp__law_next K) := by
  refine okd (k := 0) T 6 rfl sc__law_next (fun _ _ _ _ _ _ us hl => match us, hl with | [_], _ => rfl) (fun vs H Q E h => ?_) (fun f cdv A outer s H vs Q E hr h => ?_)
  · obtain ⟨r, fs, rfl, hr1, R, hQ⟩ := h
    rfl
  · obtain ⟨r, fs, rfl, hr1, R, hQ⟩ := h
    have hu := hu_of hr
    refine ⟨_, (pss_cons (ps_for (passes_of rfl) rfl (pi_range1 rfl (T.free 0) (pa_cons pe_int pa_nil)) (pg_name (i := 1) sc__law_next.nd rfl (Or.inl rfl)) (pss_one (ps_if (pt_cmpR o_isN (pe_ix ix_list (pv 0) (pv 1) (fun _ _ => rfl)) pe_non (nomark _)) (pss_one (ps_ret (pv 1))) pss_nil)))
      (pss_one (ps_ret pe_int))), ?_⟩
    refine w_start (σ' := [some _, none]) rfl ?_
    have hl8 := R.len
    walk_at "w0"
    walk_at "w"
    refine loop_range (fun i σ H' => ∃ (v2 : Option V), i ≤ fs.length ∧ σ = [some (.ref r), v2] ∧ H' = H) ⟨none, Nat.zero_le _, rfl, rfl⟩ ?_ ?_
    · rintro i σ H' hi ⟨v2, hle, rfl, rfl⟩
      have hi : i < 8 := hi
      walk_at "w"
      by_cases hl : i < fs.length
      · obtain ⟨x, hx⟩ := get_some hl
        refine w_ixL hr1 (v := x) (atI_of (by omega) (by rw [show ((0 : Int) + i).toNat = i from by omega, pad_lo hl, hx])) ?_
        have hn : decide (x = .non) = false := decide_eq_false (R.nn x (List.mem_of_getElem? hx))
        walk_at "w"
        rw [hn]
        walk_at "w"
        exact ⟨_, by omega, rfl, rfl⟩
      · refine w_ixL hr1 (v := .non) (atI_of (by omega) (by rw [show ((0 : Int) + i).toNat = i from by omega, pad_hi (by omega) hi])) ?_
        walk_at "w"
        refine w_ifT (by decide +kernel) ?_
        walk_at "w"
        rw [show (0 : Int) + (i : Nat) = (fs.length : Nat) from by omega]
        exact hQ
    · rintro σ H' ⟨v2, hle, rfl, rfl⟩
      have hle : 8 ≤ fs.length := hle
      walk_at "w"
      rw [show (8 : Int) = (fs.length : Nat) from by omega]
      exact hQ
inductive Act | prog | read | erase | wear
def Act.s : Act → Str
  | .prog => "program"
  | .read => "read"
  | .erase => "erase"
  | .wear => "wear"
/-- what an act tells and what it leaves; none: refused -/
def step (a : Act) (fss : List (List V)) (ws : List Int) (b g : Int) (x : V) (t : Bool) : Option V × List (List V) × List Int :=
  if b < 0 ∨ (fss.length : Int) ≤ b then (none, fss, ws) else
  match a with
  | .wear => (some (.int (ws.getD b.toNat 0)), fss, ws)
  | .erase => (some .non, fss.set b.toNat [], ws.set b.toNat (ws.getD b.toNat 0 + 1))
  | .read => if 0 ≤ g ∧ g < 8 then (some ((pad (fss.getD b.toNat [])).getD g.toNat .non), fss, ws) else (none, fss, ws)
  | .prog => if (0 ≤ g ∧ g < 8) ∧ t = true ∧ ((fss.getD b.toNat []).length : Int) = g then (some .non, fss.set b.toNat (fss.getD b.toNat [] ++ [x]), ws) else (none, fss, ws)
def Told (H H' : Hp) : Option V → V → Prop
  | some u, v => v = u
  | none, v => ∃ q, v = .ref q ∧ H q = none ∧ H' q = some (.lst [.str "refused", .bl true])
theorem getD_some {α : Type} {l : List α} {i : Nat} {x d : α} (h : l[i]? = some x) : l.getD i d = x := by rw [List.getD_eq_getElem?_getD, h]; rfl
theorem step_bad {a : Act} {fss : List (List V)} {ws : List Int} {b g : Int} {x : V} {t : Bool} (h : ¬ (0 ≤ b ∧ b < fss.length)) : step a fss ws b g x t = (none, fss, ws) := by unfold step; rw [if_pos (by omega)]
section
variable {fss : List (List V)} {ws : List Int} {fs : List V} {b g w : Int} {x v : V} {t : Bool}
theorem step_wear (h0 : 0 ≤ b) (h1 : b < fss.length) (hw : ws[b.toNat]? = some w) : step .wear fss ws b g x t = (some (.int w), fss, ws) := by
  unfold step; rw [if_neg (by omega)]; dsimp only; rw [getD_some hw]
theorem step_erase (h0 : 0 ≤ b) (h1 : b < fss.length) (hw : ws[b.toNat]? = some w) : step .erase fss ws b g x t = (some .non, fss.set b.toNat [], ws.set b.toNat (w + 1)) := by
  unfold step; rw [if_neg (by omega)]; dsimp only; rw [getD_some hw]
theorem step_read (h0 : 0 ≤ b) (h1 : b < fss.length) (g0 : 0 ≤ g) (g1 : g < 8) (hf : fss[b.toNat]? = some fs) (hv : (pad fs)[g.toNat]? = some v) : step .read fss ws b g x t = (some v, fss, ws) := by
  unfold step; rw [if_neg (by omega)]; dsimp only; rw [if_pos ⟨g0, g1⟩, getD_some hf, getD_some hv]
theorem step_readN (h0 : 0 ≤ b) (h1 : b < fss.length) (hg : ¬ (0 ≤ g ∧ g < 8)) : step .read fss ws b g x t = (none, fss, ws) := by
  unfold step; rw [if_neg (by omega)]; dsimp only; rw [if_neg hg]
theorem step_prog (h0 : 0 ≤ b) (h1 : b < fss.length) (g0 : 0 ≤ g) (g1 : g < 8) (ht : t = true) (hf : fss[b.toNat]? = some fs) (hl : (fs.length : Int) = g) : step .prog fss ws b g x t = (some .non, fss.set b.toNat (fs ++ [x]), ws) := by
  unfold step; rw [if_neg (by omega)]; dsimp only; rw [getD_some hf, if_pos ⟨⟨g0, g1⟩, ht, hl⟩]
theorem step_progN (h0 : 0 ≤ b) (h1 : b < fss.length) (hf : fss[b.toNat]? = some fs) (hn : ¬ ((0 ≤ g ∧ g < 8) ∧ t = true ∧ (fs.length : Int) = g)) : step .prog fss ws b g x t = (none, fss, ws) := by
  unfold step; rw [if_neg (by omega)]; dsimp only; rw [getD_some hf, if_neg hn]
end
theorem rep8 : (List.replicate (8 : Int).toNat [V.non]).flatten = pad [] := rfl
def sp__law_due (K : PySem.W.Frag) : Sp := fun vs H Q _ => ∃ (hl wl : Addr) (gs : List Addr) (fss : List (List V)) (ws : List Int) (a : Act) (b g : Int) (x : V) (t : Bool), vs = [.ref hl, .ref wl, .str a.s, .int b, .int g, x] ∧ LawAt H hl wl gs fss ws ∧ RecK H x t ∧
  ∀ H' gs' v, LawAt H' hl wl gs' (step a fss ws b g x t).2.1 (step a fss ws b g x t).2.2 → Chg (LOwn hl wl gs) (LOwn hl wl gs') H H' → Told H H' (step a fss ws b g x t).1 v → Q v H'
theorem ok__law_due (T : Tx fa fn ts exs w K mg) : Okd P w K mg base ("_law_due", none) 2 ["_law_held", "_law_wears", "_law_act", "_law_block", "_law_page", "_law_record"] (sp__law_due K) := by
  refine okd (k := 1) T 7 rfl sc__law_due (fun _ _ _ _ _ _ us hl => match us, hl with | [_, _, _, _, _, _], _ => rfl) (fun vs H Q E h => ?_) (fun f cdv A outer s H vs Q E hr h => ?_)
  · obtain ⟨hl, wl, gs, fss, ws, a, b, g, x, t, rfl, L, hx, hQ⟩ := h
    rfl
  · obtain ⟨hl, wl, gs, fss, ws, a, b, g, x, t, rfl, L, hx, hQ⟩ := h
    have hu := hu_of hr
    refine ⟨_, (pss_cons (ps_if (PW.pt (pw_or (pt_cmpR op_lt (pv 3) pe_int (nomark _)) (pw_or (pt_cmpR op_ge (pv 3) (pe_callB c_len (by rfl) (T.free 1) PySem.boot_len (pa_cons (pv 0) pa_nil)) (nomark _)) (pw_or1 (PW.pt (pw_and (pt_cmpR op_in_seq (pv 2) (pe_tup (pa_cons pe_str (pa_cons pe_str pa_nil))) (by with_unfolding_all rfl)) (pw_and1 (PW.pt (pw_or (pt_cmpR op_lt (pv 4) pe_int (nomark _)) (pw_or1 (pt_cmpR op_gt (pv 4) pe_int (nomark _)))))))))))) (pss_one (ps_ret (pe_lst (pa_cons pe_str (pa_cons pe_bl pa_nil))))) pss_nil)
      (pss_cons (ps_if (pt_cmpR op_eq (pv 2) pe_str (nomark _)) (pss_one (ps_ret (pe_ix ix_list (pv 1) (pv 3) (fun _ _ => rfl)))) pss_nil)
      (pss_cons (ps_if (pt_cmpR op_eq (pv 2) pe_str (nomark _)) (pss_one (ps_ret (pe_ix ix_list (pe_ix ix_list (pv 0) (pv 3) (fun _ _ => rfl)) (pv 4) (fun _ _ => rfl)))) pss_nil)
      (pss_cons (ps_if (pt_cmpR op_eq (pv 2) pe_str (nomark _)) (pss_cons (ps_if (PW.pt (pw_or (pt_not (pt_val (pe_callB call_isi (by rfl) (T.free 4) (by decide +kernel) (pa_cons (pv 5) (pa_cons (pe_bltn (v := .ty "tuple") rfl (T.free 16) (by decide +kernel) rfl) pa_nil))))) (pw_or1 (pt_cmpR op_ne (pe_callO (ok__law_next T) (hr.mono (by decide)) rfl (T.glo 15) (passes_call (takes_of rfl rfl rfl rfl) (fun _ _ _ _ h => h)) (pa_cons (pe_ix ix_list (pv 0) (pv 3) (fun _ _ => rfl)) pa_nil)) (pv 4) (nomark _))))) (pss_one (ps_ret (pe_lst (pa_cons pe_str (pa_cons pe_bl pa_nil))))) pss_nil)
      (pss_one (ps_asg (pv 5) (pg_sub (pe_ix ix_list (pv 0) (pv 3) (fun _ _ => rfl)) (pv 4) set_list)))) (pss_cons (ps_asg (pe_op op_rep (pe_lst (pa_cons pe_non pa_nil)) pe_int) (pg_sub (pv 0) (pv 3) set_list))
      (pss_one (ps_asg (pe_op op_add (pe_ix ix_list (pv 1) (pv 3) (fun _ _ => rfl)) pe_int) (pg_sub (pv 1) (pv 3) set_list)))))
      (pss_one (ps_ret pe_non)))))), ?_⟩
    refine w_start (σ' := [some _, some _, some _, some _, some _, some _]) rfl ?_
    have h1 := L.gr.lst
    have h2 := L.wr
    have lw := L.lw
    have gl := L.gr.len
    have ref : ∀ {H1 : Hp} {q : Addr}, Same H H1 → H1 q = none → step a fss ws b g x t = (none, fss, ws) → Q (.ref q) (upd H1 q (.lst [.str "refused", .bl true])) := fun {H1 q} sm nq e =>
      hQ _ gs _ (by rw [e]; exact L.same (sm.upd_new (sm.free nq))) (Chg.same (sm.upd_new (sm.free nq))) (by rw [e]; exact ⟨q, rfl, sm.free nq, upd_same⟩)
    walk_at "w0"
    walk_at "w"
    by_cases hb0 : b < 0
    · walk_at "if"
      walk_at "w"
      intro q nq
      exact ref (fun _ _ e => e) nq (step_bad (by omega))
    walk_at "if"
    walk_at "w"
    rw [List.length_map, gl]
    by_cases hb1 : (fss.length : Int) ≤ b
    · walk_at "if"
      walk_at "w"
      intro q nq
      exact ref (fun _ _ e => e) nq (step_bad (by omega))
    walk_at "if"
    walk_at "w"
    intro u nu
    have s1 : Same H (upd H u (.tup [.str "program", .str "read"])) := same_new nu
    generalize hH1 : upd H u (.tup [.str "program", .str "read"]) = H1 at s1 ⊢
    have hu1 : H1 u = some (.tup [.str "program", .str "read"]) := by rw [← hH1]; exact upd_same
    have L1 := L.same s1
    have h1 := L1.gr.lst
    have h2 := L1.wr
    obtain ⟨r, fs, hr1, hf, h4, R⟩ := L1.gr.at (i := b.toNat) (by omega)
    obtain ⟨w, hw⟩ := get_some (xs := ws) (i := b.toNat) (by omega)
    have iw : atI (ws.map V.int) b = some (.int w) := atI_of (by omega) (by rw [List.getElem?_map, hw]; rfl)
    have ig : atI (gs.map V.ref) b = some (.ref r) := atI_of (by omega) (by rw [List.getElem?_map, hr1]; rfl)
    have rm : r ∈ gs := List.mem_of_getElem? hr1
    have rh : r ≠ hl := fun z => L.gr.nh (by rw [← z]; exact rm)
    have rw_ : r ≠ wl := fun z => L.nw.2 (by rw [← z]; exact rm)
    cases a with
    | wear =>
      refine w_inT hu1 (by decide +kernel) (by decide +kernel) (b := false) (by decide +kernel) ?_
      dsimp only [Act.s]
      walk_at "w"
      refine w_ifT (by decide +kernel) ?_
      walk_at "w"
      have e := step_wear (g := g) (x := x) (t := t) (by omega) (by omega : b < fss.length) hw
      exact hQ _ gs _ (by rw [e]; exact L1) (Chg.same s1) (by rw [e]; rfl)
    | erase =>
      refine w_inT hu1 (by decide +kernel) (by decide +kernel) (b := false) (by decide +kernel) ?_
      dsimp only [Act.s]
      walk_at "w"
      refine w_ifF (by decide +kernel) ?_
      walk_at "w"
      refine w_ifF (by decide +kernel) ?_
      walk_at "w"
      refine w_ifF (by decide +kernel) ?_
      walk_at "w"
      intro q0 n0
      walk_at "w"
      intro q n1'
      obtain ⟨nq0, n1⟩ := none1 n1'
      have e1 := at_new (o' := HO.lst (List.replicate (8 : Int).toNat [V.non]).flatten) n1' (at_new (o' := HO.lst [.non]) n0 h1)
      have e2 := at_new (o' := HO.lst (List.replicate (8 : Int).toNat [V.non]).flatten) n1' (at_new (o' := HO.lst [.non]) n0 h2)
      walk_at "w"
      refine w_setL e1 (j := b.toNat) (by rw [List.length_map, gl]; exact ixN_int (by omega) (by omega)) ?_
      rw [set_map]
      have e3 := at_ne (o' := HO.lst ((gs.set b.toNat q).map V.ref)) L.nw.1 e2
      walk_at "w"
      refine w_setL e3 (j := b.toNat) (by rw [List.length_map, lw]; exact ixN_int (by omega) (by omega)) ?_
      rw [set_map V.int]
      walk_at "w"
      have e := step_erase (g := g) (x := x) (t := t) (by omega) (by omega : b < fss.length) hw
      have nq : ∀ {b' : Addr}, LOwn hl wl gs b' → q ≠ b' := fun h z => L1.there h (by rw [← z]; exact n1)
      have kp : ∀ b' o, H1 b' = some o → b' ≠ hl → b' ≠ wl → upd (upd (upd (upd H1 q0 (.lst [.non])) q (.lst (List.replicate (8 : Int).toNat [V.non]).flatten)) hl (.lst ((gs.set b.toNat q).map V.ref))) wl (.lst ((ws.set b.toNat (w + 1)).map V.int)) b' = some o :=
        fun b' o e n1 n2 => at_ne n2 (at_ne n1 (at_new n1' (at_new n0 e)))
      refine hQ _ (gs.set b.toNat q) _ (by
        rw [e]
        refine ⟨L1.gr.swap hr1 (fun hm => nq (.inr (.inr hm)) rfl) (nq (.inr (.inl rfl))) (at_ne L.nw.1.symm upd_same) ?_ (fun b' o hm hne e => kp b' o e (fun z => L.gr.nh (by rw [← z]; exact hm)) (fun z => L.nw.2 (by rw [← z]; exact hm))) Row.nil, upd_same, by simpa using lw, L.nw.1, fun hm => ?_⟩
        · rw [rep8]
          exact at_ne (nq (.inl rfl)) (at_ne (nq (.inr (.inl rfl))) upd_same)
        · rcases mem_set' hm with z | hm
          · exact nq (.inl rfl) z.symm
          · exact L.nw.2 hm) (Chg.pre s1 ⟨fun b' o e h => kp b' o e (fun z => h (.inr (.inl z))) (fun z => h (.inl z)), fun b' h => ?_, L1.tk fun b' o e h => kp b' o e (fun z => h (.inr (.inl z))) (fun z => h (.inl z))⟩) (by rw [e]; rfl)
      rcases h with h | h | h
      · exact .inl (.inl h)
      · exact .inl (.inr (.inl h))
      · rcases mem_set' h with h | h
        · exact .inr (by rw [h]; exact n1)
        · exact .inl (.inr (.inr h))
    | read =>
      refine w_inT hu1 (by decide +kernel) (by decide +kernel) (b := true) (by decide +kernel) ?_
      dsimp only [Act.s]
      walk_at "w"
      by_cases hg0 : g < 0
      · walk_at "if"
        walk_at "w"
        intro q nq
        exact ref s1 nq (step_readN (by omega) (by omega) (by omega))
      walk_at "if"
      walk_at "w"
      by_cases hg1 : 7 < g
      · walk_at "if"
        walk_at "w"
        intro q nq
        exact ref s1 nq (step_readN (by omega) (by omega) (by omega))
      walk_at "if"
      walk_at "w"
      refine w_ifF (by decide +kernel) ?_
      walk_at "w"
      refine w_ifT (by decide +kernel) ?_
      walk_at "w"
      obtain ⟨v, hv⟩ := get_some (xs := pad fs) (i := g.toNat) (by rw [pad_len R.len]; omega)
      have e := step_read (ws := ws) (x := x) (t := t) (by omega) (by omega : b < fss.length) (by omega) (by omega) hf hv
      exact w_ixL h4 (atI_of (by omega) hv) (hQ _ gs _ (by rw [e]; exact L1) (Chg.same s1) (by rw [e]; rfl))
    | prog =>
      refine w_inT hu1 (by decide +kernel) (by decide +kernel) (b := true) (by decide +kernel) ?_
      dsimp only [Act.s]
      walk_at "w"
      by_cases hg0 : g < 0
      · walk_at "if"
        walk_at "w"
        intro q nq
        exact ref s1 nq (step_progN (by omega) (by omega) hf (by omega))
      walk_at "if"
      walk_at "w"
      by_cases hg1 : 7 < g
      · walk_at "if"
        walk_at "w"
        intro q nq
        exact ref s1 nq (step_progN (by omega) (by omega) hf (by omega))
      walk_at "if"
      walk_at "w"
      refine w_ifF (by decide +kernel) ?_
      walk_at "w"
      refine w_ifF (by decide +kernel) ?_
      walk_at "w"
      refine w_ifT (by decide +kernel) ?_
      walk_at "w"
      rcases hx with ⟨rfl, a, xs, rfl, ha⟩ | ⟨rfl, hx⟩
      · refine isi_tup_tuple (s1 _ _ ha) ?_
        walk_at "w"
        refine ⟨r, fs, rfl, h4, R, ?_⟩
        walk_at "w"
        walk_at "if"
        · intro hl
          walk_at "w"
          intro q nq
          exact ref s1 nq (step_progN (by omega) (by omega) hf (fun z => hl z.2.2))
        · intro hlg
          walk_at "w"
          have hfl : fs.length < 8 := by omega
          refine w_setL h4 (j := fs.length) (by rw [pad_len R.len]; have := ixN_of hfl; rw [hlg] at this; exact this) ?_
          rw [pad_set hfl]
          walk_at "w"
          have e := step_prog (ws := ws) (x := .ref a) (by omega) (by omega : b < fss.length) (by omega) (by omega) (rfl : true = true) hf hlg
          have kp : ∀ b' o, H1 b' = some o → ¬ LOwn hl wl gs b' → upd H1 r (.lst (pad (fs ++ [.ref a]))) b' = some o := fun b' o e h => at_ne (fun z => h (.inr (.inr (by rw [z]; exact rm)))) e
          exact hQ _ gs _ (by rw [e]; exact ⟨L1.gr.set hr1 upd_same (fun b' o h n e => at_ne n e) (R.add hfl (by intro z; cases z)), at_ne (Ne.symm rw_) h2, by simpa using lw, L.nw⟩) (Chg.pre s1 ⟨kp, fun b' h => .inl h, L1.tk kp⟩) (by rw [e]; rfl)
      · have bad := step_progN (g := g) (x := x) (t := false) (ws := ws) (by omega) (by omega) hf (fun z => by cases z.2.1)
        rcases hx with ⟨z, rfl⟩ | rfl | ⟨a, xs, rfl, ha⟩
        · walk_at "w"
          intro q nq
          exact ref s1 nq bad
        · walk_at "w"
          intro q nq
          exact ref s1 nq bad
        · refine isi_lst_tuple (s1 _ _ ha) ?_
          walk_at "w"
          intro q nq
          exact ref s1 nq bad
local macro_rules | `(tactic| walk_at "caught") => `(tactic| (refine' ⟨true, by assumption, fun _ a ha => ?_, nofun⟩; walk_at "w"; refine' w_isG (by assumption) (by assumption) ?_; walk_at "w"))
def sp__law_do (K : PySem.W.Frag) : Sp := fun vs H Q _ => ∃ (p : Addr) (s : FlV) (a : Act) (b g : Int) (x : V) (t : Bool), vs = [.ref p, .str a.s, .int b, .int g, x] ∧ FlashAt K H p s ∧ s.pw = true ∧ s.left = .non ∧ RecK H x t ∧
  ∀ H' s' v, s'.pw = true → s'.left = .non → s'.n = s.n → s'.fss = (step a s.fss s.ws b g x t).2.1 → s'.ws = (step a s.fss s.ws b g x t).2.2 → FlashAt K H' p s' → Chg (s.own p) (s'.own p) H H' → Told H H' (step a s.fss s.ws b g x t).1 v → Q v H'
theorem ok__law_do (T : Tx fa fn ts exs w K mg) : Okd P w K mg base ("_law_do", none) 5 ["_law_flash", "_law_act", "_law_block", "_law_page", "_law_record"] (sp__law_do K) := by
  refine okd (k := 4) T 18 rfl sc__law_do (fun _ _ _ _ _ _ us hl => match us, hl with | [_, _, _, _, _], _ => rfl) (fun vs H Q E h => ?_) (fun f cdv A outer s H vs Q E hr h => ?_)
  · obtain ⟨p, s, a, b, g, x, t, rfl, F, hpw, hlf, hx, hQ⟩ := h
    rfl
  · obtain ⟨p, s, a, b, g, x, t, rfl, F, hpw, hlf, hx, hQ⟩ := h
    have hu := hu_of hr
    refine ⟨_, (pss_one (ps_try_as (i := 5) rfl rfl sc__law_do.nd rfl rfl ⟨rfl, by decide, .inl (T.glo 29)⟩ (takes_of rfl rfl rfl rfl) (fun W pn xe tk po => (pss_cons (ps_if (pt_cmpR op_eq (pv 1) pe_str (nomark _)) (pss_one (ps_ret (pe_methOS K (pv 0) (T.cls 13) (T.meth 25) (ok_Flash_program T) (hr.mono (by decide)) (fun σ => passAt tk σ) (pa_cons (pv 2) (pa_cons (pv 3) (pa_cons (pv 4) pa_nil)))))) pss_nil)
      (pss_cons (ps_if (pt_cmpR op_eq (pv 1) pe_str (nomark _)) (pss_one (ps_ret (pe_methOS K (pv 0) (T.cls 13) (T.meth 26) (ok_Flash_erase T) (hr.mono (by decide)) (fun σ => passAt tk σ) (pa_cons (pv 2) pa_nil)))) pss_nil)
      (pss_cons (ps_if (pt_cmpR op_eq (pv 1) pe_str (nomark _)) (pss_one (ps_ret (pe_methOS K (pv 0) (T.cls 13) (T.meth 27) (ok_Flash_wear T) (hr.mono (by decide)) (fun σ => passAt tk σ) (pa_cons (pv 2) pa_nil)))) pss_nil)
      (pss_one (ps_ret (pe_methOS K (pv 0) (T.cls 13) (T.meth 28) (ok_Flash_read T) (hr.mono (by decide)) (fun σ => passAt tk σ) (pa_cons (pv 2) (pa_cons (pv 3) pa_nil))))))))) (fun a oe cls d pn hz hf => (pss_one (ps_ret (pe_lst (pa_cons pe_str (pa_cons (pe_callB (call_isG hz hf) (by rfl) (T.free 4) (by decide +kernel) (pa_cons (pv 5) (pa_cons (pe_globR rfl (T.glo 10)) pa_nil))) pa_nil)))))))), ?_⟩
    refine w_start (σ' := [some _, some _, some _, some _, some _, none]) rfl ?_
    have xm := T.exm 40
    have xC := excB_ok (T.ex 0)
    have xk := kitB2_ok (T.ex 1)
    have h1 := F.obj
    have ln := F.ln
    have ref : ∀ {q : Addr}, H q = none → step a s.fss s.ws b g x t = (none, s.fss, s.ws) → Q (.ref q) (upd H q (.lst [.str "refused", .bl true])) := fun {q} nq e =>
      hQ _ s _ hpw hlf rfl (by rw [e]) (by rw [e]) (F.same (same_new nq)) (Chg.same (same_new nq)) (by rw [e]; exact ⟨q, rfl, nq, upd_same⟩)
    have got : ∀ {v : V}, step a s.fss s.ws b g x t = (some v, s.fss, s.ws) → Q v H := fun {v} e =>
      hQ _ s _ hpw hlf rfl (by rw [e]) (by rw [e]) F Chg.refl (by rw [e]; rfl)
    walk_at "w0"
    cases a with
    | prog =>
      dsimp only [Act.s]
      walk_at "w"
      refine w_ifT (by decide +kernel) ?_
      walk_at "w"
      refine ⟨p, s, b, g, x, t, rfl, F, hx, fun hn => ?_, fun G h => absurd hpw (by rw [h]; decide), fun G _ h => (by rw [hlf] at h; cases h), fun G _ _ H' fs hf F' C' => ?_⟩
      · walk_at "caught"
        intro q nq
        by_cases hb : 0 ≤ b ∧ b < s.fss.length
        · obtain ⟨r, fs, hr1, hf, h4, R⟩ := F.gr.at (i := b.toNat) (by omega)
          exact ref nq (step_progN hb.1 hb.2 hf fun z => hn ⟨hb.1, by omega, z.1.1, z.1.2, z.2.1, fun fs' e => by rw [hf] at e; cases e; exact z.2.2⟩)
        · exact ref nq (step_bad hb)
      · have e := step_prog (ws := s.ws) (x := x) G.b0 (by rw [ln]; exact G.b1) G.g0 G.g1 G.tup hf (G.nx fs hf)
        exact hQ H' (s.prog b.toNat fs x) .non hpw (by show decV s.left = _; rw [hlf]; rfl) rfl (by rw [e]; rfl) (by rw [e]; rfl) F' C' (by rw [e]; rfl)
    | erase =>
      dsimp only [Act.s]
      walk_at "w"
      refine w_ifF (by decide +kernel) ?_
      walk_at "w"
      refine w_ifT (by decide +kernel) ?_
      walk_at "w"
      refine ⟨p, s, b, rfl, F, fun hn => ?_, fun _ _ h => absurd hpw (by rw [h]; decide), fun _ _ _ h => (by rw [hlf] at h; cases h), fun b0 b1 _ _ H' q w nq hw F' C' => ?_⟩
      · walk_at "caught"
        intro q nq
        exact ref nq (step_bad (by omega))
      · have e := step_erase (g := g) (x := x) (t := t) b0 (by rw [ln]; exact b1) hw
        exact hQ H' ({ s with left := decV s.left }.fill b.toNat q .non w) .non hpw (by show decV s.left = _; rw [hlf]; rfl) rfl (by rw [e]; rfl) (by rw [e]; rfl) F' C' (by rw [e]; rfl)
    | wear =>
      dsimp only [Act.s]
      walk_at "w"
      refine w_ifF (by decide +kernel) ?_
      walk_at "w"
      refine w_ifF (by decide +kernel) ?_
      walk_at "w"
      refine w_ifT (by decide +kernel) ?_
      walk_at "w"
      refine ⟨p, s, b, rfl, F, fun w b0 b1 hw => ?_, fun hn => ?_⟩
      · exact got (step_wear b0 (by omega) hw)
      · walk_at "caught"
        intro q nq
        exact ref nq (step_bad (by omega))
    | read =>
      dsimp only [Act.s]
      walk_at "w"
      refine w_ifF (by decide +kernel) ?_
      walk_at "w"
      refine w_ifF (by decide +kernel) ?_
      walk_at "w"
      refine w_ifF (by decide +kernel) ?_
      walk_at "w"
      refine ⟨p, s, b, g, rfl, F, fun fs v b0 b1 g0 g1 _ hf hv => ?_, fun hn => ?_, fun _ h => absurd hpw (by rw [h]; decide)⟩
      · exact got (step_read b0 (by omega) g0 g1 hf hv)
      · walk_at "caught"
        intro q nq
        by_cases hb : 0 ≤ b ∧ b < s.fss.length
        · exact ref nq (step_readN hb.1 hb.2 (by omega))
        · exact ref nq (step_bad hb)
/-- the same told on both sides -/
def SameV (H : Hp) (x y : V) : Prop := (x = .non ∧ y = .non) ∨ (∃ i, x = .int i ∧ y = .int i) ∨ (∃ a xs ds, x = .ref a ∧ y = .ref a ∧ H a = some (.tup xs) ∧ Ims H xs ds ∧ PyData.depthAll ds ≤ 1) ∨ (∃ a c, x = .ref a ∧ y = .ref c ∧ H a = some (.lst [.str "refused", .bl true]) ∧ H c = some (.lst [.str "refused", .bl true]))
def sp__law_same (K : PySem.W.Frag) : Sp := fun vs H Q _ => ∃ (x y : V), vs = [x, y] ∧ SameV H x y ∧ Q (.bl true) H
theorem ok__law_same (T : Tx fa fn ts exs w K mg) : Okd P w K mg base ("_law_same", none) 1 ["_law_told", "_law_due_here"] (sp__law_same K) := by
  refine okd (k := 0) T 8 rfl sc__law_same (fun _ _ _ _ _ _ us hl => match us, hl with | [_, _], _ => rfl) (fun vs H Q E h => ?_) (fun f cdv A outer s H vs Q E hr h => ?_)
  · obtain ⟨x, y, rfl, hs, hQ⟩ := h
    rfl
  · obtain ⟨x, y, rfl, hs, hQ⟩ := h
    have hu := hu_of hr
    refine ⟨_, (pss_cons (ps_if (pt_cmpR o_isN (pv 1) pe_non (nomark _)) (pss_one (ps_ret (pe_cmpR o_isN (pv 0) pe_non (nomark _)))) pss_nil)
      (pss_one (ps_ret (pe_and (pe_cmpR op_eq (pe_callB call_isi (by rfl) (T.free 4) (by decide +kernel) (pa_cons (pv 0) (pa_cons (pe_bltn (v := .ty "tuple") rfl (T.free 16) (by decide +kernel) rfl) pa_nil))) (pe_callB call_isi (by rfl) (T.free 4) (by decide +kernel) (pa_cons (pv 1) (pa_cons (pe_bltn (v := .ty "tuple") rfl (T.free 16) (by decide +kernel) rfl) pa_nil))) (nomark _)) (pe_and (pe_not (pe_callB call_isi (by rfl) (T.free 4) (by decide +kernel) (pa_cons (pv 0) (pa_cons (pe_bltn (v := .ty "bool") rfl (T.free 5) (by decide +kernel) rfl) pa_nil)))) (pe_one (pe_cmpR (op_eqD hr.units) (pv 0) (pv 1) (nomark _)))))))), ?_⟩
    refine w_start (σ' := [some _, some _]) rfl ?_
    walk_at "w0"
    rcases hs with ⟨rfl, rfl⟩ | ⟨i, rfl, rfl⟩ | ⟨a, xs, ds, rfl, rfl, ha, hi, hd⟩ | ⟨a, c, rfl, rfl, ha, hc⟩
    · walk_at "w"
      refine w_ifT (by decide +kernel) ?_
      walk_at "w"
      exact hQ
    · walk_at "w"
      rw [show decide (V.int i = V.non) = false from decide_eq_false (by intro z; cases z)]
      walk_at "w"
      refine w_ifT rfl ?_
      walk_at "w"
      simpa using hQ
    · walk_at "w"
      rw [show decide (V.ref a = V.non) = false from decide_eq_false (by intro z; cases z)]
      walk_at "w"
      refine w_ifT rfl ?_
      walk_at "w"
      have r : Rep K H 2 (.ref a) (.tuple ds) := (Im.tup ha hi).rep (by simp only [PyData.depth]; omega)
      exact w_eqS' r r (by decide) (by decide) hQ
    · walk_at "w"
      rw [show decide (V.ref c = V.non) = false from decide_eq_false (by intro z; cases z)]
      walk_at "w"
      refine w_ifT rfl ?_
      walk_at "w"
      have r1 : Reps K H 0 [.str "refused", .bl true] _ := .cons (Rep.str (by decide +kernel)) (.cons Rep.bl .nil)
      exact w_eqS' (Rep.lst ha r1) (Rep.lst hc r1) (by decide) (by decide) hQ
/-! ## both sides at once -/
def RecOk (H : Hp) (x : V) : Prop := ∃ a xs ds, x = .ref a ∧ H a = some (.tup xs) ∧ Ims H xs ds ∧ PyData.depthAll ds ≤ 1
theorem RecOk.mono {H H' : Hp} {x : V} (k : TK H H') (h : RecOk H x) : RecOk H' x := let ⟨a, xs, ds, e, h1, h2, h3⟩ := h; ⟨a, xs, ds, e, k _ _ h1, h2.mono k, h3⟩
theorem RecOk.rep {H : Hp} {x : V} (h : RecOk H x) : ∃ d, Rep K H 2 x d := by
  obtain ⟨a, xs, ds, rfl, h1, h2, h3⟩ := h
  exact ⟨_, (Im.tup h1 h2).rep (by simp only [PyData.depth]; omega)⟩
structure Both (K : PySem.W.Frag) (H : Hp) (p : Addr) (s : FlV) (hl wl : Addr) (gs : List Addr) : Prop where
  F : FlashAt K H p s
  L : LawAt H hl wl gs s.fss s.ws
  dj : ∀ b, LOwn hl wl gs b → ¬ s.own p b
  pw : s.pw = true
  lf : s.left = .non
  rc : ∀ fs ∈ s.fss, ∀ x ∈ fs, RecOk H x
section
variable {H H' : Hp} {p hl wl : Addr} {s : FlV} {gs : List Addr}
theorem Both.same (B : Both K H p s hl wl gs) (k : Same H H') : Both K H' p s hl wl gs := ⟨B.F.same k, B.L.same k, B.dj, B.pw, B.lf, fun fs h x hx => (B.rc fs h x hx).mono k.tk⟩
theorem Both.pads (B : Both K H p s hl wl gs) : ∀ fs ∈ s.fss, ∃ ds, Reps K H 2 (pad fs) ds := fun fs h => Reps.of fun x hx => by
  unfold pad at hx
  rcases List.mem_append.mp hx with hx | hx
  · exact (B.rc fs h x hx).rep
  · rw [(List.mem_replicate.mp hx).2]; exact ⟨_, Rep.non⟩
end
theorem Rows3.keep {H H' : Hp} {ws : List Int} {fss : List (List V)} {xs : List V} {N : Addr → Prop} (h : Rows3 H ws fss xs N) (k : TK H H') (k2 : ∀ c fs, N c → H c = some (.lst (pad fs)) → H' c = some (.lst (pad fs))) : Rows3 H' ws fss xs N := fun j x e =>
  let ⟨w, fs, t, c, e1, e2, e3, e4, e5, e6⟩ := h j x e
  ⟨w, fs, t, c, e1, e2, e3, k _ _ e4, k2 c fs e6 e5, e6⟩
theorem Rows3.wk {H : Hp} {ws : List Int} {fss : List (List V)} {xs : List V} {N : Addr → Prop} (h : Rows3 H ws fss xs N) : Rows3 H ws fss xs fun _ => True := fun j x e =>
  let ⟨w, fs, t, c, e1, e2, e3, e4, e5, _⟩ := h j x e
  ⟨w, fs, t, c, e1, e2, e3, e4, e5, trivial⟩
def sp__law_image (K : PySem.W.Frag) : Sp := fun vs H Q _ => ∃ (p hl wl : Addr) (s : FlV) (gs : List Addr), vs = [.ref p, .ref hl, .ref wl] ∧ Both K H p s hl wl gs ∧ ∀ H', Same H H' → Q (.bl true) H'
theorem ok__law_image (T : Tx fa fn ts exs w K mg) : Okd P w K mg base ("_law_image", none) 2 ["_law_flash", "_law_held", "_law_wears"] (sp__law_image K) := by
  refine okd (k := 1) T 5 rfl sc__law_image (fun _ _ _ _ _ _ us hl => match us, hl with | [_, _, _], _ => rfl) (fun vs H Q E h => ?_) (fun f cdv A outer s H vs Q E hr h => ?_)
  · obtain ⟨p, hl, wl, s, gs, rfl, B, hQ⟩ := h
    rfl
  · obtain ⟨p, hl, wl, s, gs, rfl, B, hQ⟩ := h
    have hu := hu_of hr
    refine ⟨_, (pss_cons (ps_set (i := 3) sc__law_image.nd rfl (Or.inl rfl) (pe_methO0 (pv 0) (T.cls 13) (T.meth 14) (ok_Flash_image T) (hr.mono (by decide)) (passes_call (takes_of rfl rfl rfl rfl) (fun _ _ _ _ h => h))))
      (pss_cons (ps_setLc (i := 4) (own := [(".0", 5), ("_law_block", 6)]) rfl sc__law_image.nd rfl rfl (sw_true rfl rfl rfl (by decide +kernel)) (pi_range1 rfl (T.free 0) (pa_cons (pe_callB c_len (by rfl) (T.free 1) PySem.boot_len (pa_cons (pv 1) pa_nil)) pa_nil)) (blkOk_by (own := [(".0", 5), ("_law_block", 6)]) (N := ["_law_flash", "_law_held", "_law_wears", "_law_told", "_law_due_here", ".0", "_law_block"]) (sc := defScope s__law_image) (by decide +kernel)) (fun _ _ _ _ _ => (pg_name (i := 6) sc__law_image.nd rfl (Or.inl rfl))) (fun _ _ _ _ _ => pts_nil) (fun _ _ _ _ _ => (pe_tup (pa_cons (pe_ix (ix_listK K) (pv 2) (pv 6) (fun _ _ => rfl)) (pa_cons (pe_ix (ix_listK K) (pv 1) (pv 6) (fun _ _ => rfl)) pa_nil)))))
      (pss_cons (ps_if (PW.pt (pw_or (pt_not (pt_val (pe_callB call_isi (by rfl) (T.free 4) (by decide +kernel) (pa_cons (pv 3) (pa_cons (pe_bltn (v := .ty "list") rfl (T.free 12) (by decide +kernel) rfl) pa_nil))))) (pw_or1 (pt_cmpR (op_neD hr.units) (pv 3) (pv 4) (nomark _))))) (pss_one (ps_ret pe_bl)) pss_nil)
      (pss_cons (ps_asg (pe_tup (pa_cons pe_int (pa_cons pe_int pa_nil))) (pg_sub (pe_ix ix_seq (pe_ix ix_seq (pv 3) pe_int (fun _ _ => rfl)) pe_int (fun _ _ => rfl)) pe_int set_list))
      (pss_one (ps_ret (pe_cmpR (op_eqD hr.units) (pe_methO0 (pv 0) (T.cls 13) (T.meth 14) (ok_Flash_image T) (hr.mono (by decide)) (passes_call (takes_of rfl rfl rfl rfl) (fun _ _ _ _ h => h))) (pv 4) (nomark _)))))))), ?_⟩
    refine w_start (σ' := [some _, some _, some _, none, none, none, none]) rfl ?_
    have hp0 := B.F.obj
    have b8 := B.F.b8
    have ln := B.F.ln
    have lw := B.F.lw
    walk_at "w0"
    walk_at "w"
    refine ⟨p, s, rfl, B.F, fun H1 q xs sm nq hq hxl hr => ?_⟩
    have B1 := B.same sm
    have h1 := B1.L.gr.lst
    have h2 := B1.L.wr
    have gl := B1.L.gr.len
    walk_at "w"
    rw [List.length_map, gl]
    walk_at "w"
    refine comp_range (fun D i H' => Same H1 H' ∧ ∃ ys, H' D = some (.lst ys) ∧ ys.length = i ∧ Rows3 H' s.ws s.fss ys (fun c => c ∈ gs)) (fun D hD => ⟨same_new hD, [], upd_same, rfl, fun j x e => by cases e⟩) ?_ ?_
    · rintro D i H2 hD hi ⟨sm2, ys, hy, hyl, hs⟩
      have hi : i < s.fss.length := hi
      obtain ⟨w, hw⟩ := get_some (xs := s.ws) (i := i) (by rw [lw]; omega)
      obtain ⟨r, fs, hr1, hf, h4, R⟩ := B1.L.gr.at hi
      have hw2 := sm2 _ _ h2
      have hg2 := sm2 _ _ h1
      walk_at "w"
      refine w_ixL hw2 (v := .int w) (atI_of (by omega) (by rw [show ((0 : Int) + i).toNat = i from by omega, List.getElem?_map, hw]; rfl)) ?_
      walk_at "w"
      refine w_ixL hg2 (v := .ref r) (atI_of (by omega) (by rw [show ((0 : Int) + i).toNat = i from by omega, List.getElem?_map, hr1]; rfl)) ?_
      walk_at "w"
      intro t nt
      have hD1 := at_new (o' := HO.tup [.int w, .ref r]) nt hy
      walk_at "w"
      have tD : t ≠ D := Ne.symm (ne_of_none hy nt)
      refine ⟨fun b o e => at_ne (ne_of_none e hD) (at_new nt (sm2 b o e)), _, upd_same, by simp [hyl], fun j x e => ?_⟩
      have rD : ∀ {c : Addr}, c ∈ gs → c ≠ D := fun hm z => by
        obtain ⟨o, e⟩ := B1.L.kind (.inr (.inr hm))
        rw [z, hD] at e; cases e
      by_cases hj : j < ys.length
      · rw [List.getElem?_append_left hj] at e
        obtain ⟨w', fs', t', c', e1, e2, rfl, e3, e4, e5⟩ := hs j x e
        exact ⟨w', fs', t', c', e1, e2, rfl, at_ne (ne_of e3 hy (by intro z; cases z)) (at_new nt e3), at_ne (rD e5) (at_new nt e4), e5⟩
      · have hl := (List.getElem?_eq_some_iff.mp e).1
        have ej : j = ys.length := by simp at hl; omega
        subst ej
        rw [List.getElem?_append_right (Nat.le_refl _)] at e
        simp at e
        subst e
        rw [hyl]
        have rm : r ∈ gs := List.mem_of_getElem? hr1
        exact ⟨w, fs, t, r, hw, hf, rfl, at_ne tD upd_same, at_ne (rD rm) (at_new nt (sm2 _ _ h4)), rm⟩
    · rintro D H2 hD ⟨sm2, ys, hy, hyl, hs⟩
      have hyl : ys.length = s.fss.length := hyl
      have B2 := B1.same sm2
      have hq2 := sm2 _ _ hq
      have hr2 : Rows3 H2 s.ws s.fss xs (fun c => H c = none ∧ c ≠ q) := hr.keep sm2.tk fun c fs _ e => sm2 _ _ e
      obtain ⟨ds, hds⟩ := rows_rep s.ws B2.pads
      obtain ⟨x0, hx0⟩ := get_some (xs := xs) (i := 0) (by omega)
      obtain ⟨w0, fs0, t0, c0, k1, k2, rfl, k3, k4, k5, k6⟩ := hr2 0 x0 hx0
      have R0 := (B.L.gr.ok _ (List.mem_of_getElem? k2)).len
      walk_at "w"
      refine w_neS' (Rep.lst hq2 (hds xs hxl hr2.wk)) (Rep.lst hy (hds ys hyl hs.wk)) (by decide) (by decide) ?_
      walk_at "w"
      intro u nu
      walk_at "w"
      have q5 := at_new (o' := HO.tup [.int 9, .int 9]) nu hq2
      have t5 := at_new (o' := HO.tup [.int 9, .int 9]) nu k3
      have c5 := at_new (o' := HO.tup [.int 9, .int 9]) nu k4
      refine w_iaL q5 (v := .ref t0) (atI_of (by decide) hx0) ?_
      walk_at "w"
      refine w_setL c5 (j := 0) (by rw [pad_len R0]; decide) ?_
      have s5 : Same H (upd (upd H2 u (.tup [.int 9, .int 9])) c0 (.lst ((pad fs0).set 0 (.ref u)))) := fun b o e => at_ne (ne_of_none e k5) (at_new nu (sm2 _ _ (sm _ _ e)))
      have B5 := B.same s5
      have cD : c0 ≠ D := fun z => by
        obtain ⟨t', h'⟩ : ∃ o, H1 c0 = some o := by
          obtain ⟨w1, fs1, t1, c1, j1, j2, j3, j4, j5, _⟩ := hr 0 _ hx0
          cases j3
          have z1 := sm2 _ _ j4
          rw [k3] at z1
          cases z1
          exact ⟨_, j5⟩
        rw [z, hD] at h'; cases h'
      have y5 : (upd (upd H2 u (.tup [.int 9, .int 9])) c0 (.lst ((pad fs0).set 0 (.ref u)))) D = some (.lst ys) := at_ne (Ne.symm cD) (at_new nu hy)
      have hs5 : Rows3 (upd (upd H2 u (.tup [.int 9, .int 9])) c0 (.lst ((pad fs0).set 0 (.ref u)))) s.ws s.fss ys (fun c => c ∈ gs) := hs.keep (fun a xs e => at_ne (ne_of e k4 (by intro z; cases z)) (at_new nu e)) fun c fs hm e => at_ne (fun z => by
        obtain ⟨o, e'⟩ := B.L.kind (.inr (.inr hm))
        rw [z, k5] at e'; cases e') (at_new nu e)
      have q6 := B5.F.obj
      walk_at "w"
      refine ⟨p, s, rfl, B5.F, fun H6 q' xs' sm6 nq' hq' hxl' hr' => ?_⟩
      have B6 := B5.same sm6
      obtain ⟨ds', hds'⟩ := rows_rep s.ws B6.pads
      walk_at "w"
      refine w_eqS' (Rep.lst hq' (hds' xs' hxl' hr'.wk)) (Rep.lst (sm6 _ _ y5) (hds' ys hyl (hs5.keep sm6.tk fun c fs _ e => sm6 _ _ e).wk)) (by decide) (by decide) ?_
      exact hQ _ (s5.trans sm6)
/-! ## the law -/
section
variable {H H' : Hp} {p hl wl : Addr} {s s' : FlV} {gs gs' : List Addr} {fss' : List (List V)} {ws' : List Int}
/-- one step on both sides: first the law's own, then the flash -/
theorem Both.go {H0 H1 H2 : Hp} (B : Both K H0 p s hl wl gs) (L : LawAt H1 hl wl gs' fss' ws') (C : Chg (LOwn hl wl gs) (LOwn hl wl gs') H0 H1) :
    FlashAt K H1 p s ∧ ((F : FlashAt K H2 p s') → (D : Chg (s.own p) (s'.own p) H1 H2) → s'.pw = true → s'.left = .non → s'.fss = fss' → s'.ws = ws' → (∀ fs ∈ fss', ∀ x ∈ fs, RecOk H0 x) → Both K H2 p s' hl wl gs') := by
  have F1 : FlashAt K H1 p s := B.F.keep fun b o h e => C.keep b o e fun z => B.dj b z h
  have d1 : ∀ b, LOwn hl wl gs' b → ¬ s.own p b := fun b h h2 => (C.new b h).elim (fun z => B.dj b z h2) fun z => B.F.there h2 z
  refine ⟨F1, fun F D hp hf e1 e2 rc => ⟨F, ?_, fun b h h2 => (D.new b h2).elim (d1 b h) fun z => L.there h z, hp, hf, fun fs h x hx => (rc fs (by rw [← e1]; exact h) x hx).mono (C.tk.trans D.tk)⟩⟩
  rw [e1, e2]
  exact L.keep fun b o h e => D.keep b o e (d1 b h)
end
theorem step_rec {H : Hp} {a : Act} {fss : List (List V)} {ws : List Int} {b g : Int} {x : V} {t : Bool} (h : ∀ fs ∈ fss, ∀ y ∈ fs, RecOk H y) (hx : t = true → RecOk H x) : ∀ fs ∈ (step a fss ws b g x t).2.1, ∀ y ∈ fs, RecOk H y := by
  unfold step
  by_cases hb : b < 0 ∨ (fss.length : Int) ≤ b
  · rw [if_pos hb]; exact h
  rw [if_neg hb]
  cases a with
  | wear => exact h
  | erase =>
    intro fs hm y hy
    rcases mem_set' hm with rfl | hm
    · cases hy
    · exact h fs hm y hy
  | read => dsimp only; split <;> exact h
  | prog =>
    dsimp only
    split
    · rename_i hc
      intro fs hm y hy
      rcases mem_set' hm with rfl | hm
      · rcases List.mem_append.mp hy with hy | hy
        · have hl : b.toNat < fss.length := by omega
          rw [getD_some (List.getElem?_eq_getElem hl)] at hy
          exact h _ (List.getElem_mem hl) y hy
        · rw [List.mem_singleton.mp hy]; exact hx hc.2.1
      · exact h fs hm y hy
    · exact h
theorem step_len {a : Act} {fss : List (List V)} {ws : List Int} {b g : Int} {x : V} {t : Bool} : (step a fss ws b g x t).2.1.length = fss.length := by
  unfold step
  split
  · rfl
  · cases a
    · dsimp only; split
      · rw [List.length_set]
      · rfl
    · dsimp only; split <;> rfl
    · dsimp only; rw [List.length_set]
    · rfl
/-- the same is told -/
theorem told_same {H0 H1 H2 : Hp} {a : Act} {fss : List (List V)} {ws : List Int} {b g : Int} {x v v' : V} {t : Bool} (h : ∀ fs ∈ fss, ∀ y ∈ fs, RecOk H0 y) (k1 : TK H0 H1) (k2 : TK H1 H2) (h1 : Told H0 H1 (step a fss ws b g x t).1 v) (h2 : Told H1 H2 (step a fss ws b g x t).1 v')
    (kp : ∀ q xs, H0 q = none → H1 q = some (.lst xs) → H2 q = some (.lst xs)) : SameV H2 v' v := by
  have val : ∀ {u : V}, (u = .non ∨ (∃ i, u = .int i) ∨ RecOk H0 u) → v = u → v' = u → SameV H2 v' v := fun {u} hu e1 e2 => by
    rw [e1, e2]
    rcases hu with rfl | ⟨i, rfl⟩ | hr
    · exact .inl ⟨rfl, rfl⟩
    · exact .inr (.inl ⟨i, rfl, rfl⟩)
    · obtain ⟨a, xs, ds, rfl, z1, z2, z3⟩ := hr.mono (k1.trans k2)
      exact .inr (.inr (.inl ⟨a, xs, ds, rfl, rfl, z1, z2, z3⟩))
  have ref : Told H0 H1 none v → Told H1 H2 none v' → SameV H2 v' v := fun ⟨q, e1, z1, z2⟩ ⟨q', e2, z3, z4⟩ => .inr (.inr (.inr ⟨q', q, e2, e1, z4, kp _ _ z1 z2⟩))
  unfold step at h1 h2
  by_cases hb : b < 0 ∨ (fss.length : Int) ≤ b
  · rw [if_pos hb] at h1 h2; exact ref h1 h2
  rw [if_neg hb] at h1 h2
  cases a with
  | wear => exact val (.inr (.inl ⟨_, rfl⟩)) h1 h2
  | erase => exact val (.inl rfl) h1 h2
  | read =>
    dsimp only at h1 h2
    split at h1
    · rename_i hc
      rw [if_pos hc] at h2
      refine val ?_ h1 h2
      have hl : b.toNat < fss.length := by omega
      rw [getD_some (List.getElem?_eq_getElem hl)]
      by_cases hg : g.toNat < (pad fss[b.toNat]).length
      · rw [getD_some (List.getElem?_eq_getElem hg)]
        have hm := List.getElem_mem hg
        unfold pad at hm
        rcases List.mem_append.mp hm with hm | hm
        · exact .inr (.inr (h _ (List.getElem_mem hl) _ hm))
        · exact .inl (List.mem_replicate.mp hm).2
      · rw [List.getD_eq_getElem?_getD, List.getElem?_eq_none (by omega)]
        exact .inl rfl
    · rename_i hc
      rw [if_neg hc] at h2
      exact ref h1 h2
  | prog =>
    dsimp only at h1 h2
    split at h1
    · rename_i hc
      rw [if_pos hc] at h2
      exact val (.inl rfl) h1 h2
    · rename_i hc
      rw [if_neg hc] at h2
      exact ref h1 h2
def sp_law (K : PySem.W.Frag) : Sp := fun vs H Q _ => ∃ (a : Addr) (ns : List Int), vs = [.ref a] ∧ SqL K H a (ns.map V.int) ∧ ns.length ≤ 63 ∧ ∀ H', Q (.bl true) H'
theorem ok_law (T : Tx fa fn ts exs w K mg) {fd : FuncData} (F : FunD K "law" "law" (defArgs s_law) (defBody s_law) (defScope s_law) [] [] (He.ga K "law") fd) : FnOk P w K mg base (L2.CX P w) 6 (He.ga K "law") fd ["_law_script"] (sp_law K) := by
  refine FunD.ok (k := 5) F sc_law (fun vs H Q E h => ?_) (fun cdv A outer s H vs Q E hr h => ?_)
  · obtain ⟨a, ns, rfl, hS, hlen, hQ⟩ := h
    rfl
  · obtain ⟨a, ns, rfl, hS, hlen, hQ⟩ := h
    have hu := hu_of hr
    refine ⟨_, (pss_cons (ps_set (i := 1) sc_law.nd rfl (Or.inl rfl) (pe_callO (ok__law_tape T) (hr.mono (by decide)) rfl (T.glo 30) (passes_call (takes_of rfl rfl rfl rfl) (fun _ _ _ _ h => h)) (pa_cons (pv 0) pa_nil)))
      (pss_cons (ps_set (i := 2) sc_law.nd rfl (Or.inl rfl) (pe_op op_add pe_int (pe_op op_mod (pe_callO (ok__law_at T) (hr.mono (by decide)) rfl (T.glo 31) (passes_call (takes_of rfl rfl rfl rfl) (fun _ _ _ _ h => h)) (pa_cons (pv 1) (pa_cons pe_int pa_nil))) pe_int)))
      (pss_cons (ps_set (i := 3) sc_law.nd rfl (Or.inl rfl) (pe_makeO (T.mkr 32) (ok_Flash___init__ T) (hr.mono (by decide)) rfl (T.glo 33) (passes_call (takes_of rfl rfl rfl rfl) (fun _ _ _ _ h => h)) (pa_cons (pv 2) pa_nil)))
      (pss_cons (ps_setLc (i := 5) (own := [(".0", 14), ("_law_block", 4)]) rfl sc_law.nd rfl rfl (sw_true rfl rfl rfl (by decide +kernel)) (pi_range1 rfl (T.free 0) (pa_cons (pv 2) pa_nil)) (blkOk_by (own := [(".0", 14), ("_law_block", 4)]) (N := ["_law_script", "_law_tape_here", "_law_blocks", "_law_flash", "_law_block", "_law_held", "_law_wears", "_law_k", "_law_number", "_law_pick", "_law_act", "_law_page", "_law_record", "_law_due_here", ".0"]) (sc := defScope s_law) (by decide +kernel)) (fun _ _ _ _ _ => (pg_name (i := 4) sc_law.nd rfl (Or.inl rfl))) (fun _ _ _ _ _ => pts_nil) (fun _ _ _ _ _ => (pe_op op_rep (pe_lst (pa_cons pe_non pa_nil)) pe_int)))
      (pss_cons (ps_set (i := 6) sc_law.nd rfl (Or.inl rfl) (pe_op op_rep (pe_lst (pa_cons pe_int pa_nil)) (pv 2)))
      (pss_cons (ps_if (PW.pt (pw_or (pt_cmpR op_ne (pe_fld (pv 3) rfl) (pv 2) (nomark _)) (pw_or1 (pt_not (pt_val (pe_callO (ok__law_image T) (hr.mono (by decide)) rfl (T.glo 34) (passes_call (takes_of rfl rfl rfl rfl) (fun _ _ _ _ h => h)) (pa_cons (pv 3) (pa_cons (pv 5) (pa_cons (pv 6) pa_nil))))))))) (pss_one (ps_ret pe_bl)) pss_nil)
      (pss_cons (ps_for (passes_of rfl) rfl (pi_range1 rfl (T.free 0) (pa_cons (pe_callB (c_min2 rfl) (by rfl) (T.free 35) (by decide +kernel) (pa_cons pe_int (pa_cons (pe_callB (c_max2 rfl) (by rfl) (T.free 36) (by decide +kernel) (pa_cons pe_int (pa_cons (pe_op op_fdiv (pe_op op_sub (pe_callB c_len (by rfl) (T.free 1) PySem.boot_len (pa_cons (pv 1) pa_nil)) pe_int) pe_int) pa_nil))) pa_nil))) pa_nil)) (pg_name (i := 7) sc_law.nd rfl (Or.inl rfl)) (pss_cons (ps_set (i := 8) sc_law.nd rfl (Or.inl rfl) (pe_callO (ok__law_at T) (hr.mono (by decide)) rfl (T.glo 31) (passes_call (takes_of rfl rfl rfl rfl) (fun _ _ _ _ h => h)) (pa_cons (pv 1) (pa_cons (pe_op op_add (pe_op op_mul pe_int (pv 7)) pe_int) pa_nil))))
      (pss_cons (ps_set (i := 9) sc_law.nd rfl (Or.inl rfl) (pe_callO (ok__law_at T) (hr.mono (by decide)) rfl (T.glo 31) (passes_call (takes_of rfl rfl rfl rfl) (fun _ _ _ _ h => h)) (pa_cons (pv 1) (pa_cons (pe_op op_add (pe_op op_mul pe_int (pv 7)) pe_int) pa_nil))))
      (pss_cons (ps_set (i := 10) sc_law.nd rfl (Or.inl rfl) (pe_ix ix_list (pe_lst (pa_cons pe_str (pa_cons pe_str (pa_cons pe_str (pa_cons pe_str (pa_cons pe_str (pa_cons pe_str (pa_cons pe_str (pa_cons pe_str pa_nil))))))))) (pe_op op_mod (pv 8) pe_int) (fun _ _ => rfl)))
      (pss_cons (ps_set (i := 4) sc_law.nd rfl (Or.inl rfl) (pe_ix ix_list (pe_lst (pa_cons pe_int (pa_cons (pe_op op_sub (pv 2) pe_int) (pa_cons pe_int (pa_cons (pe_op op_mod (pv 9) (pv 2)) (pa_cons pe_int (pa_cons (pv 2) (pa_cons (pe_un un_neg pe_int) (pa_cons (pe_op op_sub (pv 2) pe_int) pa_nil))))))))) (pe_op op_mod (pe_op op_fdiv (pv 8) pe_int) pe_int) (fun _ _ => rfl)))
      (pss_cons (ps_set (i := 11) sc_law.nd rfl (Or.inl rfl) (pe_op op_mod (pv 9) pe_int))
      (C8.pss_cut (ps_if (PW.pt (pw_and (pt_cmpR op_gt (pe_op op_mod (pe_op op_fdiv (pv 8) pe_int) pe_int) pe_int (nomark _)) (pw_and1 (pt_chain op_le op_lt pe_int (pv 4) (pv 2))))) (pss_one (ps_set (i := 11) sc_law.nd rfl (Or.inl rfl) (pe_callO (ok__law_next T) (hr.mono (by decide)) rfl (T.glo 15) (passes_call (takes_of rfl rfl rfl rfl) (fun _ _ _ _ h => h)) (pa_cons (pe_ix ix_list (pv 5) (pv 4) (fun _ _ => rfl)) pa_nil)))) pss_nil)
      (C8.pss_cut (ps_if (pt_cmpR op_eq (pe_op op_mod (pv 9) pe_int) pe_int (nomark _)) (pss_one (ps_set (i := 11) sc_law.nd rfl (Or.inl rfl) (pe_ix ix_list (pe_lst (pa_cons (pe_un un_neg pe_int) (pa_cons pe_int (pa_cons pe_int pa_nil)))) (pe_op op_mod (pe_op op_fdiv (pv 9) pe_int) pe_int) (fun _ _ => rfl)))) pss_nil)
      (pss_cons (ps_set (i := 12) sc_law.nd rfl (Or.inl rfl) (pe_ix ix_list (pe_lst (pa_cons (pe_tup (pa_cons (pv 9) (pa_cons (pv 7) pa_nil))) (pa_cons (pe_tup (pa_cons (pv 7) pa_nil)) (pa_cons (pe_tup pa_nil) (pa_cons pe_str (pa_cons (pe_lst (pa_cons (pv 7) pa_nil)) (pa_cons pe_non pa_nil))))))) (pe_callB (c_max2 rfl) (by rfl) (T.free 36) (by decide +kernel) (pa_cons pe_int (pa_cons (pe_op op_sub (pe_op op_mod (pe_op op_fdiv (pv 9) pe_int) pe_int) pe_int) pa_nil))) (fun _ _ => rfl)))
      (pss_cons (ps_set (i := 13) sc_law.nd rfl (Or.inl rfl) (pe_callO (ok__law_due T) (hr.mono (by decide)) rfl (T.glo 37) (passes_call (takes_of rfl rfl rfl rfl) (fun _ _ _ _ h => h)) (pa_cons (pv 5) (pa_cons (pv 6) (pa_cons (pv 10) (pa_cons (pv 4) (pa_cons (pv 11) (pa_cons (pv 12) pa_nil))))))))
      (pss_one (ps_if (pt_not (pt_val (pe_callO (ok__law_same T) (hr.mono (by decide)) rfl (T.glo 38) (passes_call (takes_of rfl rfl rfl rfl) (fun _ _ _ _ h => h)) (pa_cons (pe_callO (ok__law_do T) (hr.mono (by decide)) rfl (T.glo 39) (passes_call (takes_of rfl rfl rfl rfl) (fun _ _ _ _ h => h)) (pa_cons (pv 3) (pa_cons (pv 10) (pa_cons (pv 4) (pa_cons (pv 11) (pa_cons (pv 12) pa_nil)))))) (pa_cons (pv 13) pa_nil))))) (pss_one (ps_ret pe_bl)) pss_nil))))))))))))
      (pss_one (ps_ret (pe_callO (ok__law_image T) (hr.mono (by decide)) rfl (T.glo 34) (passes_call (takes_of rfl rfl rfl rfl) (fun _ _ _ _ h => h)) (pa_cons (pv 3) (pa_cons (pv 5) (pa_cons (pv 6) pa_nil))))))))))))), ?_⟩
    refine w_start (σ' := [some _, none, none, none, none, none, none, none, none, none, none, none, none, none, none]) rfl ?_
    walk_at "w0"
    walk_at "w"
    refine ⟨a, ns, rfl, hS, hlen, fun tp ts ntp hT hTl => ?_⟩
    have htp : (upd H tp (.lst (ts.map V.int))) tp = some (.lst (ts.map V.int)) := upd_same
    walk_at "w"
    refine ⟨tp, ts, 0, rfl, htp, hT, by decide, fun v0 hv0 hv1 => ?_⟩
    walk_at "w"
    have s00 : Same H (upd H tp (.lst (ts.map V.int))) := same_new ntp
    generalize hH0 : upd H tp (.lst (ts.map V.int)) = H0 at htp s00 ⊢
    intro p dx np ndx ne
    have hb : 8 ≤ 8 + v0 % 17 ∧ 8 + v0 % 17 ≤ 24 := by omega
    generalize 8 + v0 % 17 = nv at hb ⊢
    refine ⟨p, dx, nv, rfl, upd_same, hb, fun H1 s e1 e2 e3 e4 e5 F kp fr => ⟨rfl, ?_⟩⟩
    subst e1
    have s01 : Same H0 H1 := fun b o e => kp b o (at_ne (ne_of_none e np) (at_new ndx e)) (ne_of_none e np)
    have otp : ¬ s.own p tp := fun h => (fr tp h).elim (ne_of_none htp np) fun z => by
      have := at_ne (o' := HO.ins (He.ga K "Flash") dx []) (ne_of_none htp np) (at_new (o' := HO.own p) ndx htp)
      rw [z] at this; cases this
    walk_at "w"
    refine comp_range (fun D i H' => NewRows H1 D i H') (fun D hD => NewRows.start hD) ?_ ?_
    · intro D i H2 hD hi N
      obtain ⟨acc, hac, hal⟩ := N.acc
      have hi : i < s.n := hi
      walk_at "w"
      intro q0 n0
      walk_at "w"
      intro q n1
      have ha2 := at_new (o' := HO.lst (List.replicate (8 : Int).toNat [V.non]).flatten) n1 (at_new (o' := HO.lst [.non]) n0 hac)
      walk_at "w"
      have e := N.step hD n0 n1 hac
      rw [flat1]
      exact e
    · intro D H2 hD N
      have s12 := N.choose_spec.2.2.2.2
      obtain ⟨qs, G, hql, hqn⟩ := N.grid
      walk_at "w"
      intro w0 nw0
      walk_at "w"
      intro wl nwl
      obtain ⟨wlw, nwl'⟩ := none1 nwl
      rw [flat1]
      have s23 : Same H2 (upd (upd H2 w0 (.lst [.int 0])) wl (.lst (List.replicate (s.n : Int).toNat (V.int 0)))) := fun b o e => at_new nwl (at_new nw0 e)
      have hwl : (upd (upd H2 w0 (.lst [.int 0])) wl (.lst (List.replicate (s.n : Int).toNat (V.int 0)))) wl = some (.lst (List.replicate s.n (V.int 0))) := upd_same
      generalize hH3 : upd (upd H2 w0 (.lst [.int 0])) wl (.lst (List.replicate (s.n : Int).toNat (V.int 0))) = H3 at s23 hwl ⊢
      have B : Both K H3 p s D wl qs := by
        refine ⟨F.same (s12.trans s23), ⟨by rw [e2]; exact G.keep fun b o _ e => s23 b o e, by rw [e3, List.map_replicate]; exact hwl, by rw [e2, e3]; simp, Ne.symm (ne_of_none G.lst nwl'), fun hm => ?_⟩, fun b h => ?_, e5, e4, fun fs hf x hx => ?_⟩
        · have := (G.row _ _ (List.getElem?_eq_getElem (List.mem_iff_getElem.mp hm).choose_spec.choose))
          obtain ⟨fs, _, h5⟩ := this
          rw [(List.mem_iff_getElem.mp hm).choose_spec.choose_spec, nwl'] at h5; cases h5
        · intro h2
          rcases h with h | h | h
          · exact F.there h2 (by rw [h]; exact s12.free nwl')
          · exact F.there h2 (by rw [h]; exact hD)
          · exact F.there h2 (hqn b h)
        · rw [e2] at hf
          rw [(List.mem_replicate.mp hf).2] at hx; cases hx
      have otl : ¬ LOwn D wl qs tp := fun h => by
        have z := s01 _ _ htp
        rcases h with h | h | h
        · rw [h, s12.free nwl'] at z; cases z
        · rw [h, hD] at z; cases z
        · rw [hqn tp h] at z; cases z
      have htp3 : H3 tp = some (.lst (ts.map V.int)) := s23 _ _ (s12 _ _ (s01 _ _ htp))
      have hobj := B.F.obj
      walk_at "w"
      refine w_ifF (by simp) ?_
      walk_at "w"
      refine ⟨p, D, wl, s, qs, rfl, B, fun H4 s34 => ?_⟩
      have B4 := B.same s34
      have htp4 := s34 _ _ htp3
      walk_at "w"
      have b8 := B4.F.b8
      refine loop_range (fun i σ H' => ∃ (s' : FlV) (gs' : List Addr) (v4 v7 v8 v9 v10 v11 v12 v13 : Option V), σ = [some (.ref a), some (.ref tp), some (.int s.n), some (.ref p), v4, some (.ref D), some (.ref wl), v7, v8, v9, v10, v11, v12, v13, none] ∧ Both K H' p s' D wl gs' ∧ s'.n = s.n ∧ H' tp = some (.lst (ts.map V.int)) ∧ ¬ s'.own p tp ∧ ¬ LOwn D wl gs' tp)
        ⟨s, qs, none, none, none, none, none, none, none, none, rfl, B4, rfl, htp4, otp, otl⟩ ?_ ?_
      · rintro i σ H5 hi ⟨s', gs', v4, v7, v8, v9, v10, v11, v12, v13, rfl, B5, en, h5, o1, o2⟩
        have hi60 : i < 60 := by
          revert hi
          generalize (if (0 : Int) < (((ts.map V.int).length : Int) - 1) / 2 then (((ts.map V.int).length : Int) - 1) / 2 else 0) = m
          intro hi
          split at hi <;> omega
        walk_at "w"
        refine ⟨tp, ts, _, rfl, h5, hT, by omega, fun x hx0 hx1 => ?_⟩
        walk_at "w"
        refine ⟨tp, ts, _, rfl, h5, hT, by omega, fun y hy0 hy1 => ?_⟩
        walk_at "w"
        intro q1 n1
        walk_at "w"
        obtain ⟨act, hact⟩ : ∃ act : Act, atI [V.str "program", V.str "program", V.str "program", V.str "program", V.str "read", V.str "read", V.str "erase", V.str "wear"] (x % 8) = some (.str act.s) := by
          have h8 : x % 8 = 0 ∨ x % 8 = 1 ∨ x % 8 = 2 ∨ x % 8 = 3 ∨ x % 8 = 4 ∨ x % 8 = 5 ∨ x % 8 = 6 ∨ x % 8 = 7 := by omega
          rcases h8 with h | h | h | h | h | h | h | h <;> rw [h]
          · exact ⟨.prog, rfl⟩
          · exact ⟨.prog, rfl⟩
          · exact ⟨.prog, rfl⟩
          · exact ⟨.prog, rfl⟩
          · exact ⟨.read, rfl⟩
          · exact ⟨.read, rfl⟩
          · exact ⟨.erase, rfl⟩
          · exact ⟨.wear, rfl⟩
        refine w_ixL upd_same hact ?_
        walk_at "w"
        intro q2 n2
        walk_at "w"
        obtain ⟨b, hbx, _⟩ := ints_mod (xs := [0, (s.n : Int) - 1, 0, y % (s.n : Int), 0, (s.n : Int), -1, (s.n : Int) - 1]) (m := 8) (x / 8) rfl (by simp)
        refine w_ixL upd_same hbx ?_
        have s6 := (same_new n1).trans (same_new (o := .lst [.int 0, .int ((s.n : Int) - 1), .int 0, .int (y % (s.n : Int)), .int 0, .int (s.n : Int), .int (-1), .int ((s.n : Int) - 1)]) n2)
        generalize hH6 : upd (upd H5 q1 _) q2 _ = H6 at s6 ⊢
        have B6 := B5.same s6
        have h6 := s6 _ _ h5
        have g6 := B6.L.gr.lst
        walk_at "w"
        refine w_cut (fun σ H => ∃ g : Int, σ = [some (.ref a), some (.ref tp), some (.int s.n), some (.ref p), some (.int b), some (.ref D), some (.ref wl), some (.int (0 + i)), some (.int x), some (.int y), some (.str act.s), some (.int g), v12, v13, none] ∧ H = H6) ?_ ?_
        · walk_at "w"
          walk_at "if"
          · intro c1
            walk_at "w"
            walk_at "if"
            · intro c2
              walk_at "w"
              walk_at "if"
              · intro c3
                obtain ⟨r, fs, hr1, hf, h4, R⟩ := B6.L.gr.at (i := b.toNat) (by have := B6.F.ln; omega)
                walk_at "w"
                refine w_ixL g6 (v := .ref r) (atI_of c2 (by rw [List.getElem?_map, hr1]; rfl)) ?_
                walk_at "w"
                refine ⟨r, fs, rfl, h4, R, ?_⟩
                walk_at "w"
                exact ⟨_, rfl, rfl⟩
              · intro c3
                walk_at "w"
                exact ⟨_, rfl, rfl⟩
            · intro c2
              walk_at "w"
              exact ⟨_, rfl, rfl⟩
          · intro c1
            walk_at "w"
            exact ⟨_, rfl, rfl⟩
        · rintro σ H ⟨g, rfl, rfl⟩
          walk_at "w"
          refine w_cut (fun σ H' => ∃ g : Int, σ = [some (.ref a), some (.ref tp), some (.int s.n), some (.ref p), some (.int b), some (.ref D), some (.ref wl), some (.int (0 + i)), some (.int x), some (.int y), some (.str act.s), some (.int g), v12, v13, none] ∧ Same H H') ?_ ?_
          · walk_at "w"
            walk_at "if"
            · intro c1
              walk_at "w"
              intro q3 n3
              walk_at "w"
              obtain ⟨g2, hg2, _⟩ := ints_mod (xs := [-1, 8, 9]) (m := 3) (y / 13) rfl (by decide)
              refine w_ixL upd_same hg2 ?_
              walk_at "w"
              exact ⟨_, rfl, same_new n3⟩
            · intro c1
              walk_at "w"
              exact ⟨_, rfl, fun _ _ e => e⟩
          · rintro σ H7 ⟨g2, rfl, s7⟩
            have B7 := B6.same s7
            have h7 := s7 _ _ h6
            walk_at "w"
            intro t1 nt1
            walk_at "w"
            intro t2 nt2
            walk_at "w"
            intro t3 nt3
            walk_at "w"
            intro t4 nt4
            walk_at "w"
            intro t5 nt5
            walk_at "w"
            have f1 := nt1
            obtain ⟨_, f2⟩ := none1 nt2
            obtain ⟨_, _, f3⟩ := none2 nt3
            obtain ⟨_, _, _, f4⟩ := none3 nt4
            have e1 : upd (upd (upd (upd (upd H7 t1 (.tup [.int y, .int (0 + i)])) t2 (.tup [.int (0 + i)])) t3 (.tup [])) t4 (.lst [.int (0 + i)])) t5 (.lst [.ref t1, .ref t2, .ref t3, .str "torn", .ref t4, .non]) t1 = some (.tup [.int y, .int (0 + i)]) := at_new nt5 (at_new nt4 (at_new nt3 (at_new nt2 upd_same)))
            have e2 : upd (upd (upd (upd (upd H7 t1 (.tup [.int y, .int (0 + i)])) t2 (.tup [.int (0 + i)])) t3 (.tup [])) t4 (.lst [.int (0 + i)])) t5 (.lst [.ref t1, .ref t2, .ref t3, .str "torn", .ref t4, .non]) t2 = some (.tup [.int (0 + i)]) := at_new nt5 (at_new nt4 (at_new nt3 upd_same))
            have e3 : upd (upd (upd (upd (upd H7 t1 (.tup [.int y, .int (0 + i)])) t2 (.tup [.int (0 + i)])) t3 (.tup [])) t4 (.lst [.int (0 + i)])) t5 (.lst [.ref t1, .ref t2, .ref t3, .str "torn", .ref t4, .non]) t3 = some (.tup []) := at_new nt5 (at_new nt4 upd_same)
            have e4 : upd (upd (upd (upd (upd H7 t1 (.tup [.int y, .int (0 + i)])) t2 (.tup [.int (0 + i)])) t3 (.tup [])) t4 (.lst [.int (0 + i)])) t5 (.lst [.ref t1, .ref t2, .ref t3, .str "torn", .ref t4, .non]) t4 = some (.lst [.int (0 + i)]) := at_new nt5 upd_same
            have e5 : upd (upd (upd (upd (upd H7 t1 (.tup [.int y, .int (0 + i)])) t2 (.tup [.int (0 + i)])) t3 (.tup [])) t4 (.lst [.int (0 + i)])) t5 (.lst [.ref t1, .ref t2, .ref t3, .str "torn", .ref t4, .non]) t5 = some (.lst [.ref t1, .ref t2, .ref t3, .str "torn", .ref t4, .non]) := upd_same
            have s8 : Same H7 (upd (upd (upd (upd (upd H7 t1 (.tup [.int y, .int (0 + i)])) t2 (.tup [.int (0 + i)])) t3 (.tup [])) t4 (.lst [.int (0 + i)])) t5 (.lst [.ref t1, .ref t2, .ref t3, .str "torn", .ref t4, .non])) := (same_new nt1).trans ((same_new nt2).trans ((same_new nt3).trans ((same_new nt4).trans (same_new nt5))))
            generalize hH8 : upd (upd (upd (upd (upd H7 t1 (.tup [.int y, .int (0 + i)])) t2 (.tup [.int (0 + i)])) t3 (.tup [])) t4 (.lst [.int (0 + i)])) t5 (.lst [.ref t1, .ref t2, .ref t3, .str "torn", .ref t4, .non]) = H8 at e1 e2 e3 e4 e5 s8 ⊢
            have B8 := B7.same s8
            have h8 := s8 _ _ h7
            generalize hz : (if y / 7 % 12 - 6 > 0 then y / 7 % 12 - 6 else 0) = z
            have hz' : z = 0 ∨ z = 1 ∨ z = 2 ∨ z = 3 ∨ z = 4 ∨ z = 5 := by split at hz <;> omega
            obtain ⟨rec, tb, hrec, hk, hok, hfr⟩ : ∃ rec tb, atI [V.ref t1, .ref t2, .ref t3, .str "torn", .ref t4, .non] z = some rec ∧ RecK H8 rec tb ∧ (tb = true → RecOk H8 rec) ∧ (∀ a, rec = .ref a → H7 a = none) := by
              rcases hz' with rfl | rfl | rfl | rfl | rfl | rfl
              · exact ⟨.ref t1, true, rfl, .inl ⟨rfl, t1, _, rfl, e1⟩, fun _ => ⟨t1, _, _, rfl, e1, .cons (.int _) (.cons (.int _) .nil), by simp [PyData.depthAll, PyData.depth]⟩, fun a e => by cases e; exact f1⟩
              · exact ⟨.ref t2, true, rfl, .inl ⟨rfl, t2, _, rfl, e2⟩, fun _ => ⟨t2, _, _, rfl, e2, .cons (.int _) .nil, by simp [PyData.depthAll, PyData.depth]⟩, fun a e => by cases e; exact f2⟩
              · exact ⟨.ref t3, true, rfl, .inl ⟨rfl, t3, _, rfl, e3⟩, fun _ => ⟨t3, _, _, rfl, e3, .nil, by simp [PyData.depthAll]⟩, fun a e => by cases e; exact f3⟩
              · exact ⟨.str "torn", false, rfl, .inr ⟨rfl, .inl ⟨_, rfl⟩⟩, nofun, fun a e => by cases e⟩
              · exact ⟨.ref t4, false, rfl, .inr ⟨rfl, .inr (.inr ⟨t4, _, rfl, e4⟩)⟩, nofun, fun a e => by cases e; exact f4⟩
              · exact ⟨.non, false, rfl, .inr ⟨rfl, .inr (.inl rfl)⟩, nofun, fun a e => by cases e⟩
            refine w_ixL e5 hrec ?_
            walk_at "w"
            refine ⟨D, wl, gs', s'.fss, s'.ws, act, b, g2, rec, tb, rfl, B8.L, hk, fun H9 gs2 v L9 C9 T9 => ?_⟩
            have go := fun (H2 : Hp) (s2 : FlV) => B8.go (H2 := H2) (s' := s2) L9 C9
            have F9 := (go H9 s').1
            have kp9 : ∀ a o, rec = .ref a → H8 a = some o → H9 a = some o := fun a o e h => C9.keep a o h fun z => B7.L.there z (hfr a e)
            have hk9 : RecK H9 rec tb := by
              rcases hk with ⟨e, a, xs, rfl, h⟩ | ⟨e, h | h | ⟨a, xs, rfl, h⟩⟩
              · exact .inl ⟨e, a, xs, rfl, kp9 a _ rfl h⟩
              · exact .inr ⟨e, .inl h⟩
              · exact .inr ⟨e, .inr (.inl h)⟩
              · exact .inr ⟨e, .inr (.inr ⟨a, xs, rfl, kp9 a _ rfl h⟩)⟩
            walk_at "w"
            have hobj9 := F9.obj
            walk_at "w"
            refine ⟨p, s', act, b, g2, rec, tb, rfl, F9, B8.pw, B8.lf, hk9, fun H10 s2 v2 p1 p2 p3 p4 p5 F10 C10 T10 => ?_⟩
            have B10 := (go H10 s2).2 F10 C10 p1 p2 p4 p5 (step_rec B8.rc hok)
            have h9 := C9.keep tp _ h8 o2
            walk_at "w"
            refine ⟨v2, v, rfl, told_same B8.rc C9.tk C10.tk T9 T10 (fun q xs z1 z2 => C10.keep q _ z2 fun z => B8.F.there z z1), ?_⟩
            walk_at "w"
            exact ⟨s2, gs2, _, _, _, _, _, _, _, _, rfl, B10, p3.trans en, C10.keep tp _ h9 o1, fun h => (C10.new tp h).elim o1 fun z => (by rw [h9] at z; cases z), fun h => (C9.new tp h).elim o2 fun z => (by rw [h8] at z; cases z)⟩
      · rintro σ H5 ⟨s', gs', v4, v7, v8, v9, v10, v11, v12, v13, rfl, B5, en, h5, o1, o2⟩
        walk_at "w"
        exact ⟨p, D, wl, s', gs', rfl, B5, fun H6 _ => hQ H6⟩
end
abbrev R : PySem.W.OpenRow := PySem.W.OpenLaw.row PySem.Challenge.rw_spindlegate_k01_flash
abbrev hk : PySem.W.Hook := He.hookX 5 fa fn ts [] exA
def ob (s : PySem.W.SharedT) : He.AlX := He.obsX 5 fa fn ts [] exA (HandSHeadRun.getT s)
theorem ob_eq (s : PySem.W.SharedT) : ob s = hk.obs s.abs := He.obsX_eq (HandSHeadRun.getT_eq s)
theorem run (w : World) : HandSHeadRun.RunEq R (PySem.W.view R.prog [20]) hk ob 2000 ["_wall", "SpindleError", "NotValid", "PowerOff", "PAGES", "MIN_BLOCKS", "MAX_BLOCKS", "is_between", "next_page", "Flash", "_law_tape", "_law_at", "_law_do", "_law_next", "_law_due", "_law_same", "_law_image"] w := by
  intro os
  kernel_rfl
theorem facts {P : Program} {w : World} {K : PySem.W.Frag} {h : Heap} {mg : Str → Option Value} {f : Addr} (X : K.In h) (G : h.Ns mainGlobals mg) (hfa : mg ("law" : Str) = some (.ref f)) (c : He.SaysX fa fn ts [] exA w h K) :
    ∃ fd : FuncData, (∀ (s : Shared) (v : Value), BindsTo s fd ⟨[v], []⟩ [("_law_script", v)]) ∧ ∀ base : Heap, K.In base → base.Ns mainGlobals mg → FnOk P w K mg base (L2.CX P w) 6 f fd ["_law_script"] (sp_law K) := by
  obtain ⟨fd, F⟩ := c.t.d.def_ 19 (d := d_law) rfl
  have e := hfa.symm.trans (He.glo_ok X G (c.t.d.fact 47 (f := .glo "law") rfl))
  cases e
  have b := FunD.bindsA (ps := ["_law_script"]) F fun _ _ _ _ _ _ us hl => match us, hl with | [_], _ => rfl
  exact ⟨fd, fun s v => b s [v] rfl, fun base _ _ => ok_law ⟨⟨h, X, G⟩, c.t, c.more⟩ F⟩
end K01
open PySem PySem.W PySem.Calls PyProof.Rows
set_option maxRecDepth 100000 in
set_option maxHeartbeats 0 in
theorem PySem.Challenge.cw_spindlegate_k01_flash_holds : PySem.Challenge.rw_spindlegate_k01_flash.Holds := by
  w_on; o_law
  refine HandSHeadRun.head_any (r := OpenLaw.row PySem.Challenge.rw_spindlegate_k01_flash) (q := view (OpenLaw.row PySem.Challenge.rw_spindlegate_k01_flash).prog [20]) (H := K01.hk) (ob := K01.ob) (M := 2000) (loose := ["_wall", "SpindleError", "NotValid", "PowerOff", "PAGES", "MIN_BLOCKS", "MAX_BLOCKS", "is_between", "next_page", "Flash", "_law_tape", "_law_at", "_law_do", "_law_next", "_law_due", "_law_same", "_law_image"]) (d := HandSHeadRun.topDef (OpenLaw.row PySem.Challenge.rw_spindlegate_k01_flash).prog 20) (kwd := []) K01.ob_eq
    (by kernel_rfl) (fun s => by kernel_rfl) K01.run (by kernel_rfl) (by kernel_rfl) (by kernel_rfl) (by rfl) (by first | assumption | decide +kernel) (by decide +kernel) ⟨rfl, rfl, rfl, rfl, rfl, by decide +kernel⟩ ?hw ?hc
  case hw => w_witness2
  case hc =>
    refine Sp.walk_ofW (l := PySem.Challenge.rw_spindlegate_k01_flash) (n := 63) (k := 6) (x := "_law_script") rfl (by decide) (by kernel_rfl) ⟨rfl, by decide, by decide⟩ ?F
    intro w mg fa h Y G hmg0
    obtain ⟨K, KX, c⟩ := Y
    have hmg : mg ("law" : PySem.Str) = some (.ref fa) := by
      have e : (HandSHeadRun.topDef (OpenLaw.row PySem.Challenge.rw_spindlegate_k01_flash).prog 20).name = ("law" : PySem.Str) := by kernel_rfl
      rw [← e]
      exact hmg0
    obtain ⟨fd, hb, hF⟩ := K01.facts (P := (PySem.Challenge.rw_spindlegate_k01_flash).prog) (w := w) KX G hmg c
    exact ⟨K, fd, K01.sp_law K, KX, hb, fun H a ns hl _ hS => ⟨a, ns, rfl, hS, hl, fun _ => rfl⟩, hF⟩

