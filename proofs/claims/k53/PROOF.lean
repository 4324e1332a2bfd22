import PyProof.Rows.All
import Wide.All
import OpenK.AllK
import Wide.FinOn
import KE.KStateDown
import HandS.ForMost
import HandS.Exc
import HandS.Defaults
import HandS.Codes
import HandS.Property
import HandS.IsInst
import HandS.More
import HandS.NoneIn
import HandS.Deep
import HandS.Flow
import HandS.Style
import HandS.TupLen
import HandS.SetKeys
import HandS.DictComp
import HandS.Conv
import HandS.Zip
import HandS.Star
import HandS.Walk
import HandS.Strs
import HandS.GenList
import HandS.ClsMeth
import HandS.Head0
import HandS.Head1
import HandS.Head2
import HandS.HeadEnd
import HandS.HeadHook1
import HandS.HeadHook2
import HandS.HeadHook3
import KE.KOpsOwn
import PyProof.StrBlock2
import HandS.SlotsOwn
import HandS.TupSets
import PyProof.SliceStr2
import PyProof.SeqIndex
import KE.KIndexOf
import KE.KRevSl
import KE.KDictWalk
import PyProof.SumWalkG
import PyProof.ZipIter
import KE.KDictZip
import KE.KDictList
import KE.KTurns
import HandS.GenBody
import HandS.GenYield
import HandS.GenCall
import KE.KDictPairs
import KE.KDictKeyed
import HandS.SetFor
import PySem.Challenge.RW_loopwalks_k53_whole_simple_outlines
set_option Elab.async false
set_option linter.all false
set_option maxRecDepth 100000
set_option maxHeartbeats 4000000
namespace K53
open PySem PySem.Spec PyProof.Rows L2
open C8 (fnScope_by pe_mk pe_mt pe_mt0 InsC)
open SX (S)
/-! ### defs by their promises -/
abbrev Cal (P : Program) (w : World) (K : PySem.W.Frag) (mg : Str → Option Value) (base : Heap) (k : Nat) (x : Str) (sp : Sp) : Prop := C8.Cal P w K mg base k x sp []
abbrev Met (P : Program) (w : World) (K : PySem.W.Frag) (mg : Str → Option Value) (base : Heap) (k : Nat) (C : Addr) (m : Str) (sp : Sp) : Prop := C8.Met P w K mg base k C m sp []
abbrev Mak (P : Program) (w : World) (K : PySem.W.Frag) (mg : Str → Option Value) (base : Heap) (k : Nat) (x : Str) (C : Addr) (sp : Sp) : Prop := C8.Mak P w K mg base k x C sp []
/-- a property of the class at C -/
structure Prp (P : Program) (w : World) (K : PySem.W.Frag) (mg : Str → Option Value) (base : Heap) (k : Nat) (C : Addr) (m : Str) (sp : Sp) : Prop where
  ex : ∃ (p f : Addr) (fd : FuncData) (ps : List Str), Cls K C ∧ PropOf K C m p f ∧ FnOk P w K mg base CX0 k f fd ps sp ∧ Binds K fd ps []
theorem metGet {P : Program} {w : World} {K : PySem.W.Frag} {mg : Str → Option Value} {base : Heap} {k : Nat} {C : Addr} {m : Str} {sp : Sp} (c : Met P w K mg base k C m sp) :
    ∃ (f : Addr) (fd : FuncData) (ps : List Str), Cls K C ∧ Meth K C m f ∧ FnOk P w K mg base CX0 k f fd ps sp ∧ Binds K fd ps [] := by
  obtain ⟨f, fd, ps, ds, cl, me, F, b, d⟩ := c.ex
  cases d
  exact ⟨f, fd, ps, cl, me, F, b⟩
section
variable {X : Cx} {k j : Nat} {C : Addr} {m : Str} {sp : Sp} {pos : Pos} {o : Expr} {ta : TE}
theorem pe_pr (c : Prp X.prog X.w X.K X.mg X.base k C m sp) (hr : Room j X.A) (hk : k + 1 ≤ j) (he : PE X o ta)
    (hab : attributeBase o m X.env (eval o X.env) = eval o X.env := by rfl) : PE X (.Attribute o m pos) (tProp C sp [] E0 ta) := by
  obtain ⟨p, f, fd, ps, hc, hp, F, b⟩ := c.ex
  exact pe_prop he hc hp F (hr.mono hk) b .nil pass0 hab
end
/-- the i-th statement of the top -/
def top (i : Nat) : Stmt := PySem.Challenge.pw_loopwalks_k53_whole_simple_outlines.main.body.getD i (.Pass ⟨0, 0, 0, 0⟩)
/-- the def of the top's i-th statement stands under its name -/
structure DefT (K : PySem.W.Frag) (mg : Str → Option Value) (i : Nat) (x : Str) : Prop where
  ex : ∃ (f : Addr) (fd : FuncData), FunD K x x (L2.defArgs (top i)) (L2.defBody (top i)) (L2.defScope (top i)) [] [] f fd ∧ mg x = some (.ref f)
section
variable {P : Program} {w : World} {K : PySem.W.Frag} {mg : Str → Option Value} {base : Heap}
theorem calT {i : Nat} {x : Str} {N ps : List Str} {k : Nat} {sp : Sp} (D : DefT K mg i x) (S : FnScope N ps (L2.defScope (top i))) (len : ∀ vs H Q E, sp vs H Q E → vs.length = ps.length)
    (hb : ∀ (kV doc pm : Value) (an : Option Addr) (cdv ct : Value) (us : List Value), us.length = ps.length → bindArgs (PySem.W.fnOf x x (L2.defArgs (top i)) (L2.defBody (top i)) (L2.defScope (top i)) .none kV doc pm an cdv ct) ⟨us, []⟩ = pure (ps.zip us))
    (hbody : ∀ (f : Addr) (cdv : Value) (A : Around) (outer : List Env) (s : Shared) (H : Hp) (vs : List V) (Q : VK) (E : XK), Room k (A.deeper (envOfC x (L2.defScope (top i)) s.heap.objs.size f cdv)) → sp vs H Q E →
      ∃ t, PSs (cxOf CX0 P w K mg base N x (L2.defScope (top i)) f cdv A outer s H E).nox (L2.defBody (top i)) t ∧ t { nx := fun _ H' => Q .non H', rt := Q } (start N vs) H) : Cal P w K mg base (k + 1) x sp := by
  obtain ⟨f, fd, F, hm⟩ := D.ex
  refine ⟨f, fd, ps, [], F.ok S len (fun cdv A outer s H vs Q E hr h => ?_), hm, F.kp, F.bindsN hb, .nil⟩
  obtain ⟨t, h1, h2⟩ := hbody f cdv A outer s H vs Q E hr h
  exact ⟨t, h1.nox, h2⟩
/-- a place -/
def pl (p : Int × Int) : List V := [.int p.1, .int p.2]
/-- added(one, other) -/
def spAdded (K : PySem.W.Frag) : Sp := fun vs H Q _ => ∃ (a b : Addr) (p q : Int × Int), vs = [.ref a, .ref b] ∧ SqT K H a (pl p) ∧ SqT K H b (pl q) ∧ ∀ t, H t = none → Q (.ref t) (upd H t (.tup (pl (p.1 + q.1, p.2 + q.2))))
theorem sc_added : FnScope ["one", "other"] ["one", "other"] (L2.defScope (top 27)) := fnScope_by (by decide +kernel)
theorem c_added (D : DefT K mg 27 "added") : Cal P w K mg base 1 "added" (spAdded K) := by
  refine calT D sc_added (fun vs H Q E h => ?_) (fun _ _ _ _ _ _ us hl => match us, hl with | [_, _], _ => rfl) (fun f cdv A outer s H vs Q E hr h => ?_)
  · obtain ⟨a, b, p, q, rfl, _⟩ := h
    rfl
  · obtain ⟨a, b, p, q, rfl, ha, hb, k⟩ := h
    refine ⟨_, (pss_one (ps_ret (pe_tup (pa_cons (pe_op op_add (pe_ix ix_tup (pv 0) pe_int (fun _ _ => rfl)) (pe_ix ix_tup (pv 1) pe_int (fun _ _ => rfl))) (pa_cons (pe_op op_add (pe_ix ix_tup (pv 0) pe_int (fun _ _ => rfl)) (pe_ix ix_tup (pv 1) pe_int (fun _ _ => rfl))) pa_nil))))), ?_⟩
    exact ⟨_, rfl, _, _, _, _, rfl, rfl, ha, atI_nat (j := 0) rfl, _, rfl, _, _, _, _, rfl, rfl, hb, atI_nat (j := 0) rfl, _, _, rfl, rfl, _, rfl, _, _, _, _, rfl, rfl, ha, atI_nat (j := 1) rfl, _, rfl, _, _, _, _, rfl, rfl, hb, atI_nat (j := 1) rfl, _, _, rfl, rfl, (small64 (n := 2) (by decide)), k⟩
end
/-! ### the classes and the signs of the text -/
/-- the j-th statement of the class at the top's c-th -/
abbrev icl (c j : Nat) : Stmt := L2.inClass (top c) j
abbrev FunT (K : PySem.W.Frag) (m qual : Str) (st : Stmt) (f : Addr) (fd : FuncData) : Prop := FunD K m qual (L2.defArgs st) (L2.defBody st) (L2.defScope st) [] [] f fd
def okC (c : Nat) : Prop := c = 70 ∨ c = 66 ∨ c = 76 ∨ c = 82
instance (c : Nat) : Decidable (okC c) := by unfold okC; infer_instance
def inv1 (c : Nat) : Nat := if c = 70 then 66 else if c = 66 then 70 else if c = 76 then 82 else 76
def mir1 (c : Nat) : Nat := if c = 70 then 70 else if c = 66 then 66 else if c = 76 then 82 else 76
def chg (c : Nat) : Int := if c = 76 then 1 else if c = 82 then -1 else 0
abbrev sgn (c : Nat) : Str := ⟨#[c]⟩
end K53
set_option maxHeartbeats 4000000
namespace K53
open PySem PySem.Spec PyProof.Rows L2
/-! ### the head: what is looked at -/
abbrev Fg := PySem.W.Frag
def isPr : Value → Bool
  | .type n => n == "property"
  | _ => false
/-- what an object leads to -/
def nxt (o : Obj) : List Addr := match o.data with
  | .func fd => He.refV fd.code
  | .cls cd => [cd.ns]
  | .dict es _ => es.toList.flatMap fun e => He.refV e.val
  | .seq its _ => its.toList.flatMap He.refV
  | .fields vs => if isPr o.cls then vs.toList.flatMap He.refV else []
  | _ => []
def nxs (g : Addr → Option Obj) (as : List Addr) : List Addr := as.flatMap fun a => ((g a).map nxt).getD []
def lvl (g : Addr → Option Obj) : Nat → List Addr → List Addr
  | 0, as => as
  | n + 1, as => as ++ lvl g n (nxs g as)
def kOf (xs : List Str) (g : Addr → Option Obj) : Fg := He.frG g (mainGlobals :: PySem.cStatics :: lvl g 4 (xs.map (He.ga (He.frG g [mainGlobals]))))
theorem kOf_in {xs : List Str} {h : Heap} : (kOf xs h.get?).In h := He.frG_in
/-- a property's getter -/
def pAd (K : Fg) (C m : Str) : Addr := match PySem.W.recIn K (He.ma K (He.ga K C) m) "property" with
  | some (.ref g :: _) => g
  | _ => 0
def prpB (K : Fg) (C m : Str) : Bool := He.eqO (PySem.W.findIn K (.ref (He.ga K C)) m) (some (some (.ref (He.ma K (He.ga K C) m)))) && (He.eqO (PySem.W.specialIn K (.ref (He.ma K (He.ga K C) m)) "__get__") (some (some (.builtin "property.__get__"))) && (decide (PySem.W.takesIn K (.ref (He.ma K (He.ga K C) m)) = some true) &&
  (match PySem.W.recIn K (He.ma K (He.ga K C) m) "property" with
    | some (.ref _ :: _) => true
    | _ => false)))
theorem prpB_ok {K : Fg} {C m : Str} (h : prpB K C m = true) : PropOf K (He.ga K C) m (He.ma K (He.ga K C) m) (pAd K C m) := by
  obtain ⟨h1, h⟩ := He.ba h
  obtain ⟨h2, h⟩ := He.ba h
  obtain ⟨h3, h4⟩ := He.ba h
  refine ⟨He.eqO_ok h1, He.eqO_ok h2, of_decide_eq_true h3, ?_⟩
  unfold pAd
  cases e : PySem.W.recIn K (He.ma K (He.ga K C) m) "property" with
  | none =>
    rw [e] at h4
    cases h4
  | some vs =>
    rw [e] at h4
    match vs, h4 with
    | .ref g :: r, _ => exact ⟨r, rfl⟩
def insB (K : Fg) (C : Str) : Bool := (He.Fa.cls C).ok K && (He.eqO (PySem.W.findIn K (.ref (He.ga K C)) "__class__") (some (some (.builtin "object.__class__"))) && (He.eqO (PySem.W.specialIn K (.builtin "object.__class__") "__get__") (some (some (.builtin "getset_descriptor.__get__"))) &&
  (decide (PySem.W.takesIn K (.builtin "object.__class__") = some true) && (decide (PySem.W.mroIn K (He.ga K C) (.type "object") = some true) && decide (PySem.W.kitOne K (.ref (He.ga K C)) (.ref (He.ga K C)) = some true)))))
theorem insB_ok {K : Fg} {C : Str} (h : insB K C = true) : C8.InsC K (He.ga K C) := by
  obtain ⟨h1, h⟩ := He.ba h
  obtain ⟨h2, h⟩ := He.ba h
  obtain ⟨h3, h⟩ := He.ba h
  obtain ⟨h4, h⟩ := He.ba h
  obtain ⟨h5, h6⟩ := He.ba h
  exact ⟨He.cls_ok h1, He.eqO_ok h2, He.eqO_ok h3, of_decide_eq_true h4, of_decide_eq_true h5, of_decide_eq_true h6⟩
def calB (K : Fg) (C : Str) : Bool := He.eqO (PySem.W.findIn K (.ref (He.ga K C)) "__call__") (some (some (.ref (He.ma K (He.ga K C) "__call__")))) && (PySem.W.isFn K (.ref (He.ma K (He.ga K C) "__call__")) && PySem.W.fnIn K (He.ma K (He.ga K C) "__call__"))
theorem calB_ok {K : Fg} {C : Str} (h : calB K C = true) : StX.CallO K (He.ga K C) (He.ma K (He.ga K C) "__call__") := by
  obtain ⟨h1, h⟩ := He.ba h
  obtain ⟨h2, h3⟩ := He.ba h
  exact ⟨He.eqO_ok h1, h2, h3⟩
def mostB (K : Fg) : Bool := PySem.W.readsIn K (He.ga K "Walk") (.type "type") && (He.eqO (PySem.W.specialIn K (.ref (He.ga K "Walk")) "__getattribute__") (some (some (.builtin "type.__getattribute__"))) &&
  (match PySem.W.findCls K (.ref (He.ga K "Walk")) (.type "type") "MOST" with
    | some (.val u) => He.relB (.int 200) u
    | _ => false))
theorem mostB_ok {K : Fg} (h : mostB K = true) : ∃ mc u, ClX.CRead K (He.ga K "Walk") mc ∧ ClX.CVal K (He.ga K "Walk") mc "MOST" (.int 200) u := by
  obtain ⟨h1, h⟩ := He.ba h
  obtain ⟨h2, h3⟩ := He.ba h
  cases e : PySem.W.findCls K (.ref (He.ga K "Walk")) (.type "type") "MOST" with
  | none =>
    rw [e] at h3
    cases h3
  | some r =>
    rw [e] at h3
    cases r with
    | val u => exact ⟨.type "type", u, ⟨h1, He.eqO_ok h2⟩, ⟨e, He.relB_ok h3⟩⟩
    | _ => cases h3
/-- a tuple of the top -/
def tupAt (K : Fg) (a : Addr) (vs : List V) : Bool := match K.lookup a with
  | some ⟨.type c, none, .seq its _, _⟩ => decide (c = "tuple") && (decide (its.size ≤ sizeLine) && He.relAll vs its.toList)
  | _ => false
theorem tupAt_ok {K : Fg} {a : Addr} {vs : List V} (h : tupAt K a vs = true) : (∃ o, K.lookup a = some o ∧ o.cls = .type "tuple" ∧ o.dict = none) ∧ ∀ H, SqT K H a vs := by
  unfold tupAt at h
  split at h
  · next c its n sl e =>
    obtain ⟨h1, h2⟩ := He.ba h
    obtain ⟨h3, h4⟩ := He.ba h2
    have hc : c = "tuple" := of_decide_eq_true h1
    subst hc
    exact ⟨⟨_, e, rfl, rfl⟩, fun H => .inr ⟨_, its, n, e, rfl, rfl, of_decide_eq_true h3, He.relAll_ok h4⟩⟩
  · cases h
def itsAt (K : Fg) (a : Addr) : List Addr := match K.lookup a with
  | some ⟨_, _, .seq its _, _⟩ => its.toList.flatMap He.refV
  | _ => []
def tbAd (K : Fg) (x k : Str) : Addr := match PySem.W.nsIn K (He.ga K x) k with
  | some (some (.ref a)) => a
  | _ => 0
def plcs (K : Fg) : List Addr → List (Int × Int) → Bool
  | [], [] => true
  | a :: as, p :: ps => tupAt K a (pl p) && plcs K as ps
  | _, _ => false
def stpB (K : Fg) (k : Str) (ps : List (Int × Int)) : Bool := He.eqO (PySem.W.nsIn K (He.ga K "STEPS") k) (some (some (.ref (tbAd K "STEPS" k)))) && (tupAt K (tbAd K "STEPS" k) ((itsAt K (tbAd K "STEPS" k)).map V.ref) && plcs K (itsAt K (tbAd K "STEPS" k)) ps)
/-- a table by signs -/
def rowB (K : Fg) (x : Str) (f : Nat → V) : Bool := [70, 66, 76, 82].all fun c => match PySem.W.nsIn K (He.ga K x) (sgn c) with
  | some (some u) => He.relB (f c) u
  | _ => false
theorem rowB_ok {K : Fg} {x : Str} {f : Nat → V} (h : rowB K x f = true) (c : Nat) (hc : okC c) : ∃ u, PySem.W.nsIn K (He.ga K x) (sgn c) = some (some u) ∧ RelV (f c) u := by
  have hm : c ∈ [70, 66, 76, 82] := by
    rcases hc with rfl | rfl | rfl | rfl <;> simp
  have h1 := List.all_eq_true.mp h c hm
  cases e : PySem.W.nsIn K (He.ga K x) (sgn c) with
  | none =>
    rw [e] at h1
    cases h1
  | some r =>
    rw [e] at h1
    cases r with
    | none => cases h1
    | some u => exact ⟨u, rfl, He.relB_ok h1⟩
def fI (c : Nat) : V := .str (sgn (inv1 c))
def fM (c : Nat) : V := .str (sgn (mir1 c))
def fC (c : Nat) : V := .int (chg c)
/-- a def, where it stands -/
structure Df where
  ad : Fg → Addr
  nm : Str
  ql : Str
  st : Stmt
def Df.see (K : Fg) (d : Df) : He.FnW := match K.lookup (d.ad K) with
  | some ⟨_, _, .func f, _⟩ => some (f.name, f.qualname, f.params, f.body, f.scope, f.globals, f.closure, f.builtins)
  | _ => none
def Df.val (d : Df) : He.FnW := some (d.nm, d.ql, L2.defArgs d.st, .stmts (L2.defBody d.st), L2.defScope d.st, mainGlobals, [], builtinsNs)
def Df.ok (K : Fg) (d : Df) : Bool := PySem.W.keepIn K (.ref (d.ad K)) && (match K.lookup (d.ad K) with
  | some ⟨_, _, .func f, _⟩ => PySem.W.codeIn K f.code d.ql && He.dflB K f.defaults []
  | _ => false)
theorem Df.stands {K : Fg} {d : Df} (e : d.see K = d.val) (c : d.ok K = true) : ∃ fd, FunT K d.nm d.ql d.st (d.ad K) fd := by
  obtain ⟨kp, c2⟩ := He.ba c
  unfold Df.see at e
  cases q : K.lookup (d.ad K) with
  | none =>
    rw [q] at c2
    cases c2
  | some o =>
    obtain ⟨oc, od, dt, osl⟩ := o
    rw [q] at c2 e
    cases dt with
    | func f =>
      obtain ⟨g1, g2, g3, g4, g5, g6, g7, g8, g9, g10, g11, g12, g13, g14, g15⟩ := f
      obtain ⟨k1, k2⟩ := He.ba c2
      have e := Option.some.inj (show some (g1, g2, g3, g4, g5, g6, g7, g15) = some (d.nm, d.ql, L2.defArgs d.st, FuncBody.stmts (L2.defBody d.st), L2.defScope d.st, mainGlobals, [], builtinsNs) from e)
      obtain ⟨e1, e2, e3, e4, e5, e6, e7, e8⟩ : g1 = d.nm ∧ g2 = d.ql ∧ g3 = L2.defArgs d.st ∧ g4 = FuncBody.stmts (L2.defBody d.st) ∧ g5 = L2.defScope d.st ∧ g6 = mainGlobals ∧ g7 = [] ∧ g15 = builtinsNs := by
        simpa only [Prod.mk.injEq] using e
      rw [e1, e2, e3, e4, e5, e6, e7, e8] at q
      exact ⟨_, ⟨oc, od, g8, g9, g10, g11, g12, g13, g14, osl, rfl, q, k1, He.dflB_ok k2, .inl rfl⟩, kp⟩
    | _ => cases c2
/-! ### the Hook -/
abbrev Fc := Fg → Bool
abbrev AlP : Type := (Bool × List He.FnW) × List (Option (List (Option (Str × Int))))
def obsP (fs : List Fc) (ds : List Df) (ts : List He.Tab) (K : Fg) : AlP := ((fs.all fun f => f K) && ds.all fun d => d.ok K, ds.map fun d => d.see K, ts.map fun t => He.dicW K (t.1 K)) |> fun (a, b, c) => ((a, b), c)
def valP (ds : List Df) (ts : List He.Tab) (w : World) : AlP := ((true, ds.map Df.val), ts.map fun t => some (He.keysIn w.params t.2))
def SaysP (fs : List Fc) (ds : List Df) (ts : List He.Tab) (w : World) (K : Fg) : Prop := obsP fs ds ts K = valP ds ts w
def hookP (xs : List Str) (fs : List Fc) (ds : List Df) (ts : List He.Tab) : PySem.W.Hook where
  α := AlP
  obs := fun s => obsP fs ds ts (kOf xs s.heap.get?)
  val := fun w => valP ds ts w
  says := fun w h => ∃ K : Fg, K.In h ∧ SaysP fs ds ts w K
  of := fun _ _ e => ⟨_, kOf_in, e⟩
  keeps := fun _ _ _ ⟨K, hK, c⟩ k => ⟨K, PySem.W.Frag.In.keeps hK k, c⟩
def obP (xs : List Str) (fs : List Fc) (ds : List Df) (ts : List He.Tab) (s : PySem.W.SharedT) : AlP := obsP fs ds ts (kOf xs (HandSHeadRun.getT s))
theorem obP_eq (xs : List Str) (fs : List Fc) (ds : List Df) (ts : List He.Tab) (s : PySem.W.SharedT) : obP xs fs ds ts s = (hookP xs fs ds ts).obs s.abs := by
  have e : HandSHeadRun.getT s = s.abs.heap.get? := funext (HandSHeadRun.getT_eq s)
  unfold obP
  rw [e]
  rfl
section
variable {fs : List Fc} {ds : List Df} {ts : List He.Tab} {w : World} {K : Fg}
theorem SaysP.fact (c : SaysP fs ds ts w K) (i : Nat) {f : Fc} (h : fs[i]? = some f) : f K = true := by
  have c1 := (He.ba (show ((fs.all fun f => f K) && ds.all fun d => d.ok K) = true from congrArg (fun z : AlP => z.1.1) c)).1
  exact List.all_eq_true.mp c1 f (List.mem_of_getElem? h)
theorem SaysP.df (c : SaysP fs ds ts w K) (i : Nat) {d : Df} (h : ds[i]? = some d) : ∃ fd, FunT K d.nm d.ql d.st (d.ad K) fd := by
  have c2 := (He.ba (show ((fs.all fun f => f K) && ds.all fun d => d.ok K) = true from congrArg (fun z : AlP => z.1.1) c)).2
  have e : ds.map (fun d => d.see K) = ds.map Df.val := congrArg (fun z : AlP => z.1.2) c
  have e2 : (ds.map fun d => d.see K)[i]? = (ds.map Df.val)[i]? := by rw [e]
  rw [List.getElem?_map, List.getElem?_map, h] at e2
  exact Df.stands (Option.some.inj e2) (List.all_eq_true.mp c2 d (List.mem_of_getElem? h))
theorem SaysP.tab (c : SaysP fs ds ts w K) (i : Nat) {t : He.Tab} (h : ts[i]? = some t) : ∃ es n, KDict K w (t.1 K) es n := by
  have e : ts.map (fun t => He.dicW K (t.1 K)) = ts.map fun t => some (He.keysIn w.params t.2) := congrArg (fun z : AlP => z.2) c
  have e2 : (ts.map fun t => He.dicW K (t.1 K))[i]? = (ts.map fun t => some (He.keysIn w.params t.2))[i]? := by rw [e]
  rw [List.getElem?_map, List.getElem?_map, h] at e2
  exact He.dicW_ok (Option.some.inj e2)
end
/-! ### this program's facts -/
def seenN0 : List Str := ["is_integer", "is_place", "is_net", "check_net", "check_place", "check_integer", "heading_count", "step_of", "added", "scaled", "turned", "all_moves", "check_moving", "check_loop", "difference", "position", "cell_at", "crossing", "_law_source", "_law_draw", "_law_steps", "_law_signs", "_law_walked", "_law_looped", "_law_moving", "_law_closed", "_law_ring", "_law_pairs", "_law_corners", "_law_turning"]
def seenN1 : List Str := ["_law_simple_right", "_law_right", "_law_commands", "_law_grown", "law", "Movement", "Walk", "Loop", "Outline", "STEPS", "INVERSE", "MIRRORED", "CHANGES"]
def seenN : List Str := seenN0 ++ seenN1
def loosN0 : List Str := ["_wall", "WalkError", "InvalidNet", "InvalidPlace", "InvalidNumber", "InvalidCommands", "InvalidWalk", "InvalidMoments", "InvalidOperand", "NetMismatch", "LimitExceeded", "NoDrift", "InvalidLoop", "InvalidCell", "Drifts", "STEPS", "is_integer", "is_place", "is_net", "check_net", "check_place", "check_integer", "check_least", "heading_count", "step_of", "added", "scaled", "turned", "MAX_FIRSTS", "are_firsts"]
def loosN1 : List Str := ["least_period", "greatest_common_divisor", "inverse_modulo", "common_residue", "Moments", "Movement", "INVERSE", "MIRRORED", "CHANGES", "all_moves", "Walk", "check_moving", "line_of", "Loop", "check_loop", "difference", "is_cell", "position", "cell_at", "crossing", "Outline", "_law_source", "_law_draw", "_law_steps", "_law_rotated", "_law_kind", "_law_signs", "_law_walked", "_law_looped", "_law_moving"]
def loosN2 : List Str := ["_law_closed", "_law_ring", "_law_pairs", "_law_area", "_law_column", "_law_wound", "_law_corners", "_law_turning", "_law_simple_right", "_law_right", "_law_commands", "_law_grown"]
def loosN : List Str := loosN0 ++ loosN1 ++ loosN2
def fcs : List Fc := [fun K => (He.Fa.glo "is_integer").ok K,
  fun K => (He.Fa.glo "is_place").ok K,
  fun K => (He.Fa.glo "is_net").ok K,
  fun K => (He.Fa.glo "check_net").ok K,
  fun K => (He.Fa.glo "check_place").ok K,
  fun K => (He.Fa.glo "check_integer").ok K,
  fun K => (He.Fa.glo "heading_count").ok K,
  fun K => (He.Fa.glo "step_of").ok K,
  fun K => (He.Fa.glo "added").ok K,
  fun K => (He.Fa.glo "scaled").ok K,
  fun K => (He.Fa.glo "turned").ok K,
  fun K => (He.Fa.glo "all_moves").ok K,
  fun K => (He.Fa.glo "check_moving").ok K,
  fun K => (He.Fa.glo "check_loop").ok K,
  fun K => (He.Fa.glo "difference").ok K,
  fun K => (He.Fa.glo "position").ok K,
  fun K => (He.Fa.glo "cell_at").ok K,
  fun K => (He.Fa.glo "crossing").ok K,
  fun K => (He.Fa.glo "_law_source").ok K,
  fun K => (He.Fa.glo "_law_draw").ok K,
  fun K => (He.Fa.glo "_law_steps").ok K,
  fun K => (He.Fa.glo "_law_signs").ok K,
  fun K => (He.Fa.glo "_law_walked").ok K,
  fun K => (He.Fa.glo "_law_looped").ok K,
  fun K => (He.Fa.glo "_law_moving").ok K,
  fun K => (He.Fa.glo "_law_closed").ok K,
  fun K => (He.Fa.glo "_law_ring").ok K,
  fun K => (He.Fa.glo "_law_pairs").ok K,
  fun K => (He.Fa.glo "_law_corners").ok K,
  fun K => (He.Fa.glo "_law_turning").ok K,
  fun K => (He.Fa.glo "_law_simple_right").ok K,
  fun K => (He.Fa.glo "_law_right").ok K,
  fun K => (He.Fa.glo "_law_commands").ok K,
  fun K => (He.Fa.glo "_law_grown").ok K,
  fun K => (He.Fa.glo "law").ok K,
  fun K => (He.Fa.glo "Movement").ok K,
  fun K => (He.Fa.glo "Walk").ok K,
  fun K => (He.Fa.glo "Loop").ok K,
  fun K => (He.Fa.glo "Outline").ok K,
  fun K => (He.Fa.glo "STEPS").ok K,
  fun K => (He.Fa.glo "INVERSE").ok K,
  fun K => (He.Fa.glo "MIRRORED").ok K,
  fun K => (He.Fa.glo "CHANGES").ok K,
  fun K => (He.Fa.free "len").ok K,
  fun K => (He.Fa.free "range").ok K,
  fun K => (He.Fa.free "isinstance").ok K,
  fun K => (He.Fa.free "int").ok K,
  fun K => (He.Fa.free "bool").ok K,
  fun K => (He.Fa.free "str").ok K,
  fun K => (He.Fa.free "tuple").ok K,
  fun K => (He.Fa.free "list").ok K,
  fun K => (He.Fa.free "sum").ok K,
  fun K => (He.Fa.free "max").ok K,
  fun K => (He.Fa.free "min").ok K,
  fun K => (He.Fa.free "sorted").ok K,
  fun K => (He.Fa.free "set").ok K,
  fun K => (He.Fa.free "dict").ok K,
  fun K => (He.Fa.free "zip").ok K,
  fun K => (He.Fa.free "all").ok K,
  fun K => (He.Fa.free "repr").ok K,
  fun K => decide (PySem.W.kitOne K (.type "int") (.type "int") = some true),
  fun K => decide (PySem.W.kitOne K (.type "int") (.type "bool") = some false),
  fun K => decide (PySem.W.kitOne K (.type "str") (.type "str") = some true),
  fun K => decide (PySem.W.kitOne K (.type "tuple") (.type "tuple") = some true),
  fun K => (He.Fa.cls "Movement").ok K,
  fun K => (He.Fa.mkr "Movement").ok K,
  fun K => (He.Fa.noat "Movement" "own_net").ok K,
  fun K => (He.Fa.noat "Movement" "own_place").ok K,
  fun K => (He.Fa.noat "Movement" "own_turn").ok K,
  fun K => (He.Fa.cls "Walk").ok K,
  fun K => (He.Fa.mkr "Walk").ok K,
  fun K => (He.Fa.noat "Walk" "own_net").ok K,
  fun K => (He.Fa.noat "Walk" "own_commands").ok K,
  fun K => (He.Fa.noat "Walk" "own_moves").ok K,
  fun K => (He.Fa.noat "Walk" "own_places").ok K,
  fun K => (He.Fa.cls "Loop").ok K,
  fun K => (He.Fa.mkr "Loop").ok K,
  fun K => (He.Fa.noat "Loop" "own_walk").ok K,
  fun K => (He.Fa.noat "Loop" "own_drift").ok K,
  fun K => (He.Fa.noat "Loop" "own_places").ok K,
  fun K => (He.Fa.noat "Loop" "own_headings").ok K,
  fun K => (He.Fa.noat "Loop" "own_period").ok K,
  fun K => (He.Fa.cls "Outline").ok K,
  fun K => (He.Fa.mkr "Outline").ok K,
  fun K => (He.Fa.noat "Outline" "own_net").ok K,
  fun K => (He.Fa.noat "Outline" "own_places").ok K,
  fun K => (He.Fa.noat "Outline" "known").ok K,
  fun K => (He.Fa.noat "Outline" "rows").ok K,
  fun K => (He.Fa.noat "Outline" "own_area").ok K,
  fun K => (He.Fa.noat "Outline" "own_turning").ok K,
  fun K => (He.Fa.noat "Outline" "own_inner").ok K,
  fun K => insB K "Movement",
  fun K => insB K "Walk",
  fun K => insB K "Loop",
  fun K => (He.Fa.meth "Movement" "__add__").ok K,
  fun K => (He.Fa.meth "Walk" "__len__").ok K,
  fun K => (He.Fa.meth "Walk" "__invert__").ok K,
  fun K => (He.Fa.meth "Walk" "moves").ok K,
  fun K => (He.Fa.meth "Walk" "mirror").ok K,
  fun K => (He.Fa.meth "Loop" "stored").ok K,
  fun K => (He.Fa.meth "Outline" "move_pairs").ok K,
  fun K => (He.Fa.meth "Outline" "number_of").ok K,
  fun K => (He.Fa.meth "Outline" "windings").ok K,
  fun K => (He.Fa.meth "Outline" "turned_round").ok K,
  fun K => (He.Fa.meth "Outline" "corners").ok K,
  fun K => (He.Fa.meth "Outline" "around").ok K,
  fun K => calB K "Movement",
  fun K => PySem.W.selfFirst K (He.ga K "Movement"),
  fun K => mostB K,
  fun K => prpB K "Movement" "place",
  fun K => prpB K "Movement" "turn",
  fun K => prpB K "Movement" "order",
  fun K => prpB K "Walk" "net",
  fun K => prpB K "Walk" "commands",
  fun K => prpB K "Walk" "movement",
  fun K => prpB K "Loop" "walk",
  fun K => prpB K "Loop" "period",
  fun K => prpB K "Outline" "area",
  fun K => prpB K "Outline" "turning",
  fun K => prpB K "Outline" "is_simple",
  fun K => prpB K "Outline" "inner",
  fun K => stpB K "square" [(1, 0), (0, 1), (-1, 0), (0, -1)],
  fun K => stpB K "triangle" [(1, 0), (0, 1), (-1, 1), (-1, 0), (0, -1), (1, -1)],
  fun K => rowB K "INVERSE" fI,
  fun K => rowB K "MIRRORED" fM,
  fun K => rowB K "CHANGES" fC]
def dfs : List Df := [⟨fun K => He.ga K "is_integer", "is_integer", "is_integer", top 18⟩,
  ⟨fun K => He.ga K "is_place", "is_place", "is_place", top 19⟩,
  ⟨fun K => He.ga K "is_net", "is_net", "is_net", top 20⟩,
  ⟨fun K => He.ga K "check_net", "check_net", "check_net", top 21⟩,
  ⟨fun K => He.ga K "check_place", "check_place", "check_place", top 22⟩,
  ⟨fun K => He.ga K "check_integer", "check_integer", "check_integer", top 23⟩,
  ⟨fun K => He.ga K "heading_count", "heading_count", "heading_count", top 25⟩,
  ⟨fun K => He.ga K "step_of", "step_of", "step_of", top 26⟩,
  ⟨fun K => He.ga K "added", "added", "added", top 27⟩,
  ⟨fun K => He.ga K "scaled", "scaled", "scaled", top 28⟩,
  ⟨fun K => He.ga K "turned", "turned", "turned", top 29⟩,
  ⟨fun K => He.ga K "all_moves", "all_moves", "all_moves", top 44⟩,
  ⟨fun K => He.ga K "check_moving", "check_moving", "check_moving", top 46⟩,
  ⟨fun K => He.ga K "check_loop", "check_loop", "check_loop", top 51⟩,
  ⟨fun K => He.ga K "difference", "difference", "difference", top 52⟩,
  ⟨fun K => He.ga K "position", "position", "position", top 55⟩,
  ⟨fun K => He.ga K "cell_at", "cell_at", "cell_at", top 56⟩,
  ⟨fun K => He.ga K "crossing", "crossing", "crossing", top 57⟩,
  ⟨fun K => He.ga K "_law_source", "_law_source", "_law_source", top 60⟩,
  ⟨fun K => He.ga K "_law_draw", "_law_draw", "_law_draw", top 61⟩,
  ⟨fun K => He.ga K "_law_steps", "_law_steps", "_law_steps", top 62⟩,
  ⟨fun K => He.ga K "_law_signs", "_law_signs", "_law_signs", top 65⟩,
  ⟨fun K => He.ga K "_law_walked", "_law_walked", "_law_walked", top 66⟩,
  ⟨fun K => He.ga K "_law_looped", "_law_looped", "_law_looped", top 67⟩,
  ⟨fun K => He.ga K "_law_moving", "_law_moving", "_law_moving", top 68⟩,
  ⟨fun K => He.ga K "_law_closed", "_law_closed", "_law_closed", top 69⟩,
  ⟨fun K => He.ga K "_law_ring", "_law_ring", "_law_ring", top 70⟩,
  ⟨fun K => He.ga K "_law_pairs", "_law_pairs", "_law_pairs", top 71⟩,
  ⟨fun K => He.ga K "_law_corners", "_law_corners", "_law_corners", top 75⟩,
  ⟨fun K => He.ga K "_law_turning", "_law_turning", "_law_turning", top 76⟩,
  ⟨fun K => He.ga K "_law_simple_right", "_law_simple_right", "_law_simple_right", top 77⟩,
  ⟨fun K => He.ga K "_law_right", "_law_right", "_law_right", top 78⟩,
  ⟨fun K => He.ga K "_law_commands", "_law_commands", "_law_commands", top 79⟩,
  ⟨fun K => He.ga K "_law_grown", "_law_grown", "_law_grown", top 80⟩,
  ⟨fun K => He.ga K "law", "law", "law", top 81⟩,
  ⟨fun K => He.ma K (He.ga K "Movement") "__init__", "__init__", "Movement.__init__", icl 39 0⟩,
  ⟨fun K => He.ma K (He.ga K "Movement") "__call__", "__call__", "Movement.__call__", icl 39 6⟩,
  ⟨fun K => He.ma K (He.ga K "Movement") "__add__", "__add__", "Movement.__add__", icl 39 9⟩,
  ⟨fun K => He.ma K (He.ga K "Walk") "__init__", "__init__", "Walk.__init__", icl 45 1⟩,
  ⟨fun K => He.ma K (He.ga K "Walk") "__len__", "__len__", "Walk.__len__", icl 45 5⟩,
  ⟨fun K => He.ma K (He.ga K "Walk") "__invert__", "__invert__", "Walk.__invert__", icl 45 13⟩,
  ⟨fun K => He.ma K (He.ga K "Walk") "moves", "moves", "Walk.moves", icl 45 14⟩,
  ⟨fun K => He.ma K (He.ga K "Walk") "mirror", "mirror", "Walk.mirror", icl 45 17⟩,
  ⟨fun K => He.ma K (He.ga K "Loop") "__init__", "__init__", "Loop.__init__", icl 49 0⟩,
  ⟨fun K => He.ma K (He.ga K "Loop") "stored", "stored", "Loop.stored", icl 49 5⟩,
  ⟨fun K => He.ma K (He.ga K "Outline") "__init__", "__init__", "Outline.__init__", icl 58 0⟩,
  ⟨fun K => He.ma K (He.ga K "Outline") "move_pairs", "move_pairs", "Outline.move_pairs", icl 58 1⟩,
  ⟨fun K => He.ma K (He.ga K "Outline") "number_of", "number_of", "Outline.number_of", icl 58 3⟩,
  ⟨fun K => He.ma K (He.ga K "Outline") "windings", "windings", "Outline.windings", icl 58 5⟩,
  ⟨fun K => He.ma K (He.ga K "Outline") "turned_round", "turned_round", "Outline.turned_round", icl 58 9⟩,
  ⟨fun K => He.ma K (He.ga K "Outline") "corners", "corners", "Outline.corners", icl 58 12⟩,
  ⟨fun K => He.ma K (He.ga K "Outline") "around", "around", "Outline.around", icl 58 13⟩,
  ⟨fun K => pAd K "Movement" "place", "place", "Movement.place", icl 39 3⟩,
  ⟨fun K => pAd K "Movement" "turn", "turn", "Movement.turn", icl 39 4⟩,
  ⟨fun K => pAd K "Movement" "order", "order", "Movement.order", icl 39 5⟩,
  ⟨fun K => pAd K "Walk" "net", "net", "Walk.net", icl 45 2⟩,
  ⟨fun K => pAd K "Walk" "commands", "commands", "Walk.commands", icl 45 3⟩,
  ⟨fun K => pAd K "Walk" "movement", "movement", "Walk.movement", icl 45 4⟩,
  ⟨fun K => pAd K "Loop" "walk", "walk", "Loop.walk", icl 49 1⟩,
  ⟨fun K => pAd K "Loop" "period", "period", "Loop.period", icl 49 3⟩,
  ⟨fun K => pAd K "Outline" "area", "area", "Outline.area", icl 58 7⟩,
  ⟨fun K => pAd K "Outline" "turning", "turning", "Outline.turning", icl 58 8⟩,
  ⟨fun K => pAd K "Outline" "is_simple", "is_simple", "Outline.is_simple", icl 58 10⟩,
  ⟨fun K => pAd K "Outline" "inner", "inner", "Outline.inner", icl 58 11⟩]
def tbs : List He.Tab := [(fun K => He.ga K "STEPS", ["square", "triangle"]), (fun K => He.ga K "INVERSE", ["F", "B", "L", "R"]), (fun K => He.ga K "MIRRORED", ["F", "B", "L", "R"]), (fun K => He.ga K "CHANGES", ["L", "R", "F", "B"])]
end K53
set_option maxHeartbeats 0
namespace K53
open PySem PySem.W PySem.Calls PyProof.Rows
/-! ### the head: the run of the top -/
abbrev RR : OpenRow := OpenLaw.row PySem.Challenge.rw_loopwalks_k53_whole_simple_outlines
def RunP (os : OsState) (w : World) : Prop := (HandSHeadRun.endF (HandSHeadRun.stepQ (HandSHeadRun.denQ HandSHeadRun.tabQ) RR.prog w) 20000 RR.prog w os).map (fun s => (HandSHeadRun.looksF RR.prog (boot_heap w.params) s.abs, HandSHeadRun.seenQ (view RR.prog [81]) loosN (importedModules RR.prog.main.body) (fun s => xlAt (view RR.prog [81]) [] s && recOk RR.toRowW.records s) s.abs, obP seenN fcs dfs tbs s)) = some (true, openGood (view RR.prog [81]) loosN, (hookP seenN fcs dfs tbs).val w)
theorem run_f (os : OsState) (w : World) : RunP os (w.withFollow "special-get-raises" false) := by
  unfold RunP
  kernel_rfl
theorem run_t (os : OsState) (w : World) : RunP os (w.withFollow "special-get-raises" true) := by
  unfold RunP
  kernel_rfl
theorem run (w : World) : HandSHeadRun.RunEq RR (view RR.prog [81]) (hookP seenN fcs dfs tbs) (obP seenN fcs dfs tbs) 20000 loosN w :=
  fun os => byRow2 "special-get-raises" (P := RunP os) (run_f os) (run_t os) w
end K53
set_option maxHeartbeats 4000000
namespace K53
open PySem PySem.Spec PyProof.Rows L2
open SlX (cmpback)
section
variable {X : Cx} {k j : Nat} {C : Addr} {sp : Sp}
theorem insT {pins : List (Addr × Obj)} {σ : L2.St} {H : Hp} {s : Shared} {a dx : Addr} {fs : List (Str × V)} (I : Inv X pins σ H s) (h : H a = some (.ins C dx fs)) : ∃ ox od, PySem.W.InstAt s.heap a ox C od := by
  obtain ⟨mA, O, _⟩ := ins_get I.hok h
  obtain ⟨od, J, _⟩ := O.look
  exact ⟨_, _, J⟩
/-- x + y, x and y instances of C that has __add__ -/
def rAddO (C : Addr) (sp : Sp) : R2 := fun x y H Q => ∃ a dx fs b dy gs, x = .ref a ∧ y = .ref b ∧ H a = some (.ins C dx fs) ∧ H b = some (.ins C dy gs) ∧ sp [x, y] H Q E0
theorem op_addO (c : Met X.prog X.w X.K X.mg X.base k C "__add__" sp) (hc : PySem.W.selfFirst X.K C = true) (hr : Room j X.A) (hk : k ≤ j := by decide) : OpR X (binaryOp .Add) (rAddO C sp) := by
  intro pins s σ H x y v u Q I rx ry h
  obtain ⟨f, fd, ps, cl, me, F, b⟩ := metGet c
  obtain ⟨a, dx, fs, b', dy, gs, rfl, rfl, ha, hb, q⟩ := h
  cases (show v = Value.ref a from rx)
  cases (show u = Value.ref b' from ry)
  obtain ⟨ox, od, J⟩ := insT I ha
  obtain ⟨oy, od', J'⟩ := insT I hb
  obtain ⟨m, hF⟩ := I.fr
  refine PySem.W.binop_K (op := .Add) hF I.ok.mod.kin J J'.type hc me.at_ me.fn ?_
  refine wpAny_mono (run_fn (us := [.ref a, .ref b']) (vs := [.ref a, .ref b']) F (hr.mono hk) b .nil pass0 I (.cons rfl (.cons rfl .nil)) q) (fun w s' z => ?_) fun _ _ x => x
  obtain ⟨z', H', I', rz, qz⟩ := z
  have fin : EP X pins σ Q w s' := ⟨z', H', I', rz, qz⟩
  exact cmpback rz fin
/-- ~x -/
def rInvO (C : Addr) (sp : Sp) : V → Hp → VK → Prop := fun x H Q => ∃ a dx fs, x = .ref a ∧ H a = some (.ins C dx fs) ∧ sp [x] H Q E0
theorem un_invO (c : Met X.prog X.w X.K X.mg X.base k C "__invert__" sp) (hr : Room j X.A) (hk : k ≤ j := by decide) : UnR X (unaryOp .Invert) (rInvO C sp) := by
  intro pins s σ H x v Q I rx h
  obtain ⟨f, fd, ps, cl, me, F, b⟩ := metGet c
  obtain ⟨a, dx, fs, rfl, ha, q⟩ := h
  cases (show v = Value.ref a from rx)
  obtain ⟨ox, od, J⟩ := insT I ha
  obtain ⟨m, hF⟩ := I.fr
  exact PySem.W.ksp_inv hF I.ok.mod.kin J me.at_ me.fn (run_fn (us := [.ref a]) (vs := [.ref a]) F (hr.mono hk) b .nil pass0 I (.cons rfl .nil) q)
/-- s * n -/
theorem op_mulS : OpR X (binaryOp .Mult) (fun x y H Q => ∃ (z : Str) (n : Nat), x = .str z ∧ y = .int n ∧ z.length * n ≤ 1000 ∧ n ≤ 1000 ∧ Q (.str (Txt.mul z n)) H) := by
  intro pins s σ H x y v u Q I rx ry h
  obtain ⟨z, n, rfl, rfl, h1, h2, q⟩ := h
  obtain ⟨t, rfl⟩ := rx
  obtain ⟨t', rfl⟩ := ry
  refine SB.mul ⟨?_, ?_, ?_⟩ fun t2 k2 => ⟨.str _, H, I.tok _, ⟨_, rfl⟩, q⟩
  · simp
    omega
  · intro a b c
    have h4 : ((z.length * n : Nat) : Int) ≤ 1000 := by omega
    rw [Int.natCast_mul] at h4
    have h3 : (z.length : Int) ≤ (2 ^ 63 - 1) / (n : Int) := Int.le_ediv_of_mul_le (by omega) (by omega)
    omega
  · intro a b
    show decide (z.length * ((n : Int)).toNat > sizeLine) = false
    rw [Int.toNat_natCast, sizeLine_eq]
    simp
    omega
/-- repr(b) -/
theorem call_reprB : CallR X (.builtin "repr") (fun xs H Q => ∃ k, xs = [.bl k] ∧ Q (.str (if k then "True" else "False")) H) := by
  intro pins s σ H xs us Q I r h
  obtain ⟨k, rfl, q⟩ := h
  obtain ⟨u, rfl, r1⟩ := vals1 r
  cases r1
  exact PySem.P.repr_of_bool ⟨.str _, H, I.tok _, ⟨_, rfl⟩, q⟩
/-- len(x) of an instance with __len__ -/
def rLenO (C : Addr) (sp : Sp) : List V → Hp → VK → Prop := fun xs H Q => ∃ a dx fs, xs = [.ref a] ∧ H a = some (.ins C dx fs) ∧ sp xs H (fun v H' => ∃ n : Nat, v = .int n ∧ n < 2 ^ 62 ∧ Q v H') E0
theorem call_lenO (c : Met X.prog X.w X.K X.mg X.base k C "__len__" sp) (hr : Room j X.A) (hk : k + 1 ≤ j := by decide) : CallR X (.builtin "len") (rLenO C sp) := by
  intro pins s σ H xs us Q I r h
  obtain ⟨f, fd, ps, cl, me, F, b⟩ := metGet c
  obtain ⟨a, dx, fs, rfl, ha, q⟩ := h
  rw [Vals.ref1 r]
  obtain ⟨ox, od, J⟩ := insT I ha
  obtain ⟨m, hF⟩ := I.fr
  have hl : ([Value.ref a] ++ ([] : List Value)).length = ps.length := by
    rw [← F.len _ _ _ _ q]
    all_goals rfl
  have hr2 : Room k X.A.in1 := (hr.mono hk).in1
  refine PySem.W.len_K hF I.ok.mod.kin J me.at_ me.fn (wpAny_call (codeAny_mono (F.run X.A.in1 X.stack s H ⟨[.ref a], []⟩ [.ref a] [.ref a] _ E0 hr2 I.env0.in1 (b s [.ref a] I.kIn hl) (.cons rfl .nil) q) fun r s' hq => ?_))
  cases r with
  | error e => exact False.elim hq
  | ok fl =>
    cases fl with
    | ret u =>
      obtain ⟨v, H', I3, rv, n, rfl, hn, q3⟩ := I.after hq
      obtain ⟨t, rfl⟩ := rv
      exact ⟨⟨by omega, by omega⟩, ⟨.int n, H', I3.tok _, ⟨_, rfl⟩, q3⟩⟩
    | next => exact False.elim hq
    | brk => exact False.elim hq
    | cont => exact False.elim hq
end
end K53
set_option maxHeartbeats 4000000
namespace K53
open PySem PySem.Spec PyProof.Rows L2
section
variable {X : Cx}
/-! ### t[::-1] -/
theorem picked_rev (x : Str) (u : Tok) : ((slicePicked x none none (some (-1, u))).filterMap (x.cps[·]?)).toArray = x.cps.toList.reverse.toArray := by
  have e : slicePicked x none none (some (-1, u)) = (List.range x.cps.size).map fun k => x.cps.size - 1 - k := PySem.W.krv_sliceRange x.cps.size
  rw [e, PySem.W.krv_range, List.filterMap_reverse, PySem.W.krv_all]
def tRevS (te : TE) : TE := fun σ H Q => te σ H fun x H1 => ∃ z : Str, x = .str z ∧ z.length ≤ sizeLine ∧ Q (.str ⟨z.cps.toList.reverse.toArray⟩) H1
theorem pe_revS {e : Expr} {te : TE} {k : Nat} {p1 p2 p3 pos : Pos} (he : PE X e te) : PE X (.Subscript e (.Slice none none (some (.UnaryOp .USub (.Constant (.int 1) k p1) p2)) p3) pos) (tRevS te) := by
  constructor
  intro pins s σ H Q I h
  refine Subscript_ (thn (he.run pins s σ H _ I h) ?_)
  rintro v s1 ⟨x, H1, I1, r1, z, rfl, hz, q⟩
  · obtain ⟨t, rfl⟩ := r1
    have part : PO X (some (.UnaryOp .USub (.Constant (.int 1) k p1) p2)) (tPart (tUn (rU fun i => .int (-i)) (tC (.int 1)))) := po_some (pe_un un_neg pe_int)
    refine wpAny_Slice (thn (po_none.run pins s1 σ H1 (fun o G => o = none ∧ G = H1) I1 ⟨rfl, rfl⟩) ?_)
    rintro vl s2 ⟨l, G2, I2, pl, rfl, rfl⟩
    refine thn (po_none.run pins s2 σ _ (fun o G => o = none ∧ G = _) I2 ⟨rfl, rfl⟩) ?_
    rintro vu s3 ⟨u, G3, I3, pu, rfl, rfl⟩
    refine thn (part.run pins s3 σ _ (fun o G => o = some (-1) ∧ G = _) I3 ⟨1, rfl, -1, rfl, rfl, rfl⟩) ?_
    rintro vs s4 ⟨o, G4, I4, ps, rfl, rfl⟩
    cases pl
    cases pu
    cases ps with
    | int i w =>
    have I5 : Inv X pins σ _ { s4 with heap := s4.heap.push { cls := .type "slice", data := .fields #[.none, .none, .int (-1) w] } } := I4.kept (t' := s4.toks) fun b ob q => Heap.get?_push_of_some _ q
    refine tail_any (ops := [.str z t, .ref s4.heap.objs.size]) (typeIs_str _ _ _) (PySem.F.slot_str_getitem.lookup) ?_ (by with_unfolding_all rfl)
    refine wpAny_getItem_str_slice (l := none) (u := none) (st := some (-1, w)) ⟨_, Heap.get?_push_size _ rfl, rfl, rfl⟩ rfl ?_
    unfold sliceMade
    refine post_val_or_str ⟨?_, fun t' k => ?_⟩
    · rw [if_neg (by simp), picked_rev]
      show z.cps.toList.reverse.toArray.size ≤ sizeLine
      rw [List.size_toArray, List.length_reverse]
      exact hz
    · rw [if_neg (by simp), picked_rev]
      exact ⟨.str _, _, I5.tok _, ⟨_, rfl⟩, q⟩
/-! ### a dict that is frozen behind its making -/
theorem pe_frz {e : Expr} {te : TE} (he : PE X e te) : PE X e (fun σ H Q => te σ H fun x H1 => ∃ d u, x = .ref d ∧ H1 d = some u ∧ Mut (some u) ∧ ∀ od, Q x (upd H1 d (.frz od u))) := by
  constructor
  intro pins s σ H Q I h
  refine thn (he.run pins s σ H _ I h) ?_
  rintro v s1 ⟨x, H1, I1, r1, d, u, rfl, hd, mu, q⟩
  obtain ⟨od, I2⟩ := I1.lock hd mu
  exact ⟨_, _, I2, r1, q od⟩
/-! ### max(d), d a dict with int keys -/
def rMaxK : List V → Hp → VK → Prop := fun vs H Q => ∃ (a : Addr) (kvs : List (Key × V)) (is : List Int), vs = [V.ref a] ∧ H a = some (.dK kvs) ∧ kvs.map (·.1) = is.map Sum.inl ∧ is ≠ [] ∧ ∀ m, m ∈ is → (∀ j ∈ is, j ≤ m) → Q (.int m) H
theorem getD_of {is : List Int} {i : Nat} (h : i < is.length) : is.getD i 0 = is[i] := by
  rw [List.getD_eq_getElem?_getD, List.getElem?_eq_getElem h]
  all_goals rfl
theorem cr_maxK (hc : X.calm = true) : CallR X (.builtin "max") rMaxK := by
  intro pins s σ H vs us Q I r h
  obtain ⟨a, kvs, is, rfl, ha, hv, hne, q⟩ := h
  rw [Vals.ref1 r]
  obtain ⟨-, hsys, ws, rel, dof⟩ := dk_of I.hok ha
  obtain ⟨ep, dat⟩ := dof.dictAt
  have hlt : a < s.heap.objs.size := by
    obtain ⟨ob, es, ho, _⟩ := id dat
    exact Heap.lt_size ho
  have keys : ws.map (·.1) = is.map Sum.inl := by rw [← KV.keys rel, hv]
  have len : ws.length = is.length := by simpa using congrArg List.length keys
  have val : ∀ (i : Nat) (v : Value), (∃ k x, ws[i]? = some (k, x) ∧ (mixKind X.prog X.w).is k v = true) → ∃ t, v = Value.int (is.getD i 0) t := by
    rintro i v ⟨k, x, hk, hkey⟩
    have e1 : (ws.map (·.1))[i]? = some k := by rw [List.getElem?_map, hk]; rfl
    rw [keys, List.getElem?_map] at e1
    obtain ⟨j, hj, rfl⟩ := Option.map_eq_some_iff.mp e1
    obtain ⟨t, rfl⟩ := Value.isInt_shape (k := j) (v := v) hkey
    exact ⟨t, by rw [List.getD_eq_getElem?_getD, hj]; rfl⟩
  have pos : 0 < ws.length := by rw [len]; exact List.length_pos_iff.mpr hne
  refine call_max_walk (wpAny_pyIter_dict (knd := mixKind X.prog X.w) hsys dat ?_)
  refine ⟨_, _, _, _, _, _, _, rfl, Walks.dictKeys (knd := mixKind X.prog X.w) (A := X.A.in1) (I.ok.hd hc) s.heap.objs.size a (Nat.ne_of_lt hlt) ws ep, ⟨⟨_, Heap.get?_push_size _ rfl, rfl, rfl⟩, dat.keep fun b u e => Heap.get?_push_of_some _ e⟩, ?_, pos, CmpOf.ints_gt (fun i => is.getD i 0) val, ?_⟩
  · intro b hb
    show b < (s.heap.push _).objs.size
    rw [Heap.size_push]
    rcases List.mem_cons.mp hb with rfl | hb
    · exact Nat.lt_succ_self _
    · rw [List.mem_singleton.mp hb]
      exact Nat.lt_succ_of_lt hlt
  · intro v h' tk hP hk
    obtain ⟨t, rfl⟩ := val _ v hP
    obtain ⟨b1, b2⟩ := argBest_gt (fun i => is.getD i 0) (ws.length - 1)
    have key : Inv X pins σ H { s with heap := h', toks := tk } := I.kept (t' := tk) fun b u e => hk b u (fun hm => by
      have e1 : b = s.heap.objs.size := List.mem_singleton.mp hm
      have e2 := Heap.lt_size e
      rw [e1] at e2
      exact absurd e2 (Nat.lt_irrefl _)) (Heap.get?_push_of_some _ e)
    have hb : argBest (fun i j => decide (is.getD i 0 > is.getD j 0)) (ws.length - 1) < is.length := by rw [← len]; omega
    refine ⟨.int _, H, key, ⟨t, rfl⟩, q _ ?_ ?_⟩
    · rw [getD_of hb]
      exact List.getElem_mem _
    · intro j hj
      obtain ⟨i, hi, rfl⟩ := List.mem_iff_getElem.mp hj
      rw [← getD_of hi]
      exact b2 i (by rw [← len] at hi; omega)
/-! ### xs.index(place) -/
theorem nestPair {pins : List (Addr × Obj)} {σ : L2.St} {H : Hp} {s : Shared} {a : Addr} {p : Int × Int} (I : Inv X pins σ H s) (h : SqT X.K H a (pl p)) : NestedIs s.heap (.tup [.num p.1, .num p.2]) (.ref a) := by
  obtain ⟨its, r, ⟨o, ho, hc, n, hd⟩, -⟩ := I.tuple h
  cases r with
  | cons r1 r =>
  cases r with
  | cons r2 r =>
  cases r
  obtain ⟨t1, rfl⟩ := r1
  obtain ⟨t2, rfl⟩ := r2
  exact .tup ho hc hd (.cons (.int _ _) (.cons (.int _ _) .nil))
def nk (p : Int × Int) : NestedKey := .tup [.num p.1, .num p.2]
theorem nk_inj {p q : Int × Int} (h : nk p = nk q) : p = q := by
  unfold nk at h
  injection h with h
  injection h with h1 h
  injection h with h2 h
  injection h1 with h1
  injection h2 with h2
  exact Prod.ext h1 h2
theorem idx_map (q : Int × Int) : ∀ ps : List (Int × Int), (ps.map nk).idxOf (nk q) = ps.idxOf q
  | [] => rfl
  | p :: ps => by
    rw [List.map_cons, List.idxOf_cons, List.idxOf_cons, idx_map q ps]
    by_cases e : p = q
    · subst e; simp
    · have e2 : (nk p == nk q) = false := beq_eq_false_iff_ne.mpr fun z => e (nk_inj z)
      have e3 : (p == q) = false := beq_eq_false_iff_ne.mpr e
      rw [e2, e3]
theorem nestAll {pins : List (Addr × Obj)} {σ : L2.St} {H : Hp} {s : Shared} (I : Inv X pins σ H s) : ∀ {ts : List Addr} {ps : List (Int × Int)} {its : List Value}, Paired (fun t p => SqT X.K H t (pl p)) ts ps → Vals (ts.map V.ref) its → NestedAll s.heap (ps.map nk) its
  | [], [], _, .nil, r => by cases r; exact .nil
  | t :: ts, p :: ps, _, .cons h hs, r => by
    cases r with
    | cons r1 r =>
    cases r1
    exact .cons (nestPair I h) (nestAll I hs r)
/-- the ints of places -/
def PlR (K : PySem.W.Frag) (H : Hp) (ts : List Addr) (ps : List (Int × Int)) : Prop := Paired (fun t p => SqT K H t (pl p)) ts ps
def rIdx (K : PySem.W.Frag) (sq : Addr → List V → Hp → Prop) : V → List V → Hp → VK → Prop := fun x xs H Q => ∃ (a b : Addr) (ts : List Addr) (ps : List (Int × Int)) (q : Int × Int), x = .ref a ∧ xs = [.ref b] ∧ sq a (ts.map V.ref) H ∧ PlR K H ts ps ∧ SqT K H b (pl q) ∧ q ∈ ps ∧ Q (.int (ps.idxOf q : Nat)) H
theorem mt_idxT (hu : X.A.units + 65 < cLine) : MtR X "tuple.index" (rIdx X.K fun a ys H => SqT X.K H a ys) := by
  intro pins s σ H x xs v us Q I rx rs h
  obtain ⟨a, b, ts, ps, q, rfl, rfl, hs, hp, hb, hq, k⟩ := h
  cases rx
  rw [Vals.ref1 rs]
  obtain ⟨its, r, hl, hz⟩ := I.tuple hs
  refine SeqAt.call_tuple_index (ks := ps.map nk) (k := nk q) hl ?_ (List.mem_map.mpr ⟨q, hq, rfl⟩) ?_
  · exact SeqAt.ItemsEq.nested (nestAll I hp r) (nestPair I hb) (by
      have e : (nk q).depth ≤ 2 := by simp [nk, NestedKey.depth, NestedKey.depthAll]
      show X.A.units + 1 + (nk q).depth < cLine
      omega)
  · rw [idx_map]
    exact ⟨.int _, H, I.tok _, ⟨_, rfl⟩, k⟩
theorem mt_idxL (hu : X.A.units + 65 < cLine) : MtR X "list.index" (rIdx X.K fun a ys H => SqL X.K H a ys) := by
  intro pins s σ H x xs v us Q I rx rs h
  obtain ⟨a, b, ts, ps, q, rfl, rfl, hs, hp, hb, hq, k⟩ := h
  cases rx
  rw [Vals.ref1 rs]
  obtain ⟨its, r, hl, hz⟩ := I.list hs
  have hlen : ps.length ≤ sizeLine := by
    rw [List.length_map, hp.length] at hz
    exact hz
  refine SeqAt.call_list_index (ks := ps.map nk) (k := nk q) hl.isList ?_ (by rw [List.length_map]; exact hlen) (List.mem_map.mpr ⟨q, hq, rfl⟩) ?_
  · exact SeqAt.ItemsEq.nested (nestAll I hp r) (nestPair I hb) (by
      have e : (nk q).depth ≤ 2 := by simp [nk, NestedKey.depth, NestedKey.depthAll]
      show X.A.units + 1 + (nk q).depth < cLine
      omega)
  · rw [idx_map]
    exact ⟨.int _, H, I.tok _, ⟨_, rfl⟩, k⟩
end
end K53
set_option maxHeartbeats 4000000
namespace K53
open PySem PySem.Spec PyProof.Rows L2
section
variable {X : Cx}
theorem preSum_list (is : List Int) : ∀ n, preSum (fun i => is.getD i 0) n = (is.take n).sum
  | 0 => by simp [preSum]
  | n + 1 => by
    rw [preSum, preSum_list is n]
    by_cases h : n < is.length
    · rw [getD_of h, List.take_add_one, List.getElem?_eq_getElem h, List.sum_append]
      simp only [Option.toList_some, List.sum_cons, List.sum_nil, Int.add_zero]
    · rw [List.take_of_length_le (by omega), List.take_of_length_le (by omega), List.getD_eq_getElem?_getD, List.getElem?_eq_none (by omega)]
      simp
/-- the raw entries of a tracked dict with tuple keys -/
theorem rawT {pins : List (Addr × Obj)} {σ : L2.St} {H : Hp} {s : Shared} {d : Addr} {kvs : List (List Key × V)} (I : Inv X pins σ H s) (h : H d = some (.dT kvs)) :
    (d == sysModules) = false ∧ ∃ es ep, s.heap.DictRaw d es ep ∧ es.size = kvs.length ∧ ∀ (i : Nat) (hi : i < es.size), ∃ k v, kvs[i]? = some (k, v) ∧ RelV v es[i].val := by
  obtain ⟨-, hs, xs, pr, o, es, ep, ho, hx, hd, he, -⟩ := I.hok d _ h
  have hl : es.size = xs.length := by
    have e := congrArg List.length he
    rw [List.length_map, Array.length_toList] at e
    exact e
  have hl2 : kvs.length = xs.length := pr.length
  refine ⟨hs, es, ep, ⟨o, ho, hx, hd⟩, by omega, fun i hi => ?_⟩
  have hk : i < kvs.length := by omega
  obtain ⟨b, hb, -, -, e3⟩ := paired_get pr (List.getElem?_eq_getElem hk)
  refine ⟨kvs[i].1, kvs[i].2, by rw [List.getElem?_eq_getElem hk], ?_⟩
  have e4 : es.toList[i]? = some (entryOfKey (tupleKind (mixKind X.prog X.w)) b) := by rw [he, List.getElem?_map, hb]; rfl
  rw [Array.getElem?_toList, Array.getElem?_eq_getElem hi] at e4
  rw [Option.some.inj e4]
  exact e3
def tSumVals (td : TE) : TE := fun σ H Q => td σ H fun x H1 => ∃ (a : Addr) (kvs : List (List Key × V)) (is : List Int), x = V.ref a ∧ H1 a = some (.dT kvs) ∧ kvs.map (·.2) = is.map V.int ∧ Q (.int is.sum) H1
variable {o : Expr} {p pos apos mpos : Pos} {td : TE}
theorem pe_sumVals (hc : X.calm = true) (hm : X.mg "sum" = none) (hd : PE X o td) (hg : Gl X "sum" := by rfl) (hbase : attributeBase o "values" X.env (eval o X.env) = eval o X.env := by rfl) (hline : (apos.endLine == mpos.line) = true := by rfl)
    (hse : starEach [Expr.Call (.Attribute o "values" apos) [] [] mpos] X.env = [(false, eval (Expr.Call (.Attribute o "values" apos) [] [] mpos) X.env)] := by rfl) :
    PE X (.Call (.Name "sum" p) [.Call (.Attribute o "values" apos) [] [] mpos] [] pos) (tSumVals td) := by
  constructor
  intro pins s σ H Q I h
  refine wpAny_Call_Name_kw (ld_blt I hg hm (u := .builtin "sum") (by decide +kernel) ?_)
  rw [hse]
  refine PySem.callWith_builtin1 (wpAny_Call_method0_late hbase hline (thn (hd.run pins s σ H _ I h) ?_))
  rintro v s1 ⟨x, H1, I1, r1, a, kvs, is, rfl, ha, hv, q⟩
  obtain rfl : v = Value.ref a := r1
  obtain ⟨hsys, es, ep, raw, hsz, hval⟩ := rawT I1 ha
  obtain ⟨ob, ho, ex, hdat⟩ := id raw
  refine ⟨"dict", "dict.values", F.plainAttrs_dict, F.slot_dict_values, F.type_dict_values, ⟨ob, ho, ex.1⟩, fun b e => ?_, Calls.callWith_builtin rfl (PySem.evalArgs_none ?_)⟩
  · cases e
    exact ⟨ob, ho, ex.2.1⟩
  refine call_meetsIn F.slot_dict_values ⟨ob, ho, ex.1⟩ F.entry_dict_values (F.args_dict_values_1 _) (meets_dict_values_raw a hsys) ⟨⟨es, ep, raw⟩, ?_⟩
  have raw1 : (s1.heap.push { cls := .type "dict_values", data := .fields #[.ref a] }).DictRaw a es ep := raw.at fun o e => Heap.get?_push_of_some _ e
  have hlt : a < s1.heap.objs.size := Heap.lt_size ho
  have hns : (s1.heap.push { cls := .type "dict_values", data := .fields #[.ref a] }).objs.size = s1.heap.objs.size + 1 := Heap.size_push _ _
  have hisl : is.length = kvs.length := by simpa using (congrArg List.length hv).symm
  refine call_sum_walkG (wpAny_pyIter_values_raw (v := s1.heap.objs.size) (d := a) ⟨_, Heap.get?_push_size _ rfl, rfl, rfl⟩ raw1 ?_)
  refine ⟨_, _, _, _, _, _, fun i => is.getD i 0, rfl, Walks.rawValues (A := X.A.in1) (I.ok.hd hc) (s1.heap.push { cls := .type "dict_values", data := .fields #[.ref a] }).objs.size a (by rw [hns]; exact Nat.ne_of_lt (Nat.lt_succ_of_lt hlt)) es ep,
    ⟨⟨_, Heap.get?_push_size _ rfl, rfl, rfl⟩, raw1.at fun o e => Heap.get?_push_of_some _ e⟩, ?_, ?_, ?_⟩
  · intro b hb
    show b < ((s1.heap.push _).push _).objs.size
    rw [Heap.size_push, hns]
    rcases List.mem_cons.mp hb with rfl | hb
    · rw [hns]; exact Nat.lt_succ_self _
    · rw [List.mem_singleton.mp hb]
      exact Nat.lt_succ_of_lt (Nat.lt_succ_of_lt hlt)
  · rintro i v ⟨hi, rfl⟩
    obtain ⟨k, u, e1, e2⟩ := hval i hi
    have e3 : (kvs.map (·.2))[i]? = some u := by rw [List.getElem?_map, e1]; rfl
    rw [hv, List.getElem?_map] at e3
    obtain ⟨j, hj, rfl⟩ := Option.map_eq_some_iff.mp e3
    obtain ⟨t, e4⟩ := e2
    refine ⟨t, ?_⟩
    show es[i].val = Value.int (is.getD i 0) t
    rw [e4, List.getD_eq_getElem?_getD, hj]
    all_goals rfl
  · intro h' tk t' hk
    have e : preSum (fun i => is.getD i 0) es.size = is.sum := by rw [preSum_list, List.take_of_length_le (by omega)]
    rw [e]
    refine ⟨.int _, H1, I1.kept (t' := tk) fun b u e => hk b u (fun hm => ?_) (Heap.get?_push_of_some _ (Heap.get?_push_of_some _ e)), ⟨t', rfl⟩, q⟩
    have e1 : b = _ := List.mem_singleton.mp hm
    have e2 := Heap.lt_size e
    rw [e1, hns] at e2
    exact absurd e2 (Nat.not_lt_of_le (Nat.le_succ _))
end
end K53
set_option maxHeartbeats 4000000
namespace K53
open PySem PySem.Spec PyProof.Rows L2
/-! ### many new objects at once -/
section
variable {X : Cx} {pins : List (Addr × Obj)} {σ : L2.St} {H H' : Hp} {s : Shared} {h' : Heap} {t' : Nat}
theorem _root_.L2.Inv.many (I : Inv X pins σ H s) (k : ∀ b u, s.heap.get? b = some u → h'.get? b = some u) (hs : ∀ b, b < s.heap.objs.size → H' b = H b)
    (new : ∀ b o, s.heap.objs.size ≤ b → H' b = some o → ObjOk X.prog X.w H' h' b o) : Inv X pins σ H' { s with heap := h', toks := t' } := by
  have old : ∀ {b o}, H b = some o → H' b = some o := fun {b o} e => by rw [hs b (I.hok.lt e)]; exact e
  refine I.un ⟨fun b o e _ _ _ => k b o e, fun b o e _ _ _ => ⟨o.slots, k b o e⟩, fun b o e n _ => ?_, fun b o e _ => ⟨o, k b o e⟩, fun b xs e => old e, fun b o u e => old e, fun b ps e => ⟨#[], by rw [old e]; simp⟩⟩ ?_
  · rw [hs b (Heap.lt_size e)]
    exact n
  · intro b o e
    by_cases hb : b < s.heap.objs.size
    · rw [hs b hb] at e
      exact (I.hok b o e).stay (fun c u _ q => k c u q) (fun c q => old q) fun c xs q => old q
    · exact new b o (Nat.le_of_not_lt hb) e
end
/-! ### list(zip(xs, ys)) -/
theorem zip_no_len : typeLookup (.type "zip") "__len__" = pure none := am_miss_of_fast (by decide +kernel)
theorem zip_no_hint : typeLookup (.type "zip") "__length_hint__" = pure none := am_miss_of_fast (by decide +kernel)
section
variable {prog : Program} {w : World} {A : Around} {E : Value → Shared → Prop} {s : Shared}
theorem hint_zip {r : Addr} {Q : Bool → Shared → Prop} (hT : s.TypeIs (.ref r) "zip") (h : Q true s) : wpAny (model prog w) A (Builtin.List.listLengthHint (.ref r)) Q E s := by
  unfold Builtin.List.listLengthHint
  refine wpAny_bind (wpAny_specialOf hT zip_no_len ?_)
  show wpAny _ _ (specialOf (Value.ref r) (Str.ofString "__length_hint__") >>= _) _ _ _
  exact wpAny_bind (wpAny_specialOf hT zip_no_hint (wpAny_pure h))
/-- what is said of the zip while it is drawn: i items are drawn -/
structure ZipSt (h : Heap) (z TI TO i1 i2 l1 l2 S : Addr) (xs ys : Array Value) (i : Nat) : Prop where
  pair : IsPair h TI (.ref i1) (.ref i2)
  it1 : h.IsListIter i1 l1 i
  it2 : h.IsListIter i2 l2 i
  li1 : h.IsList l1 xs
  li2 : h.IsList l2 ys
  held : (IsZip h z TI TO .none ∧ ∃ a b, IsPair h TO a b) ∨ ∃ T f oT, IsZipHeld h z TI TO T f ∧ h.get? T = some oT ∧ T ≠ z ∧ T ≠ i1 ∧ T ≠ i2 ∧ T ≠ S
/-- the pairs that the list holds -/
def Drawn (h : Heap) (n0 : Nat) (S : Addr) (xs ys acc : Array Value) : Prop :=
  ∀ j : Nat, j < acc.size → ∃ (T : Addr) (x y : Value), acc[j]? = some (.ref T) ∧ xs[j]? = some x ∧ ys[j]? = some y ∧ IsPair h T x y ∧ n0 ≤ T ∧ T ≠ S
/-- the objects that the drawing turns -/
def Off (z TO i1 i2 S b : Addr) : Prop := b ≠ z ∧ b ≠ TO ∧ b ≠ i1 ∧ b ≠ i2 ∧ b ≠ S
theorem zip_loop {R : Result → Shared → Prop} (hh : A.handled = none) {z TI TO i1 i2 l1 l2 S : Addr} (D : ZipApart z TI TO i1 i2 l1 l2) {xs ys : Array Value} (hn : xs.size = ys.size) (hz : xs.size ≤ sizeLine) (res : Value)
    (sTI : TI ≠ S) (sl1 : l1 ≠ S) (sl2 : l2 ≠ S) (sO : Off z TO i1 i2 S S ∨ (S ≠ z ∧ S ≠ TO ∧ S ≠ i1 ∧ S ≠ i2)) (n0 : Nat) (ln0 : z < n0 ∧ TO < n0 ∧ i1 < n0 ∧ i2 < n0) :
    ∀ (k i : Nat) (s : Shared) (acc : Array Value) (c : Nat), xs.size - i = k → i ≤ xs.size → n0 ≤ s.heap.objs.size → ZipSt s.heap z TI TO i1 i2 l1 l2 S xs ys i → s.heap.get? S = some { cls := .type "list", dict := none, data := .seq acc c, slots := #[] } →
      acc.size = i → Drawn s.heap n0 S xs ys acc →
      (∀ s' acc' c', s' = { s with heap := s'.heap, toks := s'.toks } → (∀ b o, Off z TO i1 i2 S b → s.heap.get? b = some o → s'.heap.get? b = some o) → s'.heap.get? S = some { cls := .type "list", dict := none, data := .seq acc' c', slots := #[] } →
        acc'.size = xs.size → Drawn s'.heap n0 S xs ys acc' → R (.ok (.ret res)) s') →
      codeAny (model prog w) A (.builtin "list.extend.loop" ⟨[.ref S, .ref z, res], []⟩) R s := by
  have sne : S ≠ z ∧ S ≠ TO ∧ S ≠ i1 ∧ S ≠ i2 := by
    rcases sO with h | h
    · exact absurd rfl h.2.2.2.2
    · exact h
  have far : ∀ {T : Addr}, n0 ≤ T → T ≠ z ∧ T ≠ TO ∧ T ≠ i1 ∧ T ≠ i2 := fun {T} hT =>
    ⟨Nat.ne_of_gt (Nat.lt_of_lt_of_le ln0.1 hT), Nat.ne_of_gt (Nat.lt_of_lt_of_le ln0.2.1 hT), Nat.ne_of_gt (Nat.lt_of_lt_of_le ln0.2.2.1 hT), Nat.ne_of_gt (Nat.lt_of_lt_of_le ln0.2.2.2 hT)⟩
  intro k
  induction k with
  | zero =>
    intro i s acc c hk hi hs0 st hS hacc hD hR
    obtain rfl : i = xs.size := by omega
    refine codeAny_builtin F.entry_extend_loop ?_
    rw [Around.under_plainId F.plain_extend_loop _]
    show wpAny _ A.in1 (pyNext (.ref z) >>= _) _ _ s
    have e : xs[xs.size]? = none ∨ ys[xs.size]? = none := .inl (Array.getElem?_eq_none (Nat.le_refl _))
    have fin : ∀ h', (∀ c o, c ≠ z → c ≠ TO → c ≠ i1 → c ≠ i2 → s.heap.get? c = some o → h'.get? c = some o) → R (.ok (.ret res)) { s with heap := h' } := fun h' hk => by
      refine hR { s with heap := h' } acc c rfl (fun b o ho e => hk b o ho.1 ho.2.1 ho.2.2.1 ho.2.2.2.1 e) (hk S _ sne.1 sne.2.1 sne.2.2.1 sne.2.2.2 hS) hacc fun j hj => ?_
      obtain ⟨T, x, y, e1, e2, e3, e4, e5, e6⟩ := hD j hj
      obtain ⟨f1, f2, f3, f4⟩ := far e5
      exact ⟨T, x, y, e1, e2, e3, hk T _ f1 f2 f3 f4 e4, e5, e6⟩
    rcases st.held with ⟨hz, a, b, hTO⟩ | ⟨T, f, oT, hz, hT, -⟩
    · exact wpAny_bind (wpAny_pyNext_zip_end hh D hz st.pair hTO st.it1 st.it2 st.li1 st.li2 e fun h' hk => wpAny_pure (fin h' hk))
    · exact wpAny_bind (wpAny_pyNext_zip_end_held hh D hz hT st.pair st.it1 st.it2 st.li1 st.li2 e fun h' hk => wpAny_pure (fin h' fun c o c1 _ c3 c4 => hk c o c1 c3 c4))
  | succ k ih =>
    intro i s acc c hk hi hs0 st hS hacc hD hR
    have hlt : i < xs.size := by omega
    have ex := Array.getElem?_eq_getElem hlt
    have ey := Array.getElem?_eq_getElem (xs := ys) (i := i) (by omega)
    refine codeAny_builtin F.entry_extend_loop ?_
    rw [Around.under_plainId F.plain_extend_loop _]
    show wpAny _ A.in1 (pyNext (.ref z) >>= _) _ _ s
    have nz : ∀ {c o}, s.heap.get? c = some o → s.heap.objs.size ≠ c := fun e => Nat.ne_of_gt (Heap.lt_size e)
    have nS : s.heap.objs.size ≠ S := nz hS
    have n1 : s.heap.objs.size ≠ i1 := let ⟨_, e, _⟩ := st.it1; nz e
    have n2 : s.heap.objs.size ≠ i2 := let ⟨_, e, _⟩ := st.it2; nz e
    have nzz : s.heap.objs.size ≠ z := by
      rcases st.held with ⟨hz, _⟩ | ⟨_, _, _, hz, _⟩
      · exact nz hz
      · exact nz hz
    have eS : ∀ (h' : Heap), (∀ c o, c ≠ z → c ≠ TO → c ≠ i1 → c ≠ i2 → s.heap.get? c = some o → h'.get? c = some o) → h'.get? S = some { cls := .type "list", dict := none, data := .seq acc c, slots := #[] } := fun h' hk => hk S _ sne.1 sne.2.1 sne.2.2.1 sne.2.2.2 hS
    have key : ∀ (h' : Heap) c', (∀ c o, c ≠ z → c ≠ TO → c ≠ i1 → c ≠ i2 → s.heap.get? c = some o → h'.get? c = some o) → (∃ T f oT, IsZipHeld h' z TI TO T f ∧ h'.get? T = some oT ∧ T ≠ z ∧ T ≠ i1 ∧ T ≠ i2 ∧ T ≠ S) →
        h'.IsListIter i1 l1 (i + 1) → h'.IsListIter i2 l2 (i + 1) → IsPair h' s.heap.objs.size xs[i] ys[i] → h'.objs.size = s.heap.objs.size + 1 →
        (h'.update S (Obj.mapSeq (·.push (Value.ref s.heap.objs.size)))).get? S = some { cls := .type "list", dict := none, data := .seq (acc.push (.ref s.heap.objs.size)) c', slots := #[] } →
        codeAny (model prog w) A (.builtin "list.extend.loop" ⟨[.ref S, .ref z, res], []⟩) R { s with heap := h'.update S (Obj.mapSeq (·.push (Value.ref s.heap.objs.size))) } := by
      intro h' c' hk hheld a3 a4 a5 a6 hS2
      have oth : ∀ {b o}, b ≠ S → h'.get? b = some o → (h'.update S (Obj.mapSeq (·.push (Value.ref s.heap.objs.size)))).get? b = some o := fun {b o} hb e => (Heap.get?_update_other _ _ (Ne.symm hb)).trans e
      have hsz : (h'.update S (Obj.mapSeq (·.push (Value.ref s.heap.objs.size)))).objs.size = s.heap.objs.size + 1 := by
        rw [Heap.size_update]
        exact a6
      have s1i : i1 ≠ S := Ne.symm sne.2.2.1
      have s2i : i2 ≠ S := Ne.symm sne.2.2.2
      refine ih (i + 1) _ (acc.push (.ref s.heap.objs.size)) c' (by omega) hlt (by rw [hsz]; exact Nat.le_succ_of_le hs0) ?_ hS2 (by rw [Array.size_push, hacc]) ?_ ?_
      · refine ⟨oth sTI (hk _ _ D.TIz D.TITO D.TIi1 D.TIi2 st.pair), a3.at fun o e => oth s1i e, a4.at fun o e => oth s2i e, (st.li1.at fun o e => hk _ o D.l1z D.l1TO D.l1i1 D.l1i2 e).at fun o e => oth sl1 e, (st.li2.at fun o e => hk _ o D.l2z D.l2TO D.l2i1 D.l2i2 e).at fun o e => oth sl2 e, .inr ?_⟩
        obtain ⟨T, f, oT, b1, b2, b3, b4, b5, b6⟩ := hheld
        exact ⟨T, f, oT, oth (Ne.symm sne.1) b1, oth b6 b2, b3, b4, b5, b6⟩
      · intro j hj
        rw [Array.size_push] at hj
        by_cases hji : j < acc.size
        · obtain ⟨T, x, y, e1, e2, e3, e4, e5, e6⟩ := hD j hji
          obtain ⟨f1, f2, f3, f4⟩ := far e5
          refine ⟨T, x, y, ?_, e2, e3, oth e6 (hk T _ f1 f2 f3 f4 e4), e5, e6⟩
          rw [Array.getElem?_push_lt hji]
          rw [Array.getElem?_eq_getElem hji] at e1
          exact e1
        · obtain rfl : j = acc.size := by omega
          rw [hacc]
          refine ⟨s.heap.objs.size, xs[i], ys[i], ?_, ex, ey, oth nS a5, hs0, nS⟩
          rw [← hacc, Array.getElem?_push_size]
      · intro s' acc' c2 es hold hS' hz' hD'
        refine hR s' acc' c2 (by rw [es]) (fun b o ho e => hold b o ho ?_) hS' hz' hD'
        exact oth ho.2.2.2.2 (hk b o ho.1 ho.2.1 ho.2.2.1 ho.2.2.2.1 e)
    have b1 : acc.size + 1 ≤ sizeLine := by omega
    rcases st.held with ⟨hz, a, b, hTO⟩ | ⟨T, f, oT, hz, hT, r1, r2, r3, r4⟩
    · refine wpAny_bind (wpAny_pyNext_zip_item D hz st.pair hTO st.it1 st.it2 st.li1 st.li2 ex ey fun h' a1 a2 a3 a4 a5 a6 hk => ?_)
      show wpAny _ A.in1 (updateSeq S (·.push (Value.ref s.heap.objs.size)) >>= _) _ _ _
      refine wpAny_bind (wpAny_updateSeq (eS h' hk) rfl (wpAny_pure ⟨plainId_quiet F.plain_extend_loop _, key h' _ hk ⟨_, false, _, a1, a5, nzz, n1, n2, nS⟩ a3 a4 a5 a6 (Heap.get?_update_self _ (eS h' hk) rfl)⟩) (by omega) (by show (acc.push _).size ≤ sizeLine + 1; rw [Array.size_push]; omega))
    · refine wpAny_bind (wpAny_pyNext_zip_item_held D hz hT st.pair st.it1 st.it2 st.li1 st.li2 ex ey fun h' a1 a3 a4 a5 a6 hk => ?_)
      have hk' : ∀ c o, c ≠ z → c ≠ TO → c ≠ i1 → c ≠ i2 → s.heap.get? c = some o → h'.get? c = some o := fun c o c1 _ c3 c4 e => hk c o c1 c3 c4 e
      show wpAny _ A.in1 (updateSeq S (·.push (Value.ref s.heap.objs.size)) >>= _) _ _ _
      refine wpAny_bind (wpAny_updateSeq (eS h' hk') rfl (wpAny_pure ⟨plainId_quiet F.plain_extend_loop _, key h' _ hk' ⟨T, true, oT, a1, hk _ _ r1 r2 r3 hT, r1, r2, r3, r4⟩ a3 a4 a5 a6 (Heap.get?_update_self _ (eS h' hk') rfl)⟩) (by omega) (by show (acc.push _).size ≤ sizeLine + 1; rw [Array.size_push]; omega))
theorem zipSt_keep {h h' : Heap} {z TI TO i1 i2 l1 l2 S S' : Addr} {xs ys : Array Value} (st : ZipSt h z TI TO i1 i2 l1 l2 S xs ys 0) (hz : IsZip h z TI TO .none ∧ ∃ a b, IsPair h TO a b) (hk : ∀ b, b = z ∨ b = TI ∨ b = TO ∨ b = i1 ∨ b = i2 ∨ b = l1 ∨ b = l2 → ∀ o, h.get? b = some o → h'.get? b = some o) : ZipSt h' z TI TO i1 i2 l1 l2 S' xs ys 0 ∧ (IsZip h' z TI TO .none ∧ ∃ a b, IsPair h' TO a b) := by
  obtain ⟨p1, p2, p3, p4, p5, -⟩ := st
  obtain ⟨q1, a, b, q2⟩ := hz
  have e1 := hk z (by simp) _ q1
  have e2 := hk TO (by simp) _ q2
  exact ⟨⟨hk TI (by simp) _ p1, p2.at fun o e => hk i1 (by simp) o e, p3.at fun o e => hk i2 (by simp) o e, p4.at fun o e => hk l1 (by simp) o e, p5.at fun o e => hk l2 (by simp) o e, .inl ⟨e1, a, b, e2⟩⟩, e1, a, b, e2⟩
/-- list(z) of a zip of two lists of one length that nobody has drawn from -/
theorem list_zip {z TI TO i1 i2 l1 l2 : Addr} (D : ZipApart z TI TO i1 i2 l1 l2) {xs ys : Array Value} (hn : xs.size = ys.size) (hz : xs.size ≤ sizeLine) (hh : A.handled = none) {Q : Value → Shared → Prop}
    (lt : z < s.heap.objs.size ∧ TI < s.heap.objs.size ∧ TO < s.heap.objs.size ∧ i1 < s.heap.objs.size ∧ i2 < s.heap.objs.size ∧ l1 < s.heap.objs.size ∧ l2 < s.heap.objs.size)
    (st : ZipSt s.heap z TI TO i1 i2 l1 l2 s.heap.objs.size xs ys 0) (hzz : IsZip s.heap z TI TO .none ∧ ∃ a b, IsPair s.heap TO a b)
    (hQ : ∀ h' tk acc c, (∀ b o, Off z TO i1 i2 s.heap.objs.size b → s.heap.get? b = some o → h'.get? b = some o) → h'.get? s.heap.objs.size = some { cls := .type "list", dict := none, data := .seq acc c, slots := #[] } → acc.size = xs.size →
      Drawn h' (s.heap.objs.size + 1) s.heap.objs.size xs ys acc → Q (.ref s.heap.objs.size) { s with heap := h', toks := tk }) :
    wpAny (model prog w) A (call (.type "list") [.ref z]) Q E s := by
  obtain ⟨t1, t2, t3, t4, t5, t6, t7⟩ := lt
  refine callType_codes (Q₁ := fun obj s₁ => obj = .ref s.heap.objs.size ∧ s₁ = { s with heap := s.heap.push { cls := .type "list", data := .seq #[] } }) PySem.F.called_list (PySem.F.typeCall_list_1 _) PySem.F.entry_list_init (code_list_new _ ⟨rfl, rfl⟩) ?_
  rintro obj s₁ ⟨rfl, rfl⟩
  generalize hS : s.heap.objs.size = S at *
  have lS : (s.heap.push { cls := .type "list", data := .seq #[] }).get? S = some { cls := .type "list", data := .seq #[] } := by rw [← hS]; exact Heap.get?_push_size _ rfl
  have nz : z ≠ S := Nat.ne_of_lt t1
  have nTI : TI ≠ S := Nat.ne_of_lt t2
  have nTO : TO ≠ S := Nat.ne_of_lt t3
  have n1 : i1 ≠ S := Nat.ne_of_lt t4
  have n2 : i2 ≠ S := Nat.ne_of_lt t5
  have nl1 : l1 ≠ S := Nat.ne_of_lt t6
  have nl2 : l2 ≠ S := Nat.ne_of_lt t7
  have keep1 := zipSt_keep (S' := S) (h' := s.heap.push { cls := .type "list", data := .seq #[] }) st hzz fun b _ o e => Heap.get?_push_of_some _ e
  refine ⟨⟨_, lS, rfl⟩, PySem.F.args_list_init_2 _ _, ?_⟩
  show wpAny _ _ (do let old ← Builtin.List.listItems (.ref S); Builtin.List.listUpdate (.ref S) (fun _ => #[]); letGo old.toList.reverse; Builtin.List.listExtendWith (.ref S) (.ref z) .none) _ _ _
  refine wpAny_bind ?_
  unfold Builtin.List.listItems
  refine wpAny_bind (wpAny_seqItems lS rfl (wpAny_pure ?_))
  show wpAny _ _ (updateSeq S (fun _ => #[]) >>= fun _ => letGo (#[] : Array Value).toList.reverse >>= fun _ => Builtin.List.listExtendWith (.ref S) (.ref z) .none) _ _ _
  refine wpAny_bind (wpAny_updateSeq lS rfl ?_)
  have lS2 := Heap.get?_update_self (Obj.mapSeq (fun _ => (#[] : Array Value))) lS rfl
  have oth : ∀ {h : Heap} {f : Obj → Obj} {b o}, b ≠ S → h.get? b = some o → (h.update S f).get? b = some o := fun {h f b o} hb e => (Heap.get?_update_other _ _ (Ne.symm hb)).trans e
  have seven : ∀ b, b = z ∨ b = TI ∨ b = TO ∨ b = i1 ∨ b = i2 ∨ b = l1 ∨ b = l2 → b ≠ S := by
    rintro b (rfl | rfl | rfl | rfl | rfl | rfl | rfl) <;> assumption
  have keep2 := zipSt_keep (S' := S) keep1.1 keep1.2 fun b hb o e => oth (f := Obj.mapSeq (fun _ => (#[] : Array Value))) (seven b hb) e
  refine wpAny_bind (wpAny_letGo ?_)
  unfold Builtin.List.listExtendWith
  refine wpAny_bind (wpAny_typeOf (T := "zip") ⟨_, keep2.2.1, rfl⟩ ?_)
  have d1 : Builtin.List.listSameRef (.ref S) (.ref z) = false := by simp [Builtin.List.listSameRef, Ne.symm nz]
  have d2 : (Value.type "zip" == Value.type "list") = false := by decide
  have d3 : (Value.type "zip" == Value.type "tuple") = false := by decide
  simp only [d1, d2, d3, Bool.or_false, Bool.false_eq_true, if_false]
  refine wpAny_bind (wpAny_pyIter_zip keep2.2.1 ?_)
  refine wpAny_bind (wpAny_holding (hint_zip ⟨_, keep2.2.1, rfl⟩ ?_))
  simp only [Bool.true_or, if_true]
  refine wpAny_bind (wpAny_rule ?_)
  refine wpAny_bind ?_
  show wpAny _ _ (updateSeq S (·.push .none) >>= fun _ => updateSeq S (·.pop)) _ _ _
  refine wpAny_bind (wpAny_updateSeq lS2 rfl ?_)
  have lS3 := Heap.get?_update_self (Obj.mapSeq (·.push Value.none)) lS2 rfl
  refine wpAny_updateSeq (hz := by seq_fits) lS3 rfl ?_
  have lS4 := Heap.get?_update_self (Obj.mapSeq (·.pop)) lS3 rfl
  have keep3 := zipSt_keep (S' := S) keep2.1 keep2.2 fun b hb o e => oth (f := Obj.mapSeq (·.pop)) (seven b hb) (oth (f := Obj.mapSeq (·.push Value.none)) (seven b hb) e)
  refine wpAny_pure ⟨plainId_quiet PySem.F.plain_extend_loop _, ?_⟩
  refine zip_loop (by first | exact hh | simpa using hh) D hn hz .none nTI nl1 nl2 (.inr ⟨Ne.symm nz, Ne.symm nTO, Ne.symm n1, Ne.symm n2⟩) (S + 1) ⟨Nat.lt_succ_of_lt t1, Nat.lt_succ_of_lt t3, Nat.lt_succ_of_lt t4, Nat.lt_succ_of_lt t5⟩ _ 0 _ #[] _ rfl (Nat.zero_le _) ?_ keep3.1 lS4 rfl (fun j hj => absurd hj (Nat.not_lt_zero _)) ?_
  · show S + 1 ≤ _
    rw [Heap.size_update, Heap.size_update, Heap.size_update, Heap.size_push, hS]
    exact Nat.le_refl _
  · intro s' acc' c' es hold hS' hz' hD'
    rw [es]
    refine ⟨rfl, hQ s'.heap s'.toks acc' c' (fun b o ho e => hold b o ho ?_) hS' hz' hD'⟩
    exact oth ho.2.2.2.2 (oth ho.2.2.2.2 (oth ho.2.2.2.2 (Heap.get?_push_of_some _ e)))
end
section
variable {X : Cx} {e e2 : Expr} {ta : TA} {p p2 pos pos2 : Pos}
def adr : Value → Addr
  | .ref a => a
  | _ => 0
/-- the new pairs, as the abstract heap has them -/
def pairH (H : Hp) (S : Addr) (ts : List Addr) (xs ys : List V) : Hp := fun b => if b = S then some (.lst (ts.map V.ref)) else if b ∈ ts then some (.tup [xs.getD (ts.idxOf b) .non, ys.getD (ts.idxOf b) .non]) else H b
def tListZip (K : PySem.W.Frag) (ta : TA) : TE := fun σ H Q => ta σ H fun vs H1 => ∃ (a b : Addr) (xs ys : List V), vs = [.ref a, .ref b] ∧ SqL K H1 a xs ∧ SqL K H1 b ys ∧ xs.length = ys.length ∧
  ∀ p (ts : List Addr) H', H1 p = none → Same H1 H' → H' p = some (.lst (ts.map V.ref)) → Paired (fun t (z : V × V) => H' t = some (.tup [z.1, z.2])) ts (xs.zip ys) → Q (.ref p) H'
theorem paired_of {α β : Type} {F : α → β → Prop} : ∀ {as : List α} {bs : List β}, as.length = bs.length → (∀ (j : Nat) a b, as[j]? = some a → bs[j]? = some b → F a b) → Paired F as bs
  | [], [], _, _ => .nil
  | a :: as, b :: bs, hl, h => .cons (h 0 a b rfl rfl) (paired_of (by simpa using hl) fun j x y e1 e2 => h (j + 1) x y (by simpa using e1) (by simpa using e2))
theorem pe_listZip (hc : X.calm = true) (hm : X.mg "list" = none) (hm2 : X.mg "zip" = none) (ha : PA X [e, e2] ta) (hg : Gl X "list" := by rfl) (hg2 : Gl X "zip" := by rfl)
    (hs : starEach [e, e2] X.env = (false, eval e X.env) :: starEach [e2] X.env := by rfl) (hpl : (backTo pos2 (starEach [e2] X.env)).any (·.1) = false := by rfl)
    (hs1 : starEach [.Call (.Name "zip" p2) [e, e2] [] pos2] X.env = (false, eval (.Call (.Name "zip" p2) [e, e2] [] pos2) X.env) :: starEach [] X.env := by rfl) :
    PE X (.Call (.Name "list" p) [.Call (.Name "zip" p2) [e, e2] [] pos2] [] pos) (tListZip X.K ta) := by
  constructor
  intro pins s σ H Q I h
  refine wpAny_Call_Name_kw (ld_blt I hg hm (u := .type "list") (by decide +kernel) ?_)
  refine PyProof.Rows.callWith_type1 ?_ hs1 rfl
  rw [hs1]
  show wpAny _ _ (spliced ((false, eval (.Call (.Name "zip" p2) [e, e2] [] pos2) X.env) :: backTo pos (starEach [] X.env))) _ _ s
  refine Calls.spliced_cons ?_
  refine Call_ (ld_blt I hg2 hm2 PyProof.Rows.boot_zip (PyProof.Rows.callWith_type1 (thn (ha.run pos2 pins s σ H _ I h) ?_) hs hpl))
  rintro us s1 ⟨vs, H1, I1, r1, a, b, xs, ys, rfl, hqx, hqy, hl, q⟩
  cases r1 with
  | cons r rr =>
  cases rr with
  | cons r' rr =>
  cases rr
  cases r
  cases r'
  obtain ⟨its, rv, p1, hz⟩ := I1.list hqx
  obtain ⟨its2, rv2, p3, -⟩ := I1.list hqy
  have la : a < s1.heap.objs.size := p1.lt
  have lb : b < s1.heap.objs.size := p3.lt
  have hl1 := rv.length
  have hl2 := rv2.length
  have D := PySem.W.ktu_apart s1.heap.objs.size a b la lb
  refine call_zip_2 p1.isList p3.isList fun h' hz0 hTI hTO h1 h2 hsz hk => ?_
  refine Calls.spliced_nil ?_
  generalize hN : s1.heap.objs.size = N at *
  have lt7 : ∀ j, j < 5 → N + j < h'.objs.size := fun j hj => by rw [hsz]; exact Nat.add_lt_add_left hj N
  have lt0 : ∀ {c}, c < N → c < h'.objs.size := fun hc => by rw [hsz]; exact Nat.lt_of_lt_of_le hc (Nat.le_add_right _ _)
  refine list_zip (s := { s1 with heap := h' }) D (xs := its.toArray) (ys := its2.toArray) (by simp only [List.size_toArray]; omega) (by simp only [List.size_toArray]; omega) (I.ok.hd hc) ⟨lt7 4 (by decide), lt7 2 (by decide), lt7 3 (by decide), lt7 0 (by decide), lt7 1 (by decide), lt0 la, lt0 lb⟩
    ⟨hTI, h1, h2, p1.isList.at fun o e => hk _ o e, p3.isList.at fun o e => hk _ o e, .inl ⟨hz0, _, _, hTO⟩⟩ ⟨hz0, _, _, hTO⟩ ?_
  intro h2' tk acc c hold hS hacc hD
  generalize hSS : ({ s1 with heap := h' } : Shared).heap.objs.size = S at *
  have hSN : N ≤ S := by rw [hsz]; exact Nat.le_add_right _ _
  have hasz : acc.size = its.length := by simpa using hacc
  have old : ∀ b o, s1.heap.get? b = some o → h2'.get? b = some o := fun b o e => by
    have hb : b < N := by rw [← hN]; exact Heap.lt_size e
    have nn : ∀ j, b ≠ N + j := fun j => Nat.ne_of_lt (Nat.lt_of_lt_of_le hb (Nat.le_add_right _ _))
    exact hold b o ⟨nn 4, nn 3, nn 0, nn 1, Nat.ne_of_lt (Nat.lt_of_lt_of_le hb hSN)⟩ (hk b o e)
  have facc : ∀ (j : Nat), j < acc.size → ∃ (T : Addr) (x y : V) (u v : Value), (acc.toList.map adr)[j]? = some T ∧ acc[j]? = some (.ref T) ∧ xs[j]? = some x ∧ ys[j]? = some y ∧ RelV x u ∧ RelV y v ∧ IsPair h2' T u v ∧ S + 1 ≤ T := by
    intro j hj
    obtain ⟨T, u, v, e1, e2, e3, e4, e5, -⟩ := hD j hj
    have jx : j < xs.length := by omega
    have jy : j < ys.length := by omega
    obtain ⟨u', e6, r6⟩ := rv.get (List.getElem?_eq_getElem jx)
    obtain ⟨v', e7, r7⟩ := rv2.get (List.getElem?_eq_getElem jy)
    have e2' : its[j]? = some u := by simpa using e2
    have e3' : its2[j]? = some v := by simpa using e3
    rw [e6] at e2'
    rw [e7] at e3'
    cases e2'
    cases e3'
    refine ⟨T, xs[j], ys[j], u, v, ?_, e1, List.getElem?_eq_getElem jx, List.getElem?_eq_getElem jy, r6, r7, e4, e5⟩
    rw [List.getElem?_map, Array.getElem?_toList, e1]
    rfl
  generalize hts : acc.toList.map adr = ts at *
  have htl : ts.length = acc.size := by rw [← hts, List.length_map, Array.length_toList]
  have tge : ∀ t ∈ ts, S + 1 ≤ t := fun t ht => by
    obtain ⟨j, hj, rfl⟩ := List.mem_iff_getElem.mp ht
    obtain ⟨T, x, y, u, v, e1, -, -, -, -, -, -, e8⟩ := facc j (by omega)
    rw [List.getElem?_eq_getElem hj] at e1
    rw [Option.some.inj e1]
    exact e8
  have tne : ∀ t ∈ ts, t ≠ S := fun t ht => Nat.ne_of_gt (tge t ht)
  have tup : ∀ (j : Nat) t x y, ts[j]? = some t → xs[j]? = some x → ys[j]? = some y → pairH H1 S ts xs ys t = some (.tup [x, y]) := by
    intro j t x y et ex ey
    have hmem : t ∈ ts := List.mem_of_getElem? et
    have hi : ts.idxOf t < ts.length := List.idxOf_lt_length_of_mem hmem
    unfold pairH
    rw [if_neg (tne t hmem), if_pos hmem]
    obtain ⟨hj, -⟩ := List.getElem?_eq_some_iff.mp et
    obtain ⟨T, x1, y1, u, v, f1, -, f2, f3, f4, f5, f6, -⟩ := facc j (by omega)
    obtain ⟨T', x2, y2, u', v', g1, -, g2, g3, g4, g5, g6, -⟩ := facc (ts.idxOf t) (by omega)
    rw [et] at f1
    rw [ex] at f2
    rw [ey] at f3
    cases f1
    cases f2
    cases f3
    have eT : T' = t := by
      rw [List.getElem?_eq_getElem hi, List.getElem_idxOf hi] at g1
      exact (Option.some.inj g1).symm
    subst eT
    have ee := f6.symm.trans g6
    injection ee with ee
    injection ee with _ _ ee _
    injection ee with ee _
    injection ee with ee
    injection ee with e1 ee
    injection ee with e2 _
    rw [← e1] at g4
    rw [← e2] at g5
    rw [List.getD_eq_getElem?_getD, List.getD_eq_getElem?_getD, g2, g3, g4.inj f4, g5.inj f5]
    rfl
  have J : Inv X pins σ (pairH H1 S ts xs ys) { s1 with heap := h2', toks := tk } := by
    refine I1.many old (fun b hb => ?_) (fun b o hb e => ?_)
    · rw [hN] at hb
      unfold pairH
      rw [if_neg (Nat.ne_of_lt (Nat.lt_of_lt_of_le hb hSN)), if_neg (fun hm => absurd (tge b hm) (Nat.not_le_of_lt (Nat.lt_succ_of_lt (Nat.lt_of_lt_of_le hb hSN))))]
    · unfold pairH at e
      by_cases c1 : b = S
      · rw [if_pos c1] at e
        cases e
        rw [c1]
        refine ⟨by rw [List.length_map]; omega, acc.toList, c, ?_, by rw [Array.toArray_toList]; exact hS⟩
        rw [← hts, List.map_map]
        refine paired_of (by simp) fun j x u e1 e2 => ?_
        rw [Array.getElem?_toList] at e2
        obtain ⟨hj, -⟩ := Array.getElem?_eq_some_iff.mp e2
        obtain ⟨T, -, -, -, -, -, e3, -⟩ := facc j hj
        rw [e3] at e2
        cases e2
        rw [List.getElem?_map, Array.getElem?_toList, e3] at e1
        cases e1
        rfl
      · rw [if_neg c1] at e
        by_cases c2 : b ∈ ts
        · obtain ⟨j, hj, rfl⟩ := List.mem_iff_getElem.mp c2
          obtain ⟨T, x, y, u, v, e1, -, e3, e4, e5, e6, e7, -⟩ := facc j (by omega)
          rw [List.getElem?_eq_getElem hj] at e1
          have e8 := tup j _ x y (List.getElem?_eq_getElem hj) e3 e4
          unfold pairH at e8
          rw [if_neg c1] at e8
          rw [e8] at e
          cases e
          rw [Option.some.inj e1]
          exact ⟨small64 (n := 2) (by decide), [u, v], .cons e5 (.cons e6 .nil), ⟨_, e7, rfl, _, rfl⟩⟩
        · rw [if_neg c2] at e
          exact absurd (I1.hok.lt e) (Nat.not_lt_of_le hb)
  have nS : H1 S = none := I1.hok.fresh (by rw [hN]; exact hSN)
  refine ⟨.ref S, _, J, rfl, q S ts _ nS (fun b o e => ?_) (by unfold pairH; rw [if_pos rfl]) (paired_of (by rw [List.length_zip]; omega) fun j t z et ez => ?_)⟩
  · have hb : b < s1.heap.objs.size := I1.hok.lt e
    rw [hN] at hb
    unfold pairH
    rw [if_neg (Nat.ne_of_lt (Nat.lt_of_lt_of_le hb hSN)), if_neg (fun hm => absurd (tge b hm) (Nat.not_le_of_lt (Nat.lt_succ_of_lt (Nat.lt_of_lt_of_le hb hSN))))]
    exact e
  · rw [List.getElem?_zip_eq_some] at ez
    exact tup j t z.1 z.2 et ez.1 ez.2
end
end K53
set_option maxHeartbeats 4000000
namespace K53
open PySem PySem.Spec PyProof.Rows L2
section
variable {M : Model} {A : Around} {R : GenEnd} {Y : Protocol} {n : Nat} {s₀ : Shared} {c : Code} {fs : List Frame} {s : Shared} {env : Env} {K : Flow → Sem PySem.Fin} {J : Value → Sem PySem.Fin} {gd : Bool → Bool} {lv : List Value → List Value}
/-- how an own loop's call takes what comes back -/
abbrev backK (env : Env) (K : Flow → Sem PySem.Fin) (J : Value → Sem PySem.Fin) (gd : Bool → Bool) (lv : List Value → List Value) : Result → Sem PySem.Fin := fun r => ((match r with | .ok f => (.pure f : Sem Flow) | .error e => .raise e).onRaise (cameBack env)).wrap K J gd lv
theorem seg_For {tg iter : Expr} {body : List Stmt} {pos : Pos} (hs : ∀ x, foldedSetIterable iter env x = pure x)
    (h : wpAny M (A.over c fs) (eval iter env) (fun x s1 => wpAny M (A.over c fs) (pyIter x) (fun it s2 => ∀ p, Seg M A R Y n s₀ (.forLoop tg it body [] env) (M.den (.forLoop tg it body [] env)) (.ret (backK env K J gd lv) none (gd false) (lv []) c p [] :: fs) s2) (fun e s2 => Seg M A R Y n s₀ c (J e) fs s2) s1) (fun e s1 => Seg M A R Y n s₀ c (J e) fs s1) s) :
    Seg M A R Y n s₀ c ((exec (.For tg iter body [] pos) env).wrap K J gd lv) fs s := by
  refine seg_at ?_
  show Seg M A R Y n s₀ c ((eval iter env >>= fun v => foldedSetIterable iter env v >>= fun x => standAt iter.pos >>= fun _ => holding [x] (pyIter x) >>= fun it => runOwn (.forLoop tg it body [] env) env).wrap K J gd lv) fs s
  rw [Sem.bind_eq_wrap', Sem.wrap_wrap]
  refine seg_wrap (wpAny_mono h (fun x s1 h1 => ?_) fun e s1 h1 => h1)
  rw [hs]
  show Seg M A R Y n s₀ c ((standAt iter.pos >>= fun _ => holding [x] (pyIter x) >>= fun it => runOwn (.forLoop tg it body [] env) env).wrap K J gd lv) fs s1
  refine seg_at ?_
  show Seg M A R Y n s₀ c ((holding [x] (pyIter x) >>= fun it => runOwn (.forLoop tg it body [] env) env).wrap K J gd lv) fs s1
  rw [Sem.bind_eq_wrap', Sem.wrap_wrap]
  exact seg_wrap (wpAny_holding (wpAny_mono h1 (fun it s2 h2 => seg_call h2) fun e s2 h2 => h2))
end
section
variable {prog : Program} {w : World} {A : Around} {R : GenEnd} {Y : Protocol} {n : Nat} {s₀ : Shared} {fs : List Frame} {s : Shared} {env : Env}
/-- what an exception does on its way out of the loop's code -/
abbrev outK (env : Env) : Value → Sem PySem.Fin := fun e => (do noteFrame e env; theTreesLotGoes e : Sem Unit).wrap (fun _ => .raise e) .raise id id
theorem seg_forLoop {tg : Expr} {it : Value} {body : List Stmt}
    (h : wpAny (model prog w) (A.over (.forLoop tg it body [] env) fs) (pyNext it) (fun r s1 => match r with
        | none => Seg (model prog w) A R Y n s₀ (.forLoop tg it body [] env) (.pure (.again (.block [] env))) fs s1
        | some v => wpAny (model prog w) (A.over (.forLoop tg it body [] env) fs) (letOwnedTupleGo tg it v) (fun _ s2 => wpAny (model prog w) (A.over (.forLoop tg it body [] env) fs) (assign tg env v) (fun _ s3 =>
            Seg (model prog w) A R Y n s₀ (.forLoop tg it body [] env) ((execs body env).wrap (fun f => match f with
              | .next | .cont => .pure (.again (.forLoop tg it body [] env))
              | .brk => .pure (.done .next)
              | .ret v => .pure (.done (.ret v))) (outK env) id id) fs s3)
            (fun e s3 => Seg (model prog w) A R Y n s₀ (.forLoop tg it body [] env) (outK env e) fs s3) s2)
            (fun e s2 => Seg (model prog w) A R Y n s₀ (.forLoop tg it body [] env) (outK env e) fs s2) s1)
      (fun e s1 => ∀ s2, s2 = s1 → Seg (model prog w) A R Y n s₀ (.forLoop tg it body [] env) (outK env e) fs s2) s) :
    Seg (model prog w) A R Y n s₀ (.forLoop tg it body [] env) ((model prog w).den (.forLoop tg it body [] env)) fs s := by
  show Seg _ A R Y n s₀ _ ((forTurn tg it body [] env).onRaise (fun x => do noteFrame x env; theTreesLotGoes x)) fs s
  unfold forTurn
  rw [Sem.onRaise_eq_wrap]
  refine seg_at ?_
  show Seg _ A R Y n s₀ _ ((((pyNext it).onRaise fun _ => standAt { tg.pos with line := 0 }) >>= _).wrap _ _ id id) fs s
  rw [Sem.bind_eq_wrap', Sem.wrap_wrap, Sem.onRaise_eq_wrap, Sem.wrap_wrap]
  refine seg_wrap (wpAny_mono h (fun r s1 h1 => ?_) fun e s1 h1 => ?_)
  · cases r with
    | none => exact h1
    | some v =>
      show Seg _ A R Y n s₀ _ ((letOwnedTupleGo tg it v >>= fun _ => assign tg env v >>= fun _ => execs body env >>= _).wrap _ _ _ _) fs s1
      rw [Sem.bind_eq_wrap', Sem.wrap_wrap]
      refine seg_wrap (wpAny_mono h1 (fun _ s2 h2 => ?_) fun e s2 h2 => ?_)
      · show Seg _ A R Y n s₀ _ ((assign tg env v >>= fun _ => execs body env >>= _).wrap _ _ _ _) fs s2
        rw [Sem.bind_eq_wrap', Sem.wrap_wrap]
        refine seg_wrap (wpAny_mono h2 (fun _ s3 h3 => ?_) fun e s3 h3 => ?_)
        · show Seg _ A R Y n s₀ _ ((execs body env >>= _).wrap _ _ _ _) fs s3
          rw [Sem.bind_eq_wrap', Sem.wrap_wrap]
          rw [Sem.wrap_congr (execs body env) _ _ (K' := fun f => match f with
              | .next | .cont => .pure (.again (.forLoop tg it body [] env))
              | .brk => .pure (.done .next)
              | .ret v => .pure (.done (.ret v))) (H' := outK env) (fun f => by cases f <;> rfl) (fun e => by exact Sem.bind_eq_wrap _ _)]
          exact h3
        · show Seg _ A R Y n s₀ _ ((do noteFrame e env; theTreesLotGoes e : Sem Unit).bind fun _ => .raise e) fs s3
          rw [Sem.bind_eq_wrap]
          exact h3
      · show Seg _ A R Y n s₀ _ ((do noteFrame e env; theTreesLotGoes e : Sem Unit).bind fun _ => .raise e) fs s2
        rw [Sem.bind_eq_wrap]
        exact h2
  · refine seg_at ?_
    show Seg _ A R Y n s₀ _ ((do noteFrame e env; theTreesLotGoes e : Sem Unit).bind fun _ => .raise e) fs s1
    rw [Sem.bind_eq_wrap]
    exact h1 s1 rfl
/-! ### for x in xs within a generator's body -/
variable {X : Cx}
def tGFor (wi : TI) (g : TG) (tb : TGn) : TGn := fun D ys σ H => wi σ H fun J H1 => ∃ W : Nat → Nat → List V → L2.St → Hp → Prop, (∃ m, W 0 m ys σ H1) ∧ ∀ i m ys σ H, W i m ys σ H →
  (J.stop i H ∧ D.nx ys σ H) ∨ (J.go i H ∧ ∃ N : List V → L2.St → Hp → Prop, (∀ ys' σ' H', N ys' σ' H' → ∃ m', m' < m ∧ W (i + 1) m' ys' σ' H') ∧ ∀ x H', J.yld i H x H' → g x σ H' fun σ2 H2 => tb { D with nx := N, ct := N, bk := D.nx } ys σ2 H2)
theorem gs_for {tg iter : Expr} {body : List Stmt} {pos : Pos} {wi : TI} {g : TG} {tb : TGn} (hp : PassesOwn (model X.prog X.w) X.A X.env X.xe) (hc : X.calm = true) (hi : PI X tg iter wi) (hg : PG X tg g) (hb : GSs X body tb)
    (hs : ∀ x, foldedSetIterable iter X.env x = pure x := by intro _; rfl) : GS X (.For tg iter body [] pos) (tGFor wi g tb) := by
  constructor
  intro A S ip R n ys s₀ c fs K J gd lv s σ H D gc hn k hI ht
  obtain ⟨acc, cc, r, I⟩ := hI
  refine seg_For hs ?_
  rw [gc.over]
  refine wpAny_mono (hi.run _ s σ H _ I ht) (fun x s1 h1 => ?_) fun e s1 h1 => k.exc n s₀ e s1 h1
  refine wpAny_mono h1 (fun itv s2 h2 => ?_) fun e s2 h2 => k.exc n s₀ e s2 h2
  obtain ⟨it, fp, tn, JJ, H2, rfl, I2, T, st2, f2, W, ⟨m0, w0⟩, turn⟩ := h2
  intro p
  have gl := fun (kk : Result → Sem PySem.Fin) => gc_loop (k := kk) (c' := .forLoop tg (.ref it) body [] X.env) (l := lv []) (kp := []) (p := p) gc rfl rfl
  have stat : ∀ {H' : Hp}, (∀ b ∈ fp, H' b = none) → ∀ b ∈ fp, FpOk X ((S, lstObj acc cc) :: ip) H' b := fun hn b hb => ⟨hn b hb, (f2 b hb).2⟩
  have fpS : ∀ b ∈ fp, b ≠ S := fun b hb e => (f2 b hb).2.2.2.2.2 (S, lstObj acc cc) (List.mem_append_right _ List.mem_cons_self) e.symm
  have loop : ∀ (m i n : Nat) (ys : List V) (s₀ s : Shared) (σ : L2.St) (H : Hp), n + ys.length = sizeLine → W i m ys σ H → GI X S ip ys σ H s → tn i s.heap → (∀ b ∈ fp, H b = none) →
      Seg (model X.prog X.w) A R (GY X S) n s₀ (.forLoop tg (.ref it) body [] X.env) ((model X.prog X.w).den (.forLoop tg (.ref it) body [] X.env)) (.ret (backK X.env K J gd lv) none (gd false) (lv []) c p [] :: fs) s := by
    intro m
    induction m using Nat.strongRecOn with
    | ind m ih =>
      intro i n ys s₀ s σ H hn w hI st fr
      have ee : ∀ (n : Nat) (s₀ : Shared) (x : Value) (s' : Shared), X.xe x s' → Seg (model X.prog X.w) A R (GY X S) n s₀ (.forLoop tg (.ref it) body [] X.env) (outK X.env x) (.ret (backK X.env K J gd lv) none (gd false) (lv []) c p [] :: fs) s' := fun n s₀ x s' hx => by
        refine seg_wrap ?_
        rw [(gl _).over]
        refine wpAny_bind (wpAny_mono (hp x s' hx) (fun _ s'' hcb => wpAny_theTreesLotGoes ?_) fun y s'' hcb => ?_)
        · exact seg_leaf (.error x) (seg_cameBack gc k hcb)
        · exact seg_leaf (.error y) (seg_cameBack gc k hcb)
      obtain ⟨acc2, cc2, r2, I3⟩ := hI
      have stat2 : ∀ {H' : Hp}, (∀ b ∈ fp, H' b = none) → ∀ b ∈ fp, FpOk X ((S, lstObj acc2 cc2) :: ip) H' b := fun hn b hb => by
        obtain ⟨q1, q2, q3, q4, q5, q6⟩ := stat hn b hb
        refine ⟨q1, q2, q3, q4, q5, fun p hp => ?_⟩
        rcases List.mem_append.mp hp with hp | hp
        · exact q6 p (List.mem_append_left _ hp)
        · rcases List.mem_cons.mp hp with rfl | hp
          · exact (fpS b hb).symm
          · exact q6 p (List.mem_append_right _ (List.mem_cons_of_mem _ hp))
      refine seg_forLoop ?_
      rw [(gl _).over]
      rcases turn i m ys σ H w with ⟨stop, qn⟩ | ⟨go, N, hN, step⟩
      · refine wpAny_mono (T.done X rfl rfl rfl hc i _ s σ H X.xe I3 (stat2 fr) st stop) (fun rr s4 h4 => ?_) fun e s4 he s5 es => by rw [es]; exact ee n s₀ e s4 he
        obtain ⟨rfl, I4⟩ := h4
        refine seg_again rfl ?_
        exact seg_leaf (.ok .next) (k.ok n ys s₀ s4 .next hn ⟨σ, H, ⟨acc2, cc2, r2, I4⟩, qn⟩)
      · refine wpAny_mono (T.item X rfl rfl rfl hc i _ s σ H X.xe I3 (stat2 fr) st go) (fun rr s4 h4 => ?_) fun e s4 he s5 es => by rw [es]; exact ee n s₀ e s4 he
        obtain ⟨u, rfl, h4⟩ := h4
        refine wpAny_mono h4 (fun _ s5 h5 => ?_) fun e s5 he => ee n s₀ e s5 he
        obtain ⟨x, H5, I5, r5, y5, st5, fr5⟩ := h5
        have I5' := I5.pinned (stat2 fr5) (T.obj _ _ st5)
        refine wpAny_mono (hg.run _ s5 σ H5 x u _ I5' r5 (step x H5 y5)) (fun _ s6 h6 => ?_) fun e s6 he => ee n s₀ e s6 he
        obtain ⟨σ6, H6, I6, q6⟩ := h6
        have gi : GI X S (ip ++ pinsAt fp s5.heap) ys σ6 H6 s6 := ⟨acc2, cc2, r2, I6⟩
        have ipS : ∀ p ∈ ip ++ pinsAt fp s5.heap, p.1 ≠ S := fun p hp => by
          rcases List.mem_append.mp hp with hp | hp
          · exact gc.ip p hp
          · exact fpS p.1 (of_pinsAt hp).1
        have back : ∀ {ys' : List V} {σ' : L2.St} {H' : Hp} {s' : Shared}, GI X S (ip ++ pinsAt fp s5.heap) ys' σ' H' s' → GI X S ip ys' σ' H' s' ∧ tn (i + 1) s'.heap ∧ ∀ b ∈ fp, H' b = none := by
          rintro ys' σ' H' s' ⟨acc3, cc3, r3, I7⟩
          have pin : ∀ b ∈ fp, ∀ o, s5.heap.get? b = some o → s'.heap.get? b = some o ∧ H' b = none := fun b hb o e => by
            have z := I7.pin (b, o) (List.mem_append_right _ (List.mem_cons_of_mem _ (List.mem_append_right _ (mem_pinsAt hb e))))
            exact ⟨z.1, z.2.1⟩
          refine ⟨⟨acc3, cc3, r3, Inv.unpinned (pins := (S, lstObj acc3 cc3) :: ip) (pl := pinsAt fp s5.heap) I7⟩, T.keep _ _ _ st5 fun b hb o e => (pin b hb o e).1, fun b hb => ?_⟩
          obtain ⟨o, e, _⟩ := T.obj _ _ st5 b hb
          exact (pin b hb o e).2
        have g2 := gl (backK X.env K J gd lv)
        refine hb.run A S (ip ++ pinsAt fp s5.heap) R n ys s₀ _ _ _ _ id id s6 σ6 H6 { D with nx := N, ct := N, bk := D.nx } ⟨g2.pn, ipS, g2.apart, g2.over, g2.split, g2.guard, g2.gd⟩ hn ⟨fun n' ys' s₀' s3 f hn' hs' => ?_, fun n' s₀' x s3 hx => ee n' s₀' x s3 hx⟩ gi q6
        have again : ∀ {σ7 : L2.St} {H7 : Hp}, GI X S (ip ++ pinsAt fp s5.heap) ys' σ7 H7 s3 → N ys' σ7 H7 → Seg (model X.prog X.w) A R (GY X S) n' s₀' (.forLoop tg (.ref it) body [] X.env) (.pure (.again (.forLoop tg (.ref it) body [] X.env))) (.ret (backK X.env K J gd lv) none (gd false) (lv []) c p [] :: fs) s3 := fun {σ7 H7} g7 n7 => by
          obtain ⟨m', hm, w7⟩ := hN ys' σ7 H7 n7
          obtain ⟨b1, b2, b3⟩ := back g7
          exact seg_again rfl (ih m' hm (i + 1) n' ys' s₀' s3 σ7 H7 hn' w7 b1 b2 b3)
        cases f with
        | next => obtain ⟨σ7, H7, g7, n7⟩ := hs'; exact again g7 n7
        | cont => obtain ⟨σ7, H7, g7, n7⟩ := hs'; exact again g7 n7
        | brk => obtain ⟨σ7, H7, g7, n7⟩ := hs'; exact seg_leaf (.ok .next) (k.ok n' ys' s₀' s3 .next hn' ⟨σ7, H7, (back g7).1, n7⟩)
        | ret v => obtain ⟨x7, σ7, H7, g7, r7, n7⟩ := hs'; exact seg_leaf (.ok (.ret v)) (k.ok n' ys' s₀' s3 (.ret v) hn' ⟨x7, σ7, H7, (back g7).1, r7, n7⟩)
  exact loop m0 0 n ys s₀ s2 σ H2 hn w0 ⟨acc, cc, r, I2⟩ st2 fun b hb => (f2 b hb).1
end
end K53
set_option maxHeartbeats 4000000
namespace K53
open PySem PySem.Spec PyProof.Rows L2
section
variable {X : Cx} {pins : List (Addr × Obj)} {σ : L2.St} {H : Hp} {s : Shared}
/-- d[t] = v within a comprehension, t a tuple -/
theorem d_setT {E : Value → Shared → Prop} {D b : Addr} {kvs : List (List Key × V)} {k : List Key} {v : V} {r : Value} {Q : Unit → Shared → Prop} (hu : X.A.units + 1 < cLine) (I : Inv X pins σ H s) (hD : H D = some (.dT kvs)) (hz : kvs.length < sizeLine)
    (eb : H b = some (.tup (k.map kV))) (rv : RelV v r) (h : ∀ s', Inv X pins σ (upd H D (.dT (putK kvs k v))) s' → Q () s') : wpAny (model X.prog X.w) X.A (dictSet D (.ref b) r) Q E s := by
  obtain ⟨z, hd, xs, rel, dd⟩ := dt_of I.hok hD
  have l1 : xs.length ≤ sizeLine := by rw [← Paired.length rel]; exact z
  have l2 : (putK kvs k v).length ≤ sizeLine := by have := length_putK kvs k v; omega
  refine wpAny_dictSet_heap (knd := tupleKind (mixKind X.prog X.w)) (hsz := l1) (show X.A.units < cLine by omega) (key_of I.hok eb) dd fun h' dd' hs => h _ ?_
  obtain ⟨q, es, ep, hq, h2, h3, h4, -, h5⟩ := dd'
  refine d_write I (by rw [hD]; exact True.intro) hs ⟨q, hq⟩ ⟨l2, hd, _, (rel.put k eb rv).keeps fun c ys ec => ?_, q, es, ep, hq, h2, h3, h4, h5⟩
  rw [upd_ne (ne_of ec hD (fun z => nomatch z))]
  exact ec
theorem dt_empty {P : Program} {w : World} (h : Heap) {H : Hp} (hb : sysModules < h.objs.size) : ObjOk P w H (h.push { cls := .type "dict", data := .dict #[] }) h.objs.size (.dT []) :=
  ⟨Nat.zero_le _, beq_eq_false_iff_ne.mpr (Nat.ne_of_gt hb), [], .nil, _, #[], 0, Heap.get?_push_size _ rfl, ⟨rfl, rfl, rfl⟩, rfl, rfl, List.nodup_nil⟩
end
section
variable {X : Cx}
/-- {t: v for target in iter}, the keys tuples -/
def tDcT (wi : TI) (g : TG) (tk tv : TE) (vs : List Nat) : TE := fun σ H Q => wi σ H fun J H1 => ∀ D, H1 D = none → ∃ W : Nat → Nat → Hp → Prop, (∃ m, W 0 m (upd H1 D (.dT []))) ∧ ∀ i m H, W i m H →
  (J.stop i H ∧ Q (.ref D) H) ∨ (J.go i H ∧ ∃ Nx : Hp → Prop, (∀ H', Nx H' → ∃ m', m' < m ∧ W (i + 1) m' H') ∧ ∀ x H', J.yld i H x H' → g x (wipe σ vs) H' fun σ2 H2 => wipe σ2 vs = wipe σ vs ∧
    tk σ2 H2 fun y H4 => tv σ2 H4 fun z H5 => ∃ b kvs k, y = .ref b ∧ H5 b = some (.tup (k.map kV)) ∧ H5 D = some (.dT kvs) ∧ kvs.length < sizeLine ∧ Nx (upd H5 D (.dT (putK kvs k z))))
theorem pe_dcT {kx vx tg iter : Expr} {scope : Scope} {own : List (Str × Nat)} {pos : Pos} {wi : TI} {g : TG} {tk tv : TE} (hu : X.A.units + 1 < cLine) (hc : X.calm = true) (hN : X.N.Nodup) (hi : PI X tg iter wi) (ok : BlkOk X.N X.env.scope scope own)
    (hg : ∀ (s : Shared) (H : Hp) (C : Addr) (cl : List (Str × Addr)) (fp : List Addr), PG (X.blk s H scope (compEnvC scope cl C X.env) fp) tg g)
    (hk : ∀ (s : Shared) (H : Hp) (C : Addr) (cl : List (Str × Addr)) (fp : List Addr), PE (X.blk s H scope (compEnvC scope cl C X.env) fp) kx tk)
    (he : ∀ (s : Shared) (H : Hp) (C : Addr) (cl : List (Str × Addr)) (fp : List Addr), PE (X.blk s H scope (compEnvC scope cl C X.env) fp) vx tv) (hs : ∀ x, foldedSetIterable iter X.env x = pure x := by intro _; rfl) :
    PE X (.DictComp kx vx [⟨tg, iter, [], 0⟩] scope pos) (tDcT wi g tk tv (own.map (·.2))) := by
  constructor
  intro pins s σ H Q I h
  rw [arm_eval_DictComp]
  have free : ∀ y ∈ scope.names, y.2 = .free → ∃ c, X.env.cells.lookup y.1 = some c := by
    intro y hy e
    exact (ok.free y hy e).elim (fun k => I.ok.has _ (.inl k)) (fun k => I.ok.has _ (.inr k))
  refine wpAny_comprehension_free (use := none) rfl hs (closure_ok free) ok.kind (fun y hy e => by rw [ok.uniq y hy, e]) (thn (hi.run pins s σ H _ I h) fun xv s1 hx => thn hx ?_)
  rintro itv s2 ⟨it, fp, tn, J, H2, rfl, I2, T, st2, f2, q⟩
  refine wpAny_newObj_type (newEnv_comp ?_)
  obtain ⟨D, hD⟩ : ∃ D, D = s2.heap.objs.size := ⟨_, rfl⟩
  rw [← hD]
  have free2 : H2 D = none := I2.hok.fresh (Nat.le_of_eq hD.symm)
  obtain ⟨W, ⟨m0, w0⟩, turn⟩ := q D free2
  obtain ⟨s3, hs3⟩ : ∃ s3 : Shared, s3 = { s2 with heap := s2.heap.push { cls := .type "dict", data := .dict #[] } } := ⟨_, rfl⟩
  rw [← hs3]
  obtain ⟨H3, hH3⟩ : ∃ H3, H3 = upd H2 D (.dT []) := ⟨_, rfl⟩
  rw [← hH3] at w0
  have I3 : Inv X pins σ H3 s3 := by
    rw [hs3, hH3, hD]
    exact I2.laid (t' := s2.toks) (fun b o e => Heap.get?_push_of_some _ e) (Nat.le_refl _) (dt_empty s2.heap I2.big)
  have h3 : s3.heap = s2.heap.push { cls := .type "dict", data := .dict #[] } := by rw [hs3]
  have f3 : ∀ b ∈ fp, FpOk X pins H3 b ∧ b < s3.heap.objs.size := by
    intro b hb
    obtain ⟨o, e, -⟩ := T.obj _ _ st2 b hb
    have lt := Heap.lt_size e
    refine ⟨⟨?_, (f2 b hb).2⟩, by rw [h3, Heap.size_push]; exact Nat.lt_succ_of_lt lt⟩
    rw [hH3, upd_ne (by rw [hD]; exact Nat.ne_of_lt lt)]
    exact (f2 b hb).1
  have st3 : tn 0 s3.heap := T.keep _ _ _ st2 fun b _ o e => by rw [h3]; exact Heap.get?_push_of_some _ e
  have I4 := block_start I3 ok hN f3
  obtain ⟨cl, hcl⟩ : ∃ cl, cl = cellsFrom (s3.heap.objs.size + 1) scope.names (cloFrom X.env.cells scope.names []) := ⟨_, rfl⟩
  obtain ⟨ce, hce⟩ : ∃ ce, ce = compEnvC scope cl s3.heap.objs.size X.env := ⟨_, rfl⟩
  have pg := hg s3 H3 s3.heap.objs.size cl fp
  have pk := hk s3 H3 s3.heap.objs.size cl fp
  have pe := he s3 H3 s3.heap.objs.size cl fp
  rw [← hcl, ← hce] at I4
  rw [← hce] at pg pk pe
  have nfp : ∀ b ∈ fp, H3 b = none := fun b hb => (f3 b hb).1.1
  obtain ⟨s4, hs4⟩ : ∃ s4 : Shared, s4 = { s3 with heap := pushCells (s3.heap.push { cls := .type "dict", data := .dict #[] }) scope.names } := ⟨_, rfl⟩
  rw [← hs4] at I4
  show codeAny _ _ (.compStart (.DictComp kx vx [⟨tg, iter, [], 0⟩] scope pos) 0 (.ref it) (.ref D) (compEnvC scope (cellsFrom (s3.heap.objs.size + 1) scope.names (cloFrom X.env.cells scope.names [])) s3.heap.objs.size X.env)) _ { s3 with heap := pushCells (s3.heap.push { cls := .type "dict", data := .dict #[] }) scope.names }
  rw [← hcl, ← hce, ← hs4]
  have cL : ce.locals = s3.heap.objs.size := by rw [hce]; rfl
  have st4 : tn 0 s4.heap := T.keep _ _ _ st3 fun b _ o e => by rw [hs4]; exact pushCells_keeps _ _ _ _ (Heap.get?_push_of_some _ e)
  have stat : ∀ {τ : L2.St} {G : Hp} {t : Shared}, Inv (X.blk s3 H3 scope ce fp) [] τ G t → (∀ b ∈ fp, G b = none) → ∀ b ∈ fp, FpOk (X.blk s3 H3 scope ce fp) [] G b := by
    intro τ G t J n b hb
    have ex := J.ok.exf b hb
    exact ⟨n b hb, ex.1, J.ok.exfs b hb, .inl hb, fun x c e => ex.2 x c e, fun p hp => absurd (show p ∈ ([] : List (Addr × Obj)) ++ [] from hp) (by simp)⟩
  obtain ⟨vs, hvs⟩ : ∃ vs, vs = own.map (·.2) := ⟨_, rfl⟩
  rw [← hvs] at I4 turn
  have loop : codeAny (model X.prog X.w) X.A (.compLoop (.DictComp kx vx [⟨tg, iter, [], 0⟩] scope pos) 0 (.ref it) (.ref D) ce) (compPost (model X.prog X.w) X.A X.xe none (EP X pins σ Q) (.ref D) s3.heap.objs.size) s4 := by
    refine compLoop_anyD (fun n t => ∃ i G, Inv (X.blk s3 H3 scope ce fp) [] (wipe σ vs) G t ∧ tn i t.heap ∧ (∀ b ∈ fp, G b = none) ∧ W i n G) ?_ m0 ⟨0, H3, I4, st4, nfp, w0⟩
    rintro n t ⟨i, G, J5, st5, n5, w5⟩
    obtain ⟨stop, fin⟩ | ⟨go, Nx, hNx, step⟩ := turn i n G w5
    · refine thnF (T.done (X.blk s3 H3 scope ce fp) rfl rfl rfl hc i [] t _ G (fun _ _ => False) J5 (stat J5 n5) st5 stop) ?_
      rintro r t6 ⟨rfl, J6⟩
      have J7 : Inv X pins σ G t6 := I3.call' (ch := fp) J6.os J6.base J6.hok J6.bare fun b hb =>
        have z := (f3 b hb).1.2
        ⟨z.2.2.1, z.1, z.2.2.2.1, z.2.2.2.2⟩
      have nC : G s3.heap.objs.size = none := by
        have z : G ce.locals = none := J6.free
        rwa [cL] at z
      obtain ⟨m, hn, _⟩ := J6.loc
      refine ⟨m, by have hn : t6.heap.Ns ce.locals m := hn; rwa [cL] at hn, fun h2 sb => ?_⟩
      obtain ⟨g0, g1, g2, g3, g4, g5⟩ := I3.fpOk (Nat.le_refl _) nC
      exact ⟨.ref D, G, J7.turned (t' := t6.toks) (fun b o hb e => (sb.2 b hb).trans e) g0 g1 g3 g4 g5, rfl, fin⟩
    · refine thnF (T.item (X.blk s3 H3 scope ce fp) rfl rfl rfl hc i [] t _ G (fun _ _ => False) J5 (stat J5 n5) st5 go) ?_
      rintro r t6 ⟨u, rfl, h6⟩
      refine thnF h6 ?_
      rintro _ t7 ⟨x, G7, J7, r7, y7, st7, n7⟩
      have J8 := J7.pinned (stat J7 n7) (T.obj _ _ st7)
      refine thnF (pg.run _ t7 _ G7 x u _ J8 r7 (step x G7 y7)) ?_
      rintro _ t8 ⟨τ, G8, J9, hw, q8⟩
      refine wpAny_pure ?_
      simp only [if_true]
      refine thnF (pk.run _ t8 τ G8 _ J9 q8) ?_
      rintro z t9 ⟨yk, G9, J10, r9, q9⟩
      refine thnF (pe.run _ t9 τ G9 _ J10 q9) ?_
      rintro z2 t10 ⟨yv, G10, J11, r10, b, kvs, k, rfl, eb, hD10, hz10, nx⟩
      cases r9
      refine d_setT (X := X.blk s3 H3 scope ce fp) hu J11 hD10 hz10 eb r10 fun t11 J12 => ?_
      obtain ⟨m', hm, w'⟩ := hNx _ nx
      have pin' : ∀ b ∈ fp, ∀ o, t7.heap.get? b = some o → t11.heap.get? b = some o ∧ upd G10 D (.dT (putK kvs k yv)) b = none := fun b hb o e =>
        (fun z => ⟨z.1, z.2.1⟩) (J12.pin (b, o) (List.mem_append_right _ (List.mem_append_right _ (mem_pinsAt hb e))))
      refine ⟨m', hm, i + 1, _, (J12.unpinned (pins := [])).weak (by rw [← hw, wipe_length]) ?_, T.keep _ _ _ st7 fun b hb o e => (pin' b hb o e).1, ?_, w'⟩
      · intro j v e
        rw [← hw] at e
        exact (wipe_some e).1
      · intro b hb
        obtain ⟨o, e, _⟩ := T.obj _ _ st7 b hb
        exact (pin' b hb o e).2
  exact codeAny_compStart_dict loop (T.self X.A 0 _ _ _ st4 loop)
end
end K53
set_option maxHeartbeats 4000000
namespace K53
open PySem PySem.Spec PyProof.Rows L2
/-- a pair (key, value) as dict() reads it: the key's tuple, its address, the value -/
abbrev T3 := List Key × Addr × V
theorem pair_at {α β : Type} {F : α → β → Prop} {l : List α} {m : List β} (r : Paired F l m) : ∀ {j : Nat} {y : β}, m[j]? = some y → ∃ x, F x y ∧ l[j]? = some x := by
  induction r with
  | nil => intro j y e; simp at e
  | cons h _ ih =>
    rintro (_ | j) y e
    · cases (show some _ = some y from e)
      exact ⟨_, h, rfl⟩
    · obtain ⟨x, f, z⟩ := ih (j := j) (y := y) (by simpa using e)
      exact ⟨x, f, by simpa using z⟩
def putAll (kvs : List (List Key × V)) (ts : List T3) : List (List Key × V) := ts.foldl (fun acc t => putK acc t.1 t.2.2) kvs
theorem putAll_len : ∀ (ts : List T3) (kvs : List (List Key × V)), (putAll kvs ts).length ≤ kvs.length + ts.length
  | [], _ => Nat.le_refl _
  | t :: ts, kvs => by
    have a := putAll_len ts (putK kvs t.1 t.2.2)
    have b := length_putK kvs t.1 t.2.2
    simp only [putAll, List.foldl_cons, List.length_cons] at a ⊢
    omega
/-- p holds the pair (the key at t's address, t's value) -/
def IsP (K : PySem.W.Frag) (H : Hp) (p : Addr) (t : T3) : Prop := SqT K H p [.ref t.2.1, t.2.2] ∧ H t.2.1 = some (.tup (t.1.map kV))
theorem putAll_KT {H : Hp} : ∀ {ts : List T3} {qs xs : List (List Key × Addr × Value)} {kvs : List (List Key × V)}, KT H kvs xs →
    Paired (fun t q => q.1 = t.1 ∧ q.2.1 = t.2.1 ∧ RelV t.2.2 q.2.2 ∧ H t.2.1 = some (.tup (t.1.map kV))) ts qs → KT H (putAll kvs ts) (storedAllH xs qs)
  | _, _, _, _, r, .nil => r
  | _, _, _, _, r, .cons (a := t) (b := q) h m => by
    obtain ⟨k1, k2, rv, e⟩ := h
    have z := r.put t.1 e rv
    have y := putAll_KT z m
    rw [← k2, ← k1] at y
    simp only [putAll, storedAllH, List.foldl_cons, ← k1] at y ⊢
    exact y
section
variable {X : Cx}
theorem pairs_at {pins : List (Addr × Obj)} {σ : L2.St} {H : Hp} {s : Shared} (I : Inv X pins σ H s) : ∀ {ps : List Addr} {ts : List T3}, Paired (IsP X.K H) ps ts →
    ∃ qs : List (List Key × Addr × Value), Paired (fun t q => q.1 = t.1 ∧ q.2.1 = t.2.1 ∧ RelV t.2.2 q.2.2 ∧ H t.2.1 = some (.tup (t.1.map kV))) ts qs ∧ qs.length = ps.length ∧
      ∀ (j : Nat) (q : List Key × Addr × Value), qs[j]? = some q → ∃ p, ps[j]? = some p ∧ IsTup s.heap p #[.ref q.2.1, q.2.2]
  | _, _, .nil => ⟨[], .nil, rfl, fun j q e => by simp at e⟩
  | _, _, .cons (a := p) (b := t) h m => by
    obtain ⟨qs, r, hl, hq⟩ := pairs_at I m
    obtain ⟨its, rv, tup, _⟩ := I.tuple h.1
    obtain ⟨u, y, rfl, ru, ry⟩ := vals2 rv
    cases ru
    refine ⟨(t.1, t.2.1, y) :: qs, .cons ⟨rfl, rfl, ry, h.2⟩ r, by simp [hl], ?_⟩
    rintro (_ | j) q e
    · cases (show some (t.1, t.2.1, y) = some q from e)
      exact ⟨p, rfl, tup⟩
    · obtain ⟨p', e1, e2⟩ := hq j q (by simpa using e)
      exact ⟨p', by simpa using e1, e2⟩
/-- dict(xs), xs a list of pairs whose keys are tuples -/
theorem call_dictT (hcalm : X.calm = true) (hu : X.A.units + 3 < cLine) : CallR X (.type "dict") (fun xs H Q => ∃ (a : Addr) (ps : List Addr) (ts : List T3), xs = [.ref a] ∧ SqL X.K H a (ps.map V.ref) ∧ Paired (IsP X.K H) ps ts ∧
    ∀ p, H p = none → Q (.ref p) (upd H p (.dT (putAll [] ts)))) := by
  rintro pins s σ H xs us Q I r ⟨a, ps, ts, rfl, hq, hp, q⟩
  obtain ⟨u, rfl, rx⟩ := vals1 r
  cases rx
  obtain ⟨its, rv, pl, hz⟩ := I.list hq
  obtain rfl := refs_at rv
  rw [List.length_map] at hz
  obtain ⟨qs, rel, hl, hqs⟩ := pairs_at I hp
  obtain ⟨o, n, ho, hc, hd, hdat⟩ := pl
  have hlt : ts.length = ps.length := by rw [Paired.length rel, hl]
  have key : ∀ x ∈ qs, (tupleKind (mixKind X.prog X.w)).is s.heap x.1 x.2.1 := by
    intro x hx
    obtain ⟨j, hj, e⟩ := List.mem_iff_getElem.mp hx
    have e' : qs[j]? = some x := by simp [hj, e]
    obtain ⟨t, z, e2⟩ := pair_at rel e'
    rw [z.1, z.2.1]
    exact key_of I.hok z.2.2.2
  have pairAt : ∀ j k v, (qs.map fun q => (Value.ref q.2.1, q.2.2))[j]? = some (k, v) → (ps.map Value.ref).toArray[j]? = some (.ref (ps.getD j 0)) ∧ PairAt s.heap (ps.getD j 0) k v := by
    intro j k v e
    rw [List.getElem?_map] at e
    obtain ⟨q, e1, e2⟩ := Option.map_eq_some_iff.mp e
    obtain ⟨p, e3, tup⟩ := hqs j q e1
    cases e2
    have e4 : ps.getD j 0 = p := by simp [List.getD, e3]
    rw [e4]
    exact ⟨by simp [e3], .inl tup⟩
  have ar := PairArg.list (prog := X.prog) (w := X.w) a (ps.map Value.ref).toArray (fun j => ps.getD j 0) (qs.map fun q => (Value.ref q.2.1, q.2.2))
  rw [List.length_map] at ar
  refine call_dict_pairsH (knd := tupleKind (mixKind X.prog X.w)) (ps := qs) ar (I.ok.hd hcalm) (show X.A.units + 1 + 1 < cLine by omega) ⟨⟨o, n, ho, hc, hd, hdat⟩, by simp [hl], pairAt⟩ ⟨rfl, ?_⟩ ?_ (by omega) fun h' tk hd' k => ?_
  · intro i key v e
    have e : (qs.map fun q => (Value.ref q.2.1, q.2.2))[i]? = some (key, v) := e
    rw [List.getElem?_map] at e
    obtain ⟨q, e1, e2⟩ := Option.map_eq_some_iff.mp e
    cases e2
    exact ⟨q.1, q.2.1, e1, rfl⟩
  · intro h' hk x hx
    exact tupleKind_stays.stays (fun b o vs n e _ => hk b o (Nat.ne_of_lt (Heap.lt_size e)) (by simp) e) (key x hx)
  · have hlen : (putAll [] ts).length ≤ sizeLine := Nat.le_trans (putAll_len ts []) (by rw [hlt]; simpa using hz)
    have kt := putAll_KT (kvs := []) (xs := []) .nil rel
    have fr := I.hok.fresh (Nat.le_refl s.heap.objs.size)
    refine ⟨.ref s.heap.objs.size, _, I.laid (t' := tk) (o := .dT (putAll [] ts)) (fun b o e => k b o (by simp) e) (Nat.le_refl _) ⟨hlen, beq_eq_false_iff_ne.mpr (Nat.ne_of_gt I.big), _, kt.keeps fun b ys e => ?_, (fun ⟨o, es, ep, h1, h2, h3, h4, _, h5⟩ => ⟨o, es, ep, h1, h2, h3, h4, h5⟩) hd'⟩, rfl, q _ fr⟩
    rw [upd_ne (fun z => by rw [z, fr] at e; cases e)]
    exact e
end
end K53
set_option maxHeartbeats 6400000
namespace K53
open PySem PySem.Spec PyProof.Rows L2
/-- the empty set as it is made -/
abbrev emptySet (w : World) : Obj := { cls := .type "set", dict := none, data := .set #[] 0 (.fresh 0 0 (!w.params.followText "set-order")) }
section
variable {P : Program} {w : World} {A : Around} {E : Value → Shared → Prop} {s : Shared}
/-- set(l), l a list: by what the loop makes of the new set -/
theorem set_of_list {l : Addr} {items : Array Value} {Q : Value → Shared → Prop} (Post : Heap → Addr → Prop) (hl : s.heap.IsList l items)
    (loop : ∀ (I : Addr) (s1 : Shared) (R : Result → Shared → Prop), s.heap.get? I = none → s.heap.objs.size ≠ I → l ≠ I → s.heap.objs.size ≠ l → s1.heap.get? s.heap.objs.size = some (emptySet w) → s1.heap.IsListIter I l 0 → s1.heap.IsList l items →
      (∀ b o, s.heap.get? b = some o → s1.heap.get? b = some o) →
      (∀ h' tk, (∀ b o, b ≠ s.heap.objs.size → b ≠ I → s1.heap.get? b = some o → h'.get? b = some o) → Post h' s.heap.objs.size → R (.ok (.ret .none)) { s1 with heap := h', toks := tk }) →
      codeAny (model P w) A.in1.in1 (.builtin "set.update.loop" ⟨[.ref s.heap.objs.size, .ref I], []⟩) R s1)
    (k : ∀ h' tk, Post h' s.heap.objs.size → (∀ b o, s.heap.get? b = some o → h'.get? b = some o) → Q (.ref s.heap.objs.size) { s with heap := h', toks := tk }) :
    wpAny (model P w) A (call (.type "set") [.ref l]) Q E s := by
  obtain ⟨_, _, hmro⟩ := F.called_set.mro
  have f1 := F.called_set.made
  have f2 := F.called_set.sub
  have f3 := F.called_set.notType
  have f4 := F.called_set.canCreate
  have f5 := F.typeCall_set_1 (.ref l)
  refine wpAny_call (codeAny_of_tree ?_)
  show wpAny _ _ (callAny (.type "set") _) _ _ _
  refine wpAny_pure ⟨Code.quiet_builtin _ (by decide +kernel), codeAny_builtin F.entry_type_call ?_⟩
  rw [Around.under_plain (weight_type_call_type "set" [.ref l] []) rfl]
  repeat (any_goals (first | assumption | wp_step))
  obtain ⟨n0, hn0⟩ : ∃ n0, n0 = s.heap.objs.size := ⟨_, rfl⟩
  obtain ⟨hp, hhp⟩ : ∃ hp, hp = s.heap.push (emptySet w) := ⟨_, rfl⟩
  refine codeAny_mono (code_set_led1 (.ref l) (E := E) (Q₁ := fun x s' => x = .ref n0 ∧ s' = { s with heap := hp }) ⟨by rw [hn0], by rw [hhp]⟩) ?_
  intro r1 s' made
  rcases r1 with _ | (_ | _ | _ | x)
  · exact made
  all_goals try exact made.elim
  obtain ⟨rfl, rfl⟩ := made
  have hS : hp.get? n0 = some (emptySet w) := by rw [hhp, hn0]; exact Heap.get?_push_size _ rfl
  have kept : ∀ b o, s.heap.get? b = some o → hp.get? b = some o := fun b o e => by rw [hhp]; exact Heap.get?_push_of_some _ e
  have big : hp.objs.size = n0 + 1 := by rw [hhp, hn0]; exact Heap.size_push ..
  have hT : Shared.TypeIs { s with heap := hp } (.ref n0) "set" := ⟨_, hS, rfl⟩
  have f6 := F.called_set.init.lookup
  have f7 := F.called_set.init.bind (.ref n0)
  repeat (any_goals (first | assumption | wp_step))
  refine codeAny_mono (codeAny_call_builtin (R := wants (fun v t => v = .none ∧ ∃ h' tk, t = { s with heap := h', toks := tk } ∧ Post h' n0 ∧ ∀ b o, s.heap.get? b = some o → h'.get? b = some o) E) F.called_set.init.plain F.entry_set_init (check_set_init_1 hT ?_)) ?_
  · obtain ⟨ol, hol, hcl, nl, hdl⟩ := hl
    obtain ⟨_, od, _, osl⟩ := ol
    simp only at hcl hdl
    subst hcl hdl
    have lst := kept l _ hol
    have f8 := F.sub_list_set
    have f9 := F.sub_list_frozenset
    have fne : (Value.type "list" == Value.type "dict") = false := by decide
    have isl : hp.IsList l items := ⟨_, lst, rfl, nl, rfl⟩
    have hlt : l < n0 := by rw [hn0]; exact Heap.lt_size hol
    unfold Builtin.«set.__init__» noKeywords Builtin.Frozenset.updateFrom
    generalize hit : pyIter = it
    wp_walk
    subst hit
    refine wpAny_pyIter_list isl ?_
    refine wpAny_bind (wpAny_runValue ?_)
    subst hn0
    have nI : s.heap.objs.size ≠ hp.objs.size := by rw [big]; exact Nat.ne_of_lt (Nat.lt_succ_self _)
    have lI : l ≠ hp.objs.size := by rw [big]; exact Nat.ne_of_lt (Nat.lt_succ_of_lt hlt)
    refine loop hp.objs.size _ _ (Heap.get?_none_of_le (by rw [big]; exact Nat.le_succ _)) nI lI (Nat.ne_of_gt hlt) (Heap.get?_push_of_some _ hS) ⟨_, Heap.get?_push_size _ rfl, rfl, rfl⟩ (isl.push _) (fun b o e => Heap.get?_push_of_some _ (kept b o e)) fun h' tk keep po => ?_
    refine wpAny_pure ?_
    show wpAny _ _ (ret Value.none) _ _ _
    refine wpAny_pure ⟨rfl, h', tk, rfl, po, fun b o e => ?_⟩
    have lt := Heap.lt_size e
    exact keep b o (Nat.ne_of_lt lt) (by rw [big]; exact Nat.ne_of_lt (Nat.lt_succ_of_lt lt)) (Heap.get?_push_of_some _ (kept b o e))
  · intro r2 t hr2
    rcases r2 with _ | (_ | _ | _ | v)
    · exact hr2
    all_goals try exact hr2.elim
    obtain ⟨rfl, h', tk, rfl, po, keep⟩ := hr2
    repeat (any_goals (first | assumption | wp_step))
    subst hn0
    exact k h' tk po keep
end
end K53
set_option maxHeartbeats 6400000
namespace K53
open PySem PySem.Spec PyProof.Rows L2
theorem nodup_le {α : Type} [DecidableEq α] : ∀ (l L : List α), l.Nodup → (∀ x ∈ l, x ∈ L) → l.length ≤ L.length
  | [], _, _, _ => Nat.zero_le _
  | x :: l, L, nd, h => by
    have nd := List.nodup_cons.mp nd
    have hx := h x List.mem_cons_self
    have ih := nodup_le l (L.erase x) nd.2 fun y hy => (List.mem_erase_of_ne (fun z => nd.1 (by rw [← z]; exact hy))).mpr (h y (List.mem_cons_of_mem _ hy))
    rw [List.length_erase_of_mem hx] at ih
    have := List.length_pos_of_mem hx
    rw [List.length_cons]
    omega
section
variable {P : Program} {w : World} {A : Around} {E : Value → Shared → Prop} {s : Shared}
theorem setR_count {h : Heap} {a : Addr} {S : Int → Bool} {n : Nat} (R : SetR w h a S n) (L : List Int) (hL : ∀ k, S k = true → k ∈ L) : n ≤ L.length := by
  obtain ⟨o, es, ep, t, _, _, _, _, nd, hm, _, _, hn, _⟩ := R
  have e := nodup_le _ L nd fun k hk => hL k ((hm k).mpr hk)
  rw [List.length_map, Array.length_toList, hn] at e
  exact e
/-- set(l), l a list of ints -/
theorem set_of_ints {l : Addr} {items : Array Value} (ns : List Int) {Q : Value → Shared → Prop} (hh : A.handled = none) (hl : s.heap.IsList l items) (hi : IntsAre items.toList ns) (hb : ns.length + 1 < scanBound)
    (k : ∀ h' tk c, SetR w h' s.heap.objs.size (fun j => decide (j ∈ ns)) c → (∀ b o, s.heap.get? b = some o → h'.get? b = some o) → Q (.ref s.heap.objs.size) { s with heap := h', toks := tk }) :
    wpAny (model P w) A (call (.type "set") [.ref l]) Q E s := by
  have hz : items.size = ns.length := by
    have q := IntsAre.length hi
    rwa [Array.length_toList] at q
  refine set_of_list (fun h p => ∃ c, SetR w h p (fun j => decide (j ∈ ns)) c) hl ?_ fun h' tk po keep => ?_
  · intro I s1 R _ nI lI nl e1 it ls keep fin
    have hd : A.in1.in1.in1.handled = none := by simp [hh]
    have outside : s.heap.objs.size ∉ [I, l] := by simp [nI, nl]
    refine set_update_ints ((Walks.list hd I l lI items).toS) s.heap.objs.size outside ns hz hb ?_ (items.size - 0) 0 _ rfl (Nat.zero_le _) ⟨it, ls⟩ ⟨0, Nat.le_refl _, setR_new_at e1⟩ ?_
    · intro i v hv
      have lt : i < ns.length := by rw [← hz]; exact (Array.getElem?_eq_some_iff.mp hv).1
      obtain ⟨t, e⟩ := IntsAre.int_at hi i v (by rw [Array.getElem?_toList]; exact hv)
      refine ⟨ns[i], t, List.getElem?_eq_getElem lt, ?_⟩
      rw [e, List.getD_eq_getElem?_getD, List.getElem?_eq_getElem lt]
      rfl
    · rintro ⟨h2, g2, d2, tk2, os2⟩ c mv _ R2
      have e2 : g2 = s1.gens := mv.gens
      have e3 : d2 = s1.drawn := mv.drawn
      have e4 : os2 = s1.os := mv.os
      subst e2 e3 e4
      exact fin h2 tk2 (fun b o n1 n2 e => mv.heap b o (by simp [n1, n2]) e) ⟨c, R2⟩
  · obtain ⟨c, R⟩ := po
    exact k h' tk c R keep
end
/-- set(xs), xs a list of ints -/
def rSetI (K : PySem.W.Frag) (w : World) : List V → Hp → VK → Prop := fun vs H Q => ∃ (l : Addr) (ns : List Int), vs = [.ref l] ∧ SqL K H l (ns.map V.int) ∧ ns.length ≤ 4000 ∧
  ∀ p c, H p = none → (∀ L : List Int, (∀ k ∈ ns, k ∈ L) → c ≤ L.length) → Q (.ref p) (upd H p (SetO w p (fun j => decide (j ∈ ns)) c))
theorem call_setI {X : Cx} (hc : X.calm = true) : CallR X (.type "set") (rSetI X.K X.w) := by
  rintro pins s σ H vs us Q I r ⟨l, ns, rfl, hs, hn, q⟩
  obtain ⟨u, rfl, rx⟩ := vals1 r
  cases rx
  obtain ⟨its, rv, pl, hz⟩ := I.list hs
  refine set_of_ints (P := X.prog) ns (I.ok.hd hc) pl.isList (ints_of_vals rv) (by unfold scanBound; omega) fun h' tk c R keep => ?_
  have fr := I.hok.fresh (Nat.le_refl s.heap.objs.size)
  exact ⟨.ref _, _, I.laid (t' := tk) keep (Nat.le_refl _) (setO_new R), rfl, q _ c fr fun L hL => setR_count R L fun k hk => hL k (of_decide_eq_true hk)⟩
end K53
set_option maxHeartbeats 6400000
namespace K53
open PySem PySem.Spec PyProof.Rows L2
/-- a set of tuples of ints, however many fit its table -/
structure ST (P : Program) (w : World) (h : Heap) (a : Addr) (L : List (Addr × List Int)) (es : Array (Int × Value)) (ep : Nat) (t : SetTable) : Prop where
  here : ∃ o, h.get? a = some o ∧ o.ExactSet ∧ o.data = .set es ep t
  rw_ : es.toList = rowsOf P w L
  tb : TabOk t (L.map fun p => thash P w p.2)
  uniq : (L.map (·.2)).Nodup
  keys : ∀ p ∈ L, IsT P w h p.2 p.1
  pln : t.plain = true
  ld : w.params.followText "set-order" = true ∨ t.led = true
  rm : L.length * 5 < t.mask * 3
theorem ST.of {P : Program} {w : World} {h : Heap} {a : Addr} {L : List (Addr × List Int)} {es : Array (Int × Value)} {ep : Nat} {t : SetTable} (R : SetTR P w h a L es ep t) : ST P w h a L es ep t :=
  ⟨R.ob, R.rows, R.tab, R.nd, R.tup, R.plain, R.led, R.room⟩
section
variable {P : Program} {w : World} {A : Around} {E : Value → Shared → Prop} {s : Shared} {a : Addr} {L : List (Addr × List Int)} {es : Array (Int × Value)} {ep : Nat} {t : SetTable}
theorem ST.small (R : ST P w s.heap a L es ep t) (h : L.length < 64) : SetTR P w s.heap a L es ep t := ⟨R.here, R.rw_, R.tb, R.uniq, R.keys, R.pln, R.ld, R.rm, h⟩
theorem ST.sz (R : ST P w s.heap a L es ep t) : es.size = L.length := by
  have e := congrArg List.length R.rw_
  simpa [rowsOf] using e
theorem ST.fit (R : ST P w s.heap a L es ep t) : t.fits es.size = true := by
  have e1 := R.tb.sz
  have e2 := R.sz
  have e3 := R.rm
  rw [List.length_map] at e1
  simp only [SetTable.fits, SetTable.fill, R.tb.dm, Bool.and_eq_true, beq_iff_eq, decide_eq_true_eq]
  refine ⟨by omega, ?_⟩
  show t.place.size + 0 ≤ t.mask
  omega
theorem ST.ent (R : ST P w s.heap a L es ep t) {i : Nat} {p : Addr × List Int} (h : L[i]? = some p) : es[i]? = some (thash P w p.2, .ref p.1) := by
  have e : es.toList[i]? = some (thash P w p.2, .ref p.1) := by
    rw [R.rw_]
    unfold rowsOf
    rw [List.getElem?_map, h]
    rfl
  simpa using e
/-- the probe's first stand -/
abbrev st0 (t : SetTable) (h : Int) : SetTable.Probe := runAt t.mask (SetTable.bits h % (t.mask + 1)) (SetTable.bits h)
theorem no_dummy (t : SetTable) (h : Int) (c : Nat) : (nth t.mask (st0 t h) c).dummy = none := by
  have A : ∀ (n : Nat) (q : SetTable.Probe), q.dummy = none → (nth t.mask q n).dummy = none := by
    intro n
    induction n with
    | zero => exact fun q e => e
    | succ n ih =>
      intro q e
      refine ih (adv t.mask q) ?_
      unfold adv
      split <;> exact e
  exact A c _ rfl
/-- a search of the tuple k, from the c-th step on -/
theorem seek (R : ST P w s.heap a L es ep t) {x : Addr} {k : List Int} (hx : IsT P w s.heap k x) (hu : A.units < cLine) {K : Nat} (far : K < 10 * SetTable.turns t.mask)
    (free : way t.mask (thash P w k) K ∉ t.place.toList) (full : ∀ c, c < K → way t.mask (thash P w k) c ∈ t.place.toList) {Q : SetFound → Shared → Prop}
    (there : k ∈ L.map (·.2) → Q (.there none) s) (gone : k ∉ L.map (·.2) → Q (.free (way t.mask (thash P w k) K) false) s) :
    ∀ (f c : Nat) (at_ : Option SetTable.Probe), at_.getD (t.probeStart (thash P w k)) = nth t.mask (st0 t (thash P w k)) c → c ≤ K → K - c < f →
      (∀ (i : Nat) p, L[i]? = some p → p.2 = k → ∃ d, c ≤ d ∧ d < K ∧ t.place.toList[i]? = some (way t.mask (thash P w k) d)) →
      wpAny (model P w) A (setSearchFrom a (.ref x) (thash P w k) true f at_) Q E s := by
  intro f
  induction f with
  | zero => exact fun c _ _ _ h _ => absurd h (Nat.not_lt_zero _)
  | succ f ih =>
    intro c at_ hat hc hf ahead
    obtain ⟨o, ho, hex, hd⟩ := R.here
    rw [setSearchFrom_succ]
    refine wpAny_bind (wpAny_setState_of ho hd R.fit ?_)
    dsimp only
    have gw : ¬ t.gaveWay = true := by
      unfold SetTable.gaveWay
      rw [mask_odd R.tb.mok]
      decide
    refine wp_if_neg gw ?_
    have two : ∀ q, nth t.mask (nth t.mask (st0 t (thash P w k)) c) q = nth t.mask (st0 t (thash P w k)) (c + q) := fun q => (nth_add t.mask c _ q).symm
    have spot : ∀ q, (nth t.mask (nth t.mask (st0 t (thash P w k)) c) q).j = way t.mask (thash P w k) (c + q) := fun q => congrArg SetTable.Probe.j (two q)
    have cK : c + (K - c) = K := by omega
    have hashAt : ∀ (i : Nat) p, L[i]? = some p → (es[i]?.map (·.1)).getD 0 = thash P w p.2 := fun i p hp => by rw [R.ent hp]; rfl
    have spec := go_spec t R.tb.ris R.tb.dm (fun i => (es[i]?.map (·.1)).getD 0) (thash P w k) (10 * SetTable.turns t.mask) (K - c) _ (no_dummy t (thash P w k) c) (by omega)
      (fun q hq => by rw [spot]; exact full (c + q) (by omega)) (by rw [spot, cK]; exact free)
    rcases spec with ⟨q, i, hq, hi, _, passed, hpr⟩ | ⟨passed, hpr⟩
    · rw [spot, two] at hpr
      have met : t.probe (fun i => (es[i]?.map (·.1)).getD 0) (thash P w k) (at_.getD (t.probeStart (thash P w k))) = some (.candidate (way t.mask (thash P w k) (c + q)) i (nth t.mask (st0 t (thash P w k)) (c + (q + 1)))) := by
        rw [hat]
        exact hpr
      rw [met]
      dsimp only
      rw [spot] at hi
      have il : i < L.length := by
        have e1 : i < t.place.toList.length := (List.getElem?_eq_some_iff.mp hi).1
        have e2 := R.tb.sz
        rw [List.length_map] at e2
        rw [Array.length_toList] at e1
        omega
      obtain ⟨p, hp⟩ : ∃ p, L[i]? = some p := ⟨_, List.getElem?_eq_getElem il⟩
      have mem := List.mem_of_getElem? hp
      have live : t.slot (way t.mask (thash P w k) (c + q)) = .live i := slot_live R.tb.ris hi
      have on : wpAny (model P w) A (searchRest a (.ref x) (thash P w k) true f es t (way t.mask (thash P w k) (c + q)) i (nth t.mask (st0 t (thash P w k)) (c + (q + 1)))) Q E s := by
        unfold searchRest
        rw [R.ent hp]
        dsimp only
        refine wpAny_bind (wpAny_holding (wpAny_eqBool_tuple hu (R.keys p mem) hx (wpAny_bind (wpAny_setState_of ho hd R.fit ?_))))
        dsimp only
        by_cases same : p.2 = k
        · exact wp_if_pos (by simp [same]) (wpAny_pure (there (List.mem_map.mpr ⟨p, mem, same⟩)))
        · refine wp_if_neg (by simp [same]) ?_
          rw [sameMem]
          dsimp only
          simp only [if_true, live, R.ent hp]
          refine wpAny_bind (wpAny_isSame_ref_self (wpAny_bind (wpAny_pure ?_)))
          simp only [if_true]
          refine wp_if_neg (by simp [same]) (ih (c + (q + 1)) _ rfl (by omega) (by omega) fun j p' hp' hk' => ?_)
          obtain ⟨d, d1, d2, d3⟩ := ahead j p' hp' hk'
          refine ⟨d, Classical.byContradiction fun z => ?_, d2, d3⟩
          rcases Nat.lt_or_ge d (c + q) with y | y
          · exact passed (d - c) j (by omega) (by rw [spot, show c + (d - c) = d by omega]; exact d3) ((hashAt j p' hp').trans (congrArg (thash P w) hk'))
          · obtain rfl : d = c + q := by omega
            have e := slot_live R.tb.ris d3
            rw [live] at e
            injection e with e
            rw [← e, hp] at hp'
            exact same ((congrArg Prod.snd (Option.some.inj hp')).trans hk')
      by_cases hl : t.led = true
      · exact wp_if_neg (by simp [hl]) on
      · refine wp_if_pos (by simp [hl]) (wpAny_bind (seen_tup hx (fun y hy => ?_) (wp_if_neg (by decide) on)))
        obtain ⟨e, he, rfl⟩ := List.mem_map.mp hy
        have he2 : e ∈ es.toList := by
          have z : e ∈ es ∧ e.1 = thash P w k := by simpa using he
          simpa using z.1
        rw [R.rw_] at he2
        obtain ⟨p2, hp2, rfl⟩ := List.mem_map.mp he2
        exact ⟨p2.2, p2.1, rfl, R.keys p2 hp2⟩
    · rw [spot, cK] at hpr
      have met : t.probe (fun i => (es[i]?.map (·.1)).getD 0) (thash P w k) (at_.getD (t.probeStart (thash P w k))) = some (.empty (way t.mask (thash P w k) K) none) := by
        rw [hat]
        exact hpr
      rw [met]
      dsimp only
      refine wpAny_pure (gone fun hm => ?_)
      obtain ⟨p0, h0, hk0⟩ := List.mem_map.mp hm
      obtain ⟨j, hj, e0⟩ := List.getElem_of_mem h0
      have h00 : L[j]? = some p0 := by rw [List.getElem?_eq_getElem hj, e0]
      obtain ⟨d, d1, d2, d3⟩ := ahead j p0 h00 hk0
      exact passed (d - c) j (by omega) (by rw [spot, show c + (d - c) = d by omega]; exact d3) ((hashAt j p0 h00).trans (congrArg (thash P w) hk0))
theorem seek_at (R : ST P w s.heap a L es ep t) {x : Addr} {k : List Int} (hx : IsT P w s.heap k x) (hu : A.units < cLine) {Q : SetFound → Shared → Prop} (there : k ∈ L.map (·.2) → Q (.there none) s)
    (gone : ∀ K, k ∉ L.map (·.2) → way t.mask (thash P w k) K ∉ t.place.toList → (∀ c, c < K → way t.mask (thash P w k) c ∈ t.place.toList) → Q (.free (way t.mask (thash P w k) K) false) s) :
    wpAny (model P w) A (setSearch a (.ref x) (thash P w k) true) Q E s := by
  have rm := R.rm
  obtain ⟨K, far, free, full⟩ := R.tb.first (by rw [List.length_map]; omega) (thash P w k)
  have few : 10 * SetTable.turns t.mask ≤ 1420 := by
    unfold SetTable.turns
    rcases R.tb.mok with e | e | e <;> omega
  unfold setSearch
  refine seek R hx hu far free full there (fun n => gone K n free full) 100000 0 none rfl (Nat.zero_le _) (by omega) fun i p hp hk => ?_
  have e1 : (L.map fun p => thash P w p.2)[i]? = some (thash P w k) := by rw [List.getElem?_map, hp, ← hk]; rfl
  have il : i < t.place.toList.length := by
    have e2 : i < L.length := (List.getElem?_eq_some_iff.mp hp).1
    have e3 := R.tb.sz
    rw [List.length_map] at e3
    rw [Array.length_toList]
    omega
  have e4 := List.getElem?_eq_getElem il
  obtain ⟨c, hc, e⟩ := R.tb.before free e1 e4
  exact ⟨c, Nat.zero_le _, hc, by rw [e4, e]⟩
/-- a tuple is added -/
theorem ST.add (R : ST P w s.heap a L es ep t) {x : Addr} {k : List Int} (hx : IsT P w s.heap k x) (hu : A.units < cLine) (hn : L.length ≤ 74) {Q : Bool → Shared → Prop}
    (fin : ∀ b h' L' es' ep' t', Heap.SameBut a s.heap h' → ST P w h' a L' es' ep' t' → (k ∈ L.map (·.2) → L' = L) → (k ∉ L.map (·.2) → L'.Perm ((x, k) :: L)) → Q b { s with heap := h' }) :
    wpAny (model P w) A (setAddHashed a (.ref x) (thash P w k)) Q E s := by
  by_cases few : L.length + 1 < 64
  · exact add_at (R.small (by omega)) hx hu few fun b h' L' es' ep' t' sb R' => fin b h' L' es' ep' t' sb (.of R')
  obtain ⟨o, ho, hex, hd⟩ := R.here
  have rm := R.rm
  have big : t.mask = 127 := by
    rcases R.tb.mok with e | e | e
    · omega
    · omega
    · exact e
  unfold setAddHashed
  refine wpAny_holding ?_
  rw [show (100000 : Nat) = 99999 + 1 from rfl, setAddHashedIn_succ]
  refine wpAny_bind (wpAny_setState_of ho hd R.fit ?_)
  dsimp only
  refine wp_if_neg (by simp [byScan, Value.scannable]) ?_
  refine wpAny_bind (seek_at R hx hu (fun hm => ?_) fun K hm free full => ?_)
  · dsimp only
    exact wpAny_pure (fin false s.heap L es ep t (Heap.SameBut.refl a s.heap) R (fun _ => rfl) fun z => absurd hm z)
  dsimp only
  refine wpAny_bind (wpAny_setState_of ho hd R.fit ?_)
  dsimp only
  obtain ⟨q1, q2, q3, q4, q5, q6, q7, q8, q9⟩ := R.tb.put free full
  have pl1 : (t.put (way t.mask (thash P w k) K)).1.plain = true := by rw [q6]; exact R.pln
  obtain ⟨⟨t1, p⟩, hpt⟩ : ∃ pt, pt = t.put (way t.mask (thash P w k) K) := ⟨_, rfl⟩
  rw [← hpt] at q1 q3 q4 q5 q6 q7 q8 q9 pl1 ⊢
  dsimp only at q1 q3 q4 q5 q6 q7 q8 q9 pl1 ⊢
  subst q1
  refine wp_if_pos pl1 (wpAny_bind (hashBy_tup hx ?_))
  simp only [if_true]
  obtain ⟨p, hpp⟩ : ∃ p, p = SetTable.below t.place (way t.mask (thash P w k) K) := ⟨_, rfl⟩
  rw [← hpp] at q2 q3 ⊢
  obtain ⟨e1, he1⟩ : ∃ e1, e1 = SetTable.insertAt es p (thash P w k, Value.ref x) := ⟨_, rfl⟩
  obtain ⟨L1, hL1⟩ : ∃ L1, L1 = L.take p ++ (x, k) :: L.drop p := ⟨_, rfl⟩
  have pm : L1.Perm ((x, k) :: L) := by rw [hL1]; exact put_perm L p (x, k)
  have len1 : L1.length = L.length + 1 := pm.length_eq
  have rows1 : e1.toList = rowsOf P w L1 := by rw [he1, hL1, SetTable.toList_insertAt, rows_put, R.rw_]
  have tb1 : TabOk t1 (L1.map fun p => thash P w p.2) := by
    have e : L1.map (fun p => thash P w p.2) = (L.map fun p => thash P w p.2).take p ++ thash P w k :: (L.map fun p => thash P w p.2).drop p := by
      rw [hL1, List.map_append, List.map_cons, List.map_take, List.map_drop]
    rw [e]
    exact q3
  have un1 : (L1.map (·.2)).Nodup := (pm.map (·.2)).nodup_iff.mpr (List.nodup_cons.mpr ⟨hm, R.uniq⟩)
  have sz1 : e1.size = L.length + 1 := by
    have e := congrArg List.length rows1
    simpa [rowsOf, len1] using e
  rw [← he1]
  refine wpAny_bind (wpAny_storeSet_of ho hd ?_ (by rw [sz1, sizeLine_eq]; omega))
  have sb : Heap.SameBut a s.heap (s.heap.update a (Obj.putSet e1 t1)) := Heap.SameBut.update ..
  have ho1 := store_at (es' := e1) (t' := t1) ho hd
  obtain ⟨h1, hh1⟩ : ∃ h1, h1 = s.heap.update a (Obj.putSet e1 t1) := ⟨_, rfl⟩
  rw [← hh1] at sb ho1 ⊢
  have ks1 : ∀ p ∈ L1, IsT P w h1 p.2 p.1 := by
    intro p hp
    rcases List.mem_cons.mp (pm.mem_iff.mp hp) with rfl | hp
    · exact isT_same hx ho hd sb
    · exact isT_same (R.keys p hp) ho hd sb
  have room1 : L1.length * 5 < t1.mask * 3 := by rw [len1, q4, big]; omega
  have notFull : ¬ t1.tooFull = true := by
    unfold SetTable.tooFull
    rw [decide_eq_true_eq, q9, List.length_map, q4, big]
    omega
  have R1 : ST P w h1 a L1 e1 (ep + 1) t1 := ⟨⟨_, ho1, ⟨hex.1, hex.2.1, hex.2.2⟩, rfl⟩, rows1, tb1, un1, ks1, pl1, by rw [q5]; exact R.ld, room1⟩
  refine wp_if_neg (by simp [notFull]) ?_
  exact wpAny_pure (fin true h1 L1 e1 (ep + 1) t1 sb R1 (fun z => absurd z hm) fun _ => pm)
theorem ST.stay {h h' : Heap} (R : ST P w h a L es ep t) (ha : ∀ o, h.get? a = some o → h'.get? a = some o) (hk : ∀ p ∈ L, IsT P w h' p.2 p.1) : ST P w h' a L es ep t := by
  obtain ⟨o, ho, r⟩ := R.here
  exact ⟨⟨o, ha o ho, r⟩, R.rw_, R.tb, R.uniq, hk, R.pln, R.ld, R.rm⟩
/-- the set at S holds what the first i of ks are -/
def Half (P : Program) (w : World) (ks : List (Addr × List Int)) (S : Addr) (i : Nat) (h : Heap) : Prop := ∃ L es ep t, ST P w h S L es ep t ∧ (∀ p ∈ L, p ∈ ks) ∧ ∀ z, z ∈ L.map (·.2) ↔ z ∈ (ks.take i).map (·.2)
/-- the loop of set.update over a list of tuples -/
theorem tups_loop {l I S : Addr} {items : Array Value} {ks : List (Addr × List Int)} (hh : A.in1.handled = none) (hu : A.in1.units < cLine) (it : items.toList = ks.map fun p => Value.ref p.1) (few : ks.length ≤ 74) (lI : l ≠ I) (nI : S ≠ I) (nl : S ≠ l) {h0 : Heap}
    (keys : ∀ p ∈ ks, IsT P w h0 p.2 p.1) (oS : h0.get? S = none) (oI : h0.get? I = none) {R : Result → Shared → Prop} :
    ∀ (m i : Nat) (s1 : Shared), ks.length - i = m → i ≤ ks.length → s1.heap.IsListIter I l i → s1.heap.IsList l items → (∀ b o, h0.get? b = some o → s1.heap.get? b = some o) → Half P w ks S i s1.heap →
      (∀ h' tk, (∀ b o, b ≠ S → b ≠ I → s1.heap.get? b = some o → h'.get? b = some o) → Half P w ks S ks.length h' → R (.ok (.ret .none)) { s1 with heap := h', toks := tk }) →
      codeAny (model P w) A (.builtin "set.update.loop" ⟨[.ref S, .ref I], []⟩) R s1 := by
  have sz : items.size = ks.length := by
    have e := congrArg List.length it
    rwa [Array.length_toList, List.length_map] at e
  have W := Walks.list (prog := P) (w := w) hh I l lI items
  have oI' : ∀ b ∈ [I], h0.get? b = none := fun b hb => by rw [List.mem_singleton.mp hb]; exact oI
  intro m
  induction m with
  | zero =>
    rintro i s1 hm hi li ls kp ⟨L, es, ep, t, T, sub, mem⟩ fin
    obtain rfl : i = ks.length := by omega
    refine codeAny_builtin F.entry_set_update_loop ?_
    rw [Around.under_plainId F.plain_set_update_loop _]
    show wpAny _ A.in1 (pyNext (.ref I) >>= _) _ _ s1
    rw [← sz] at li
    refine wpAny_bind (W.done s1 _ _ ⟨li, ls⟩ fun h' tk keep => ?_)
    show wpAny _ A.in1 (ret Value.none) _ _ _
    have kp' : ∀ b o, h0.get? b = some o → h'.get? b = some o := fun b o e => keep b o (fun z => by rw [oI' b z] at e; cases e) (kp b o e)
    exact wpAny_pure (fin h' tk (fun b o _ n e => keep b o (by simp [n]) e) ⟨L, es, ep, t, T.stay (fun o e => keep S o (by simp [nI]) e) fun p hp => isT_keep (keys p (sub p hp)) kp', sub, mem⟩)
  | succ m ih =>
    rintro i s1 hm hi li ls kp ⟨L, es, ep, t, T, sub, mem⟩ fin
    have lt : i < items.size := by omega
    refine codeAny_builtin F.entry_set_update_loop ?_
    rw [Around.under_plainId F.plain_set_update_loop _]
    show wpAny _ A.in1 (pyNext (.ref I) >>= _) _ _ s1
    refine wpAny_bind (W.item i s1 _ _ lt ⟨li, ls⟩ fun v h' tk hv st keep => ?_)
    obtain ⟨p, hp⟩ : ∃ p, ks[i]? = some p := ⟨_, List.getElem?_eq_getElem (by omega)⟩
    obtain rfl : v = .ref p.1 := by
      have e : items.toList[i]? = some v := by rw [Array.getElem?_toList]; exact hv
      rw [it, List.getElem?_map, hp] at e
      exact (Option.some.inj e).symm
    have kp' : ∀ b o, h0.get? b = some o → h'.get? b = some o := fun b o e => keep b o (fun z => by rw [oI' b z] at e; cases e) (kp b o e)
    have T' : ST P w h' S L es ep t := T.stay (fun o e => keep S o (by simp [nI]) e) fun q hq => isT_keep (keys q (sub q hq)) kp'
    have key := isT_keep (keys p (List.mem_of_getElem? hp)) kp'
    have len : L.length ≤ 74 := by
      have e := nodup_le (L.map (·.2)) ((ks.take i).map (·.2)) T.uniq fun z hz => (mem z).mp hz
      rw [List.length_map, List.length_map, List.length_take] at e
      omega
    show wpAny _ A.in1 (holding [Value.ref p.1] (setAdd S (.ref p.1)) >>= _) _ _ _
    refine wpAny_bind (wpAny_holding ?_)
    unfold setAdd
    refine wpAny_holding (wpAny_bind (wpAny_pyHash_tuple hu key ?_))
    refine ST.add (s := { s1 with heap := h', toks := tk + (p.2.length + 1) }) T' key hu len fun b h2 L2 es2 ep2 t2 sb T2 old new => ?_
    have sub2 : ∀ q ∈ L2, q ∈ ks := by
      intro q hq
      by_cases c : p.2 ∈ L.map (·.2)
      · rw [old c] at hq
        exact sub q hq
      · rcases List.mem_cons.mp ((new c).mem_iff.mp hq) with rfl | hq
        · exact List.mem_of_getElem? hp
        · exact sub q hq
    have mem2 : ∀ z, z ∈ L2.map (·.2) ↔ z ∈ (ks.take (i + 1)).map (·.2) := by
      intro z
      rw [List.take_succ, hp, List.map_append, List.mem_append, ← mem z]
      by_cases c : p.2 ∈ L.map (·.2)
      · rw [old c]
        constructor
        · exact .inl
        · rintro (y | y)
          · exact y
          · have y : z = p.2 := by simpa using y
            rw [y]
            exact c
      · rw [((new c).map (·.2)).mem_iff, List.map_cons, List.mem_cons]
        constructor
        · rintro (rfl | y)
          · exact .inr (by simp)
          · exact .inl y
        · rintro (y | y)
          · exact .inr y
          · exact .inl (by simpa using y)
    have kp2 : ∀ b o, h0.get? b = some o → h2.get? b = some o := fun b o e => (sb.2 b (fun z => by rw [z, oS] at e; cases e)).trans (kp' b o e)
    have out : ∀ b o, b ≠ S → h'.get? b = some o → h2.get? b = some o := fun b o n e => (sb.2 b n).trans e
    refine wpAny_pure ⟨plainId_quiet F.plain_set_update_loop _, ih (i + 1) _ (by omega) (by omega) (st.1.at fun o e => out I o (fun z => nI z.symm) e) (st.2.at fun o e => out l o (fun z => nl z.symm) e) kp2 ⟨L2, es2, ep2, t2, T2, sub2, mem2⟩ fun h3 tk3 keep3 done => ?_⟩
    exact fin h3 tk3 (fun b o n1 n2 e => keep3 b o n1 n2 (out b o n1 (keep b o (by simp [n2]) e))) done
end
end K53
set_option maxHeartbeats 6400000
namespace K53
open PySem PySem.Spec PyProof.Rows L2
section
variable {P : Program} {w : World} {A : Around} {E : Value → Shared → Prop} {s : Shared}
/-- set(l), l a list of at most 74 tuples of ints -/
theorem set_of_tups {l : Addr} {items : Array Value} {ks : List (Addr × List Int)} {Q : Value → Shared → Prop} (hh : A.handled = none) (hu : A.units + 5 < cLine) (hl : s.heap.IsList l items) (it : items.toList = ks.map fun p => Value.ref p.1) (few : ks.length ≤ 74) (keys : ∀ p ∈ ks, IsT P w s.heap p.2 p.1)
    (k : ∀ h' tk, Half P w ks s.heap.objs.size ks.length h' → (∀ b o, s.heap.get? b = some o → h'.get? b = some o) → Q (.ref s.heap.objs.size) { s with heap := h', toks := tk }) :
    wpAny (model P w) A (call (.type "set") [.ref l]) Q E s := by
  refine set_of_list (fun h p => Half P w ks p ks.length h) hl ?_ k
  intro I s1 R out nI lI nl e1 li ls keep fin
  have oS : s.heap.get? s.heap.objs.size = none := Heap.get?_none_of_le (Nat.le_refl _)
  exact tups_loop (by simp [hh]) (by show A.units + 3 < cLine; omega) it few lI nI nl keys oS out (ks.length - 0) 0 s1 rfl (Nat.zero_le _) li ls keep ⟨[], #[], 0, _, .of (setTR_fresh e1), (fun p h => nomatch h), by simp⟩ fin
end
/-- len(set(xs)), xs a list of places -/
def tLenSetT (K : PySem.W.Frag) (ta : TE) : TE := fun σ H Q => ta σ H fun x H1 => ∃ (l : Addr) (bs : List Addr) (ps : List (Int × Int)), x = V.ref l ∧ SqL K H1 l (bs.map V.ref) ∧ PlR K H1 bs ps ∧ ps.length ≤ 74 ∧
  ∀ D : List (Int × Int), D.Nodup → (∀ z, z ∈ D ↔ z ∈ ps) → Q (.int (D.length : Nat)) H1
def il (p : Int × Int) : List Int := [p.1, p.2]
theorem il_inj {p q : Int × Int} (h : il p = il q) : p = q := by
  obtain ⟨a, b⟩ := p
  obtain ⟨c, d⟩ := q
  simp only [il, List.cons.injEq, and_true] at h
  rw [h.1, h.2]
def unil (l : List Int) : Int × Int := (l.headD 0, (l.drop 1).headD 0)
theorem unil_il (p : Int × Int) : unil (il p) = p := rfl
theorem pe_lenSetT {X : Cx} {a : Expr} {ta : TE} {p p2 q pos : Pos} (hc : X.calm = true) (hu : X.A.units + 8 < cLine) (hm : X.mg "len" = none) (hm2 : X.mg "set" = none) (ha : PE X a ta) (hg : Gl X "len" := by rfl) (hg2 : Gl X "set" := by rfl)
    (na : starEach [a] X.env = (false, eval a X.env) :: starEach [] X.env := by rfl) : PE X (.Call (.Name "len" p) [.Call (.Name "set" p2) [a] [] q] [] pos) (tLenSetT X.K ta) := by
  constructor
  intro pins s σ H Q I h
  refine Call_ (ld_blt I hg hm PySem.boot_len (callWith_builtin1 (args_cons ?_ rfl) rfl rfl))
  refine Call_ (ld_blt I hg2 hm2 boot_set (callWith_type1 (args_cons (thn (ha.run pins s σ H _ I h) ?_) na) na rfl))
  rintro v s1 ⟨x, H1, I1, r1, l, bs, ps, rfl, hs, hp, hz, k⟩
  refine args_nil ?_
  cases r1
  obtain ⟨its, rv, pl, _⟩ := I1.list hs
  obtain rfl := refs_at rv
  have lb := Paired.length hp
  have keys : ∀ z ∈ bs.zip (ps.map il), IsT X.prog X.w s1.heap z.2 z.1 := by
    intro z hz
    obtain ⟨i, hi, e⟩ := List.mem_iff_getElem.mp hz
    have e2 : (bs.zip (ps.map il))[i]? = some (z.1, z.2) := by rw [List.getElem?_eq_getElem hi, e]
    obtain ⟨e3, e4⟩ := List.getElem?_zip_eq_some.mp e2
    rw [List.getElem?_map] at e4
    obtain ⟨q, e5, e6⟩ := Option.map_eq_some_iff.mp e4
    obtain ⟨b, f, e7⟩ := pair_at hp e5
    rw [e3] at e7
    cases e7
    rw [← e6]
    exact I1.isT f
  have lz : (bs.zip (ps.map il)).length = ps.length := by rw [List.length_zip, List.length_map, lb, Nat.min_self]
  have mp1 : (bs.zip (ps.map il)).map (·.1) = bs := List.map_fst_zip (by rw [List.length_map]; omega)
  have mp2 : (bs.zip (ps.map il)).map (·.2) = ps.map il := List.map_snd_zip (by rw [List.length_map]; omega)
  refine set_of_tups (P := X.prog) (ks := bs.zip (ps.map il)) (I1.ok.hd hc) (by omega) pl.isList (by show bs.map Value.ref = _; rw [← mp1, List.map_map, mp1]; rfl) (by rw [lz]; exact hz) keys fun h' tk half keep => ?_
  refine args_nil ?_
  obtain ⟨L, es, ep, t, T, sub, mem⟩ := half
  obtain ⟨o, ho, hex, hd⟩ := T.here
  have I2 : Inv X pins σ H1 { s1 with heap := h', toks := tk } := I1.kept keep
  have hsz : es.size = L.length := T.sz (s := { s1 with heap := h' })
  rw [List.take_length, mp2] at mem
  have inL : ∀ z ∈ L, il (unil z.2) = z.2 := by
    intro z hz
    have := (mem z.2).mp (List.mem_map.mpr ⟨z, hz, rfl⟩)
    obtain ⟨p, _, e⟩ := List.mem_map.mp this
    rw [← e]
    rfl
  have dn : (L.map fun z => unil z.2).Nodup := by
    refine List.pairwise_map.mpr (List.Pairwise.imp_of_mem ?_ (List.pairwise_map.mp T.uniq))
    intro x y hx hy ne e
    exact ne (by rw [← inL x hx, ← inL y hy, e])
  have dm : ∀ z, z ∈ (L.map fun z => unil z.2) ↔ z ∈ ps := by
    intro z
    constructor
    · intro hz
      obtain ⟨x, hx, rfl⟩ := List.mem_map.mp hz
      obtain ⟨p, hp2, e⟩ := List.mem_map.mp ((mem x.2).mp (List.mem_map.mpr ⟨x, hx, rfl⟩))
      rw [← e]
      exact hp2
    · intro hz
      obtain ⟨x, hx, e⟩ := List.mem_map.mp ((mem (il z)).mpr (List.mem_map.mpr ⟨z, hz, rfl⟩))
      exact List.mem_map.mpr ⟨x, hx, by rw [e]; rfl⟩
  have kk := k _ dn dm
  rw [List.length_map] at kk
  refine call_len_set ho hex hd (T.fit (s := { s1 with heap := h' })) ?_ ⟨.int L.length, H1, I2.tok _, ⟨_, by rw [hsz]⟩, kk⟩
  have ll : L.length ≤ 74 := by
    have e := nodup_le (L.map fun z => unil z.2) ps dn fun z hz => (dm z).mp hz
    rw [List.length_map] at e
    omega
  rw [hsz]
  omega
end K53
set_option maxHeartbeats 4000000
namespace K53
open PySem PySem.Spec PyProof.Rows L2
open C8 (fnScope_by pe_mk pe_mt pe_mt0 InsC)
open SX (S)
/-- the arguments are bound one by one -/
abbrev Bnd (m qual : Str) (st : Stmt) (ps : List Str) : Prop := ∀ (kV doc pm : Value) (an : Option Addr) (cdv ct : Value) (us : List Value), us.length = ps.length →
  bindArgs (PySem.W.fnOf m qual (L2.defArgs st) (L2.defBody st) (L2.defScope st) .none kV doc pm an cdv ct) ⟨us, []⟩ = pure (ps.zip us)
section
variable {P : Program} {w : World} {K : PySem.W.Frag} {mg : Str → Option Value} {base : Heap}
/-- a body keeps the promise -/
abbrev BodyT (P : Program) (w : World) (K : PySem.W.Frag) (mg : Str → Option Value) (base : Heap) (k : Nat) (qual : Str) (N : List Str) (st : Stmt) (sp : Sp) : Prop :=
  ∀ (f : Addr) (cdv : Value) (A : Around) (outer : List Env) (s : Shared) (H : Hp) (vs : List V) (Q : VK) (E : XK), Room k (A.deeper (envOfC qual (L2.defScope st) s.heap.objs.size f cdv)) → sp vs H Q E →
    ∃ t, PSs (cxOf CX0 P w K mg base N qual (L2.defScope st) f cdv A outer s H E).nox (L2.defBody st) t ∧ t { nx := fun _ H' => Q .non H', rt := Q } (start N vs) H
theorem okT {m qual : Str} {st : Stmt} {f : Addr} {fd : FuncData} {N ps : List Str} {k : Nat} {sp : Sp} (D : FunT K m qual st f fd) (S : FnScope N ps (L2.defScope st)) (len : ∀ vs H Q E, sp vs H Q E → vs.length = ps.length)
    (hb : BodyT P w K mg base k qual N st sp) : FnOk P w K mg base CX0 (k + 1) f fd ps sp := by
  refine D.ok S len fun cdv A outer s H vs Q E hr h => ?_
  obtain ⟨t, h1, h2⟩ := hb f cdv A outer s H vs Q E hr h
  exact ⟨t, h1.nox, h2⟩
theorem cal {i : Nat} {x : Str} {N ps : List Str} {k : Nat} {sp : Sp} (D : DefT K mg i x) (S : FnScope N ps (L2.defScope (top i))) (len : ∀ vs H Q E, sp vs H Q E → vs.length = ps.length)
    (b : Bnd x x (top i) ps) (hb : BodyT P w K mg base k x N (top i) sp) : Cal P w K mg base (k + 1) x sp := by
  obtain ⟨f, fd, F, hm⟩ := D.ex
  exact ⟨f, fd, ps, [], okT F S len hb, hm, F.kp, F.bindsN b, .nil⟩
/-- the method m of the class at C stands -/
structure MetT (K : PySem.W.Frag) (C : Addr) (m qual : Str) (st : Stmt) : Prop where
  ex : ∃ (f : Addr) (fd : FuncData), FunT K m qual st f fd ∧ Meth K C m f
theorem met {C : Addr} {m qual : Str} {st : Stmt} {N ps : List Str} {k : Nat} {sp : Sp} (cl : Cls K C) (D : MetT K C m qual st) (S : FnScope N ps (L2.defScope st)) (len : ∀ vs H Q E, sp vs H Q E → vs.length = ps.length)
    (b : Bnd m qual st ps) (hb : BodyT P w K mg base k qual N st sp) : Met P w K mg base (k + 1) C m sp := by
  obtain ⟨f, fd, F, hm⟩ := D.ex
  exact ⟨f, fd, ps, [], cl, hm, okT F S len hb, F.bindsN b, .nil⟩
/-- the class x at C is made by its __init__ -/
structure MakT (K : PySem.W.Frag) (mg : Str → Option Value) (x : Str) (C : Addr) (qual : Str) (st : Stmt) : Prop where
  ex : ∃ (f : Addr) (fd : FuncData), FunT K "__init__" qual st f fd ∧ Mk K C f ∧ mg x = some (.ref C)
theorem mak {x : Str} {C : Addr} {qual : Str} {st : Stmt} {N ps : List Str} {k : Nat} {sp : Sp} (D : MakT K mg x C qual st) (S : FnScope N ps (L2.defScope st)) (len : ∀ vs H Q E, sp vs H Q E → vs.length = ps.length)
    (b : Bnd "__init__" qual st ps) (hb : BodyT P w K mg base k qual N st sp) : Mak P w K mg base (k + 1) x C sp := by
  obtain ⟨f, fd, F, hm, hg⟩ := D.ex
  exact ⟨f, fd, ps, [], hm, okT F S len hb, hg, F.bindsN b, .nil⟩
/-- the property m of the class at C stands -/
structure PrpT (K : PySem.W.Frag) (C : Addr) (m qual : Str) (st : Stmt) : Prop where
  ex : ∃ (p f : Addr) (fd : FuncData), FunT K m qual st f fd ∧ PropOf K C m p f
theorem prp {C : Addr} {m qual : Str} {st : Stmt} {N ps : List Str} {k : Nat} {sp : Sp} (cl : Cls K C) (D : PrpT K C m qual st) (S : FnScope N ps (L2.defScope st)) (len : ∀ vs H Q E, sp vs H Q E → vs.length = ps.length)
    (b : Bnd m qual st ps) (hb : BodyT P w K mg base k qual N st sp) : Prp P w K mg base (k + 1) C m sp := by
  obtain ⟨p, f, fd, F, hm⟩ := D.ex
  exact ⟨p, f, fd, ps, cl, hm, okT F S len hb, F.bindsN b⟩
end
/-! ### the heap grows -/
theorem same_upd {H : Hp} {a : Addr} {o : HO} (h : H a = none) : Same H (upd H a o) := by
  intro b u e
  rw [upd_ne (fun z => by rw [z, h] at e; cases e)]
  exact e
theorem same_put {H0 H : Hp} {a : Addr} {o : HO} (s : Same H0 H) (h : H0 a = none) : Same H0 (upd H a o) := by
  intro b u e
  rw [upd_ne (fun z => by rw [z, h] at e; cases e)]
  exact s b u e
theorem same_tup {K : PySem.W.Frag} {H H' : Hp} {a : Addr} {xs : List V} (s : Same H H') (h : SqT K H a xs) : SqT K H' a xs := by
  rcases h with (h | ⟨o, h⟩) | h
  · exact .inl (.inl (s _ _ h))
  · exact .inl (.inr ⟨o, s _ _ h⟩)
  · exact .inr h
theorem plr_same {K : PySem.W.Frag} {H H' : Hp} {ts : List Addr} {ps : List (Int × Int)} (s : Same H H') (h : PlR K H ts ps) : PlR K H' ts ps := Paired.mapP h fun _ _ z => same_tup s z
/-! ### nets -/
abbrev hd (g : Bool) : Nat := if g then 6 else 4
abbrev netS (g : Bool) : Str := if g then "triangle" else "square"
abbrev net (g : Bool) : V := .str (netS g)
def stp : Bool → Nat → Int × Int
  | false, 0 => (1, 0)
  | false, 1 => (0, 1)
  | false, 2 => (-1, 0)
  | false, _ => (0, -1)
  | true, 0 => (1, 0)
  | true, 1 => (0, 1)
  | true, 2 => (-1, 1)
  | true, 3 => (-1, 0)
  | true, 4 => (0, -1)
  | true, _ => (1, -1)
/-- the built-in names that the program uses stand -/
structure TxB (K : PySem.W.Frag) (mg : Str → Option Value) : Prop where
  len : mg "len" = none
  range : mg "range" = none
  isi : mg "isinstance" = none
  int : mg "int" = none
  bool : mg "bool" = none
  str : mg "str" = none
  tuple : mg "tuple" = none
  list : mg "list" = none
  sum : mg "sum" = none
  max : mg "max" = none
  min : mg "min" = none
  sorted : mg "sorted" = none
  set : mg "set" = none
  dict : mg "dict" = none
  zip : mg "zip" = none
  all : mg "all" = none
  repr : mg "repr" = none
  intInt : PySem.W.kitOne K (.type "int") (.type "int") = some true
  intBool : PySem.W.kitOne K (.type "int") (.type "bool") = some false
  strStr : PySem.W.kitOne K (.type "str") (.type "str") = some true
  tupTup : PySem.W.kitOne K (.type "tuple") (.type "tuple") = some true
/-- the table STEPS -/
structure TxN (K : PySem.W.Frag) (w : World) (mg : Str → Option Value) (sS : Addr) : Prop where
  at_ : mg "STEPS" = some (.ref sS)
  kd : ∃ es n, KDict K w sS es n
  row : ∀ g, ∃ (a : Addr) (ts : List Addr), PySem.W.nsIn K sS (netS g) = some (some (.ref a)) ∧ (∃ o, K.lookup a = some o ∧ o.cls = .type "tuple" ∧ o.dict = none) ∧ (∀ H, SqT K H a (ts.map V.ref)) ∧ ∀ H, PlR K H ts ((List.range (hd g)).map (stp g))
end K53
set_option maxHeartbeats 4000000
namespace K53
open PySem PySem.Spec PyProof.Rows L2
open C8 (fnScope_by pe_mk pe_mt pe_mt0 InsC)
open SX (S)
theorem itb {c b : Bool} {A B : Prop} (h : c = b) (k : if b = true then A else B) : if c = true then A else B := by
  rw [h]
  exact k
theorem isSq (g : Bool) : decide (net g = V.str "square") = !g := by cases g <;> rfl
/-- one turn -/
def rot : Bool → Int × Int → Int × Int
  | false, p => (-p.2, p.1)
  | true, p => (-p.2, p.1 + p.2)
def rots (g : Bool) : Nat → Int × Int → Int × Int
  | 0, p => p
  | n + 1, p => rot g (rots g n p)
section
variable {P : Program} {w : World} {K : PySem.W.Frag} {mg : Str → Option Value} {base : Heap} {sS : Addr}
/-! is_integer -/
def spInt : Sp := fun vs H Q _ => ∃ n : Int, vs = [.int n] ∧ Q (.bl true) H
theorem sc18 : FnScope ["obj"] ["obj"] (L2.defScope (top 18)) := fnScope_by (by decide +kernel)
theorem c_isint (T : TxB K mg) (D : DefT K mg 18 "is_integer") : Cal P w K mg base 1 "is_integer" spInt := by
  refine cal D sc18 (fun vs H Q E h => ?_) (fun _ _ _ _ _ _ us hl => match us, hl with | [_], _ => rfl) (fun f cdv A outer s H vs Q E hr h => ?_)
  · obtain ⟨n, rfl, _⟩ := h
    rfl
  · obtain ⟨n, rfl, k⟩ := h
    refine ⟨_, (pss_one (ps_ret (pe_and (pe_callB call_isi (by rfl) T.isi (by decide +kernel) (pa_cons (pv 0) (pa_cons (pe_bltn (v := .ty "int") (by rfl) T.int (by decide +kernel) rfl) pa_nil))) (pe_one (pe_not (pe_callB call_isi (by rfl) T.isi (by decide +kernel) (pa_cons (pv 0) (pa_cons (pe_bltn (v := .ty "bool") (by rfl) T.bool (by decide +kernel) rfl) pa_nil)))))))), ?_⟩
    exact ⟨_, rfl, _, _, _, _, true, rfl, .ty _, .base (.int _), T.intInt, true, rfl, iteT ⟨_, rfl, _, _, _, _, false, rfl, .ty _, .base (.int _), T.intBool, false, rfl, k⟩⟩
/-! is_place -/
def spPlace : Sp := fun vs H Q _ => ∃ (a : Addr) (p : Int × Int), vs = [.ref a] ∧ H a = some (.tup (pl p)) ∧ Q (.bl true) H
theorem sc19 : FnScope ["obj"] ["obj"] (L2.defScope (top 19)) := fnScope_by (by decide +kernel)
theorem c_isplace (T : TxB K mg) (D : DefT K mg 19 "is_place") (ci : Cal P w K mg base 1 "is_integer" spInt) : Cal P w K mg base 2 "is_place" spPlace := by
  refine cal D sc19 (fun vs H Q E h => ?_) (fun _ _ _ _ _ _ us hl => match us, hl with | [_], _ => rfl) (fun f cdv A outer s H vs Q E hr h => ?_)
  · obtain ⟨a, p, rfl, _⟩ := h
    rfl
  · obtain ⟨a, p, rfl, ha, k⟩ := h
    have hq : SqT K H a (pl p) := .of ha
    refine ⟨_, (pss_one (ps_ret (pe_and (pe_callB call_isi (by rfl) T.isi (by decide +kernel) (pa_cons (pv 0) (pa_cons (pe_bltn (v := .ty "tuple") (by rfl) T.tuple (by decide +kernel) rfl) pa_nil))) (pe_and (pe_cmpR op_eq (pe_callB call_len_seq (by rfl) T.len PySem.boot_len (pa_cons (pv 0) pa_nil)) pe_int (nomark _)) (pe_and (C8.pe_c ci hr (by decide) rfl (pa_cons (pe_ix ix_tup (pv 0) pe_int (fun _ _ => rfl)) pa_nil)) (pe_one (C8.pe_c ci hr (by decide) rfl (pa_cons (pe_ix ix_tup (pv 0) pe_int (fun _ _ => rfl)) pa_nil)))))))), ?_⟩
    exact ⟨_, rfl, _, _, _, _, true, rfl, .ty _, .base (.tup ha), T.tupTup, true, rfl, iteT ⟨_, rfl, _, _, rfl, .inr hq, rfl, true, rfl, iteT ⟨_, rfl, _, _, _, _, rfl, rfl, hq, atI_nat (j := 0) rfl, p.1, rfl, true, rfl, iteT ⟨_, rfl, _, _, _, _, rfl, rfl, hq, atI_nat (j := 1) rfl, p.2, rfl, k⟩⟩⟩⟩
/-! is_net, check_net -/
def spNet : Sp := fun vs H Q _ => ∃ g, vs = [net g] ∧ Q (.bl true) H
theorem sc20 : FnScope ["obj"] ["obj"] (L2.defScope (top 20)) := fnScope_by (by decide +kernel)
theorem c_isnet (T : TxB K mg) (N : TxN K w mg sS) (D : DefT K mg 20 "is_net") : Cal P w K mg base 1 "is_net" spNet := by
  refine cal D sc20 (fun vs H Q E h => ?_) (fun _ _ _ _ _ _ us hl => match us, hl with | [_], _ => rfl) (fun f cdv A outer s H vs Q E hr h => ?_)
  · obtain ⟨g, rfl, _⟩ := h
    rfl
  · obtain ⟨g, rfl, k⟩ := h
    obtain ⟨es, n, kd⟩ := N.kd
    obtain ⟨a, ts, e, _⟩ := N.row g
    refine ⟨_, (pss_one (ps_ret (pe_and (pe_callB call_isi (by rfl) T.isi (by decide +kernel) (pa_cons (pv 0) (pa_cons (pe_bltn (v := .ty "str") (by rfl) T.str (by decide +kernel) rfl) pa_nil))) (pe_one (pe_cmpR (op_in_kd kd) (pv 0) (pe_glob (v := .ref sS) (by rfl) N.at_ rfl) (by rfl)))))), ?_⟩
    exact ⟨_, rfl, _, _, _, _, true, rfl, .ty _, .base (.str _), T.strStr, true, rfl, iteT ⟨_, rfl, _, _, rfl, rfl, e, k⟩⟩
def spOkNet : Sp := fun vs H Q _ => ∃ g, vs = [net g] ∧ Q .non H
theorem sc21 : FnScope ["obj"] ["obj"] (L2.defScope (top 21)) := fnScope_by (by decide +kernel)
theorem c_oknet (D : DefT K mg 21 "check_net") (c : Cal P w K mg base 1 "is_net" spNet) : Cal P w K mg base 2 "check_net" spOkNet := by
  refine cal D sc21 (fun vs H Q E h => ?_) (fun _ _ _ _ _ _ us hl => match us, hl with | [_], _ => rfl) (fun f cdv A outer s H vs Q E hr h => ?_)
  · obtain ⟨g, rfl, _⟩ := h
    rfl
  · obtain ⟨g, rfl, k⟩ := h
    refine ⟨_, (pss_one (ps_if (pt_not (pt_val (C8.pe_c c hr (by decide) rfl (pa_cons (pv 0) pa_nil)))) (pss_one ps_never) pss_nil)), ?_⟩
    exact ⟨_, rfl, g, rfl, true, rfl, iteF k⟩
def spOkPlace : Sp := fun vs H Q _ => ∃ (a : Addr) (p : Int × Int), vs = [.ref a] ∧ H a = some (.tup (pl p)) ∧ Q .non H
theorem sc22 : FnScope ["obj"] ["obj"] (L2.defScope (top 22)) := fnScope_by (by decide +kernel)
theorem c_okplace (D : DefT K mg 22 "check_place") (c : Cal P w K mg base 2 "is_place" spPlace) : Cal P w K mg base 3 "check_place" spOkPlace := by
  refine cal D sc22 (fun vs H Q E h => ?_) (fun _ _ _ _ _ _ us hl => match us, hl with | [_], _ => rfl) (fun f cdv A outer s H vs Q E hr h => ?_)
  · obtain ⟨a, p, rfl, _⟩ := h
    rfl
  · obtain ⟨a, p, rfl, ha, k⟩ := h
    refine ⟨_, (pss_one (ps_if (pt_not (pt_val (C8.pe_c c hr (by decide) rfl (pa_cons (pv 0) pa_nil)))) (pss_one ps_never) pss_nil)), ?_⟩
    exact ⟨_, rfl, a, p, rfl, ha, true, rfl, iteF k⟩
def spOkInt : Sp := fun vs H Q _ => ∃ n : Int, vs = [.int n] ∧ Q .non H
theorem sc23 : FnScope ["obj"] ["obj"] (L2.defScope (top 23)) := fnScope_by (by decide +kernel)
theorem c_okint (D : DefT K mg 23 "check_integer") (c : Cal P w K mg base 1 "is_integer" spInt) : Cal P w K mg base 2 "check_integer" spOkInt := by
  refine cal D sc23 (fun vs H Q E h => ?_) (fun _ _ _ _ _ _ us hl => match us, hl with | [_], _ => rfl) (fun f cdv A outer s H vs Q E hr h => ?_)
  · obtain ⟨g, rfl, _⟩ := h
    rfl
  · obtain ⟨g, rfl, k⟩ := h
    refine ⟨_, (pss_one (ps_if (pt_not (pt_val (C8.pe_c c hr (by decide) rfl (pa_cons (pv 0) pa_nil)))) (pss_one ps_never) pss_nil)), ?_⟩
    exact ⟨_, rfl, g, rfl, true, rfl, iteF k⟩
/-! heading_count, step_of -/
theorem kdct {es : Array DictEntry} {n : Nat} (D : KDict K w sS es n) {x : Str} {a : Addr} (e : PySem.W.nsIn K sS x = some (some (.ref a))) : KDct K w sS x (.ref a) := ⟨es, n, _, D.at_, D.lit, e, rfl⟩
theorem row_len {H : Hp} {ts : List Addr} {g : Bool} (h : PlR K H ts ((List.range (hd g)).map (stp g))) : ts.length = hd g := by
  have e := Paired.length h
  simpa using e
def spCount : Sp := fun vs H Q _ => ∃ g, vs = [net g] ∧ Q (.int (hd g : Nat)) H
theorem sc25 : FnScope ["net"] ["net"] (L2.defScope (top 25)) := fnScope_by (by decide +kernel)
theorem c_count (T : TxB K mg) (N : TxN K w mg sS) (D : DefT K mg 25 "heading_count") : Cal P w K mg base 1 "heading_count" spCount := by
  refine cal D sc25 (fun vs H Q E h => ?_) (fun _ _ _ _ _ _ us hl => match us, hl with | [_], _ => rfl) (fun f cdv A outer s H vs Q E hr h => ?_)
  · obtain ⟨g, rfl, _⟩ := h
    rfl
  · obtain ⟨g, rfl, k⟩ := h
    obtain ⟨es, n, kd⟩ := N.kd
    obtain ⟨a, ts, e, _, h1, h2⟩ := N.row g
    have hl := row_len (h2 H)
    refine ⟨_, (pss_one (ps_ret (pe_callB call_len_seq (by rfl) T.len PySem.boot_len (pa_cons (pe_ix ix_kdict (pe_glob (v := .ref sS) (by rfl) N.at_ rfl) (pv 0) (fun _ _ => rfl)) pa_nil)))), ?_⟩
    refine ⟨_, rfl, _, _, _, rfl, rfl, kdct kd e, _, _, rfl, .inr (h1 H), ?_⟩
    show Q (.int ((ts.map V.ref).length : Nat)) H
    rw [List.length_map, hl]
    exact k
def spStep (K : PySem.W.Frag) : Sp := fun vs H Q _ => ∃ (g : Bool) (d : Nat), vs = [net g, .int d] ∧ d < hd g ∧ ∀ t, SqT K H t (pl (stp g d)) → Q (.ref t) H
theorem sc26 : FnScope ["net", "heading"] ["net", "heading"] (L2.defScope (top 26)) := fnScope_by (by decide +kernel)
theorem c_step (N : TxN K w mg sS) (D : DefT K mg 26 "step_of") : Cal P w K mg base 1 "step_of" (spStep K) := by
  refine cal D sc26 (fun vs H Q E h => ?_) (fun _ _ _ _ _ _ us hl => match us, hl with | [_, _], _ => rfl) (fun f cdv A outer s H vs Q E hr h => ?_)
  · obtain ⟨g, d, rfl, _⟩ := h
    rfl
  · obtain ⟨g, d, rfl, hd', k⟩ := h
    obtain ⟨es, n, kd⟩ := N.kd
    obtain ⟨a, ts, e, _, h1, h2⟩ := N.row g
    have r := h2 H
    have e2 : ((List.range (hd g)).map (stp g))[d]? = some (stp g d) := by simp [hd']
    obtain ⟨t, ht, e3⟩ := pair_at r e2
    refine ⟨_, (pss_one (ps_ret (pe_ix ix_tup (pe_ix ix_kdict (pe_glob (v := .ref sS) (by rfl) N.at_ rfl) (pv 0) (fun _ _ => rfl)) (pv 1) (fun _ _ => rfl)))), ?_⟩
    exact ⟨_, rfl, _, _, _, rfl, rfl, kdct kd e, _, rfl, _, _, _, _, rfl, rfl, h1 H, atI_nat (j := d) (by simp [e3]), k t ht⟩
/-! scaled, turned -/
def spScaled (K : PySem.W.Frag) : Sp := fun vs H Q _ => ∃ (a : Addr) (p : Int × Int) (f : Int), vs = [.ref a, .int f] ∧ SqT K H a (pl p) ∧ (-(2 ^ 64) < p.1 ∧ p.1 < 2 ^ 64) ∧ (-(2 ^ 64) < p.2 ∧ p.2 < 2 ^ 64) ∧ ∀ t, H t = none → Q (.ref t) (upd H t (.tup (pl (p.1 * f, p.2 * f))))
theorem sc28 : FnScope ["place", "factor"] ["place", "factor"] (L2.defScope (top 28)) := fnScope_by (by decide +kernel)
theorem c_scaled (D : DefT K mg 28 "scaled") : Cal P w K mg base 1 "scaled" (spScaled K) := by
  refine cal D sc28 (fun vs H Q E h => ?_) (fun _ _ _ _ _ _ us hl => match us, hl with | [_, _], _ => rfl) (fun f cdv A outer s H vs Q E hr h => ?_)
  · obtain ⟨a, p, f, rfl, _⟩ := h
    rfl
  · obtain ⟨a, p, f, rfl, ha, b1, b2, k⟩ := h
    refine ⟨_, (pss_one (ps_ret (pe_tup (pa_cons (pe_op op_mul (pe_ix ix_tup (pv 0) pe_int (fun _ _ => rfl)) (pv 1)) (pa_cons (pe_op op_mul (pe_ix ix_tup (pv 0) pe_int (fun _ _ => rfl)) (pv 1)) pa_nil))))), ?_⟩
    exact ⟨_, rfl, _, _, _, _, rfl, rfl, ha, atI_nat (j := 0) rfl, _, rfl, _, _, rfl, rfl, .inl b1, _, rfl, _, _, _, _, rfl, rfl, ha, atI_nat (j := 1) rfl, _, rfl, _, _, rfl, rfl, .inl b2, (small64 (n := 2) (by decide)), k⟩
def spTurned (K : PySem.W.Frag) : Sp := fun vs H Q _ => ∃ (g : Bool) (a : Addr) (p : Int × Int) (n : Nat), vs = [net g, .ref a, .int n] ∧ SqT K H a (pl p) ∧ n ≤ 6 ∧ ∀ H' t, Same H H' → H' t = some (.tup (pl (rots g n p))) → H t = none → Q (.ref t) H'
theorem sc29 : FnScope ["net", "place", "turn", "x", "y", "count"] ["net", "place", "turn"] (L2.defScope (top 29)) := fnScope_by (by decide +kernel)
theorem c_turned (T : TxB K mg) (D : DefT K mg 29 "turned") : Cal P w K mg base 1 "turned" (spTurned K) := by
  refine cal D sc29 (fun vs H Q E h => ?_) (fun _ _ _ _ _ _ us hl => match us, hl with | [_, _, _], _ => rfl) (fun f cdv A outer s H vs Q E hr h => ?_)
  · obtain ⟨g, a, p, n, rfl, _⟩ := h
    rfl
  · obtain ⟨g, a, p, n, rfl, ha, hn, k⟩ := h
    refine ⟨_, (pss_cons (ps_asg (pv 1) (pg_tup rfl (pgs_cons (pg_name (i := 3) sc29.nd rfl (Or.inl rfl)) (pgs_cons (pg_name (i := 4) sc29.nd rfl (Or.inl rfl)) pgs_nil)))) (pss_cons (ps_for PassesOwn.never rfl (pi_range1 (by rfl) T.range (pa_cons (pv 2) pa_nil)) (pg_name (i := 5) sc29.nd rfl (Or.inl rfl)) (pss_one (ps_asg (pe_ifExp (pt_cmpR op_eq (pv 0) pe_str (nomark _)) (pe_tup (pa_cons (pe_un un_neg (pv 4)) (pa_cons (pv 3) pa_nil))) (pe_tup (pa_cons (pe_un un_neg (pv 4)) (pa_cons (pe_op op_add (pv 3) (pv 4)) pa_nil)))) (pg_tup rfl (pgs_cons (pg_name (i := 3) sc29.nd rfl (Or.inl rfl)) (pgs_cons (pg_name (i := 4) sc29.nd rfl (Or.inl rfl)) pgs_nil)))))) (pss_one (ps_ret (pe_tup (pa_cons (pv 3) (pa_cons (pv 4) pa_nil))))))), ?_⟩
    refine ⟨_, rfl, a, _, rfl, ha, rfl, _, _, rfl, _, _, rfl, rfl, ?_⟩
    refine ⟨_, rfl, n, rfl, by omega, by omega, for_range (n := n) (fun i σ H' => ∃ c, σ = [some (net g), some (.ref a), some (.int n), some (.int (rots g i p).1), some (.int (rots g i p).2), c] ∧ Same H H') ⟨_, rfl, Same.refl H⟩ ?_ ?_⟩
    · rintro i σ H1 hi ⟨c, rfl, s1⟩
      refine ⟨_, rfl, rfl, _, rfl, itb (isSq g) ?_⟩
      cases g
      · refine iteT ⟨_, rfl, _, rfl, _, rfl, (small64 (n := 2) (by decide)), fun t ht => ?_⟩
        exact ⟨t, _, rfl, .of upd_same, rfl, _, _, rfl, _, _, rfl, rfl, _, rfl, same_put s1 (Same.free s1 ht)⟩
      · refine iteF ⟨_, rfl, _, rfl, _, rfl, _, rfl, _, _, rfl, rfl, (small64 (n := 2) (by decide)), fun t ht => ?_⟩
        exact ⟨t, _, rfl, .of upd_same, rfl, _, _, rfl, _, _, rfl, rfl, _, rfl, same_put s1 (Same.free s1 ht)⟩
    · rintro σ H1 ⟨c, rfl, s1⟩
      refine ⟨_, rfl, _, rfl, (small64 (n := 2) (by decide)), fun t ht => ?_⟩
      exact k _ t (same_put s1 (Same.free s1 ht)) upd_same (Same.free s1 ht)
end
end K53
set_option maxHeartbeats 4000000
namespace K53
open PySem PySem.Spec PyProof.Rows L2
open C8 (fnScope_by pe_mk pe_mt pe_mt0 InsC)
open SX (S)
abbrev Fs := List (Str × V)
/-- a movement's fields -/
def mF (g : Bool) (b : Addr) (t : Nat) : Fs := [((Str.ofString "own_net"), net g), ((Str.ofString "own_place"), V.ref b), ((Str.ofString "own_turn"), V.int t)]
theorem mF2 (g : Bool) (b : Addr) : putF "own_place" (V.ref b) (putF "own_net" (net g) []) = [((Str.ofString "own_net"), net g), ((Str.ofString "own_place"), V.ref b)] := by kernel_rfl
theorem mF3 (g : Bool) (b : Addr) (t : Nat) : putF "own_turn" (V.int t) (putF "own_place" (V.ref b) (putF "own_net" (net g) [])) = mF g b t := by kernel_rfl
theorem mF_n (g : Bool) (b : Addr) (t : Nat) : List.lookup (Str.ofString "own_net") (mF g b t) = some (net g) := by kernel_rfl
theorem mF_p (g : Bool) (b : Addr) (t : Nat) : List.lookup (Str.ofString "own_place") (mF g b t) = some (V.ref b) := by kernel_rfl
theorem mF_t (g : Bool) (b : Addr) (t : Nat) : List.lookup (Str.ofString "own_turn") (mF g b t) = some (V.int t) := by kernel_rfl

/-- the movement at a -/
def isM (CM : Addr) (H : Hp) (a : Addr) (g : Bool) (p : Int × Int) (t : Nat) : Prop := ∃ dx b, H a = some (.ins CM dx (mF g b t)) ∧ H b = some (.tup (pl p)) ∧ t < hd g
theorem isM_same {CM : Addr} {H H' : Hp} {a : Addr} {g : Bool} {p : Int × Int} {t : Nat} (s : Same H H') (h : isM CM H a g p t) : isM CM H' a g p t := by
  obtain ⟨dx, b, h1, h2, h3⟩ := h
  exact ⟨dx, b, s _ _ h1, s _ _ h2, h3⟩
/-- the class Movement -/
structure TxM (K : PySem.W.Frag) (mg : Str → Option Value) (CM : Addr) : Prop where
  cl : Cls K CM
  is : InsC K CM
  g : mg "Movement" = some (.ref CM)
  n1 : NoAttr K CM "own_net"
  n2 : NoAttr K CM "own_place"
  n3 : NoAttr K CM "own_turn"
def padd (p q : Int × Int) : Int × Int := (p.1 + q.1, p.2 + q.2)
def spMInit (CM : Addr) : Sp := fun vs H Q _ => ∃ (x dx : Addr) (g : Bool) (b : Addr) (p : Int × Int) (n : Int), vs = [.ref x, net g, .ref b, .int n] ∧ H x = some (.ins CM dx []) ∧ H b = some (.tup (pl p)) ∧
  ∀ H', H' x = some (.ins CM dx (mF g b (n % (hd g : Nat)).toNat)) → (∀ c o, c ≠ x → H c = some o → H' c = some o) → Q .non H'
theorem hd_pos (g : Bool) : (0 : Int) < (hd g : Nat) := by cases g <;> decide
theorem hd_mod (g : Bool) (n : Int) : (n % (hd g : Nat)).toNat < hd g ∧ (((n % (hd g : Nat)).toNat : Nat) : Int) = n % (hd g : Nat) := by
  have h := hd_pos g
  have h1 := Int.emod_nonneg n (Int.ne_of_gt h)
  have h2 := Int.emod_lt_of_pos n h
  omega
/-- a movement made -/
theorem mkM {CM : Addr} {H : Hp} {Q : VK} {g : Bool} {b : Addr} {p : Int × Int} {n : Int} (hb : H b = some (.tup (pl p))) (k : ∀ H' x, Same H H' → isM CM H' x g p (n % (hd g : Nat)).toNat → Q (.ref x) H') (x dx : Addr) (hx : H x = none) (hdx : H dx = none) (ne : dx ≠ x) :
    spMInit CM [.ref x, net g, .ref b, .int n] (upd (upd H dx (.own x)) x (.ins CM dx [])) (fun v H2 => v = .non ∧ Q (.ref x) H2) E0 := by
  have hbx : b ≠ x := fun z => by rw [z, hx] at hb; cases hb
  have hbd : b ≠ dx := fun z => by rw [z, hdx] at hb; cases hb
  refine ⟨x, dx, g, b, p, n, rfl, upd_same, by rw [upd_ne hbx, upd_ne hbd]; exact hb, fun H' h1 h2 => ⟨rfl, k H' x (fun c o e => ?_) ⟨dx, b, h1, ?_, (hd_mod g n).1⟩⟩⟩
  · have hcx : c ≠ x := fun z => by rw [z, hx] at e; cases e
    have hcd : c ≠ dx := fun z => by rw [z, hdx] at e; cases e
    exact h2 c o hcx (by rw [upd_ne hcx, upd_ne hcd]; exact e)
  · exact h2 b _ hbx (by rw [upd_ne hbx, upd_ne hbd]; exact hb)
/-- the least positive number that takes a turn round -/
def per (h t : Nat) : Nat := if t % h = 0 then 1 else if 2 * t % h = 0 then 2 else if 3 * t % h = 0 then 3 else if 4 * t % h = 0 then 4 else 6
def perC (h t : Nat) : Bool := decide (per h t * t % h = 0) && decide (0 < per h t) && decide (per h t ≤ 6) && (List.range 6).all fun c => decide (c = 0) || decide (per h t ≤ c) || decide (c * t % h ≠ 0)
theorem perC_ok : ∀ g : Bool, (List.range (hd g)).all (perC (hd g)) = true
  | false => by decide +kernel
  | true => by decide +kernel
theorem per_ok (g : Bool) (t : Nat) (ht : t < hd g) : per (hd g) t * t % hd g = 0 ∧ 0 < per (hd g) t ∧ per (hd g) t ≤ 6 ∧ ∀ c, 0 < c → c < per (hd g) t → c * t % hd g ≠ 0 := by
  have h := List.all_eq_true.mp (perC_ok g) t (List.mem_range.mpr ht)
  unfold perC at h
  simp only [Bool.and_eq_true, decide_eq_true_eq] at h
  obtain ⟨⟨⟨h1, h2⟩, h3⟩, h4⟩ := h
  refine ⟨h1, h2, h3, fun c c0 cp => ?_⟩
  have h5 := List.all_eq_true.mp h4 c (List.mem_range.mpr (by omega))
  simp only [Bool.or_eq_true, decide_eq_true_eq] at h5
  omega
def ordr (g : Bool) (p : Int × Int) (t : Nat) : Nat := if t = 0 then (if p = (0, 0) then 1 else 0) else per (hd g) t
section
variable {P : Program} {w : World} {K : PySem.W.Frag} {mg : Str → Option Value} {base : Heap} {CM : Addr}
theorem scM0 : FnScope ["self", "net", "place", "turn"] ["self", "net", "place", "turn"] (L2.defScope (icl 39 0)) := fnScope_by (by decide +kernel)
theorem m_init (T : TxM K mg CM) (D : MakT K mg "Movement" CM "Movement.__init__" (icl 39 0)) (c1 : Cal P w K mg base 2 "check_net" spOkNet) (c2 : Cal P w K mg base 3 "check_place" spOkPlace) (c3 : Cal P w K mg base 2 "check_integer" spOkInt)
    (c4 : Cal P w K mg base 1 "heading_count" spCount) : Mak P w K mg base 4 "Movement" CM (spMInit CM) := by
  refine mak D scM0 (fun vs H Q E h => ?_) (fun _ _ _ _ _ _ us hl => match us, hl with | [_, _, _, _], _ => rfl) (fun f cdv A outer s H vs Q E hr h => ?_)
  · obtain ⟨x, dx, g, b, p, n, rfl, _⟩ := h
    rfl
  · obtain ⟨x, dx, g, b, p, n, rfl, hx, hb, k⟩ := h
    refine ⟨_, (pss_cons (ps_expr (C8.pe_c c1 hr (by decide) rfl (pa_cons (pv 1) pa_nil))) (pss_cons (ps_expr (C8.pe_c c2 hr (by decide) rfl (pa_cons (pv 2) pa_nil))) (pss_cons (ps_expr (C8.pe_c c3 hr (by decide) rfl (pa_cons (pv 3) pa_nil))) (pss_cons (ps_fld (pv 0) (pv 1) rfl) (pss_cons (ps_fld (pv 0) (pv 2) rfl) (pss_one (ps_fld (pv 0) (pe_op op_mod (pv 3) (C8.pe_c c4 hr (by decide) rfl (pa_cons (pv 1) pa_nil))) rfl))))))), ?_⟩
    refine ⟨_, rfl, g, rfl, _, rfl, b, p, rfl, hb, _, rfl, n, rfl, ?_⟩
    refine ⟨_, rfl, _, rfl, _, _, _, _, rfl, hx, T.cl, T.n1, (by show 0 < 1000; decide), ?_⟩
    refine ⟨_, rfl, _, rfl, _, _, _, _, rfl, upd_same, T.cl, T.n2, (by show 1 < 1000; decide), ?_⟩
    refine ⟨_, rfl, _, rfl, g, rfl, _, _, rfl, rfl, hd_pos g, _, rfl, _, _, _, _, rfl, upd_same, T.cl, T.n3, (by rw [mF2]; show 2 < 1000; decide), ?_⟩
    refine k _ ?_ fun c o hc e => ?_
    · have e := mF3 g b (n % (hd g : Nat)).toNat
      rw [(hd_mod g n).2] at e
      exact upd_same.trans (congrArg (fun z => some (HO.ins CM dx z)) e)
    · rw [upd_ne hc, upd_ne hc, upd_ne hc]
      exact e
/-! place, turn -/
def spMPlace (CM : Addr) : Sp := fun vs H Q _ => ∃ (a : Addr) (g : Bool) (p : Int × Int) (t : Nat), vs = [.ref a] ∧ isM CM H a g p t ∧ ∀ b, H b = some (.tup (pl p)) → Q (.ref b) H
theorem scM3 : FnScope ["self"] ["self"] (L2.defScope (icl 39 3)) := fnScope_by (by decide +kernel)
theorem m_place (T : TxM K mg CM) (D : PrpT K CM "place" "Movement.place" (icl 39 3)) : Prp P w K mg base 1 CM "place" (spMPlace CM) := by
  refine prp T.cl D scM3 (fun vs H Q E h => ?_) (fun _ _ _ _ _ _ us hl => match us, hl with | [_], _ => rfl) (fun f cdv A outer s H vs Q E hr h => ?_)
  · obtain ⟨a, g, p, t, rfl, _⟩ := h
    rfl
  · obtain ⟨a, g, p, t, rfl, ⟨dx, b, ha, hb, ht⟩, k⟩ := h
    refine ⟨_, (pss_one (ps_ret (pe_fld (pv 0) rfl))), ?_⟩
    exact ⟨_, rfl, _, _, _, _, _, rfl, ha, T.cl, T.n2, mF_p g b t, k b hb⟩
def spMTurn (CM : Addr) : Sp := fun vs H Q _ => ∃ (a : Addr) (g : Bool) (p : Int × Int) (t : Nat), vs = [.ref a] ∧ isM CM H a g p t ∧ Q (.int t) H
theorem scM4 : FnScope ["self"] ["self"] (L2.defScope (icl 39 4)) := fnScope_by (by decide +kernel)
theorem m_turn (T : TxM K mg CM) (D : PrpT K CM "turn" "Movement.turn" (icl 39 4)) : Prp P w K mg base 1 CM "turn" (spMTurn CM) := by
  refine prp T.cl D scM4 (fun vs H Q E h => ?_) (fun _ _ _ _ _ _ us hl => match us, hl with | [_], _ => rfl) (fun f cdv A outer s H vs Q E hr h => ?_)
  · obtain ⟨a, g, p, t, rfl, _⟩ := h
    rfl
  · obtain ⟨a, g, p, t, rfl, ⟨dx, b, ha, hb, ht⟩, k⟩ := h
    refine ⟨_, (pss_one (ps_ret (pe_fld (pv 0) rfl))), ?_⟩
    exact ⟨_, rfl, _, _, _, _, _, rfl, ha, T.cl, T.n3, mF_t g b t, k⟩
/-! order -/
def spMOrder (CM : Addr) : Sp := fun vs H Q _ => ∃ (a : Addr) (g : Bool) (p : Int × Int) (t : Nat), vs = [.ref a] ∧ isM CM H a g p t ∧ ∀ H', Same H H' → Q (.int (ordr g p t : Nat)) H'
theorem scM5 : FnScope ["self", "count", "turn"] ["self"] (L2.defScope (icl 39 5)) := fnScope_by (by decide +kernel)
theorem eqv_pl (p q : Int × Int) : PyData.eqv (.tuple [.int p.1, .int p.2]) (.tuple [.int q.1, .int q.2]) = decide (p = q) := by
  obtain ⟨a, b⟩ := p
  obtain ⟨c, d⟩ := q
  simp [PyData.eqv, PyData.eqvAll]
  by_cases h1 : a = c <;> by_cases h2 : b = d <;> simp [h1, h2]
theorem dp_pl {H : Hp} {a : Addr} {p : Int × Int} (h : SqT K H a (pl p)) : Dp K H (.ref a) (.tuple [.int p.1, .int p.2]) := .tup h (.cons (.int _) (.cons (.int _) .nil))
theorem m_order (T : TxM K mg CM) (D : PrpT K CM "order" "Movement.order" (icl 39 5)) (c4 : Cal P w K mg base 1 "heading_count" spCount) : Prp P w K mg base 2 CM "order" (spMOrder CM) := by
  refine prp T.cl D scM5 (fun vs H Q E h => ?_) (fun _ _ _ _ _ _ us hl => match us, hl with | [_], _ => rfl) (fun f cdv A outer s H vs Q E hr h => ?_)
  · obtain ⟨a, g, p, t, rfl, _⟩ := h
    rfl
  · obtain ⟨a, g, p, t, rfl, ⟨dx, b, ha, hb, ht⟩, k⟩ := h
    refine ⟨_, (pss_cons (ps_if (pt_cmpR op_eq (pe_fld (pv 0) rfl) pe_int (nomark _)) (pss_one (ps_ret (pe_ifExp (pt_cmpR (op_eqD hr.units) (pe_fld (pv 0) rfl) (pe_tup (pa_cons pe_int (pa_cons pe_int pa_nil))) (nomark _)) pe_int pe_int))) pss_nil) (pss_cons (ps_par (i := 1) (j := 2) (by rfl) scM5.nd rfl rfl (by decide) rfl rfl (pa_cons pe_int (pa_cons (pe_fld (pv 0) rfl) pa_nil)) (by rfl)) (pss_cons (ps_while PassesOwn.never (pt_cmpR op_ne (pv 2) pe_int (nomark _)) (pss_one (ps_par (i := 1) (j := 2) (by rfl) scM5.nd rfl rfl (by decide) rfl rfl (pa_cons (pe_op op_add (pv 1) pe_int) (pa_cons (pe_op op_mod (pe_op op_add (pv 2) (pe_fld (pv 0) rfl)) (C8.pe_c c4 hr (by decide) rfl (pa_cons (pe_fld (pv 0) rfl) pa_nil))) pa_nil)) (by rfl)))) (pss_one (ps_ret (pv 1)))))), ?_⟩
    refine ⟨_, rfl, _, _, _, _, _, rfl, ha, T.cl, T.n3, mF_t g b t, rfl, _, rfl, ?_⟩
    by_cases h0 : t = 0
    · subst h0
      refine iteT ?_
      refine ⟨_, rfl, _, _, _, _, _, rfl, ha, T.cl, T.n2, mF_p g b 0, (small64 (n := 2) (by decide)), fun z hz => ?_⟩
      refine ⟨_, _, dp_pl (.of (by rw [upd_ne (fun e => by rw [e, hz] at hb; cases hb)]; exact hb)), dp_pl (p := (0, 0)) (.of upd_same), rfl, rfl, _, rfl, ?_⟩
      have q := k _ (same_upd (o := .tup (pl (0, 0))) hz)
      refine itb (eqv_pl p (0, 0)) (ite2 (fun e => ?_) fun e => ?_)
      · have e1 : ordr g p 0 = 1 := (if_pos rfl).trans (if_pos (of_decide_eq_true e))
        rw [e1] at q
        exact q
      · have e1 : ordr g p 0 = 0 := (if_pos rfl).trans (if_neg fun z => e (decide_eq_true z))
        rw [e1] at q
        exact q
    · have e1 : ordr g p t = per (hd g) t := if_neg h0
      obtain ⟨p1, p2, p3, p4⟩ := per_ok g t ht
      refine itb (b := false) (decide_eq_false fun z => h0 (Int.ofNat.inj (V.int.inj z))) (iteF ?_)
      refine ⟨_, rfl, _, _, _, _, _, rfl, ha, T.cl, T.n3, mF_t g b t, _, _, rfl, ?_⟩
      refine while_by (fun σ H' => H' = H ∧ ∃ c : Nat, 0 < c ∧ c ≤ per (hd g) t ∧ σ = [some (.ref a), some (.int c), some (.int (c * t % hd g : Nat))]) (fun σ _ => match σ with | [_, some (.int c), _] => (6 - c).toNat | _ => 0)
        ⟨rfl, 1, Nat.one_pos, p2, by rw [Nat.one_mul, Nat.mod_eq_of_lt ht]; rfl⟩ ?_ (fun σ H Q Q' h ⟨v, e, s, b, e2, q⟩ => ⟨v, e, s, b, e2, h _ _ q⟩)
      rintro σ H1 ⟨rfl, c, c0, c1, rfl⟩
      refine ⟨_, rfl, rfl, _, rfl, ?_⟩
      by_cases hc : c * t % hd g = 0
      · have ec : c = per (hd g) t := Classical.byContradiction fun z => p4 c c0 (by omega) hc
        rw [hc]
        refine iteF ⟨_, rfl, ?_⟩
        rw [ec, ← e1]
        exact k _ (Same.refl _)
      · have lt : c < per (hd g) t := by
          refine Nat.lt_of_le_of_ne c1 fun z => hc ?_
          rw [z]
          exact p1
        refine itb (b := true) (by simp only [Bool.not_eq_true', decide_eq_false_iff_not]; exact fun z => hc (by injection z; omega)) (iteT ?_)
        refine ⟨_, rfl, _, _, rfl, rfl, _, rfl, _, rfl, _, _, _, _, _, rfl, ha, T.cl, T.n3, mF_t g b t, _, _, rfl, rfl, _, rfl, _, _, _, _, _, rfl, ha, T.cl, T.n1, mF_n g b t, g, rfl, _, _, rfl, rfl, hd_pos g, _, _, rfl, ?_⟩
        refine ⟨⟨rfl, c + 1, Nat.succ_pos _, lt, ?_⟩, ?_⟩
        · show [some (V.ref a), some (V.int ((c : Int) + 1)), some (V.int (((c * t % hd g : Nat) + (t : Int)) % (hd g : Nat)))] = _
          have e : (((c * t % hd g : Nat) + (t : Int)) % (hd g : Nat)) = (((c + 1) * t % hd g : Nat) : Int) := by
            rw [Nat.add_mul, Nat.one_mul, ← Nat.mod_add_mod]
            rfl
          rw [e]
          rfl
        · show (6 - ((c : Int) + 1)).toNat < (6 - (c : Int)).toNat
          omega
/-! __call__, __add__ -/
def spMCall (CM : Addr) : Sp := fun vs H Q _ => ∃ (a c : Addr) (g : Bool) (p : Int × Int) (t : Nat) (q : Int × Int), vs = [.ref a, .ref c] ∧ isM CM H a g p t ∧ H c = some (.tup (pl q)) ∧
  ∀ H' r, Same H H' → H r = none → H' r = some (.tup (pl (padd p (rots g t q)))) → Q (.ref r) H'
theorem hd6 (g : Bool) : hd g ≤ 6 := by cases g <;> decide
theorem scM6 : FnScope ["self", "place"] ["self", "place"] (L2.defScope (icl 39 6)) := fnScope_by (by decide +kernel)
/-- an instance of the class may be called -/
structure CalO (P : Program) (w : World) (K : PySem.W.Frag) (mg : Str → Option Value) (base : Heap) (k : Nat) (C : Addr) (sp : Sp) : Prop where
  ex : ∃ (f : Addr) (fd : FuncData) (ps : List Str), FnOk P w K mg base CX0 k f fd ps sp ∧ StX.CallO K C f ∧ Binds K fd ps []
structure CalOT (K : PySem.W.Frag) (C : Addr) (qual : Str) (st : Stmt) : Prop where
  ex : ∃ (f : Addr) (fd : FuncData), FunT K "__call__" qual st f fd ∧ StX.CallO K C f
theorem m_call (T : TxM K mg CM) (D : CalOT K CM "Movement.__call__" (icl 39 6)) (c2 : Cal P w K mg base 3 "check_place" spOkPlace) (ca : Cal P w K mg base 1 "added" (spAdded K)) (ct : Cal P w K mg base 1 "turned" (spTurned K)) :
    CalO P w K mg base 4 CM (spMCall CM) := by
  obtain ⟨f, fd, F, hm⟩ := D.ex
  refine ⟨f, fd, ["self", "place"], okT F scM6 (fun vs H Q E h => ?_) (fun f cdv A outer s H vs Q E hr h => ?_), hm, F.bindsN fun _ _ _ _ _ _ us hl => match us, hl with | [_, _], _ => rfl⟩
  · obtain ⟨a, c, g, p, t, q, rfl, _⟩ := h
    rfl
  · obtain ⟨a, c, g, p, t, q, rfl, ⟨dx, b, ha, hb, ht⟩, hc, k⟩ := h
    refine ⟨_, (pss_cons (ps_expr (C8.pe_c c2 hr (by decide) rfl (pa_cons (pv 1) pa_nil))) (pss_one (ps_ret (C8.pe_c ca hr (by decide) rfl (pa_cons (pe_fld (pv 0) rfl) (pa_cons (C8.pe_c ct hr (by decide) rfl (pa_cons (pe_fld (pv 0) rfl) (pa_cons (pv 1) (pa_cons (pe_fld (pv 0) rfl) pa_nil)))) pa_nil)))))), ?_⟩
    refine ⟨_, rfl, c, q, rfl, hc, _, rfl, _, _, _, _, _, rfl, ha, T.cl, T.n2, mF_p g b t, ?_⟩
    refine ⟨_, rfl, _, _, _, _, _, rfl, ha, T.cl, T.n1, mF_n g b t, _, rfl, _, rfl, _, _, _, _, _, rfl, ha, T.cl, T.n3, mF_t g b t, ?_⟩
    refine ⟨g, c, q, t, rfl, .of hc, by have := hd6 g; omega, fun H' r s1 hr' hn => ?_⟩
    refine ⟨b, r, p, rots g t q, rfl, .of (s1 _ _ hb), .of hr', fun z hz => ?_⟩
    exact k _ z (same_put s1 (Same.free s1 hz)) (Same.free s1 hz) upd_same
/-- o(e, ..), o an instance of C -/
def tCallI (C : Addr) (sp : Sp) (tf : TE) (t : TA) : TE := fun σ H Q => tf σ H fun y H1 => ∃ a, y = V.ref a ∧ t σ H1 fun vs H2 => (∃ dx fs, H2 a = some (.ins C dx fs)) ∧ sp (V.ref a :: (vs ++ [])) H2 Q E0
theorem pe_co {X : Cx} {k j : Nat} {C : Addr} {sp : Sp} {fe e : Expr} {es : List Expr} {tf : TE} {t : TA} {pos : Pos} (c : CalO X.prog X.w X.K X.mg X.base k C sp) (hr : Room j X.A) (hk : k ≤ j) (hf : PE X fe tf) (ha : PA X (e :: es) t)
    (ht : eval (.Call fe (e :: es) [] pos) X.env = (do callWith pos (← eval fe X.env) [] (backTo pos (starEach (e :: es) X.env)) (backToKw pos (keywordEach [] X.env))) := by rfl)
    (he : starEach (e :: es) X.env = (false, eval e X.env) :: starEach es X.env := by rfl) (hpl : (backTo pos (starEach es X.env)).any (·.1) = false := by rfl) : PE X (.Call fe (e :: es) [] pos) (tCallI C sp tf t) := by
  obtain ⟨f, fd, ps, F, co, b⟩ := c.ex
  refine ⟨fun pins s σ H Q I h => ?_⟩
  refine Call_ (thn (hf.run pins s σ H _ I h) ?_) ht
  rintro u s1 ⟨y, H1, I1, ry, a, rfl, q⟩
  cases ry
  refine StX.callO_with (thn (ha.run pos pins s1 σ H1 _ I1 q) ?_) he hpl
  rintro us s2 ⟨vs, H2, I2, r, ⟨dx, fs, hi⟩, q2⟩
  obtain ⟨ox, od, J, pd⟩ := StX.insC_at I2 (C := C) (.inr ⟨dx, fs, hi⟩)
  refine ⟨⟨C, ox, od, J, pd⟩, ?_⟩
  exact StX.run_callO co (F.raw b .nil) (hr.mono hk) pass0 I2 (.inr ⟨dx, fs, hi⟩) r q2
def spMAdd (CM : Addr) : Sp := fun vs H Q _ => ∃ (a b : Addr) (g : Bool) (p q : Int × Int) (t u : Nat), vs = [.ref a, .ref b] ∧ isM CM H a g p t ∧ isM CM H b g q u ∧
  ∀ H' r, Same H H' → isM CM H' r g (padd p (rots g t q)) ((t + u) % hd g) → Q (.ref r) H'
theorem scM9 : FnScope ["self", "other", "place"] ["self", "other"] (L2.defScope (icl 39 9)) := fnScope_by (by decide +kernel)
theorem m_add (B : TxB K mg) (T : TxM K mg CM) (D : MetT K CM "__add__" "Movement.__add__" (icl 39 9)) (ca : Cal P w K mg base 1 "added" (spAdded K)) (ct : Cal P w K mg base 1 "turned" (spTurned K)) (cm : Mak P w K mg base 4 "Movement" CM (spMInit CM)) :
    Met P w K mg base 6 CM "__add__" (spMAdd CM) := by
  refine met T.cl D scM9 (fun vs H Q E h => ?_) (fun _ _ _ _ _ _ us hl => match us, hl with | [_, _], _ => rfl) (fun f cdv A outer s H vs Q E hr h => ?_)
  · obtain ⟨a, c, g, p, q, t, u, rfl, _⟩ := h
    rfl
  · obtain ⟨a, c, g, p, q, t, u, rfl, ⟨dx, b, ha, hb, ht⟩, ⟨dy, d, hc, hd', hu⟩, k⟩ := h
    refine ⟨_, (pss_cons (ps_if (pt_not (pt_val (pe_callB (C8.call_isC T.is) (by rfl) B.isi (by decide +kernel) (pa_cons (pv 1) (pa_cons (pe_glob (v := .ref CM) (by rfl) T.g rfl) pa_nil))))) (pss_one ps_never) pss_nil) (pss_cons (ps_if (pt_cmpR op_ne (pe_fld (pv 0) rfl) (pe_fld (pv 1) rfl) (nomark _)) (pss_one ps_never) pss_nil) (pss_cons (ps_set (i := 2) scM9.nd rfl (Or.inl rfl) (C8.pe_c ca hr (by decide) rfl (pa_cons (pe_fld (pv 0) rfl) (pa_cons (C8.pe_c ct hr (by decide) rfl (pa_cons (pe_fld (pv 0) rfl) (pa_cons (pe_fld (pv 1) rfl) (pa_cons (pe_fld (pv 0) rfl) pa_nil)))) pa_nil)))) (pss_one (ps_ret (C8.pe_mk cm hr (by decide) rfl (pa_cons (pe_fld (pv 0) rfl) (pa_cons (pv 2) (pa_cons (pe_op op_add (pe_fld (pv 0) rfl) (pe_fld (pv 1) rfl)) pa_nil))))))))), ?_⟩
    refine ⟨_, rfl, _, _, _, rfl, hc, true, rfl, iteF ?_⟩
    refine ⟨_, rfl, _, _, _, _, _, rfl, ha, T.cl, T.n1, mF_n g b t, _, rfl, _, _, _, _, _, rfl, hc, T.cl, T.n1, mF_n g d u, rfl, _, rfl, itb (b := false) (by simp) (iteF ?_)⟩
    refine ⟨_, rfl, _, _, _, _, _, rfl, ha, T.cl, T.n2, mF_p g b t, _, rfl, _, _, _, _, _, rfl, ha, T.cl, T.n1, mF_n g b t, _, rfl, _, _, _, _, _, rfl, hc, T.cl, T.n2, mF_p g d u, _, rfl, _, _, _, _, _, rfl, ha, T.cl, T.n3, mF_t g b t, ?_⟩
    refine ⟨g, d, q, t, rfl, .of hd', by have := hd6 g; omega, fun H1 r s1 hr1 hn1 => ?_⟩
    refine ⟨b, r, p, rots g t q, rfl, .of (s1 _ _ hb), .of hr1, fun z hz => ?_⟩
    have s2 := same_put (o := .tup (pl (padd p (rots g t q)))) s1 (Same.free s1 hz)
    refine ⟨_, rfl, _, _, _, _, _, rfl, s2 _ _ ha, T.cl, T.n1, mF_n g b t, _, rfl, _, rfl, _, _, _, _, _, rfl, s2 _ _ ha, T.cl, T.n3, mF_t g b t, _, rfl, _, _, _, _, _, rfl, s2 _ _ hc, T.cl, T.n3, mF_t g d u, _, _, rfl, rfl, ?_⟩
    refine mkM (p := padd p (rots g t q)) upd_same fun H2 x s3 hM => ?_
    refine k H2 x (Same.trans s2 s3) ?_
    have e : (((t : Int) + (u : Int)) % (hd g : Nat)).toNat = (t + u) % hd g := rfl
    rw [e] at hM
    exact hM
end
end K53
set_option maxHeartbeats 4000000
namespace K53
open PySem PySem.Spec PyProof.Rows L2
open C8 (fnScope_by pe_mk pe_mt pe_mt0 InsC)
open SX (S)
/-! ### commands -/
/-- a table from signs -/
structure Tbl (K : PySem.W.Frag) (w : World) (mg : Str → Option Value) (x : Str) (d : Addr) (f : Nat → V) : Prop where
  at_ : mg x = some (.ref d)
  kd : ∃ es n, KDict K w d es n
  row : ∀ c, okC c → ∃ u, PySem.W.nsIn K d (sgn c) = some (some u) ∧ RelV (f c) u
theorem Tbl.get {K : PySem.W.Frag} {w : World} {mg : Str → Option Value} {x : Str} {d : Addr} {f : Nat → V} (T : Tbl K w mg x d f) {c : Nat} (h : okC c) : KDct K w d (sgn c) (f c) := by
  obtain ⟨es, n, D⟩ := T.kd
  obtain ⟨u, e, r⟩ := T.row c h
  exact ⟨es, n, u, D.at_, D.lit, e, r⟩
structure TxD (K : PySem.W.Frag) (w : World) (mg : Str → Option Value) (sI sR sC : Addr) : Prop where
  i : Tbl K w mg "INVERSE" sI fun c => .str (sgn (inv1 c))
  m : Tbl K w mg "MIRRORED" sR fun c => .str (sgn (mir1 c))
  c : Tbl K w mg "CHANGES" sC fun c => .int (chg c)
/-! ### the moves of commands -/
abbrev Mv := (Int × Int) × Nat × (Int × Int)
structure Wst where
  ms : List Mv
  p : Int × Int
  h : Nat
def pneg (p : Int × Int) : Int × Int := (p.1 * -1, p.2 * -1)
def mvTo (g : Bool) (p : Int × Int) (h c : Nat) : Int × Int := padd p (if c = 70 then stp g h else pneg (stp g h))
def wnext (g : Bool) (s : Wst) (c : Nat) : Wst :=
  ⟨if c = 70 ∨ c = 66 then s.ms ++ [(s.p, s.h, mvTo g s.p s.h c)] else s.ms, if c = 70 ∨ c = 66 then mvTo g s.p s.h c else s.p, (((s.h : Int) + chg c) % (hd g : Nat)).toNat⟩
def wrun (g : Bool) (cs : List Nat) : Wst := cs.foldl (wnext g) ⟨[], (0, 0), 0⟩
theorem wrun_snoc (g : Bool) (cs : List Nat) (c : Nat) : wrun g (cs ++ [c]) = wnext g (wrun g cs) c := by simp [wrun]
theorem wrun_h (g : Bool) (cs : List Nat) : (wrun g cs).h < hd g := by
  have A : ∀ (cs : List Nat) (s : Wst), s.h < hd g → (cs.foldl (wnext g) s).h < hd g := by
    intro cs
    induction cs with
    | nil => exact fun s h => h
    | cons c cs ih => exact fun s h => ih _ (hd_mod g _).1
  exact A cs _ (by cases g <;> decide)
theorem wrun_len (g : Bool) (cs : List Nat) : (wrun g cs).ms.length ≤ cs.length := by
  have A : ∀ (cs : List Nat) (s : Wst), (cs.foldl (wnext g) s).ms.length ≤ s.ms.length + cs.length := by
    intro cs
    induction cs with
    | nil => exact fun s => Nat.le_refl _
    | cons c cs ih =>
      intro s
      refine Nat.le_trans (ih _) ?_
      unfold wnext
      by_cases h : c = 70 ∨ c = 66 <;> simp [h] <;> omega
  have h := A cs ⟨[], (0, 0), 0⟩
  simp only [List.length_nil, Nat.zero_add] at h
  exact h
theorem take_snoc {α : Type} {l : List α} {i : Nat} {x : α} (h : l[i]? = some x) : l.take (i + 1) = l.take i ++ [x] := by
  rw [List.take_succ, h]
  rfl
theorem inFB (c : Nat) : decide (c ∈ (Str.ofString "FB").cps.toList) = decide (c = 70 ∨ c = 66) := by
  have e : (Str.ofString "FB").cps.toList = [70, 66] := by kernel_rfl
  rw [e]
  simp
theorem eqSgn (c d : Nat) : decide (V.str (sgn c) = V.str (sgn d)) = decide (c = d) := by
  refine decide_eq_decide.mpr ⟨fun h => ?_, fun h => by rw [h]⟩
  injection h with h
  injection h with h
  simpa using h
theorem isF (c : Nat) : decide (V.str (sgn c) = V.str "F") = decide (c = 70) := by
  have e : (Str.ofString "F") = sgn 70 := by kernel_rfl
  rw [e]
  exact eqSgn c 70
theorem stp_small (g : Bool) (h : Nat) : (-(2 ^ 64) < (stp g h).1 ∧ (stp g h).1 < 2 ^ 64) ∧ (-(2 ^ 64) < (stp g h).2 ∧ (stp g h).2 < 2 ^ 64) := by
  unfold stp
  split <;> decide
/-- what tuples are stays -/
def SamT (H H' : Hp) : Prop := ∀ b xs, H b = some (.tup xs) → H' b = some (.tup xs)
theorem samT_of {H H' : Hp} (s : Same H H') : SamT H H' := fun b _ e => s b _ e
theorem samT_trans {H H1 H2 : Hp} (a : SamT H H1) (b : SamT H1 H2) : SamT H H2 := fun c x e => b c x (a c x e)
/-- a list is written: tuples stay -/
theorem samT_put {H : Hp} {l : Addr} {o u : HO} (h : H l = some o) (k : ∀ xs, o ≠ .tup xs) : SamT H (upd H l u) := by
  intro b xs e
  rw [upd_ne (fun z => by rw [z, h] at e; injection e with e; exact k xs e)]
  exact e
/-- the moves in the list of addresses -/
def Mv1 (H : Hp) (a : Addr) (m : Mv) : Prop := ∃ b c, H a = some (.tup [.ref b, .int m.2.1, .ref c]) ∧ H b = some (.tup (pl m.1)) ∧ H c = some (.tup (pl m.2.2))
abbrev Mvs (H : Hp) (as : List Addr) (ms : List Mv) : Prop := Paired (Mv1 H) as ms
theorem mv1_sam {H H' : Hp} (s : SamT H H') {a : Addr} {m : Mv} (h : Mv1 H a m) : Mv1 H' a m := by
  obtain ⟨b, c, h1, h2, h3⟩ := h
  exact ⟨b, c, s _ _ h1, s _ _ h2, s _ _ h3⟩
theorem mvs_sam {H H' : Hp} (s : SamT H H') {as : List Addr} {ms : List Mv} (h : Mvs H as ms) : Mvs H' as ms := Paired.mapP h fun _ _ z => mv1_sam s z
section
variable {P : Program} {w : World} {K : PySem.W.Frag} {mg : Str → Option Value} {base : Heap} {sI sR sC : Addr}
def spMoves : Sp := fun vs H Q _ => ∃ (g : Bool) (cs : List Nat), vs = [net g, .str (S cs)] ∧ (∀ c ∈ cs, okC c) ∧ cs.length ≤ 200 ∧
  ∀ H' l as, Same H H' → H l = none → H' l = some (.lst (as.map V.ref)) → Mvs H' as (wrun g cs).ms → Q (.ref l) H'
theorem sc44 : FnScope ["net", "commands", "found", "place", "heading", "sign", "step", "later"] ["net", "commands"] (L2.defScope (top 44)) := fnScope_by (by decide +kernel)
theorem c_moves (T : TxB K mg) (D : TxD K w mg sI sR sC) (d : DefT K mg 44 "all_moves") (c1 : Cal P w K mg base 1 "step_of" (spStep K)) (c2 : Cal P w K mg base 1 "added" (spAdded K)) (c3 : Cal P w K mg base 1 "scaled" (spScaled K))
    (c4 : Cal P w K mg base 1 "heading_count" spCount) : Cal P w K mg base 2 "all_moves" spMoves := by
  refine cal d sc44 (fun vs H Q E h => ?_) (fun _ _ _ _ _ _ us hl => match us, hl with | [_, _], _ => rfl) (fun f cdv A outer s H vs Q E hr h => ?_)
  · obtain ⟨g, cs, rfl, _⟩ := h
    rfl
  · obtain ⟨g, cs, rfl, ok, hl, k⟩ := h
    refine ⟨_, (pss_cons (ps_set (i := 2) sc44.nd rfl (Or.inl rfl) (pe_lst pa_nil)) (pss_cons (ps_asg (pe_tup (pa_cons (pe_tup (pa_cons pe_int (pa_cons pe_int pa_nil))) (pa_cons pe_int pa_nil))) (pg_tup rfl (pgs_cons (pg_name (i := 3) sc44.nd rfl (Or.inl rfl)) (pgs_cons (pg_name (i := 4) sc44.nd rfl (Or.inl rfl)) pgs_nil)))) (pss_cons (ps_for PassesOwn.never rfl (pi_str (pv 1)) (pg_name (i := 5) sc44.nd rfl (Or.inl rfl)) (pss_cons (ps_if (pt_cmpR op_in_sign (pv 5) pe_str rfl) (pss_cons (ps_set (i := 6) sc44.nd rfl (Or.inl rfl) (C8.pe_c c1 hr (by decide) rfl (pa_cons (pv 0) (pa_cons (pv 4) pa_nil)))) (C8.pss_cut (ps_set (i := 7) sc44.nd rfl (Or.inl rfl) (C8.pe_c c2 hr (by decide) rfl (pa_cons (pv 3) (pa_cons (pe_ifExp (pt_cmpR op_eq (pv 5) pe_str (nomark _)) (pv 6) (C8.pe_c c3 hr (by decide) rfl (pa_cons (pv 6) (pa_cons (pe_un un_neg pe_int) pa_nil)))) pa_nil))))
          (pss_cons (ps_expr (pe_bm PySem.F.plainAttrs_list PySem.F.slot_list_append PySem.F.type_list_append mt_append (pv 2) (pa_cons (pe_tup (pa_cons (pv 3) (pa_cons (pv 4) (pa_cons (pv 7) pa_nil)))) pa_nil))) (pss_one (ps_set (i := 3) sc44.nd rfl (Or.inl rfl) (pv 7)))))) pss_nil) (pss_one (ps_set (i := 4) sc44.nd rfl (Or.inl rfl) (pe_op op_mod (pe_op op_add (pv 4) (pe_ix ix_kdict (pe_glob (v := .ref sC) (by rfl) D.c.at_ rfl) (pv 5) (fun _ _ => rfl))) (C8.pe_c c4 hr (by decide) rfl (pa_cons (pv 0) pa_nil))))))) (pss_one (ps_ret (pv 2)))))), ?_⟩
    refine ⟨by decide, fun l hl0 => ?_⟩
    refine ⟨(small64 (n := 2) (by decide)), fun b hb => ⟨(small64 (n := 2) (by decide)), fun b2 hb2 => ?_⟩⟩
    refine ⟨b2, _, rfl, .of upd_same, rfl, _, _, rfl, _, _, rfl, rfl, ?_⟩
    have s0 : Same H (upd (upd (upd H l (.lst [])) b (.tup (pl (0, 0)))) b2 (.tup [.ref b, .int 0])) := same_put (same_put (same_upd hl0) (Same.free (same_upd hl0) hb)) (Same.free (same_put (same_upd hl0) (Same.free (same_upd hl0) hb)) hb2)
    have nbl : l ≠ b := fun z => by rw [← z, upd_same] at hb; cases hb
    have nb2 : b ≠ b2 := fun z => by rw [← z, upd_same] at hb2; cases hb2
    have nl2 : l ≠ b2 := fun z => by rw [← z, upd_ne nbl, upd_same] at hb2; cases hb2
    refine ⟨_, rfl, _, rfl, for_it walk_str (fun i σ H' => ∃ (sg st lt : Option V) (b : Addr) (as : List Addr), σ = [some (net g), some (.str (S cs)), some (.ref l), some (.ref b), some (.int (wrun g (cs.take i)).h), sg, st, lt] ∧ Same H H' ∧
      H' l = some (.lst (as.map V.ref)) ∧ Mvs H' as (wrun g (cs.take i)).ms ∧ H' b = some (.tup (pl (wrun g (cs.take i)).p))) ⟨none, none, none, b, [], rfl, s0, by rw [upd_ne nl2, upd_ne nbl, upd_same]; rfl, .nil, by rw [upd_ne nb2, upd_same]; rfl⟩ (fun _ _ _ _ _ => trivial) ?_ ?_⟩
    · rintro i x σ H1 H2 hi ⟨sg, st, lt, b, as, rfl, s1, e1, m1, e2⟩ ⟨rfl, c, hc, rfl⟩
      have hc' : cs[i]? = some c := by simpa using hc
      have okc := ok c (List.mem_of_getElem? hc')
      rw [take_snoc hc', wrun_snoc]
      generalize hs : wrun g (cs.take i) = s at *
      have hh : s.h < hd g := by rw [← hs]; exact wrun_h g _
      refine ⟨_, rfl, c, _, rfl, rfl, _, rfl, itb (inFB c) ?_⟩
      have hnew : ((wnext g s c).h : Int) = ((s.h : Int) + chg c) % (hd g : Nat) := (hd_mod g _).2
      by_cases hc : c = 70 ∨ c = 66
      · refine itb (b := true) (decide_eq_true hc) (iteT ?_)
        have lenas : as.length < 1000 := by
          have z1 := Paired.length m1
          have z2 := wrun_len g (cs.take i)
          rw [hs] at z2
          have z3 : (cs.take i).length ≤ cs.length := List.length_take_le' i cs
          omega
        refine ⟨_, rfl, _, rfl, g, s.h, rfl, hh, fun t ht => ?_⟩
        refine ⟨fun σ' H' => ∃ u, σ' = [some (net g), some (.str (S cs)), some (.ref l), some (.ref b), some (.int s.h), some (.str (sgn c)), some (.ref t), some (.ref u)] ∧ Same H2 H' ∧ H' u = some (.tup (pl (mvTo g s.p s.h c))), ?_, ?_⟩
        · refine ⟨_, rfl, _, rfl, rfl, _, rfl, itb (isF c) (ite2 (fun hF => ?_) fun hF => ?_)⟩
          · refine ⟨_, rfl, b, t, s.p, stp g s.h, rfl, .of e2, ht, fun u hu => ⟨u, rfl, same_upd hu, ?_⟩⟩
            have e : mvTo g s.p s.h c = padd s.p (stp g s.h) := by unfold mvTo; rw [if_pos (of_decide_eq_true hF)]
            rw [e, upd_same]
            rfl
          · refine ⟨_, rfl, 1, rfl, t, stp g s.h, -1, rfl, ht, (stp_small g _).1, (stp_small g _).2, fun q hq => ?_⟩
            refine ⟨b, q, s.p, pneg (stp g s.h), rfl, .of (same_upd hq _ _ e2), .of upd_same, fun u hu => ⟨u, rfl, same_put (same_upd hq) (Same.free (same_upd hq) hu), ?_⟩⟩
            have e : mvTo g s.p s.h c = padd s.p (pneg (stp g s.h)) := by unfold mvTo; rw [if_neg (fun z => hF (decide_eq_true z))]
            rw [e, upd_same]
            rfl
        · rintro σ' H3 ⟨u, rfl, s3, e3⟩
          refine ⟨_, rfl, .inl ⟨rfl, _, SqL.of (s3 _ _ e1)⟩, _, rfl, _, rfl, _, rfl, (small64 (n := 3) (by decide)), fun m hm => ?_⟩
          have s4 : Same H2 (upd H3 m (.tup [.ref b, .int s.h, .ref u])) := same_put s3 (Same.free s3 hm)
          have s5 : SamT H2 (upd (upd H3 m (.tup [.ref b, .int s.h, .ref u])) l (.lst (as.map V.ref ++ [.ref m]))) := samT_trans (samT_of s4) (samT_put (s4 _ _ e1) fun _ z => nomatch z)
          have s6 : SamT (upd H3 m (.tup [.ref b, .int s.h, .ref u])) (upd (upd H3 m (.tup [.ref b, .int s.h, .ref u])) l (.lst (as.map V.ref ++ [.ref m]))) := samT_put (s4 _ _ e1) fun _ z => nomatch z
          have e5 : upd (upd H3 m (.tup [.ref b, .int s.h, .ref u])) l (.lst (as.map V.ref ++ [.ref m])) u = some (.tup (pl (mvTo g s.p s.h c))) := s6 _ _ (same_upd hm _ _ e3)
          refine ⟨l, _, _, rfl, rfl, s4 _ _ e1, by rw [List.length_map]; exact Nat.lt_of_lt_of_le lenas (by decide), _, rfl, ?_⟩
          refine ⟨_, rfl, _, rfl, _, _, _, rfl, rfl, D.c.get okc, _, _, rfl, rfl, _, rfl, g, rfl, _, _, rfl, rfl, hd_pos g, ?_⟩
          have ea : (wnext g s c).ms = s.ms ++ [(s.p, s.h, mvTo g s.p s.h c)] := if_pos hc
          have eb : (wnext g s c).p = mvTo g s.p s.h c := if_pos hc
          rw [ea, eb]
          refine ⟨some (.str (sgn c)), some (.ref t), some (.ref u), u, as ++ [m], ?_, same_put (Same.trans s1 s4) hl0, by rw [upd_same, List.map_append]; rfl, Paired.snoc (mvs_sam s5 m1) ⟨b, u, s6 _ _ upd_same, s5 _ _ e2, e5⟩, e5⟩
          rw [hnew]
          rfl
      · refine itb (b := false) (decide_eq_false hc) (iteF ?_)
        refine ⟨_, rfl, _, rfl, _, _, _, rfl, rfl, D.c.get okc, _, _, rfl, rfl, _, rfl, g, rfl, _, _, rfl, rfl, hd_pos g, ?_⟩
        have ea : (wnext g s c).ms = s.ms := if_neg hc
        have eb : (wnext g s c).p = s.p := if_neg hc
        rw [ea, eb]
        refine ⟨some (.str (sgn c)), st, lt, b, as, ?_, s1, e1, m1, e2⟩
        rw [hnew]
        rfl
    · rintro σ H1 ⟨sg, st, lt, b, as, rfl, s1, e1, m1, e2⟩
      have e : cs.take (S cs).cps.size = cs := by simp
      rw [e] at m1
      exact ⟨_, rfl, k _ l as s1 hl0 e1 m1⟩
end
end K53
set_option maxHeartbeats 4000000
namespace K53
open PySem PySem.Spec PyProof.Rows L2
open C8 (fnScope_by pe_mk pe_mt pe_mt0 InsC)
open SX (S)
abbrev kN : Str := Str.ofString "own_net"
abbrev kC : Str := Str.ofString "own_commands"
abbrev kM : Str := Str.ofString "own_moves"
abbrev kP : Str := Str.ofString "own_places"
def wF (g : Bool) (cs : List Nat) (m p : Addr) : Fs := [(kN, net g), (kC, .str (S cs)), (kM, .ref m), (kP, .ref p)]
theorem wF2 (g : Bool) (cs : List Nat) : putF kC (.str (S cs)) (putF kN (net g) []) = [(kN, net g), (kC, .str (S cs))] := by kernel_rfl
theorem wF3 (g : Bool) (cs : List Nat) (m : Addr) : putF kM (.ref m) (putF kC (.str (S cs)) (putF kN (net g) [])) = [(kN, net g), (kC, .str (S cs)), (kM, .ref m)] := by kernel_rfl
theorem wF3l (g : Bool) (cs : List Nat) (m : Addr) : List.lookup kM (putF kM (.ref m) (putF kC (.str (S cs)) (putF kN (net g) []))) = some (.ref m) := by kernel_rfl
theorem wF4 (g : Bool) (cs : List Nat) (m p : Addr) : putF kP (.ref p) (putF kM (.ref m) (putF kC (.str (S cs)) (putF kN (net g) []))) = wF g cs m p := by kernel_rfl
theorem wF_n (g : Bool) (cs : List Nat) (m p : Addr) : (wF g cs m p).lookup kN = some (net g) := by kernel_rfl
theorem wF_c (g : Bool) (cs : List Nat) (m p : Addr) : (wF g cs m p).lookup kC = some (.str (S cs)) := by kernel_rfl
theorem wF_m (g : Bool) (cs : List Nat) (m p : Addr) : (wF g cs m p).lookup kM = some (.ref m) := by kernel_rfl
theorem wF_p (g : Bool) (cs : List Nat) (m p : Addr) : (wF g cs m p).lookup kP = some (.ref p) := by kernel_rfl
/-- the places at the addresses -/
abbrev Pts (H : Hp) (bs : List Addr) (ps : List (Int × Int)) : Prop := Paired (fun b p => H b = some (.tup (pl p))) bs ps
theorem pts_sam {H H' : Hp} (s : SamT H H') {bs : List Addr} {ps : List (Int × Int)} (h : Pts H bs ps) : Pts H' bs ps := Paired.mapP h fun _ _ z => s _ _ z
def wpl (g : Bool) (cs : List Nat) : List (Int × Int) := (0, 0) :: (wrun g cs).ms.map (·.2.2)
/-- the walk at a -/
def isW (CW : Addr) (H : Hp) (a : Addr) (g : Bool) (cs : List Nat) : Prop := ∃ dx m p as bs, H a = some (.ins CW dx (wF g cs m p)) ∧ H m = some (.lst (as.map V.ref)) ∧ Mvs H as (wrun g cs).ms ∧
  H p = some (.lst (bs.map V.ref)) ∧ Pts H bs (wpl g cs) ∧ (∀ c ∈ cs, okC c) ∧ cs.length ≤ 200
theorem isW_same {CW : Addr} {H H' : Hp} {a : Addr} {g : Bool} {cs : List Nat} (s : Same H H') (h : isW CW H a g cs) : isW CW H' a g cs := by
  obtain ⟨dx, m, p, as, bs, h1, h2, h3, h4, h5, h6⟩ := h
  exact ⟨dx, m, p, as, bs, s _ _ h1, s _ _ h2, mvs_sam (samT_of s) h3, s _ _ h4, pts_sam (samT_of s) h5, h6⟩
def rInKd (K : PySem.W.Frag) (d : Addr) : R2 := fun x y H Q => ∃ z r, x = V.str z ∧ y = V.ref d ∧ PySem.W.nsIn K d z = some r ∧ Q (V.bl r.isSome) H
/-- the class Walk -/
structure TxW (K : PySem.W.Frag) (mg : Str → Option Value) (CW : Addr) : Prop where
  cl : Cls K CW
  is : InsC K CW
  g : mg "Walk" = some (.ref CW)
  n1 : NoAttr K CW "own_net"
  n2 : NoAttr K CW "own_commands"
  n3 : NoAttr K CW "own_moves"
  n4 : NoAttr K CW "own_places"
  most : ∃ mc u, ClX.CRead K CW mc ∧ ClX.CVal K CW mc "MOST" (.int 200) u
theorem pair_l {α β : Type} {F : α → β → Prop} {l : List α} {m : List β} (r : Paired F l m) : ∀ {j : Nat} {x : α}, l[j]? = some x → ∃ y, F x y ∧ m[j]? = some y := by
  induction r with
  | nil => intro j y e; simp at e
  | cons h _ ih =>
    rintro (_ | j) y e
    · cases (show some _ = some y from e)
      exact ⟨_, h, rfl⟩
    · obtain ⟨x, f, z⟩ := ih (j := j) (x := y) (by simpa using e)
      exact ⟨x, f, by simpa using z⟩
theorem map_at {α β : Type} {f : α → β} {l : List α} {i : Nat} {y : β} (h : (l.map f)[i]? = some y) : ∃ x, l[i]? = some x ∧ y = f x := by
  rw [List.getElem?_map] at h
  obtain ⟨x, e1, e2⟩ := Option.map_eq_some_iff.mp h
  exact ⟨x, e1, e2.symm⟩
/-- an object is made: the rest stands -/
abbrev But (x : Addr) (H H' : Hp) : Prop := ∀ c o, c ≠ x → H c = some o → H' c = some o
def spWInit (CW : Addr) : Sp := fun vs H Q _ => ∃ (x dx : Addr) (g : Bool) (cs : List Nat), vs = [.ref x, net g, .str (S cs)] ∧ (∀ c ∈ cs, okC c) ∧ cs.length ≤ 200 ∧ H x = some (.ins CW dx []) ∧
  ∀ H', isW CW H' x g cs → But x H H' → Q .non H'
theorem mkW {CW : Addr} {H : Hp} {Q : VK} {g : Bool} {cs : List Nat} (ok : ∀ c ∈ cs, okC c) (hl : cs.length ≤ 200) (k : ∀ H' x, Same H H' → isW CW H' x g cs → Q (.ref x) H') (x dx : Addr) (hx : H x = none) (hdx : H dx = none) (ne : dx ≠ x) :
    spWInit CW [.ref x, net g, .str (S cs)] (upd (upd H dx (.own x)) x (.ins CW dx [])) (fun v H2 => v = .non ∧ Q (.ref x) H2) E0 :=
  ⟨x, dx, g, cs, rfl, ok, hl, upd_same, fun H' h1 h2 => ⟨rfl, k H' x (Same.made hx hdx fun b o e n => h2 b o n e) h1⟩⟩
section
variable {P : Program} {w : World} {K : PySem.W.Frag} {mg : Str → Option Value} {base : Heap} {sI sR sC CW CM : Addr}
abbrev nW1 : List Str := ["self", "net", "commands", "sign", "before", "heading", "after"]
theorem scW1 : FnScope nW1 ["self", "net", "commands"] (L2.defScope (icl 45 1)) := fnScope_by (by decide +kernel)
theorem w_init (T : TxB K mg) (W : TxW K mg CW) (D : TxD K w mg sI sR sC) (d : MakT K mg "Walk" CW "Walk.__init__" (icl 45 1)) (c1 : Cal P w K mg base 2 "check_net" spOkNet) (c2 : Cal P w K mg base 2 "all_moves" spMoves) : Mak P w K mg base 3 "Walk" CW (spWInit CW) := by
  refine mak d scW1 (fun vs H Q E h => ?_) (fun _ _ _ _ _ _ us hl => match us, hl with | [_, _, _], _ => rfl) (fun f cdv A outer s H vs Q E hr h => ?_)
  · obtain ⟨x, dx, g, cs, rfl, _⟩ := h
    rfl
  · obtain ⟨x, dx, g, cs, rfl, ok, hl, hx, k⟩ := h
    obtain ⟨mc, u, mr, mv⟩ := W.most
    obtain ⟨es, n, kd⟩ := D.i.kd
    refine ⟨_, (pss_cons (ps_expr (C8.pe_c c1 hr (by decide) rfl (pa_cons (pv 1) pa_nil))) (pss_cons (ps_if (PW.pt (pw_or (pt_not (pt_val (pe_callB call_isi (by rfl) T.isi (by decide +kernel) (pa_cons (pv 2) (pa_cons (pe_bltn (v := .ty "str") (by rfl) T.str (by decide +kernel) rfl) pa_nil))))) (pw_or1 (pt_cmpR op_gt (pe_callB call_len_str (by rfl) T.len PySem.boot_len (pa_cons (pv 2) pa_nil)) (ClX.pe_cval (pe_glob (v := .ref CW) (by rfl) W.g rfl)) (nomark _))))) (pss_one ps_never) pss_nil) (pss_cons (ps_if (pt_not (pt_val (pe_callB (cr_all rfl) (by rfl) T.all (by decide +kernel) (pa_cons (pe_lc (own := [("sign", 3)]) (g := gName 3) (te := tOp (rInKd K sI) (tVar 3) (tC (.ref sI))) rfl scW1.nd (pi_str (pv 2)) (blkOk_by (own := [("sign", 3)]) (N := nW1) (sc := L2.defScope (icl 45 1)) (by decide +kernel)) (fun _ _ _ _ _ => (pg_name (i := 3) scW1.nd rfl (Or.inl rfl))) (fun _ _ _ _ _ => pts_nil) (fun _ _ _ _ _ => (pe_cmpR (op_in_kd kd) (pv 3) (pe_glob (v := .ref sI) (by rfl) D.i.at_ rfl) (by rfl)))) pa_nil)))) (pss_one ps_never) pss_nil) (pss_cons (ps_fld (pv 0) (pv 1) rfl) (pss_cons (ps_fld (pv 0) (pv 2) rfl) (pss_cons (ps_fld (pv 0) (C8.pe_c c2 hr (by decide) rfl (pa_cons (pv 1) (pa_cons (pv 2) pa_nil))) rfl) (pss_one (ps_fld (pv 0) (pe_op op_cat (pe_lst (pa_cons (pe_tup (pa_cons pe_int (pa_cons pe_int pa_nil))) pa_nil)) (pe_lc (own := [("before", 4), ("heading", 5), ("after", 6)]) (g := gTup K 3 (gCons (gName 4) (gCons (gName 5) (gCons (gName 6) gNil)))) rfl scW1.nd (pi_list (pe_fld (pv 0) rfl)) (blkOk_by (own := [("before", 4), ("heading", 5), ("after", 6)]) (N := nW1) (sc := L2.defScope (icl 45 1)) (by decide +kernel)) (fun _ _ _ _ _ => (pg_tup rfl (pgs_cons (pg_name (i := 4) scW1.nd rfl (Or.inl rfl)) (pgs_cons (pg_name (i := 5) scW1.nd rfl (Or.inl rfl)) (pgs_cons (pg_name (i := 6) scW1.nd rfl (Or.inl rfl)) pgs_nil))))) (fun _ _ _ _ _ => pts_nil) (fun _ _ _ _ _ => (pv 6)))) rfl)))))))), ?_⟩
    refine ⟨_, rfl, g, rfl, ?_⟩
    refine ⟨_, rfl, _, _, _, _, true, rfl, .ty _, .base (.str _), T.strStr, true, rfl, iteF ⟨_, rfl, _, rfl, by rw [SX.S_len]; exact Nat.le_trans hl (by decide), _, _, _, _, rfl, mr, mv, _, _, rfl, rfl, _, rfl, ?_⟩⟩
    refine itb (b := false) (decide_eq_false (by rw [SX.S_len]; omega)) (iteF ?_)
    refine ⟨_, rfl, _, rfl, fun l hl0 => lc_it walk_str (fun i H' => Same H H' ∧ H' l = some (.lst (List.replicate i (.bl true)))) ⟨same_upd hl0, upd_same⟩ (fun _ _ _ _ => trivial) ?_ ?_⟩
    · rintro i _ H1 H2 hi ⟨s1, e1⟩ ⟨rfl, c, hc, rfl⟩
      have hc' : cs[i]? = some c := by simpa using hc
      have hi' : i < cs.length := by simpa using hi
      obtain ⟨u, e, _⟩ := D.i.row c (ok c (List.mem_of_getElem? hc'))
      refine ⟨rfl, _, rfl, _, _, rfl, rfl, e, _, e1, by rw [List.length_replicate]; exact Nat.lt_of_le_of_lt (by omega : i ≤ 200) (by decide), same_put s1 hl0, ?_⟩
      rw [upd_same, List.replicate_succ']
      rfl
    · rintro H1 ⟨s1, e1⟩
      refine ⟨l, List.replicate (S cs).cps.size true, rfl, .of (by rw [List.map_replicate]; exact e1), true, ?_, iteF ?_⟩
      · simp
      have e0 := s1 _ _ hx
      refine ⟨_, rfl, _, rfl, _, _, _, _, rfl, e0, W.cl, W.n1, (by show 0 < 1000; decide), ?_⟩
      refine ⟨_, rfl, _, rfl, _, _, _, _, rfl, upd_same, W.cl, W.n2, (by show 1 < 1000; decide), ?_⟩
      refine ⟨_, rfl, _, rfl, g, cs, rfl, ok, hl, fun H2 m as s2 hm0 hm1 hm2 => ?_⟩
      refine ⟨_, rfl, _, _, _, _, rfl, s2 _ _ upd_same, W.cl, W.n3, (by rw [wF2]; show 2 < 1000; decide), ?_⟩
      generalize hHA : upd H2 x _ = HA
      have eA : HA x = some (.ins CW dx (putF kM (.ref m) (putF kC (.str (S cs)) (putF kN (net g) [])))) := by rw [← hHA]; exact upd_same
      have sA : SamT H2 HA := by rw [← hHA]; exact samT_put (s2 _ _ upd_same) fun _ z => nomatch z
      have nmx : m ≠ x := fun z => by rw [z, upd_same] at hm0; cases hm0
      have mA : HA m = some (.lst (as.map V.ref)) := by rw [← hHA, upd_ne nmx]; exact hm1
      have lA := mvs_sam sA hm2
      have bA : But x H HA := by
        intro c o hc e
        rw [← hHA, upd_ne hc]
        refine s2 _ _ ?_
        rw [upd_ne hc, upd_ne hc]
        exact s1 _ _ e
      refine ⟨(small64 (n := 2) (by decide)), fun t ht => ⟨(small64 (n := 1) (by decide)), fun l2 hl2 => ?_⟩⟩
      generalize hHC : upd (upd HA t _) l2 _ = HC
      have sC : Same HA HC := by rw [← hHC]; exact same_put (same_upd ht) (Same.free (same_upd ht) hl2)
      have eC : HC l2 = some (.lst [.ref t]) := by rw [← hHC]; exact upd_same
      have tC : HC t = some (.tup (pl (0, 0))) := by rw [← hHC]; exact same_upd hl2 _ _ upd_same
      refine ⟨_, rfl, _, _, _, _, _, rfl, sC _ _ eA, W.cl, W.n3, wF3l g cs m, m, rfl, ⟨_, .of (sC _ _ mA)⟩, fun D hD => lc_it walk_list (fun i H' => Same HC H' ∧ ∃ bs, H' D = some (.lst (bs.map V.ref)) ∧ Pts H' bs (((wrun g cs).ms.take i).map (·.2.2)))
        ⟨same_upd hD, [], upd_same, .nil⟩ (fun _ H' _ z => .of (z.1 _ _ (sC _ _ mA))) ?_ ?_⟩
      · rintro i _ H3 H4 hi ⟨s3, bs, e3, p3⟩ ⟨rfl, hx3⟩
        obtain ⟨a, ha, rfl⟩ := map_at hx3
        obtain ⟨v, ⟨b, c, h1, h2, h3⟩, hv⟩ := pair_l lA ha
        have q := s3 _ _ (sC _ _ h1)
        refine ⟨a, _, rfl, .of q, rfl, _, _, rfl, _, _, rfl, _, _, rfl, rfl, rfl, _, rfl, bs.map V.ref, e3, ?_, same_put s3 hD, bs ++ [c], by rw [upd_same, List.map_append]; rfl, ?_⟩
        · have z1 := Paired.length p3
          have z2 : ((wrun g cs).ms.take i).length ≤ (wrun g cs).ms.length := List.length_take_le' i _
          have z3 := wrun_len g cs
          rw [List.length_map] at z1 ⊢
          exact Nat.lt_of_le_of_lt (by omega : bs.length ≤ 200) (by decide)
        · rw [take_snoc hv, List.map_append]
          have z := samT_put (u := .lst (bs.map V.ref ++ [.ref c])) e3 fun _ z => nomatch z
          exact Paired.snoc (pts_sam z p3) (z _ _ (s3 _ _ (sC _ _ h3)))
      · rintro H3 ⟨s3, bs, e3, p3⟩
        rw [List.length_map, Paired.length lA, List.take_length] at p3
        have z1 := Paired.length p3
        have z3 := wrun_len g cs
        rw [List.length_map] at z1
        refine ⟨l2, D, _, _, rfl, rfl, s3 _ _ eC, e3, ?_, fun p hp => ?_⟩
        · rw [List.length_map]
          exact Nat.le_trans (by show 1 + bs.length ≤ 201; omega) (by decide)
        have s4 : Same HA (upd H3 p (.lst ([.ref t] ++ bs.map V.ref))) := same_put (Same.trans sC s3) (Same.free (Same.trans sC s3) hp)
        refine ⟨_, rfl, _, _, _, _, rfl, s4 _ _ eA, W.cl, W.n4, (by rw [wF3]; show 3 < 1000; decide), ?_⟩
        have npx : p ≠ x := fun z => by rw [z, s3 _ _ (sC _ _ eA)] at hp; cases hp
        have s5 : SamT HA (upd (upd H3 p (.lst ([.ref t] ++ bs.map V.ref))) x (.ins CW dx (wF g cs m p))) := samT_trans (samT_of s4) (samT_put (s4 _ _ eA) fun _ z => nomatch z)
        have s6 : SamT H3 (upd (upd H3 p (.lst ([.ref t] ++ bs.map V.ref))) x (.ins CW dx (wF g cs m p))) := samT_trans (samT_of (same_upd hp)) (samT_put (s4 _ _ eA) fun _ z => nomatch z)
        rw [wF4]
        refine k _ ⟨dx, m, p, as, t :: bs, upd_same, ?_, mvs_sam s5 lA, ?_, .cons (s6 _ _ (s3 _ _ tC)) (pts_sam s6 p3), ok, hl⟩ fun c o hc e => ?_
        · rw [upd_ne nmx]
          exact s4 _ _ mA
        · rw [upd_ne npx, upd_same]
          rfl
        · rw [upd_ne hc]
          exact s4 _ _ (bA c o hc e)
end
end K53
set_option maxHeartbeats 4000000
namespace K53
open PySem PySem.Spec PyProof.Rows L2
open C8 (fnScope_by pe_mk pe_mt pe_mt0 InsC)
open SX (S)
section
variable {P : Program} {w : World} {K : PySem.W.Frag} {mg : Str → Option Value} {base : Heap} {sI sR sC CW CM : Addr}
def spWNet (CW : Addr) : Sp := fun vs H Q _ => ∃ (a : Addr) (g : Bool) (cs : List Nat), vs = [.ref a] ∧ isW CW H a g cs ∧ Q (net g) H
theorem scW2 : FnScope ["self"] ["self"] (L2.defScope (icl 45 2)) := fnScope_by (by decide +kernel)
theorem w_net (W : TxW K mg CW) (D : PrpT K CW "net" "Walk.net" (icl 45 2)) : Prp P w K mg base 1 CW "net" (spWNet CW) := by
  refine prp W.cl D scW2 (fun vs H Q E h => ?_) (fun _ _ _ _ _ _ us hl => match us, hl with | [_], _ => rfl) (fun f cdv A outer s H vs Q E hr h => ?_)
  · obtain ⟨a, g, cs, rfl, _⟩ := h
    rfl
  · obtain ⟨a, g, cs, rfl, ⟨dx, m, p, as, bs, ha, _⟩, k⟩ := h
    refine ⟨_, (pss_one (ps_ret (pe_fld (pv 0) rfl))), ?_⟩
    exact ⟨_, rfl, _, _, _, _, _, rfl, ha, W.cl, W.n1, wF_n g cs m p, k⟩
def spWCom (CW : Addr) : Sp := fun vs H Q _ => ∃ (a : Addr) (g : Bool) (cs : List Nat), vs = [.ref a] ∧ isW CW H a g cs ∧ Q (.str (S cs)) H
theorem scW3 : FnScope ["self"] ["self"] (L2.defScope (icl 45 3)) := fnScope_by (by decide +kernel)
theorem w_com (W : TxW K mg CW) (D : PrpT K CW "commands" "Walk.commands" (icl 45 3)) : Prp P w K mg base 1 CW "commands" (spWCom CW) := by
  refine prp W.cl D scW3 (fun vs H Q E h => ?_) (fun _ _ _ _ _ _ us hl => match us, hl with | [_], _ => rfl) (fun f cdv A outer s H vs Q E hr h => ?_)
  · obtain ⟨a, g, cs, rfl, _⟩ := h
    rfl
  · obtain ⟨a, g, cs, rfl, ⟨dx, m, p, as, bs, ha, _⟩, k⟩ := h
    refine ⟨_, (pss_one (ps_ret (pe_fld (pv 0) rfl))), ?_⟩
    exact ⟨_, rfl, _, _, _, _, _, rfl, ha, W.cl, W.n2, wF_c g cs m p, k⟩
def spWLen (CW : Addr) : Sp := fun vs H Q _ => ∃ (a : Addr) (g : Bool) (cs : List Nat), vs = [.ref a] ∧ isW CW H a g cs ∧ Q (.int ((wrun g cs).ms.length : Nat)) H
theorem scW5 : FnScope ["self"] ["self"] (L2.defScope (icl 45 5)) := fnScope_by (by decide +kernel)
theorem w_len (T : TxB K mg) (W : TxW K mg CW) (D : MetT K CW "__len__" "Walk.__len__" (icl 45 5)) : Met P w K mg base 1 CW "__len__" (spWLen CW) := by
  refine met W.cl D scW5 (fun vs H Q E h => ?_) (fun _ _ _ _ _ _ us hl => match us, hl with | [_], _ => rfl) (fun f cdv A outer s H vs Q E hr h => ?_)
  · obtain ⟨a, g, cs, rfl, _⟩ := h
    rfl
  · obtain ⟨a, g, cs, rfl, ⟨dx, m, p, as, bs, ha, hm, hv, _⟩, k⟩ := h
    refine ⟨_, (pss_one (ps_ret (pe_callB call_len_seq (by rfl) T.len PySem.boot_len (pa_cons (pe_fld (pv 0) rfl) pa_nil)))), ?_⟩
    refine ⟨_, rfl, _, _, _, _, _, rfl, ha, W.cl, W.n3, wF_m g cs m p, m, _, rfl, .inl (.of hm), ?_⟩
    rw [List.length_map, Paired.length hv]
    exact k
/-! movement -/
theorem chg_sum (g : Bool) (cs : List Nat) : ((cs.map chg).sum % (hd g : Nat)).toNat = (wrun g cs).h := by
  have A : ∀ (cs : List Nat) (s : Wst), s.h < hd g → (((s.h : Int) + (cs.map chg).sum) % (hd g : Nat)).toNat = (cs.foldl (wnext g) s).h := by
    intro cs
    induction cs with
    | nil =>
      intro s h
      show (((s.h : Int) + 0) % (hd g : Nat)).toNat = s.h
      rw [Int.add_zero]
      have e : ((s.h : Int) % (hd g : Nat)).toNat = s.h % hd g := rfl
      rw [e, Nat.mod_eq_of_lt h]
    | cons c cs ih =>
      intro s h
      have z := hd_mod g ((s.h : Int) + chg c)
      have y := ih (wnext g s c) z.1
      rw [List.foldl_cons, ← y]
      have e : ((wnext g s c).h : Int) = ((s.h : Int) + chg c) % (hd g : Nat) := z.2
      rw [e, List.map_cons, List.sum_cons, Int.emod_add_emod, Int.add_assoc]
  have y := A cs ⟨[], (0, 0), 0⟩ (by cases g <;> decide)
  rw [← wrun] at y
  rw [← y]
  show _ = (((0 : Int) + (cs.map chg).sum) % (hd g : Nat)).toNat
  rw [Int.zero_add]
theorem wpl_last (g : Bool) (cs : List Nat) : (wpl g cs)[(wrun g cs).ms.length]? = some (wrun g cs).p := by
  have A : ∀ (cs : List Nat) (s : Wst), ((0, 0) :: s.ms.map (·.2.2) : List (Int × Int))[s.ms.length]? = some s.p → ((0, 0) :: (cs.foldl (wnext g) s).ms.map (·.2.2) : List (Int × Int))[(cs.foldl (wnext g) s).ms.length]? = some (cs.foldl (wnext g) s).p := by
    intro cs
    induction cs with
    | nil => exact fun s h => h
    | cons c cs ih =>
      intro s h
      refine ih (wnext g s c) ?_
      unfold wnext
      by_cases hc : c = 70 ∨ c = 66
      · simp only [if_pos hc, List.map_append, List.length_append, List.length_cons, List.length_nil, List.map_cons, List.map_nil, Nat.zero_add, List.getElem?_cons_succ]
        rw [List.getElem?_append_right (by simp)]
        simp
      · simp only [if_neg hc]
        exact h
  exact A cs ⟨[], (0, 0), 0⟩ rfl
theorem at_last {xs : List V} {v : V} {n : Nat} (hn : xs.length = n + 1) (h : xs[n]? = some v) : atI xs (-1) = some v := by
  have e : xs = xs.take n ++ [v] := by
    conv => lhs; rw [← List.take_length (l := xs), hn, List.take_succ, h]
    rfl
  rw [e]
  exact atI_last _ _
def spWMov (CW CM : Addr) : Sp := fun vs H Q _ => ∃ (a : Addr) (g : Bool) (cs : List Nat), vs = [.ref a] ∧ isW CW H a g cs ∧ ∀ H' x, Same H H' → isM CM H' x g (wrun g cs).p (wrun g cs).h → Q (.ref x) H'
abbrev nW4 : List Str := ["self", "heading", "sign"]
theorem scW4 : FnScope nW4 ["self"] (L2.defScope (icl 45 4)) := fnScope_by (by decide +kernel)
theorem w_mov (T : TxB K mg) (W : TxW K mg CW) (D : TxD K w mg sI sR sC) (d : PrpT K CW "movement" "Walk.movement" (icl 45 4)) (cm : Mak P w K mg base 4 "Movement" CM (spMInit CM)) : Prp P w K mg base 6 CW "movement" (spWMov CW CM) := by
  refine prp W.cl d scW4 (fun vs H Q E h => ?_) (fun _ _ _ _ _ _ us hl => match us, hl with | [_], _ => rfl) (fun f cdv A outer s H vs Q E hr h => ?_)
  · obtain ⟨a, g, cs, rfl, _⟩ := h
    rfl
  · obtain ⟨a, g, cs, rfl, ⟨dx, m, p, as, bs, ha, hm, hv, hp, hb, ok, hl⟩, k⟩ := h
    refine ⟨_, (pss_cons (ps_set (i := 1) scW4.nd rfl (Or.inl rfl) (pe_callB (cr_sum rfl) (by rfl) T.sum (by decide +kernel) (pa_cons (pe_lc (own := [("sign", 2)]) (g := gName 2) (te := tOp (rIxD K w) (tC (.ref sC)) (tVar 2)) rfl scW4.nd (pi_str (pe_fld (pv 0) rfl)) (blkOk_by (own := [("sign", 2)]) (N := nW4) (sc := L2.defScope (icl 45 4)) (by decide +kernel)) (fun _ _ _ _ _ => (pg_name (i := 2) scW4.nd rfl (Or.inl rfl))) (fun _ _ _ _ _ => pts_nil) (fun _ _ _ _ _ => (pe_ix ix_kdict (pe_glob (v := .ref sC) (by rfl) D.c.at_ rfl) (pv 2) (fun _ _ => rfl)))) pa_nil))) (pss_one (ps_ret (C8.pe_mk cm hr (by decide) rfl (pa_cons (pe_fld (pv 0) rfl) (pa_cons (pe_ix ix_list (pe_fld (pv 0) rfl) (pe_un un_neg pe_int) (fun _ _ => rfl)) (pa_cons (pv 1) pa_nil))))))), ?_⟩
    refine ⟨_, rfl, _, _, _, _, _, rfl, ha, W.cl, W.n2, wF_c g cs m p, _, rfl, fun l hl0 => lc_it walk_str (fun i H' => Same H H' ∧ H' l = some (.lst (((cs.take i).map chg).map V.int))) ⟨same_upd hl0, upd_same⟩ (fun _ _ _ _ => trivial) ?_ ?_⟩
    · rintro i _ H1 H2 hi ⟨s1, e1⟩ ⟨rfl, c, hc, rfl⟩
      have hc' : cs[i]? = some c := by simpa using hc
      have hi' : i < cs.length := by simpa using hi
      refine ⟨rfl, _, rfl, _, _, _, rfl, rfl, D.c.get (ok c (List.mem_of_getElem? hc')), _, e1, ?_, same_put s1 hl0, ?_⟩
      · rw [List.length_map, List.length_map]
        have z : (cs.take i).length ≤ cs.length := List.length_take_le' i cs
        exact Nat.lt_of_le_of_lt (by omega : (cs.take i).length ≤ 200) (by decide)
      · rw [upd_same, take_snoc hc', List.map_append, List.map_append]
        rfl
    · rintro H1 ⟨s1, e1⟩
      have e : cs.take (S cs).cps.size = cs := by simp
      rw [e] at e1
      refine ⟨l, cs.map chg, rfl, .of e1, ?_⟩
      obtain ⟨b, hb1, hb2⟩ := pair_at hb (wpl_last g cs)
      have hbl : bs.length = (wrun g cs).ms.length + 1 := by rw [Paired.length hb]; simp [wpl]
      refine ⟨_, rfl, _, _, _, _, _, rfl, s1 _ _ ha, W.cl, W.n1, wF_n g cs m p, _, rfl, _, _, _, _, _, rfl, s1 _ _ ha, W.cl, W.n4, wF_p g cs m p, 1, rfl, p, _, _, .ref b, rfl, rfl, .of (s1 _ _ hp), at_last (n := (wrun g cs).ms.length) (by rw [List.length_map]; exact hbl) (by rw [List.getElem?_map, hb2]; rfl), _, rfl, ?_⟩
      refine mkM (p := (wrun g cs).p) (s1 _ _ hb1) fun H2 x s2 hM => ?_
      rw [chg_sum] at hM
      exact k _ _ (Same.trans s1 s2) hM
/-! __invert__, mirror -/
theorem okC_inv {c : Nat} (h : okC c) : okC (inv1 c) := by
  rcases h with rfl | rfl | rfl | rfl <;> decide
theorem okC_mir {c : Nat} (h : okC c) : okC (mir1 c) := by
  rcases h with rfl | rfl | rfl | rfl <;> decide
theorem join_ones (l : List Nat) : Txt.join (S []) ((l.map fun c => [c]).map S) = S l := by
  rw [SX.join_S]
  congr 1
  have A : ∀ l : List Nat, TL.joinL [] (l.map fun c => [c]) = l := by
    intro l
    induction l with
    | nil => rfl
    | cons c l ih =>
      cases l with
      | nil => rfl
      | cons d l => exact congrArg (c :: ·) ih
  rw [A]
theorem ones_sum (l : List Nat) (h : l.length ≤ 200) : (((l.map fun c => [c]).map S).map (·.length)).sum + ((l.map fun c => [c]).map S).length * (Str.ofString "").length ≤ 16777216 := by
  have e0 : (Str.ofString "").length = 0 := by kernel_rfl
  rw [e0]
  have A : ∀ l : List Nat, (((l.map fun c => [c]).map S).map (·.length)).sum = l.length := by
    intro l
    induction l with
    | nil => rfl
    | cons c l ih =>
      rw [List.map_cons, List.map_cons, List.map_cons, List.sum_cons, ih, List.length_cons, SX.S_len]
      simp only [List.length_cons, List.length_nil]
      omega
  rw [A]
  omega
theorem nil_S : (Str.ofString "") = S [] := by kernel_rfl
def spWInv (CW : Addr) : Sp := fun vs H Q _ => ∃ (a : Addr) (g : Bool) (cs : List Nat), vs = [.ref a] ∧ isW CW H a g cs ∧ ∀ H' x, Same H H' → isW CW H' x g (cs.reverse.map inv1) → Q (.ref x) H'
abbrev nW13 : List Str := ["self", "sign"]
theorem scW13 : FnScope nW13 ["self"] (L2.defScope (icl 45 13)) := fnScope_by (by decide +kernel)
theorem w_inv (T : TxB K mg) (W : TxW K mg CW) (D : TxD K w mg sI sR sC) (d : MetT K CW "__invert__" "Walk.__invert__" (icl 45 13)) (cw : Mak P w K mg base 3 "Walk" CW (spWInit CW)) : Met P w K mg base 5 CW "__invert__" (spWInv CW) := by
  refine met W.cl d scW13 (fun vs H Q E h => ?_) (fun _ _ _ _ _ _ us hl => match us, hl with | [_], _ => rfl) (fun f cdv A outer s H vs Q E hr h => ?_)
  · obtain ⟨a, g, cs, rfl, _⟩ := h
    rfl
  · obtain ⟨a, g, cs, rfl, ⟨dx, m, p, as, bs, ha, hm, hv, hp, hb, ok, hl⟩, k⟩ := h
    refine ⟨_, (pss_one (ps_ret (C8.pe_mk cw hr (by decide) rfl (pa_cons (pe_fld (pv 0) rfl) (pa_cons (pe_join pe_str (pe_lc (own := [("sign", 1)]) (g := gName 1) (te := tOp (rIxD K w) (tC (.ref sI)) (tVar 1)) rfl scW13.nd (pi_str (pe_revS (pe_fld (pv 0) rfl))) (blkOk_by (own := [("sign", 1)]) (N := nW13) (sc := L2.defScope (icl 45 13)) (by decide +kernel)) (fun _ _ _ _ _ => (pg_name (i := 1) scW13.nd rfl (Or.inl rfl))) (fun _ _ _ _ _ => pts_nil) (fun _ _ _ _ _ => (pe_ix ix_kdict (pe_glob (v := .ref sI) (by rfl) D.i.at_ rfl) (pv 1) (fun _ _ => rfl))))) pa_nil))))), ?_⟩
    have okr : ∀ c ∈ cs.reverse, okC c := fun c hc => ok c (List.mem_reverse.mp hc)
    have lr : cs.reverse.length ≤ 200 := by rw [List.length_reverse]; exact hl
    generalize hrs : cs.reverse = rs at *
    refine ⟨_, rfl, _, _, _, _, _, rfl, ha, W.cl, W.n1, wF_n g cs m p, ⟨_, rfl⟩, ?_⟩
    refine ⟨_, rfl, _, _, _, _, _, rfl, ha, W.cl, W.n2, wF_c g cs m p, _, rfl, by rw [SX.S_len]; exact Nat.le_trans hl (by decide), S rs, by rw [← hrs], fun l hl0 => lc_it walk_str (fun i H' => Same H H' ∧ H' l = some (.lst (((rs.take i).map fun c => sgn (inv1 c)).map V.str))) ⟨same_upd hl0, upd_same⟩ (fun _ _ _ _ => trivial) ?_ ?_⟩
    · rintro i _ H1 H2 hi ⟨s1, e1⟩ ⟨rfl, c, hc, rfl⟩
      have hc' : rs[i]? = some c := by simpa using hc
      refine ⟨rfl, _, rfl, _, _, _, rfl, rfl, D.i.get (okr c (List.mem_of_getElem? hc')), _, e1, ?_, same_put s1 hl0, ?_⟩
      · rw [List.length_map, List.length_map]
        have z : (rs.take i).length ≤ rs.length := List.length_take_le' i rs
        exact Nat.lt_of_le_of_lt (by omega : (rs.take i).length ≤ 200) (by decide)
      · rw [upd_same, take_snoc hc', List.map_append, List.map_append]
        rfl
    · rintro H1 ⟨s1, e1⟩
      have e : rs.take (S rs).cps.size = rs := by simp
      rw [e] at e1
      have e2 : (rs.map fun c => sgn (inv1 c)) = ((rs.map inv1).map fun c => [c]).map S := by simp
      rw [e2] at e1
      refine ⟨_, l, _, rfl, rfl, .inl (.of e1), ones_sum _ (by rw [List.length_map]; exact lr), ?_⟩
      rw [nil_S, join_ones]
      refine mkW (fun c hc => ?_) (by rw [List.length_map]; exact lr) fun H2 x s2 hM => k _ _ (Same.trans s1 s2) hM
      obtain ⟨c', h1, rfl⟩ := List.mem_map.mp hc
      exact okC_inv (okr c' h1)
def spWMir (CW : Addr) : Sp := fun vs H Q _ => ∃ (a : Addr) (g : Bool) (cs : List Nat), vs = [.ref a] ∧ isW CW H a g cs ∧ ∀ H' x, Same H H' → isW CW H' x g (cs.map mir1) → Q (.ref x) H'
theorem scW17 : FnScope nW13 ["self"] (L2.defScope (icl 45 17)) := fnScope_by (by decide +kernel)
theorem w_mir (T : TxB K mg) (W : TxW K mg CW) (D : TxD K w mg sI sR sC) (d : MetT K CW "mirror" "Walk.mirror" (icl 45 17)) (cw : Mak P w K mg base 3 "Walk" CW (spWInit CW)) : Met P w K mg base 5 CW "mirror" (spWMir CW) := by
  refine met W.cl d scW17 (fun vs H Q E h => ?_) (fun _ _ _ _ _ _ us hl => match us, hl with | [_], _ => rfl) (fun f cdv A outer s H vs Q E hr h => ?_)
  · obtain ⟨a, g, cs, rfl, _⟩ := h
    rfl
  · obtain ⟨a, g, cs, rfl, ⟨dx, m, p, as, bs, ha, hm, hv, hp, hb, ok, hl⟩, k⟩ := h
    refine ⟨_, (pss_one (ps_ret (C8.pe_mk cw hr (by decide) rfl (pa_cons (pe_fld (pv 0) rfl) (pa_cons (pe_join pe_str (pe_lc (own := [("sign", 1)]) (g := gName 1) (te := tOp (rIxD K w) (tC (.ref sR)) (tVar 1)) rfl scW17.nd (pi_str (pe_fld (pv 0) rfl)) (blkOk_by (own := [("sign", 1)]) (N := nW13) (sc := L2.defScope (icl 45 17)) (by decide +kernel)) (fun _ _ _ _ _ => (pg_name (i := 1) scW17.nd rfl (Or.inl rfl))) (fun _ _ _ _ _ => pts_nil) (fun _ _ _ _ _ => (pe_ix ix_kdict (pe_glob (v := .ref sR) (by rfl) D.m.at_ rfl) (pv 1) (fun _ _ => rfl))))) pa_nil))))), ?_⟩
    refine ⟨_, rfl, _, _, _, _, _, rfl, ha, W.cl, W.n1, wF_n g cs m p, ⟨_, rfl⟩, ?_⟩
    refine ⟨_, rfl, _, _, _, _, _, rfl, ha, W.cl, W.n2, wF_c g cs m p, S cs, rfl, fun l hl0 => lc_it walk_str (fun i H' => Same H H' ∧ H' l = some (.lst (((cs.take i).map fun c => sgn (mir1 c)).map V.str))) ⟨same_upd hl0, upd_same⟩ (fun _ _ _ _ => trivial) ?_ ?_⟩
    · rintro i _ H1 H2 hi ⟨s1, e1⟩ ⟨rfl, c, hc, rfl⟩
      have hc' : cs[i]? = some c := by simpa using hc
      refine ⟨rfl, _, rfl, _, _, _, rfl, rfl, D.m.get (ok c (List.mem_of_getElem? hc')), _, e1, ?_, same_put s1 hl0, ?_⟩
      · rw [List.length_map, List.length_map]
        have z : (cs.take i).length ≤ cs.length := List.length_take_le' i cs
        exact Nat.lt_of_le_of_lt (by omega : (cs.take i).length ≤ 200) (by decide)
      · rw [upd_same, take_snoc hc', List.map_append, List.map_append]
        rfl
    · rintro H1 ⟨s1, e1⟩
      have e : cs.take (S cs).cps.size = cs := by simp
      rw [e] at e1
      have e2 : (cs.map fun c => sgn (mir1 c)) = ((cs.map mir1).map fun c => [c]).map S := by simp
      rw [e2] at e1
      refine ⟨_, l, _, rfl, rfl, .inl (.of e1), ones_sum _ (by rw [List.length_map]; exact hl), ?_⟩
      rw [nil_S, join_ones]
      refine mkW (fun c hc => ?_) (by rw [List.length_map]; exact hl) fun H2 x s2 hM => k _ _ (Same.trans s1 s2) hM
      obtain ⟨c', h1, rfl⟩ := List.mem_map.mp hc
      exact okC_mir (ok c' h1)
/-! check_moving -/
def spMoving (CW : Addr) : Sp := fun vs H Q _ => ∃ (a : Addr) (g : Bool) (cs : List Nat), vs = [.ref a] ∧ isW CW H a g cs ∧ (wrun g cs).ms ≠ [] ∧ Q .non H
theorem sc46 : FnScope ["obj"] ["obj"] (L2.defScope (top 46)) := fnScope_by (by decide +kernel)
theorem c_moving (T : TxB K mg) (W : TxW K mg CW) (d : DefT K mg 46 "check_moving") (c : Met P w K mg base 1 CW "__len__" (spWLen CW)) : Cal P w K mg base 3 "check_moving" (spMoving CW) := by
  refine cal d sc46 (fun vs H Q E h => ?_) (fun _ _ _ _ _ _ us hl => match us, hl with | [_], _ => rfl) (fun f cdv A outer s H vs Q E hr h => ?_)
  · obtain ⟨a, g, cs, rfl, _⟩ := h
    rfl
  · obtain ⟨a, g, cs, rfl, hw, hne, k⟩ := h
    obtain ⟨dx, m, p, as, bs, ha, hm, hv, hp, hb, ok, hl⟩ := id hw
    refine ⟨_, (pss_one (ps_if (PW.pt (pw_or (pt_not (pt_val (pe_callB (C8.call_isC W.is) (by rfl) T.isi (by decide +kernel) (pa_cons (pv 0) (pa_cons (pe_glob (v := .ref CW) (by rfl) W.g rfl) pa_nil))))) (pw_or1 (pt_cmpR op_eq (pe_callB (call_lenO c hr (by decide)) (by rfl) T.len PySem.boot_len (pa_cons (pv 0) pa_nil)) pe_int (nomark _))))) (pss_one ps_never) pss_nil)), ?_⟩
    refine ⟨_, rfl, _, _, _, rfl, ha, true, rfl, iteF ⟨_, rfl, _, _, _, rfl, ha, a, g, cs, rfl, hw, _, rfl, ?_, rfl, _, rfl, itb (b := false) (decide_eq_false fun z => hne ?_) (iteF k)⟩⟩
    · have z := wrun_len g cs
      exact Nat.lt_of_le_of_lt (by omega : (wrun g cs).ms.length ≤ 200) (by decide)
    · injection z with z
      exact List.eq_nil_of_length_eq_zero (by omega)
end
end K53
set_option maxHeartbeats 4000000
namespace K53
open PySem PySem.Spec PyProof.Rows L2
open C8 (fnScope_by pe_mk pe_mt pe_mt0 InsC)
open SX (S)
/-- a generator method -/
structure GMet (P : Program) (w : World) (K : PySem.W.Frag) (mg : Str → Option Value) (base : Heap) (k : Nat) (C : Addr) (m : Str) (sp : SpG) : Prop where
  ex : ∃ (f : Addr) (fd : FuncData) (ps : List Str), Cls K C ∧ Meth K C m f ∧ GFn P w K mg base k f fd ps sp ∧ Binds K fd ps []
theorem gscope_by {N P : List Str} {sc : Scope} (h : (decide (sc.kind = .function) && !sc.isCoroutine && sc.isGenerator && decide N.Nodup && decide (N.take P.length = P) && P.all (fun x => decide (sc.names.lookup x = some .local)) && sc.names.all (fun y => !decide (y.2 = .free))) = true) : GScope N P sc := by
  simp only [Bool.and_eq_true, Bool.not_eq_true', decide_eq_true_eq, List.all_eq_true, decide_eq_false_iff_not] at h
  obtain ⟨⟨⟨⟨⟨⟨h1, h2⟩, h3⟩, h4⟩, h5⟩, h6⟩, h7⟩ := h
  exact ⟨h1, h2, h3, h4, h5, fun x hx => .inl (h6 x hx), h7⟩
theorem pe_lm {X : Cx} {k j : Nat} {C : Addr} {m : Str} {sp : SpG} {o : Expr} {ta : TE} {p apos pos pos' : Pos} {pl : Sem Bool} (c : GMet X.prog X.w X.K X.mg X.base k C m sp) (hr : Room j X.A) (hk : k + 3 ≤ j) (he : PE X o ta) (hm : X.mg "list" = none) (hg : Gl X "list" := by rfl)
    (ht : eval (.Call (.Attribute o m apos) [] [] pos') X.env = (do
      let recv ← eval o X.env
      standAt apos.atName
      let (fn, self) ← holding [recv] (getMethod recv m pl)
      callWith pos' fn self (backTo pos' (starEach [] X.env)) (backToKw pos' (keywordEach [] X.env))) := by rfl)
    (hs : starEach [.Call (.Attribute o m apos) [] [] pos'] X.env = (false, eval (.Call (.Attribute o m apos) [] [] pos') X.env) :: starEach [] X.env := by rfl) :
    PE X (.Call (.Name "list" p) [.Call (.Attribute o m apos) [] [] pos'] [] pos) (tListG (tMethG C m sp [] E0 ta tNil)) := by
  obtain ⟨f, fd, ps, cl, me, F, b⟩ := c.ex
  exact pe_listG (E := E0) (pgen_meth0 (pl := pl) he cl me F (hr.mono (by omega)) b .nil ht) (fun _ _ _ _ _ _ _ ⟨_, _, _, _, _, _, _, _, _, _, _, _, z⟩ => z.elim) (fun _ _ _ h => h.elim) (hr.mono hk) hg hm (by decide +kernel) (by decide) (by decide) hs
section
variable {P : Program} {w : World} {K : PySem.W.Frag} {mg : Str → Option Value} {base : Heap} {sI sR sC CW CM : Addr}
def spGMoves (CW : Addr) : SpG := fun vs H Q _ => ∃ (a : Addr) (g : Bool) (cs : List Nat), vs = [.ref a] ∧ isW CW H a g cs ∧ ∀ as, Mvs H as (wrun g cs).ms → Q (as.map V.ref) H
theorem scW14 : GScope ["self", "move"] ["self"] (L2.defScope (icl 45 14)) := gscope_by (by decide +kernel)
theorem w_moves (W : TxW K mg CW) (d : MetT K CW "moves" "Walk.moves" (icl 45 14)) : GMet P w K mg base 1 CW "moves" (spGMoves CW) := by
  obtain ⟨f, fd, F, hm⟩ := d.ex
  obtain ⟨oc, od, dV, kV, doc, pm, an, cdv, ct, osl, e, lk, hcd, _⟩ := F.ex
  have b := F.bindsN (ps := ["self"]) fun _ _ _ _ _ _ us hl => match us, hl with | [_], _ => rfl
  cases e
  refine ⟨f, _, ["self"], W.cl, hm, gfn_of lk hcd scW14 (fun vs H Q E h => ?_) (fun A outer s H vs Q E pn hr h => ?_), b⟩
  · obtain ⟨a, g, cs, rfl, _⟩ := h
    rfl
  · obtain ⟨a, g, cs, rfl, ⟨dx, m, p, as, bs, ha, hm', hv, hp, hb, ok, hl⟩, k⟩ := h
    refine ⟨_, gss_cons (gs_for owns_gcx rfl (pi_list (pe_fld (pv 0) rfl)) (pg_name (i := 1) scW14.nd rfl (Or.inl rfl)) (gss_cons (gs_yield (pv 1)) gss_nil)) gss_nil, ?_⟩
    refine ⟨_, rfl, _, _, _, _, _, rfl, ha, W.cl, W.n3, wF_m g cs m p, m, rfl, ⟨_, .of hm'⟩, ?_⟩
    have hlen : as.length ≤ 200 := by
      have z1 := Paired.length hv
      have z3 := wrun_len g cs
      omega
    refine ⟨fun i n ys σ H' => H' = H ∧ n = as.length - i ∧ i ≤ as.length ∧ ys = (as.take i).map V.ref ∧ ∃ v, σ = [some (.ref a), v], ⟨as.length, rfl, rfl, Nat.zero_le _, rfl, none, rfl⟩, ?_⟩
    rintro i n ys σ H' ⟨rfl, rfl, hi, rfl, v, rfl⟩
    by_cases lt : i < as.length
    · refine .inr ⟨⟨_, V.ref as[i], .of hm', by simp [lt]⟩, fun ys σ H2 => H2 = H' ∧ ys = (as.take (i + 1)).map V.ref ∧ ∃ v, σ = [some (.ref a), v], ?_, ?_⟩
      · rintro ys σ H2 ⟨rfl, rfl, v, rfl⟩
        exact ⟨as.length - (i + 1), by omega, rfl, rfl, lt, rfl, v, rfl⟩
      · rintro x H2 ⟨rfl, y⟩
        have hx := y _ (.of hm')
        obtain ⟨z, hz, rfl⟩ := map_at hx
        refine ⟨?_, _, rfl, rfl, ?_, _, rfl⟩
        · rw [List.length_map]
          have z : (as.take i).length ≤ as.length := List.length_take_le' i as
          exact Nat.lt_of_le_of_lt (by omega : (as.take i).length ≤ 200) (by decide)
        · rw [take_snoc hz, List.map_append]
          rfl
    · have e : i = as.length := by omega
      subst e
      refine .inl ⟨⟨_, .of hm', by rw [List.length_map]; exact Nat.le_refl _⟩, ?_⟩
      rw [List.take_length]
      exact k as hv
end
end K53
set_option maxHeartbeats 4000000
namespace K53
open PySem PySem.Spec PyProof.Rows L2
open C8 (fnScope_by pe_mk pe_mt pe_mt0 InsC)
open SX (S)
/-! ### loops -/
theorem but_same {x : Addr} {H H1 H2 : Hp} (b : But x H H1) (s : Same H1 H2) : But x H H2 := fun c o n e => s _ _ (b c o n e)
theorem but_put {x : Addr} {H H1 : Hp} {o : HO} (b : But x H H1) : But x H (upd H1 x o) := fun c u n e => by rw [upd_ne n]; exact b c u n e
theorem but_mut {x a : Addr} {H H1 : Hp} {o : HO} (b : But x H H1) (h : H a = none) : But x H (upd H1 a o) := fun c u n e => by
  rw [upd_ne (fun z => by rw [z, h] at e; cases e)]
  exact b c u n e
theorem but_free {x a : Addr} {H H1 : Hp} (b : But x H H1) (h : H1 a = none) (n : a ≠ x) : H a = none := by
  cases e : H a with
  | none => rfl
  | some o => rw [b a o n e] at h; cases h
theorem but_sam {x C dx : Addr} {fs : Fs} {H H1 : Hp} (b : But x H H1) (h : H x = some (.ins C dx fs)) : SamT H H1 := fun c xs e => b c _ (fun z => by rw [z, h] at e; cases e) e
theorem pair_app {α β : Type} {F : α → β → Prop} {l l' : List α} {m m' : List β} (a : Paired F l m) (b : Paired F l' m') : Paired F (l ++ l') (m ++ m') := by
  induction a with
  | nil => exact b
  | cons h _ ih => exact .cons h ih
/-- so_far behind n rounds of the loop -/
def sof (g : Bool) (p : Int × Int) (t : Nat) : Nat → (Int × Int) × Nat
  | 0 => (p, t)
  | n + 1 => (padd (sof g p t n).1 (rots g (sof g p t n).2 p), ((sof g p t n).2 + t) % hd g)
def bef (g : Bool) (cs : List Nat) : List (Int × Int) := (wrun g cs).ms.map (·.1)
def blk (g : Bool) (cs : List Nat) (n : Nat) : List (Int × Int) := (bef g cs).map fun q => padd (sof g (wrun g cs).p (wrun g cs).h n).1 (rots g (sof g (wrun g cs).p (wrun g cs).h n).2 q)
def lpl (g : Bool) (cs : List Nat) : Nat → List (Int × Int)
  | 0 => bef g cs
  | n + 1 => lpl g cs n ++ blk g cs n
def lord (g : Bool) (cs : List Nat) : Nat := ordr g (wrun g cs).p (wrun g cs).h
/-- the places of a loop, its period -/
def lplaces (g : Bool) (cs : List Nat) : List (Int × Int) := lpl g cs (lord g cs - 1)
def lper (g : Bool) (cs : List Nat) : Nat := (wrun g cs).ms.length * lord g cs
theorem lpl_len (g : Bool) (cs : List Nat) : ∀ n, (lpl g cs n).length = (n + 1) * (wrun g cs).ms.length
  | 0 => by simp [lpl, bef]
  | n + 1 => by
    rw [lpl, List.length_append, lpl_len g cs n, Nat.succ_mul (n + 1)]
    simp [blk, bef]
theorem lord_le (g : Bool) (cs : List Nat) : lord g cs ≤ 6 := by
  unfold lord ordr
  split
  · split <;> decide
  · exact (per_ok g _ (wrun_h g cs)).2.2.1
abbrev kW : Str := Str.ofString "own_walk"
abbrev kD : Str := Str.ofString "own_drift"
abbrev kH : Str := Str.ofString "own_headings"
abbrev kR : Str := Str.ofString "own_period"
def lF (wk dr p h : Addr) (n : Nat) : Fs := [(kW, .ref wk), (kD, .ref dr), (kP, .ref p), (kH, .ref h), (kR, .int n)]
def lF2 (wk dr : Addr) : Fs := putF kD (.ref dr) (putF kW (.ref wk) [])
def lF3 (wk dr p : Addr) : Fs := putF kP (.ref p) (lF2 wk dr)
def lF4 (wk dr p h : Addr) : Fs := putF kH (.ref h) (lF3 wk dr p)
theorem lF1n (wk : Addr) : List.lookup kN (putF kW (.ref wk) []) = none := by kernel_rfl
theorem lF2n (wk dr : Addr) : (lF2 wk dr).lookup kN = none := by kernel_rfl
theorem lF3n (wk dr p : Addr) : (lF3 wk dr p).lookup kN = none := by kernel_rfl
theorem lF4n (wk dr p h : Addr) : (lF4 wk dr p h).lookup kN = none := by kernel_rfl
theorem wF_mv (g : Bool) (cs : List Nat) (m p : Addr) : (wF g cs m p).lookup (Str.ofString "moves") = none := by kernel_rfl
theorem lF2e (wk dr : Addr) : (lF2 wk dr).length = 2 := by kernel_rfl
theorem lF3e (wk dr p : Addr) : (lF3 wk dr p).length = 3 := by kernel_rfl
theorem lF4e (wk dr p h : Addr) : (lF4 wk dr p h).length = 4 := by kernel_rfl
theorem lF4p (wk dr p h : Addr) : (lF4 wk dr p h).lookup kP = some (.ref p) := by kernel_rfl
theorem lF4h (wk dr p h : Addr) : (lF4 wk dr p h).lookup kH = some (.ref h) := by kernel_rfl
theorem lF5 (wk dr p h : Addr) (n : Nat) : putF kR (.int n) (lF4 wk dr p h) = lF wk dr p h n := by kernel_rfl
theorem lF_w (wk dr p h : Addr) (n : Nat) : (lF wk dr p h n).lookup kW = some (.ref wk) := by kernel_rfl
theorem lF_p (wk dr p h : Addr) (n : Nat) : (lF wk dr p h n).lookup kP = some (.ref p) := by kernel_rfl
theorem lF_r (wk dr p h : Addr) (n : Nat) : (lF wk dr p h n).lookup kR = some (.int n) := by kernel_rfl
/-- the loop at a -/
def isL (CL CW : Addr) (H : Hp) (a : Addr) (g : Bool) (cs : List Nat) : Prop := ∃ dx wk dr p h bs, H a = some (.ins CL dx (lF wk dr p h (lper g cs))) ∧ isW CW H wk g cs ∧ H p = some (.lst (bs.map V.ref)) ∧ Pts H bs (lplaces g cs)
theorem isL_same {CL CW : Addr} {H H' : Hp} {a : Addr} {g : Bool} {cs : List Nat} (s : Same H H') (h : isL CL CW H a g cs) : isL CL CW H' a g cs := by
  obtain ⟨dx, wk, dr, p, h, bs, h1, h2, h3, h4⟩ := h
  exact ⟨dx, wk, dr, p, h, bs, s _ _ h1, isW_same s h2, s _ _ h3, pts_sam (samT_of s) h4⟩
theorem isW_but {CW x C dx : Addr} {H H' : Hp} {a : Addr} {g : Bool} {cs : List Nat} (b : But x H H') (hx : H x = some (.ins C dx [])) (h : isW CW H a g cs) : isW CW H' a g cs := by
  obtain ⟨dx, m, p, as, bs, h1, h2, h3, h4, h5, h6⟩ := h
  have st := but_sam b hx
  exact ⟨dx, m, p, as, bs, b _ _ (fun z => by rw [z, hx] at h1; cases h1) h1, b _ _ (fun z => by rw [z, hx] at h2; cases h2) h2, mvs_sam st h3, b _ _ (fun z => by rw [z, hx] at h4; cases h4) h4, pts_sam st h5, h6⟩
/-- the class Loop -/
structure TxL (K : PySem.W.Frag) (mg : Str → Option Value) (CL : Addr) : Prop where
  cl : Cls K CL
  is : InsC K CL
  g : mg "Loop" = some (.ref CL)
  n1 : NoAttr K CL "own_walk"
  n2 : NoAttr K CL "own_drift"
  n3 : NoAttr K CL "own_places"
  n4 : NoAttr K CL "own_headings"
  n5 : NoAttr K CL "own_period"
def spLInit (CL CW : Addr) : Sp := fun vs H Q _ => ∃ (x dx wk : Addr) (g : Bool) (cs : List Nat), vs = [.ref x, .ref wk] ∧ H x = some (.ins CL dx []) ∧ isW CW H wk g cs ∧ (wrun g cs).ms ≠ [] ∧
  ∀ H', isL CL CW H' x g cs → But x H H' → Q .non H'
theorem mkL {CL CW wk : Addr} {H : Hp} {Q : VK} {g : Bool} {cs : List Nat} (hw : isW CW H wk g cs) (hne : (wrun g cs).ms ≠ []) (k : ∀ H' x, Same H H' → isL CL CW H' x g cs → Q (.ref x) H') (x dx : Addr) (hx : H x = none) (hdx : H dx = none) (ne : dx ≠ x) :
    spLInit CL CW [.ref x, .ref wk] (upd (upd H dx (.own x)) x (.ins CL dx [])) (fun v H2 => v = .non ∧ Q (.ref x) H2) E0 :=
  ⟨x, dx, wk, g, cs, rfl, upd_same, isW_same (same_put (same_upd hdx) hx) hw, hne, fun H' h1 h2 => ⟨rfl, k H' x (Same.made hx hdx fun b o e n => h2 b o n e) h1⟩⟩
/-- how things stand while a loop is made -/
structure LSt (CM CL x q mv dx : Addr) (g : Bool) (cs : List Nat) (as : List Addr) (F : Fs) (H0 H : Hp) : Prop where
  but : But x H0 H
  at_ : H x = some (.ins CL dx F)
  lq : H q = some (.lst (as.map V.ref))
  ms : Mvs H as (wrun g cs).ms
  mo : isM CM H mv g (wrun g cs).p (wrun g cs).h
section
variable {CM CL x q mv dx : Addr} {g : Bool} {cs : List Nat} {as : List Addr} {F F' : Fs} {H0 H H' : Hp}
theorem LSt.same (a : LSt CM CL x q mv dx g cs as F H0 H) (s : Same H H') : LSt CM CL x q mv dx g cs as F H0 H' := ⟨but_same a.but s, s _ _ a.at_, s _ _ a.lq, mvs_sam (samT_of s) a.ms, isM_same s a.mo⟩
theorem isM_mut {a y : Addr} {p : Int × Int} {t : Nat} {o u : HO} (h : isM CM H a g p t) (hy : H y = some o) (n : ∀ xs, o ≠ .tup xs) (ne : a ≠ y) : isM CM (upd H y u) a g p t := by
  obtain ⟨dm, b, h1, h2, h3⟩ := h
  exact ⟨dm, b, by rw [upd_ne ne]; exact h1, samT_put hy n _ _ h2, h3⟩
theorem LSt.put (a : LSt CM CL x q mv dx g cs as F H0 H) (n1 : q ≠ x) (n2 : mv ≠ x) : LSt CM CL x q mv dx g cs as F' H0 (upd H x (.ins CL dx F')) :=
  ⟨but_put a.but, upd_same, by rw [upd_ne n1]; exact a.lq, mvs_sam (samT_put a.at_ fun _ z => nomatch z) a.ms, isM_mut a.mo a.at_ (fun _ z => nomatch z) n2⟩
theorem isM_ins {a : Addr} {p : Int × Int} {t : Nat} (h : isM CM H a g p t) {l : Addr} {ys : List V} (e : H l = some (.lst ys)) : a ≠ l := fun z => by
  obtain ⟨_, _, h1, _⟩ := h
  rw [z, e] at h1
  cases h1
theorem LSt.mut {l : Addr} {ys zs : List V} (a : LSt CM CL x q mv dx g cs as F H0 H) (e : H l = some (.lst ys)) (h0 : H0 l = none) (n : l ≠ q) : LSt CM CL x q mv dx g cs as F H0 (upd H l (.lst zs)) :=
  ⟨but_mut a.but h0, by rw [upd_ne (fun z => by rw [← z, a.at_] at e; cases e)]; exact a.at_, by rw [upd_ne (fun z => n z.symm)]; exact a.lq, mvs_sam (samT_put e fun _ z => nomatch z) a.ms, isM_mut a.mo e (fun _ z => nomatch z) (isM_ins a.mo e)⟩
end
section
variable {P : Program} {w : World} {K : PySem.W.Frag} {mg : Str → Option Value} {base : Heap} {sI sR sC CW CM CL : Addr}
abbrev nL0 : List Str := ["self", "walk", "moves", "movement", "order", "so_far", "count", "later", "before", "heading", "after"]
theorem scL0 : FnScope nL0 ["self", "walk"] (L2.defScope (icl 49 0)) := fnScope_by (by decide +kernel)
theorem l_init (T : TxB K mg) (M : TxM K mg CM) (W : TxW K mg CW) (L : TxL K mg CL) (d : MakT K mg "Loop" CL "Loop.__init__" (icl 49 0)) (c1 : Cal P w K mg base 3 "check_moving" (spMoving CW)) (c2 : GMet P w K mg base 1 CW "moves" (spGMoves CW))
    (c3 : Prp P w K mg base 6 CW "movement" (spWMov CW CM)) (c4 : Prp P w K mg base 2 CM "order" (spMOrder CM)) (c5 : Prp P w K mg base 1 CM "place" (spMPlace CM)) (c6 : CalO P w K mg base 4 CM (spMCall CM)) (c7 : Prp P w K mg base 1 CM "turn" (spMTurn CM))
    (c8 : Cal P w K mg base 1 "heading_count" spCount) (c9 : Prp P w K mg base 1 CW "net" (spWNet CW)) (c10 : Met P w K mg base 6 CM "__add__" (spMAdd CM)) (self : PySem.W.selfFirst K CM = true) : Mak P w K mg base 8 "Loop" CL (spLInit CL CW) := by
  refine mak d scL0 (fun vs H Q E h => ?_) (fun _ _ _ _ _ _ us hl => match us, hl with | [_, _], _ => rfl) (fun f cdv A outer s H vs Q E hr h => ?_)
  · obtain ⟨x, dx, wk, g, cs, rfl, _⟩ := h
    rfl
  · obtain ⟨x, dx, wk, g, cs, rfl, hx, hw, hne, k⟩ := h
    refine ⟨_, pss_cons (ps_expr (C8.pe_c c1 hr (by decide) rfl (pa_cons (pv 1) pa_nil))) (pss_cons (ps_fld (pv 0) (pv 1) rfl) (pss_cons (ps_set (i := 2) scL0.nd rfl (Or.inl rfl) (pe_lm c2 hr (by decide) (pv 1) T.list)) (pss_cons (ps_set (i := 3) scL0.nd rfl (Or.inl rfl) (pe_pr c3 hr (by decide) (pv 1))) (pss_cons (ps_set (i := 4) scL0.nd rfl (Or.inl rfl) (pe_pr c4 hr (by decide) (pv 3)))
      (C8.pss_cut (ps_fld (pv 0) (pe_ifExp (pt_cmpR op_eq (pv 4) pe_int (nomark _)) (pe_pr c5 hr (by decide) (pv 3)) (pe_tup (pa_cons pe_int (pa_cons pe_int pa_nil)))) rfl)
      (C8.pss_cut (ps_fld (pv 0) (pe_lc (own := [("before", 8), ("heading", 9), ("after", 10)]) (g := gTup K 3 (gCons (gName 8) (gCons (gName 9) (gCons (gName 10) gNil)))) rfl scL0.nd (pi_list (pv 2)) (blkOk_by (own := [("before", 8), ("heading", 9), ("after", 10)]) (N := nL0) (sc := L2.defScope (icl 49 0)) (by decide +kernel)) (fun _ _ _ _ _ => (pg_tup rfl (pgs_cons (pg_name (i := 8) scL0.nd rfl (Or.inl rfl)) (pgs_cons (pg_name (i := 9) scL0.nd rfl (Or.inl rfl)) (pgs_cons (pg_name (i := 10) scL0.nd rfl (Or.inl rfl)) pgs_nil))))) (fun _ _ _ _ _ => pts_nil) (fun _ _ _ _ _ => (pv 8))) rfl)
      (C8.pss_cut (ps_fld (pv 0) (pe_lc (own := [("before", 8), ("heading", 9), ("after", 10)]) (g := gTup K 3 (gCons (gName 8) (gCons (gName 9) (gCons (gName 10) gNil)))) rfl scL0.nd (pi_list (pv 2)) (blkOk_by (own := [("before", 8), ("heading", 9), ("after", 10)]) (N := nL0) (sc := L2.defScope (icl 49 0)) (by decide +kernel)) (fun _ _ _ _ _ => (pg_tup rfl (pgs_cons (pg_name (i := 8) scL0.nd rfl (Or.inl rfl)) (pgs_cons (pg_name (i := 9) scL0.nd rfl (Or.inl rfl)) (pgs_cons (pg_name (i := 10) scL0.nd rfl (Or.inl rfl)) pgs_nil))))) (fun _ _ _ _ _ => pts_nil) (fun _ _ _ _ _ => (pv 9))) rfl)
      (pss_cons (ps_set (i := 5) scL0.nd rfl (Or.inr rfl) (pv 3))
      (C8.pss_cut (ps_for PassesOwn.never rfl (pi_range2 (by rfl) T.range (pa_cons pe_int (pa_cons (pv 4) pa_nil))) (pg_name (i := 6) scL0.nd rfl (Or.inl rfl)) (C8.pss_cut
        (ps_expr (pe_bm PySem.F.plainAttrs_list PySem.F.slot_list_extend PySem.F.type_list_extend mt_extend (pe_fld (pv 0) rfl) (pa_cons (pe_lc (own := [("before", 8), ("heading", 9), ("after", 10)]) (g := gTup K 3 (gCons (gName 8) (gCons (gName 9) (gCons (gName 10) gNil)))) rfl scL0.nd (pi_list (pv 2)) (blkOk_by (own := [("before", 8), ("heading", 9), ("after", 10)]) (N := nL0) (sc := L2.defScope (icl 49 0)) (by decide +kernel)) (fun _ _ _ _ _ => (pg_tup rfl (pgs_cons (pg_name (i := 8) scL0.nd rfl (Or.inl rfl)) (pgs_cons (pg_name (i := 9) scL0.nd rfl (Or.inl rfl)) (pgs_cons (pg_name (i := 10) scL0.nd rfl (Or.inl rfl)) pgs_nil))))) (fun _ _ _ _ _ => pts_nil) (fun _ _ _ _ _ => (pe_co c6 hr (by decide) (pv 5) (pa_cons (pv 8) pa_nil)))) pa_nil)))
        (C8.pss_cut (ps_setLc (i := 7) (own := [("before", 8), ("heading", 9), ("after", 10)]) (g := gTup K 3 (gCons (gName 8) (gCons (gName 9) (gCons (gName 10) gNil)))) rfl scL0.nd rfl rfl (sw_true rfl rfl rfl (by decide +kernel)) (pi_list (pv 2)) (blkOk_by (own := [("before", 8), ("heading", 9), ("after", 10)]) (N := nL0) (sc := L2.defScope (icl 49 0)) (by decide +kernel)) (fun _ _ _ _ _ => (pg_tup rfl (pgs_cons (pg_name (i := 8) scL0.nd rfl (Or.inl rfl)) (pgs_cons (pg_name (i := 9) scL0.nd rfl (Or.inl rfl)) (pgs_cons (pg_name (i := 10) scL0.nd rfl (Or.inl rfl)) pgs_nil))))) (fun _ _ _ _ _ => pts_nil) (fun _ _ _ _ _ => (pe_op op_mod (pe_op op_add (pv 9) (pe_pr c7 hr (by decide) (pv 5))) (C8.pe_c c8 hr (by decide) rfl (pa_cons (pe_pr c9 hr (by decide) (pv 1)) pa_nil)))))
        (pss_cons (ps_expr (pe_bm PySem.F.plainAttrs_list PySem.F.slot_list_extend PySem.F.type_list_extend mt_extend (pe_fld (pv 0) rfl) (pa_cons (pv 7) pa_nil))) (pss_one (ps_set (i := 5) scL0.nd rfl (Or.inr rfl) (pe_op (op_addO c10 self hr) (pv 5) (pv 3))))))))
      (pss_one (ps_fld (pv 0) (pe_ifExp (pt_cmpR op_eq (pv 4) pe_int (nomark _)) pe_int (pe_op op_mul (pe_callB call_len_seq (by rfl) T.len PySem.boot_len (pa_cons (pv 2) pa_nil)) (pv 4))) rfl))))))))))), ?_⟩
    obtain ⟨dw, wm, wp, was, wbs, hw1, hw2, hw3, hw4, hw5, okc, hlen⟩ := id hw
    have nwx : wk ≠ x := fun z => by rw [z, hx] at hw1; cases hw1
    refine ⟨_, rfl, wk, g, cs, rfl, hw, hne, ?_⟩
    refine ⟨_, rfl, _, rfl, _, _, _, _, rfl, hx, L.cl, L.n1, (by show 0 < 1000; decide), ?_⟩
    generalize hHA : upd H x _ = HA
    have bA : But x H HA := by rw [← hHA]; exact but_put fun _ _ _ e => e
    have xA : HA x = some (.ins CL dx (putF kW (.ref wk) [])) := by rw [← hHA]; exact upd_same
    have wA := isW_but bA hx hw
    refine ⟨_, rfl, wk, _, _, rfl, bA _ _ nwx hw1, wF_mv g cs wm wp, wk, g, cs, rfl, wA, fun as has q hq => ?_⟩
    generalize hHB : upd HA q _ = HB
    have sB : Same HA HB := by rw [← hHB]; exact same_upd hq
    have qB : HB q = some (.lst (as.map V.ref)) := by rw [← hHB]; exact upd_same
    have wB := isW_same sB wA
    refine ⟨_, rfl, wk, _, _, rfl, sB _ _ (bA _ _ nwx hw1), wk, g, cs, rfl, wB, fun HC mv sC hM => ?_⟩
    obtain ⟨dm, mb, hM1, hM2, hM3⟩ := id hM
    refine ⟨_, rfl, mv, _, _, rfl, hM1, mv, g, (wrun g cs).p, (wrun g cs).h, rfl, hM, fun HD sD => ?_⟩
    have sAD := Same.trans (Same.trans sB sC) sD
    have xD := sAD _ _ xA
    have nmx : mv ≠ x := fun z => by
      rw [z, Same.trans sB sC _ _ xA] at hM1
      injection hM1 with e
      injection e with _ _ e
      have := mF_n g mb (wrun g cs).h
      rw [← e] at this
      exact absurd this (fun z => nomatch (show none = some _ from (lF1n wk).symm.trans z))
    -- what stays from here on
    have nqx : q ≠ x := fun z => by rw [z, xA] at hq; cases hq
    have LD : LSt CM CL x q mv dx g cs as (putF kW (.ref wk) []) H HD := ⟨but_same bA sAD, xD, Same.trans sC sD _ _ qB, mvs_sam (samT_of sAD) has, isM_same sD hM⟩
    have hlas : as.length = (wrun g cs).ms.length := Paired.length has
    have hlms := wrun_len g cs
    refine ⟨fun σ' H' => ∃ dr, σ' = [some (.ref x), some (.ref wk), some (.ref q), some (.ref mv), some (.int (lord g cs)), none, none, none, none, none, none] ∧ LSt CM CL x q mv dx g cs as (lF2 wk dr) H H', ?_, ?_⟩
    · refine ⟨_, rfl, rfl, _, rfl, ?_⟩
      refine ite2 (fun _ => ?_) fun _ => ?_
      · refine ⟨_, rfl, mv, _, _, rfl, sD _ _ hM1, mv, g, _, _, rfl, LD.mo, fun b hb => ?_⟩
        exact ⟨_, rfl, _, _, _, _, rfl, xD, L.cl, L.n2, (by show 1 < 1000; decide), b, rfl, LD.put nqx nmx⟩
      · refine ⟨(small64 (n := 2) (by decide)), fun b hb => ?_⟩
        exact ⟨_, rfl, _, _, _, _, rfl, same_upd hb _ _ xD, L.cl, L.n2, (by show 1 < 1000; decide), b, rfl, (LD.same (same_upd hb)).put nqx nmx⟩
    rintro _ H2 ⟨dr, rfl, L2⟩
    -- a comprehension over the moves: what a turn reads
    refine ⟨fun σ' H' => ∃ p bs, σ' = [some (.ref x), some (.ref wk), some (.ref q), some (.ref mv), some (.int (lord g cs)), none, none, none, none, none, none] ∧ LSt CM CL x q mv dx g cs as (lF3 wk dr p) H H' ∧
      H' p = some (.lst (bs.map V.ref)) ∧ Pts H' bs (bef g cs) ∧ H p = none ∧ p ≠ q, ?_, ?_⟩
    · refine ⟨_, rfl, q, rfl, ⟨_, .of L2.lq⟩, fun D hD => lc_it walk_list (fun i H' => Same H2 H' ∧ ∃ bs, H' D = some (.lst (bs.map V.ref)) ∧ Pts H' bs (((wrun g cs).ms.take i).map (·.1))) ⟨same_upd hD, [], upd_same, .nil⟩ (fun _ H' _ z => .of (z.1 _ _ L2.lq)) ?_ ?_⟩
      · rintro i _ H3 H4 hi ⟨s3, bs, e3, p3⟩ ⟨rfl, hx3⟩
        obtain ⟨a, ha, rfl⟩ := map_at hx3
        obtain ⟨v, ⟨b, c, h1, h2, h3⟩, hv⟩ := pair_l L2.ms ha
        refine ⟨a, _, rfl, .of (s3 _ _ h1), rfl, _, _, rfl, _, _, rfl, _, _, rfl, rfl, rfl, _, rfl, bs.map V.ref, e3, ?_, same_put s3 hD, bs ++ [b], by rw [upd_same, List.map_append]; rfl, ?_⟩
        · have z1 := Paired.length p3
          have z2 : ((wrun g cs).ms.take i).length ≤ (wrun g cs).ms.length := List.length_take_le' i _
          rw [List.length_map] at z1 ⊢
          exact Nat.lt_of_le_of_lt (by omega : bs.length ≤ 200) (by decide)
        · rw [take_snoc hv, List.map_append]
          have z := samT_put (u := .lst (bs.map V.ref ++ [.ref b])) e3 fun _ z => nomatch z
          exact Paired.snoc (pts_sam z p3) (z _ _ (s3 _ _ h2))
      · rintro H3 ⟨s3, bs, e3, p3⟩
        rw [List.length_map, hlas, List.take_length] at p3
        have nDx : D ≠ x := fun z => by rw [z, L2.at_] at hD; cases hD
        have nDq : D ≠ q := fun z => by rw [z, L2.lq] at hD; cases hD
        refine ⟨_, rfl, _, _, _, _, rfl, s3 _ _ L2.at_, L.cl, L.n3, (by rw [lF2e]; decide), D, bs, rfl, (L2.same s3).put nqx nmx, by rw [upd_ne nDx]; exact e3, pts_sam (samT_put (s3 _ _ L2.at_) fun _ z => nomatch z) p3, but_free L2.but hD nDx, nDq⟩
    rintro _ H3 ⟨p, bs, rfl, L3, e3, p3, f3, npq⟩
    refine ⟨fun σ' H' => ∃ h hs, σ' = [some (.ref x), some (.ref wk), some (.ref q), some (.ref mv), some (.int (lord g cs)), none, none, none, none, none, none] ∧ LSt CM CL x q mv dx g cs as (lF4 wk dr p h) H H' ∧
      H' p = some (.lst (bs.map V.ref)) ∧ Pts H' bs (bef g cs) ∧ H' h = some (.lst hs) ∧ hs.length = as.length ∧ H h = none ∧ h ≠ q ∧ h ≠ p, ?_, ?_⟩
    · refine ⟨_, rfl, q, rfl, ⟨_, .of L3.lq⟩, fun D hD => lc_it walk_list (fun i H' => Same H3 H' ∧ ∃ hs, H' D = some (.lst hs) ∧ hs.length = i) ⟨same_upd hD, [], upd_same, rfl⟩ (fun _ H' _ z => .of (z.1 _ _ L3.lq)) ?_ ?_⟩
      · rintro i _ H4 H5 hi ⟨s4, hs, e4, l4⟩ ⟨rfl, hx4⟩
        obtain ⟨a, ha, rfl⟩ := map_at hx4
        obtain ⟨v, ⟨b, c, h1, h2, h3⟩, hv⟩ := pair_l L3.ms ha
        refine ⟨a, _, rfl, .of (s4 _ _ h1), rfl, _, _, rfl, _, _, rfl, _, _, rfl, rfl, rfl, _, rfl, hs, e4, ?_, same_put s4 hD, _, upd_same, by rw [List.length_append, l4]; rfl⟩
        rw [List.length_map] at hi
        exact Nat.lt_of_le_of_lt (by omega : hs.length ≤ 200) (by decide)
      · rintro H4 ⟨s4, hs, e4, l4⟩
        rw [List.length_map] at l4
        have nDx : D ≠ x := fun z => by rw [z, L3.at_] at hD; cases hD
        have nDq : D ≠ q := fun z => by rw [z, L3.lq] at hD; cases hD
        have nDp : D ≠ p := fun z => by rw [z, e3] at hD; cases hD
        have npx : p ≠ x := fun z => by rw [z, L3.at_] at e3; cases e3
        exact ⟨_, rfl, _, _, _, _, rfl, s4 _ _ L3.at_, L.cl, L.n4, (by rw [lF3e]; decide), D, hs, rfl, (L3.same s4).put nqx nmx, by rw [upd_ne npx]; exact s4 _ _ e3, pts_sam (samT_trans (samT_of s4) (samT_put (s4 _ _ L3.at_) fun _ z => nomatch z)) p3, by rw [upd_ne nDx]; exact e4, l4, but_free L3.but hD nDx, nDq, nDp⟩
    rintro _ H4 ⟨h, hs, rfl, L4, e4, p4, e5, l5, f5, nhq, nhp⟩
    refine ⟨_, rfl, ?_⟩
    have hord := lord_le g cs
    refine ⟨fun σ' H' => ∃ so cnt lat bs, σ' = [some (.ref x), some (.ref wk), some (.ref q), some (.ref mv), some (.int (lord g cs)), some (.ref so), cnt, lat, none, none, none] ∧ LSt CM CL x q mv dx g cs as (lF4 wk dr p h) H H' ∧ H' p = some (.lst (bs.map V.ref)) ∧ Pts H' bs (lplaces g cs), ?_, ?_⟩
    · refine ⟨_, rfl, 1, _, rfl, ⟨by decide, by decide, by omega, by omega⟩, ?_⟩
      have en : ((lord g cs : Int) - 1).toNat = lord g cs - 1 := by omega
      rw [en]
      refine for_range (lo := 1) (n := lord g cs - 1) (fun n σ' H' => ∃ so cnt lat bs hs, σ' = [some (.ref x), some (.ref wk), some (.ref q), some (.ref mv), some (.int (lord g cs)), some (.ref so), cnt, lat, none, none, none] ∧ LSt CM CL x q mv dx g cs as (lF4 wk dr p h) H H' ∧
        isM CM H' so g (sof g (wrun g cs).p (wrun g cs).h n).1 (sof g (wrun g cs).p (wrun g cs).h n).2 ∧ H' p = some (.lst (bs.map V.ref)) ∧ Pts H' bs (lpl g cs n) ∧ H' h = some (.lst hs) ∧ hs.length = (n + 1) * as.length)
        ⟨mv, none, none, bs, hs, rfl, L4, L4.mo, e4, p4, e5, by omega⟩ ?_ ?_
      · rintro i σ' H5 hi ⟨so, cnt, lat, bs, hs, rfl, L5, so5, e6, p6, e7, l7⟩
        have lbs : bs.length ≤ 1000 := by
          have z := Paired.length p6
          rw [lpl_len] at z
          have y : (i + 1) * (wrun g cs).ms.length ≤ 5 * 200 := Nat.mul_le_mul (by omega) (by omega)
          omega
        have lhs : hs.length ≤ 1000 := by
          have y : (i + 1) * as.length ≤ 5 * 200 := Nat.mul_le_mul (by omega) (by omega)
          omega
        obtain ⟨ds0, sb0, hs1, hs2, hs3⟩ := id so5
        refine ⟨fun σ' H' => ∃ bs', σ' = [some (.ref x), some (.ref wk), some (.ref q), some (.ref mv), some (.int (lord g cs)), some (.ref so), some (.int (1 + i)), lat, none, none, none] ∧ LSt CM CL x q mv dx g cs as (lF4 wk dr p h) H H' ∧
          isM CM H' so g (sof g (wrun g cs).p (wrun g cs).h i).1 (sof g (wrun g cs).p (wrun g cs).h i).2 ∧ H' p = some (.lst (bs'.map V.ref)) ∧ Pts H' bs' (lpl g cs (i + 1)) ∧ H' h = some (.lst hs), ?_, ?_⟩
        · refine ⟨_, rfl, _, _, _, _, _, rfl, L5.at_, L.cl, L.n3, lF4p wk dr p h, .inl ⟨rfl, _, .of e6⟩, ?_⟩
          refine ⟨_, rfl, q, rfl, ⟨_, .of L5.lq⟩, fun D hD => lc_it walk_list (fun j H' => Same H5 H' ∧ ∃ ds, H' D = some (.lst (ds.map V.ref)) ∧ Pts H' ds ((blk g cs i).take j)) ⟨same_upd hD, [], upd_same, .nil⟩ (fun _ H' _ z => .of (z.1 _ _ L5.lq)) ?_ ?_⟩
          · rintro j _ H6 H7 hj ⟨s6, ds, e8, p8⟩ ⟨rfl, hx6⟩
            obtain ⟨a, ha, rfl⟩ := map_at hx6
            obtain ⟨v, ⟨b, c, h1, h2, h3⟩, hv⟩ := pair_l L5.ms ha
            refine ⟨a, _, rfl, .of (s6 _ _ h1), rfl, _, _, rfl, _, _, rfl, _, _, rfl, rfl, rfl, _, rfl, so, rfl, _, rfl, ⟨_, _, s6 _ _ hs1⟩, so, b, g, _, _, v.1, rfl, isM_same s6 so5, s6 _ _ h2, fun H8 r s8 hr0 hr1 => ?_⟩
            have hb : (blk g cs i)[j]? = some (padd (sof g (wrun g cs).p (wrun g cs).h i).1 (rots g (sof g (wrun g cs).p (wrun g cs).h i).2 v.1)) := by
              unfold blk bef
              rw [List.getElem?_map, List.getElem?_map, hv]
              rfl
            refine ⟨ds.map V.ref, s8 _ _ e8, ?_, same_put (Same.trans s6 s8) hD, ds ++ [r], by rw [upd_same, List.map_append]; rfl, ?_⟩
            · have z1 := Paired.length p8
              have z2 : ((blk g cs i).take j).length ≤ (blk g cs i).length := List.length_take_le' j _
              have z3 : (blk g cs i).length = (wrun g cs).ms.length := by simp [blk, bef]
              rw [List.length_map]
              exact Nat.lt_of_le_of_lt (by omega : ds.length ≤ 200) (by decide)
            · rw [take_snoc hb]
              have z := samT_put (u := .lst (ds.map V.ref ++ [.ref r])) (s8 _ _ e8) fun _ z => nomatch z
              exact Paired.snoc (pts_sam (samT_trans (samT_of s8) z) p8) (z _ _ hr1)
          · rintro H6 ⟨s6, ds, e8, p8⟩
            have lb : (blk g cs i).length = as.length := by rw [hlas]; simp [blk, bef]
            rw [List.length_map, ← lb, List.take_length] at p8
            have npD : D ≠ p := fun z => by rw [z, e6] at hD; cases hD
            have z1 := Paired.length p8
            refine ⟨p, D, _, _, rfl, rfl, s6 _ _ e6, e8, ?_, bs ++ ds, rfl, (L5.same s6).mut (s6 _ _ e6) f3 npq, isM_mut (isM_same s6 so5) (s6 _ _ e6) (fun _ z => nomatch z) (isM_ins so5 e6), by rw [upd_same, List.map_append], ?_, by rw [upd_ne nhp]; exact s6 _ _ e7⟩
            · rw [List.length_map, List.length_map]
              exact Nat.le_trans (by omega : bs.length + ds.length ≤ 2000) (by decide)
            · have z := samT_put (u := .lst (bs.map V.ref ++ ds.map V.ref)) (s6 _ _ e6) fun _ z => nomatch z
              exact pair_app (pts_sam (samT_trans (samT_of s6) z) p6) (pts_sam z p8)
        rintro _ H6 ⟨bs', rfl, L6, so6, e6', p6', e7'⟩
        obtain ⟨ds6, sb6, hs4, hs5, hs6⟩ := id so6
        have wk6 : H6 wk = some (.ins CW dw (wF g cs wm wp)) := L6.but _ _ nwx hw1
        have isw6 := isW_but L6.but hx hw
        refine ⟨fun σ' H' => ∃ d zs, σ' = [some (.ref x), some (.ref wk), some (.ref q), some (.ref mv), some (.int (lord g cs)), some (.ref so), some (.int (1 + i)), some (.ref d), none, none, none] ∧ Same H6 H' ∧ H' d = some (.lst zs) ∧ zs.length = as.length, ?_, ?_⟩
        · refine ⟨_, rfl, q, rfl, ⟨_, .of L6.lq⟩, fun D hD => lc_it walk_list (fun j H' => Same H6 H' ∧ ∃ zs, H' D = some (.lst zs) ∧ zs.length = j) ⟨same_upd hD, [], upd_same, rfl⟩ (fun _ H' _ z => .of (z.1 _ _ L6.lq)) ?_ ?_⟩
          · rintro j _ H7 H8 hj ⟨s7, zs, e8, l8⟩ ⟨rfl, hx7⟩
            obtain ⟨a, ha, rfl⟩ := map_at hx7
            obtain ⟨v, ⟨b, c, h1, h2, h3⟩, hv⟩ := pair_l L6.ms ha
            refine ⟨a, _, rfl, .of (s7 _ _ h1), rfl, _, _, rfl, _, _, rfl, _, _, rfl, rfl, rfl, _, rfl, _, rfl, so, _, _, rfl, s7 _ _ hs4, so, g, _, _, rfl, isM_same s7 so6, _, _, rfl, rfl, ?_⟩
            refine ⟨_, rfl, wk, _, _, rfl, s7 _ _ wk6, wk, g, cs, rfl, isW_same s7 isw6, g, rfl, _, _, rfl, rfl, hd_pos g, zs, e8, ?_, same_put s7 hD, _, upd_same, by rw [List.length_append, l8]; rfl⟩
            rw [List.length_map] at hj
            exact Nat.lt_of_le_of_lt (by omega : zs.length ≤ 200) (by decide)
          · rintro H7 ⟨s7, zs, e8, l8⟩
            rw [List.length_map] at l8
            exact ⟨D, zs, rfl, s7, e8, l8⟩
        rintro _ H7 ⟨d, zs, rfl, s7, e8, l8⟩
        have L7 := L6.same s7
        refine ⟨_, rfl, _, _, _, _, _, rfl, L7.at_, L.cl, L.n4, lF4h wk dr p h, .inl ⟨rfl, _, .of (s7 _ _ e7')⟩, _, rfl, h, d, hs, zs, rfl, rfl, s7 _ _ e7', e8, Nat.le_trans (by omega : hs.length + zs.length ≤ 2000) (by decide), ?_⟩
        have L8 : LSt CM CL x q mv dx g cs as (lF4 wk dr p h) H (upd H7 h (.lst (hs ++ zs))) := L7.mut (s7 _ _ e7') f5 nhq
        have so8 := isM_mut (u := .lst (hs ++ zs)) (isM_same s7 so6) (s7 _ _ e7') (fun _ z => nomatch z) (isM_ins so6 e7')
        have p8 : upd H7 h (.lst (hs ++ zs)) p = some (.lst (bs'.map V.ref)) := by
          rw [upd_ne (fun z => nhp z.symm)]
          exact s7 _ _ e6'
        have q8 := pts_sam (samT_trans (samT_of s7) (samT_put (u := .lst (hs ++ zs)) (s7 _ _ e7') fun _ z => nomatch z)) p6'
        obtain ⟨dy, sy, h81, h82, h83⟩ := id so8
        obtain ⟨dz, sz, h91, h92, h93⟩ := id L8.mo
        refine ⟨_, rfl, _, rfl, so, _, _, mv, _, _, rfl, rfl, h81, h91, so, mv, g, _, _, _, _, rfl, so8, L8.mo, fun H9 r s9 h9 => ?_⟩
        exact ⟨r, _, _, bs', hs ++ zs, rfl, L8.same s9, h9, s9 _ _ p8, pts_sam (samT_of s9) q8, s9 _ _ upd_same, by rw [List.length_append, l7, l8, Nat.succ_mul (i + 1)]⟩
      · rintro σ' H5 ⟨so, cnt, lat, bs, hs, rfl, L5, _, e6, p6, _⟩
        exact ⟨so, cnt, lat, bs, rfl, L5, e6, p6⟩
    rintro _ H5 ⟨so, cnt, lat, bs, rfl, L5, e6, p6⟩
    have npx : p ≠ x := fun z => by rw [z, L5.at_] at e6; cases e6
    have fin : ∀ n : Int, n = (lper g cs : Nat) → isL CL CW (upd H5 x (.ins CL dx (putF kR (.int n) (lF4 wk dr p h)))) x g cs := by
      intro n en
      rw [en, lF5]
      exact ⟨dx, wk, dr, p, h, bs, upd_same, isW_but (but_put L5.but) hx hw, by rw [upd_ne npx]; exact e6, pts_sam (samT_put L5.at_ fun _ z => nomatch z) p6⟩
    refine ⟨_, rfl, rfl, _, rfl, ?_⟩
    refine ite2 (fun z => ?_) fun z => ?_
    · refine ⟨_, rfl, _, _, _, _, rfl, L5.at_, L.cl, L.n5, (by rw [lF4e]; decide), k _ (fin 0 ?_) (but_put L5.but)⟩
      have z := of_decide_eq_true z
      injection z with z
      unfold lper
      have z : lord g cs = 0 := by omega
      rw [z]
      rfl
    · refine ⟨_, rfl, q, _, rfl, .inl (.of L5.lq), _, rfl, _, _, rfl, rfl, .inl ⟨?_, ?_⟩, _, rfl, _, _, _, _, rfl, L5.at_, L.cl, L.n5, (by rw [lF4e]; decide), k _ (fin _ ?_) (but_put L5.but)⟩
      · rw [List.length_map]
        omega
      · rw [List.length_map]
        omega
      · rw [List.length_map, hlas]
        rfl
end
end K53
set_option maxHeartbeats 4000000
namespace K53
open PySem PySem.Spec PyProof.Rows L2
open C8 (fnScope_by pe_mk pe_mt pe_mt0 InsC)
open SX (S)
section
variable {P : Program} {w : World} {K : PySem.W.Frag} {mg : Str → Option Value} {base : Heap} {sS sI sR sC CW CM CL : Addr}
def spLWalk (CL CW : Addr) : Sp := fun vs H Q _ => ∃ (a : Addr) (g : Bool) (cs : List Nat), vs = [.ref a] ∧ isL CL CW H a g cs ∧ ∀ wk, isW CW H wk g cs → Q (.ref wk) H
theorem scL1 : FnScope ["self"] ["self"] (L2.defScope (icl 49 1)) := fnScope_by (by decide +kernel)
theorem l_walk (L : TxL K mg CL) (D : PrpT K CL "walk" "Loop.walk" (icl 49 1)) : Prp P w K mg base 1 CL "walk" (spLWalk CL CW) := by
  refine prp L.cl D scL1 (fun vs H Q E h => ?_) (fun _ _ _ _ _ _ us hl => match us, hl with | [_], _ => rfl) (fun f cdv A outer s H vs Q E hr h => ?_)
  · obtain ⟨a, g, cs, rfl, _⟩ := h
    rfl
  · obtain ⟨a, g, cs, rfl, ⟨dx, wk, dr, p, h, bs, ha, hw, _⟩, k⟩ := h
    refine ⟨_, (pss_one (ps_ret (pe_fld (pv 0) rfl))), ?_⟩
    exact ⟨_, rfl, _, _, _, _, _, rfl, ha, L.cl, L.n1, lF_w _ _ _ _ _, k wk hw⟩
def spLPer (CL CW : Addr) : Sp := fun vs H Q _ => ∃ (a : Addr) (g : Bool) (cs : List Nat), vs = [.ref a] ∧ isL CL CW H a g cs ∧ Q (.int (lper g cs : Nat)) H
theorem scL3 : FnScope ["self"] ["self"] (L2.defScope (icl 49 3)) := fnScope_by (by decide +kernel)
theorem l_per (L : TxL K mg CL) (D : PrpT K CL "period" "Loop.period" (icl 49 3)) : Prp P w K mg base 1 CL "period" (spLPer CL CW) := by
  refine prp L.cl D scL3 (fun vs H Q E h => ?_) (fun _ _ _ _ _ _ us hl => match us, hl with | [_], _ => rfl) (fun f cdv A outer s H vs Q E hr h => ?_)
  · obtain ⟨a, g, cs, rfl, _⟩ := h
    rfl
  · obtain ⟨a, g, cs, rfl, ⟨dx, wk, dr, p, h, bs, ha, hw, _⟩, k⟩ := h
    refine ⟨_, (pss_one (ps_ret (pe_fld (pv 0) rfl))), ?_⟩
    exact ⟨_, rfl, _, _, _, _, _, rfl, ha, L.cl, L.n5, lF_r _ _ _ _ _, k⟩
def spLStored (CL CW : Addr) : Sp := fun vs H Q _ => ∃ (a : Addr) (g : Bool) (cs : List Nat), vs = [.ref a] ∧ isL CL CW H a g cs ∧ ∀ p bs, H p = none → Pts H bs (lplaces g cs) → Q (.ref p) (upd H p (.lst (bs.map V.ref)))
theorem scL5 : FnScope ["self"] ["self"] (L2.defScope (icl 49 5)) := fnScope_by (by decide +kernel)
theorem l_stored (T : TxB K mg) (L : TxL K mg CL) (D : MetT K CL "stored" "Loop.stored" (icl 49 5)) : Met P w K mg base 1 CL "stored" (spLStored CL CW) := by
  refine met L.cl D scL5 (fun vs H Q E h => ?_) (fun _ _ _ _ _ _ us hl => match us, hl with | [_], _ => rfl) (fun f cdv A outer s H vs Q E hr h => ?_)
  · obtain ⟨a, g, cs, rfl, _⟩ := h
    rfl
  · obtain ⟨a, g, cs, rfl, ⟨dx, wk, dr, p, h, bs, ha, hw, hp, hb⟩, k⟩ := h
    refine ⟨_, (pss_one (ps_ret (pe_callTy call_list_of (by rfl) T.list (by decide +kernel) (pa_cons (pe_fld (pv 0) rfl) pa_nil)))), ?_⟩
    exact ⟨_, rfl, _, _, _, _, _, rfl, ha, L.cl, L.n3, lF_p _ _ _ _ _, p, _, rfl, .inl (.of hp), fun l hl => k l bs hl hb⟩
/-! check_loop, difference, cell_at, position, crossing -/
def spIsLoop (CL CW : Addr) : Sp := fun vs H Q _ => ∃ (a : Addr) (g : Bool) (cs : List Nat), vs = [.ref a] ∧ isL CL CW H a g cs ∧ Q .non H
theorem sc51 : FnScope ["obj"] ["obj"] (L2.defScope (top 51)) := fnScope_by (by decide +kernel)
theorem c_isloop (T : TxB K mg) (L : TxL K mg CL) (d : DefT K mg 51 "check_loop") : Cal P w K mg base 1 "check_loop" (spIsLoop CL CW) := by
  refine cal d sc51 (fun vs H Q E h => ?_) (fun _ _ _ _ _ _ us hl => match us, hl with | [_], _ => rfl) (fun f cdv A outer s H vs Q E hr h => ?_)
  · obtain ⟨a, g, cs, rfl, _⟩ := h
    rfl
  · obtain ⟨a, g, cs, rfl, ⟨dx, wk, dr, p, h, bs, ha, hw, hp, hb⟩, k⟩ := h
    refine ⟨_, (pss_one (ps_if (pt_not (pt_val (pe_callB (C8.call_isC L.is) (by rfl) T.isi (by decide +kernel) (pa_cons (pv 0) (pa_cons (pe_glob (v := .ref CL) (by rfl) L.g rfl) pa_nil))))) (pss_one ps_never) pss_nil)), ?_⟩
    exact ⟨_, rfl, _, _, _, rfl, ha, true, rfl, iteF k⟩
def psub (p q : Int × Int) : Int × Int := (p.1 - q.1, p.2 - q.2)
def spDiff (K : PySem.W.Frag) : Sp := fun vs H Q _ => ∃ (a b : Addr) (p q : Int × Int), vs = [.ref a, .ref b] ∧ SqT K H a (pl p) ∧ SqT K H b (pl q) ∧ ∀ t, H t = none → Q (.ref t) (upd H t (.tup (pl (psub p q))))
theorem sc52 : FnScope ["one", "other"] ["one", "other"] (L2.defScope (top 52)) := fnScope_by (by decide +kernel)
theorem c_diff (D : DefT K mg 52 "difference") : Cal P w K mg base 1 "difference" (spDiff K) := by
  refine cal D sc52 (fun vs H Q E h => ?_) (fun _ _ _ _ _ _ us hl => match us, hl with | [_, _], _ => rfl) (fun f cdv A outer s H vs Q E hr h => ?_)
  · obtain ⟨a, b, p, q, rfl, _⟩ := h
    rfl
  · obtain ⟨a, b, p, q, rfl, ha, hb, k⟩ := h
    refine ⟨_, (pss_one (ps_ret (pe_tup (pa_cons (pe_op op_sub (pe_ix ix_tup (pv 0) pe_int (fun _ _ => rfl)) (pe_ix ix_tup (pv 1) pe_int (fun _ _ => rfl))) (pa_cons (pe_op op_sub (pe_ix ix_tup (pv 0) pe_int (fun _ _ => rfl)) (pe_ix ix_tup (pv 1) pe_int (fun _ _ => rfl))) pa_nil))))), ?_⟩
    exact ⟨_, rfl, _, _, _, _, rfl, rfl, ha, atI_nat (j := 0) rfl, _, rfl, _, _, _, _, rfl, rfl, hb, atI_nat (j := 0) rfl, _, _, rfl, rfl, _, rfl, _, _, _, _, rfl, rfl, ha, atI_nat (j := 1) rfl, _, rfl, _, _, _, _, rfl, rfl, hb, atI_nat (j := 1) rfl, _, _, rfl, rfl, (small64 (n := 2) (by decide)), k⟩
/-- the cell of the row r whose position is q -/
def cell (g : Bool) (r q : Int) : List Int := if g then [q / 2, r, q % 2] else [q, r]
def cposn (c : List Int) : Int := match c with
  | [x, _] => x
  | [x, _, k] => 2 * x + k
  | _ => 0
theorem cposn_cell (g : Bool) (r q : Int) : cposn (cell g r q) = q := by
  cases g
  · rfl
  · show 2 * (q / 2) + q % 2 = q
    omega
def spCellAt : Sp := fun vs H Q _ => ∃ (g : Bool) (r q : Int), vs = [net g, .int r, .int q] ∧ ∀ t, H t = none → Q (.ref t) (upd H t (.tup ((cell g r q).map V.int)))
theorem sc56 : FnScope ["net", "row", "at"] ["net", "row", "at"] (L2.defScope (top 56)) := fnScope_by (by decide +kernel)
theorem c_cellat (D : DefT K mg 56 "cell_at") : Cal P w K mg base 1 "cell_at" spCellAt := by
  refine cal D sc56 (fun vs H Q E h => ?_) (fun _ _ _ _ _ _ us hl => match us, hl with | [_, _, _], _ => rfl) (fun f cdv A outer s H vs Q E hr h => ?_)
  · obtain ⟨g, r, q, rfl, _⟩ := h
    rfl
  · obtain ⟨g, r, q, rfl, k⟩ := h
    refine ⟨_, (pss_one (ps_ret (pe_ifExp (pt_cmpR op_eq (pv 0) pe_str (nomark _)) (pe_tup (pa_cons (pv 2) (pa_cons (pv 1) pa_nil))) (pe_tup (pa_cons (pe_op op_fdiv (pv 2) pe_int) (pa_cons (pv 1) (pa_cons (pe_op op_mod (pv 2) pe_int) pa_nil))))))), ?_⟩
    refine ⟨_, rfl, rfl, _, rfl, itb (isSq g) ?_⟩
    cases g
    · exact iteT ⟨_, rfl, _, rfl, (small64 (n := 2) (by decide)), k⟩
    · refine iteF ⟨_, rfl, _, _, rfl, rfl, ⟨by decide, by decide⟩, _, rfl, _, rfl, _, _, rfl, rfl, (by show (0 : Int) < 2; decide), (small64 (n := 3) (by decide)), fun t ht => ?_⟩
      have z := k t ht
      exact z
def spPosn (K : PySem.W.Frag) : Sp := fun vs H Q _ => ∃ (a : Addr) (c : List Int), vs = [.ref a] ∧ SqT K H a (c.map V.int) ∧ (c.length = 2 ∨ c.length = 3) ∧ Q (.int (cposn c)) H
theorem sc55 : FnScope ["cell"] ["cell"] (L2.defScope (top 55)) := fnScope_by (by decide +kernel)
theorem c_posn (T : TxB K mg) (D : DefT K mg 55 "position") : Cal P w K mg base 1 "position" (spPosn K) := by
  refine cal D sc55 (fun vs H Q E h => ?_) (fun _ _ _ _ _ _ us hl => match us, hl with | [_], _ => rfl) (fun f cdv A outer s H vs Q E hr h => ?_)
  · obtain ⟨a, c, rfl, _⟩ := h
    rfl
  · obtain ⟨a, c, rfl, ha, hc, k⟩ := h
    refine ⟨_, (pss_one (ps_ret (pe_ifExp (pt_cmpR op_eq (pe_callB call_len_seq (by rfl) T.len PySem.boot_len (pa_cons (pv 0) pa_nil)) pe_int (nomark _)) (pe_ix ix_tup (pv 0) pe_int (fun _ _ => rfl)) (pe_op op_add (pe_op op_mul pe_int (pe_ix ix_tup (pv 0) pe_int (fun _ _ => rfl))) (pe_ix ix_tup (pv 0) pe_int (fun _ _ => rfl)))))), ?_⟩
    match c, hc with
    | [x, y], _ => exact ⟨_, rfl, _, _, rfl, .inr ha, rfl, _, rfl, iteT ⟨_, rfl, _, _, _, _, rfl, rfl, ha, atI_nat (j := 0) rfl, k⟩⟩
    | [x, y, z], _ => exact ⟨_, rfl, _, _, rfl, .inr ha, rfl, _, rfl, iteF ⟨_, rfl, _, _, _, _, rfl, rfl, ha, atI_nat (j := 0) rfl, _, _, rfl, rfl, .inl ⟨by decide, by decide⟩, _, rfl, _, _, _, _, rfl, rfl, ha, atI_nat (j := 2) rfl, _, _, rfl, rfl, k⟩⟩
/-- a move crosses the row r at q with the sign s -/
def cros (g : Bool) (a b : Int × Int) : Option (Int × Int × Int) :=
  if a.2 = b.2 then none else if a.2 < b.2 then some (a.2, if g then 2 * a.1 + b.1 - a.1 else a.1, 1) else some (b.2, if g then 2 * b.1 + a.1 - b.1 else b.1, -1)
def spCros (K : PySem.W.Frag) : Sp := fun vs H Q _ => ∃ (g : Bool) (a b : Addr) (p q : Int × Int), vs = [net g, .ref a, .ref b] ∧ H a = some (.tup (pl p)) ∧ H b = some (.tup (pl q)) ∧
  (cros g p q = none → Q .non H) ∧ (∀ r z s, cros g p q = some (r, z, s) → ∀ H' t, Same H H' → H' t = some (.tup [.int r, .int z, .int s]) → Q (.ref t) H')
theorem sc57 : FnScope ["net", "before", "after", "low", "high", "sign"] ["net", "before", "after"] (L2.defScope (top 57)) := fnScope_by (by decide +kernel)
theorem c_cros (D : DefT K mg 57 "crossing") : Cal P w K mg base 1 "crossing" (spCros K) := by
  refine cal D sc57 (fun vs H Q E h => ?_) (fun _ _ _ _ _ _ us hl => match us, hl with | [_, _, _], _ => rfl) (fun f cdv A outer s H vs Q E hr h => ?_)
  · obtain ⟨g, a, b, p, q, rfl, _⟩ := h
    rfl
  · obtain ⟨g, a, b, p, q, rfl, ha0, hb0, kn, ks⟩ := h
    have ha : SqT K H a (pl p) := .of ha0
    have hb : SqT K H b (pl q) := .of hb0
    refine ⟨_, pss_cons (ps_if (pt_cmpR op_eq (pe_ix ix_tup (pv 1) pe_int (fun _ _ => rfl)) (pe_ix ix_tup (pv 2) pe_int (fun _ _ => rfl)) (nomark _)) (pss_one (ps_ret pe_non)) pss_nil) (C8.pss_cut (ps_asg (pe_ifExp (pt_cmpR op_lt (pe_ix ix_tup (pv 1) pe_int (fun _ _ => rfl)) (pe_ix ix_tup (pv 2) pe_int (fun _ _ => rfl)) (nomark _)) (pe_tup (pa_cons (pv 1) (pa_cons (pv 2) (pa_cons pe_int pa_nil)))) (pe_tup (pa_cons (pv 2) (pa_cons (pv 1) (pa_cons (pe_un un_neg pe_int) pa_nil))))) (pg_tup rfl (pgs_cons (pg_name (i := 3) sc57.nd rfl (Or.inl rfl)) (pgs_cons (pg_name (i := 4) sc57.nd rfl (Or.inl rfl)) (pgs_cons (pg_name (i := 5) sc57.nd rfl (Or.inl rfl)) pgs_nil)))))
      (pss_cons (ps_if (pt_cmpR op_eq (pv 0) pe_str (nomark _)) (pss_one (ps_ret (pe_tup (pa_cons (pe_ix ix_tup (pv 3) pe_int (fun _ _ => rfl)) (pa_cons (pe_ix ix_tup (pv 3) pe_int (fun _ _ => rfl)) (pa_cons (pv 5) pa_nil)))))) pss_nil) (pss_one (ps_ret (pe_tup (pa_cons (pe_ix ix_tup (pv 3) pe_int (fun _ _ => rfl)) (pa_cons (pe_op op_sub (pe_op op_add (pe_op op_mul pe_int (pe_ix ix_tup (pv 3) pe_int (fun _ _ => rfl))) (pe_ix ix_tup (pv 4) pe_int (fun _ _ => rfl))) (pe_ix ix_tup (pv 3) pe_int (fun _ _ => rfl))) (pa_cons (pv 5) pa_nil)))))))), ?_⟩
    refine ⟨_, rfl, _, _, _, _, rfl, rfl, ha, atI_nat (j := 1) rfl, _, rfl, _, _, _, _, rfl, rfl, hb, atI_nat (j := 1) rfl, rfl, _, rfl, ?_⟩
    refine ite2 (fun z => ?_) fun z => ?_
    · have z := of_decide_eq_true z
      injection z with z
      exact kn (if_pos z)
    · have n : p.2 ≠ q.2 := fun y => z (decide_eq_true (by rw [y]))
      have fin : ∀ (lo hi : Addr) (l h : Int × Int) (sg : Int), (H lo = some (.tup (pl l)) ∧ H hi = some (.tup (pl h)) ∧ cros g p q = some (l.2, if g then 2 * l.1 + h.1 - l.1 else l.1, sg)) → True := fun _ _ _ _ _ _ => trivial
      refine ⟨fun σ' H' => ∃ (lo hi : Addr) (l h : Int × Int) (sg : Int), σ' = [some (net g), some (.ref a), some (.ref b), some (.ref lo), some (.ref hi), some (.int sg)] ∧ Same H H' ∧ H lo = some (.tup (pl l)) ∧ H hi = some (.tup (pl h)) ∧
        cros g p q = some (l.2, if g then 2 * l.1 + h.1 - l.1 else l.1, sg), ?_, ?_⟩
      · refine ⟨_, rfl, _, _, _, _, rfl, rfl, ha, atI_nat (j := 1) rfl, _, rfl, _, _, _, _, rfl, rfl, hb, atI_nat (j := 1) rfl, _, _, rfl, rfl, _, rfl, ite2 (fun y => ?_) fun y => ?_⟩
        · refine ⟨_, rfl, _, rfl, (small64 (n := 3) (by decide)), fun t ht => ⟨t, _, rfl, .of upd_same, rfl, _, _, rfl, _, _, rfl, _, _, rfl, rfl, a, b, p, q, 1, rfl, same_upd ht, ha0, hb0, ?_⟩⟩
          have y := of_decide_eq_true y
          exact (if_neg n).trans (if_pos y)
        · refine ⟨_, rfl, _, rfl, 1, rfl, (small64 (n := 3) (by decide)), fun t ht => ⟨t, _, rfl, .of upd_same, rfl, _, _, rfl, _, _, rfl, _, _, rfl, rfl, b, a, q, p, -1, rfl, same_upd ht, hb0, ha0, ?_⟩⟩
          exact (if_neg n).trans (if_neg fun x => y (decide_eq_true x))
      · rintro _ H1 ⟨lo, hi, l, h, sg, rfl, s1, e1, e2, ec⟩
        have h1 : SqT K H1 lo (pl l) := .of (s1 _ _ e1)
        have h2 : SqT K H1 hi (pl h) := .of (s1 _ _ e2)
        have kk := ks _ _ _ ec
        refine ⟨_, rfl, rfl, _, rfl, itb (isSq g) ?_⟩
        cases g
        · exact iteT ⟨_, rfl, _, _, _, _, rfl, rfl, h1, atI_nat (j := 1) rfl, _, rfl, _, _, _, _, rfl, rfl, h1, atI_nat (j := 0) rfl, _, rfl, (small64 (n := 3) (by decide)), fun t ht => kk _ t (same_put s1 (Same.free s1 ht)) upd_same⟩
        · exact iteF ⟨_, rfl, _, _, _, _, rfl, rfl, h1, atI_nat (j := 1) rfl, _, rfl, _, _, _, _, rfl, rfl, h1, atI_nat (j := 0) rfl, _, _, rfl, rfl, .inl ⟨by decide, by decide⟩, _, rfl, _, _, _, _, rfl, rfl, h2, atI_nat (j := 0) rfl, _, _, rfl, rfl, _, rfl, _, _, _, _, rfl, rfl, h1, atI_nat (j := 0) rfl, _, _, rfl, rfl, _, rfl, (small64 (n := 3) (by decide)), fun t ht => kk _ t (same_put s1 (Same.free s1 ht)) upd_same⟩
end
end K53
set_option maxHeartbeats 4000000
namespace K53
open PySem PySem.Spec PyProof.Rows L2
open C8 (fnScope_by pe_mk pe_mt pe_mt0 InsC)
open SX (S)
/-! ### little tables -/
section
variable {α β γ δ : Type} [DecidableEq α] [DecidableEq γ]
def valG (l : List (α × β)) (a : α) : Option β := (l.find? fun p => decide (p.1 = a)).map (·.2)
def putG (l : List (α × β)) (a : α) (b : β) : List (α × β) := if (l.any fun p => decide (p.1 = a)) = true then l.map (fun p => if p.1 = a then (p.1, b) else p) else l ++ [(a, b)]
theorem val_enc (f : α → γ) (h : β → V) (inj : ∀ x y, f x = f y → x = y) (l : List (α × β)) (a : α) : valV (l.map fun p => (f p.1, h p.2)) (f a) = (valG l a).map h := by
  induction l with
  | nil => rfl
  | cons p l ih =>
    unfold valV valG at *
    rw [List.map_cons, List.find?_cons, List.find?_cons]
    by_cases e : p.1 = a
    · simp [e]
    · have e' : ¬ f p.1 = f a := fun z => e (inj _ _ z)
      simp only [e, e', decide_false]
      exact ih
theorem put_enc (f : α → γ) (h : β → V) (inj : ∀ x y, f x = f y → x = y) (l : List (α × β)) (a : α) (b : β) : putK (l.map fun p => (f p.1, h p.2)) (f a) (h b) = (putG l a b).map fun p => (f p.1, h p.2) := by
  have ha : ((l.map fun p => (f p.1, h p.2)).any fun kv => decide (kv.1 = f a)) = l.any fun p => decide (p.1 = a) := by
    rw [List.any_map]
    congr 1
    funext p
    exact decide_eq_decide.mpr ⟨inj _ _, fun z => congrArg f z⟩
  unfold putK putG
  rw [ha]
  by_cases e : (l.any fun p => decide (p.1 = a)) = true
  · rw [if_pos e, if_pos e, List.map_map, List.map_map]
    refine List.map_congr_left fun p _ => ?_
    show (if f p.1 = f a then (f p.1, h b) else (f p.1, h p.2)) = (fun p : α × β => (f p.1, h p.2)) (if p.1 = a then (p.1, b) else p)
    by_cases z : p.1 = a
    · rw [if_pos z, if_pos (congrArg f z)]
    · rw [if_neg z, if_neg fun y => z (inj _ _ y)]
  · rw [if_neg e, if_neg e, List.map_append]
    rfl
theorem putG_keys (l : List (α × β)) (a : α) (b : β) : (putG l a b).map (·.1) = if a ∈ l.map (·.1) then l.map (·.1) else l.map (·.1) ++ [a] := by
  unfold putG
  by_cases e : a ∈ l.map (·.1)
  · have h : (l.any fun p => decide (p.1 = a)) = true := by
      obtain ⟨p, h1, h2⟩ := List.mem_map.mp e
      exact List.any_eq_true.mpr ⟨p, h1, decide_eq_true h2⟩
    rw [if_pos h, if_pos e, List.map_map]
    refine List.map_congr_left fun p _ => ?_
    show (if p.1 = a then (p.1, b) else p).1 = p.1
    split <;> rfl
  · have h : ¬ (l.any fun p => decide (p.1 = a)) = true := by
      intro z
      obtain ⟨p, h1, h2⟩ := List.any_eq_true.mp z
      exact e (List.mem_map.mpr ⟨p, h1, of_decide_eq_true h2⟩)
    rw [if_neg h, if_neg e, List.map_append]
    rfl
theorem putG_nodup {l : List (α × β)} (h : (l.map (·.1)).Nodup) (a : α) (b : β) : ((putG l a b).map (·.1)).Nodup := by
  rw [putG_keys]
  split
  · exact h
  · next e => exact List.nodup_append.mpr ⟨h, by simp, fun x hx y hy z => e (by rw [← List.mem_singleton.mp hy, ← z]; exact hx)⟩
theorem valG_none {l : List (α × β)} {a : α} : valG l a = none ↔ a ∉ l.map (·.1) := by
  unfold valG
  rw [Option.map_eq_none_iff, List.find?_eq_none]
  constructor
  · intro h z
    obtain ⟨p, h1, h2⟩ := List.mem_map.mp z
    exact h p h1 (decide_eq_true h2)
  · intro h p hp z
    exact h (List.mem_map.mpr ⟨p, hp, of_decide_eq_true z⟩)
theorem valG_some {l : List (α × β)} {a : α} {b : β} (h : valG l a = some b) : (a, b) ∈ l := by
  unfold valG at h
  obtain ⟨p, h1, h2⟩ := Option.map_eq_some_iff.mp h
  have h3 := List.find?_some h1
  have h4 := List.mem_of_find?_eq_some h1
  have e : p.1 = a := of_decide_eq_true h3
  rw [← e, ← h2]
  exact h4
end
/-! ### rows of crossings -/
abbrev Ev := List (Int × Int)
abbrev Cr := Int × Int × Int
def evGet (ev : Ev) (z : Int) : Int := (valG ev z).getD 0
def evAdd (ev : Ev) (z s : Int) : Ev := putG ev z (evGet ev z + s)
def rwAdd (rs : List (Int × Ev)) (c : Cr) : List (Int × Ev) := putG rs c.1 (evAdd ((valG rs c.1).getD []) c.2.1 c.2.2)
def crs (g : Bool) (ps : List (Int × Int)) : List Cr := (ps.zip (ps.drop 1 ++ ps.take 1)).filterMap fun z => cros g z.1 z.2
def rws (cs : List Cr) : List (Int × Ev) := cs.foldl rwAdd []
/-- what lies right of q -/
def esum (ev : Ev) (q : Int) : Int := ((ev.filter fun p => decide (q < p.1)).map (·.2)).sum
def mxk (ev : Ev) : Int := (ev.map (·.1)).foldl max ((ev.map (·.1)).headD 0)
def mnk (ev : Ev) : Int := (ev.map (·.1)).foldl min ((ev.map (·.1)).headD 0)
/-- the cells of a row, from the right -/
def wrow (g : Bool) (r : Int) (ev : Ev) : List (List Int × Int) := (List.range (mxk ev - mnk ev).toNat).filterMap fun (j : Nat) =>
  if esum ev (mxk ev - 1 - j) = 0 then none else some (cell g r (mxk ev - 1 - j), esum ev (mxk ev - 1 - j))
def wnd (g : Bool) (rs : List (Int × Ev)) : List (List Int × Int) := rs.flatMap fun r => wrow g r.1 r.2
/-- a row's number at a position -/
def rnum (rs : List (Int × Ev)) (r q : Int) : Int := esum ((valG rs r).getD []) q
theorem fold_max : ∀ (l : List Int) (a : Int), (l.foldl max a = a ∨ l.foldl max a ∈ l) ∧ a ≤ l.foldl max a ∧ ∀ x ∈ l, x ≤ l.foldl max a
  | [], a => ⟨.inl rfl, Int.le_refl _, fun x h => nomatch h⟩
  | y :: l, a => by
    obtain ⟨h1, h2, h3⟩ := fold_max l (max a y)
    rw [List.foldl_cons]
    refine ⟨?_, Int.le_trans (Int.le_max_left a y) h2, fun x hx => ?_⟩
    · rcases h1 with h | h
      · rcases Int.le_total a y with z | z
        · rw [Int.max_eq_right z] at h
          right
          rw [Int.max_eq_right z, h]
          exact List.mem_cons_self
        · rw [Int.max_eq_left z] at h
          left
          rw [Int.max_eq_left z, h]
      · exact .inr (List.mem_cons_of_mem _ h)
    · rcases List.mem_cons.mp hx with rfl | hx
      · exact Int.le_trans (Int.le_max_right a _) h2
      · exact h3 x hx
theorem fold_min : ∀ (l : List Int) (a : Int), (l.foldl min a = a ∨ l.foldl min a ∈ l) ∧ l.foldl min a ≤ a ∧ ∀ x ∈ l, l.foldl min a ≤ x
  | [], a => ⟨.inl rfl, Int.le_refl _, fun x h => nomatch h⟩
  | y :: l, a => by
    obtain ⟨h1, h2, h3⟩ := fold_min l (min a y)
    rw [List.foldl_cons]
    refine ⟨?_, Int.le_trans h2 (Int.min_le_left a y), fun x hx => ?_⟩
    · rcases h1 with h | h
      · rcases Int.le_total a y with z | z
        · rw [Int.min_eq_left z] at h
          left
          rw [Int.min_eq_left z, h]
        · rw [Int.min_eq_right z] at h
          right
          rw [Int.min_eq_right z, h]
          exact List.mem_cons_self
      · exact .inr (List.mem_cons_of_mem _ h)
    · rcases List.mem_cons.mp hx with rfl | hx
      · exact Int.le_trans h2 (Int.min_le_right a _)
      · exact h3 x hx
theorem mxk_is {ev : Ev} (h : ev ≠ []) : mxk ev ∈ ev.map (·.1) ∧ ∀ x ∈ ev.map (·.1), x ≤ mxk ev := by
  unfold mxk
  obtain ⟨a, b, c⟩ := fold_max (ev.map (·.1)) ((ev.map (·.1)).headD 0)
  refine ⟨?_, c⟩
  rcases a with a | a
  · rw [a]
    cases ev with
    | nil => exact absurd rfl h
    | cons p l => exact List.mem_cons_self
  · exact a
theorem mnk_is {ev : Ev} (h : ev ≠ []) : mnk ev ∈ ev.map (·.1) ∧ ∀ x ∈ ev.map (·.1), mnk ev ≤ x := by
  unfold mnk
  obtain ⟨a, b, c⟩ := fold_min (ev.map (·.1)) ((ev.map (·.1)).headD 0)
  refine ⟨?_, c⟩
  rcases a with a | a
  · rw [a]
    cases ev with
    | nil => exact absurd rfl h
    | cons p l => exact List.mem_cons_self
  · exact a
theorem esum_top {ev : Ev} {q : Int} (h : ∀ x ∈ ev.map (·.1), x ≤ q) : esum ev q = 0 := by
  unfold esum
  have e : (ev.filter fun p => decide (q < p.1)) = [] := by
    rw [List.filter_eq_nil_iff]
    intro p hp z
    have a := h p.1 (List.mem_map.mpr ⟨p, hp, rfl⟩)
    have b := of_decide_eq_true z
    omega
  rw [e]
  rfl
theorem esum_step {ev : Ev} (nd : (ev.map (·.1)).Nodup) (q : Int) : esum ev (q - 1) = esum ev q + evGet ev q := by
  induction ev with
  | nil => rfl
  | cons p l ih =>
    rw [List.map_cons, List.nodup_cons] at nd
    have ih := ih nd.2
    unfold esum evGet valG at *
    rw [List.filter_cons, List.filter_cons, List.find?_cons]
    by_cases e : p.1 = q
    · have h1 : decide (q - 1 < p.1) = true := decide_eq_true (by omega)
      have h2 : decide (q < p.1) = false := decide_eq_false (by omega)
      have h3 : decide (p.1 = q) = true := decide_eq_true e
      have h4 : (l.find? fun x => decide (x.1 = q)) = none := by
        rw [List.find?_eq_none]
        intro x hx z
        refine nd.1 ?_
        rw [e, ← of_decide_eq_true z]
        exact List.mem_map.mpr ⟨x, hx, rfl⟩
      rw [h4] at ih
      rw [h1, h2, h3]
      simp only [if_true, Bool.false_eq_true, if_false, List.map_cons, List.sum_cons, Option.map_some, Option.getD_some]
      rw [ih]
      simp only [Option.map_none, Option.getD_none]
      omega
    · have h3 : decide (p.1 = q) = false := decide_eq_false e
      rw [h3]
      by_cases h1 : q < p.1
      · rw [decide_eq_true h1, decide_eq_true (by omega : q - 1 < p.1)]
        simp only [if_true, List.map_cons, List.sum_cons]
        rw [ih]
        omega
      · rw [decide_eq_false h1, decide_eq_false (by omega : ¬ q - 1 < p.1)]
        simp only [Bool.false_eq_true, if_false]
        exact ih
end K53
set_option maxHeartbeats 4000000
namespace K53
open PySem PySem.Spec PyProof.Rows L2
open C8 (fnScope_by pe_mk pe_mt pe_mt0 InsC)
open SX (S)
abbrev kK : Str := Str.ofString "known"
abbrev kO : Str := Str.ofString "rows"
abbrev kA : Str := Str.ofString "own_area"
abbrev kT : Str := Str.ofString "own_turning"
abbrev kI : Str := Str.ofString "own_inner"
/-- the class Outline -/
structure TxO (K : PySem.W.Frag) (mg : Str → Option Value) (CO : Addr) : Prop where
  cl : Cls K CO
  g : mg "Outline" = some (.ref CO)
  n1 : NoAttr K CO "own_net"
  n2 : NoAttr K CO "own_places"
  n3 : NoAttr K CO "known"
  n4 : NoAttr K CO "rows"
  n5 : NoAttr K CO "own_area"
  n6 : NoAttr K CO "own_turning"
  n7 : NoAttr K CO "own_inner"
/-! ### pairs of places -/
def prs (ps : List (Int × Int)) : List ((Int × Int) × (Int × Int)) := ps.zip (ps.drop 1 ++ ps.take 1)
def Pr1 (H : Hp) (t : Addr) (z : (Int × Int) × (Int × Int)) : Prop := ∃ b c, H t = some (.tup [.ref b, .ref c]) ∧ H b = some (.tup (pl z.1)) ∧ H c = some (.tup (pl z.2))
abbrev Prs (H : Hp) (ts : List Addr) (zs : List ((Int × Int) × (Int × Int))) : Prop := Paired (Pr1 H) ts zs
theorem pr1_sam {H H' : Hp} (s : SamT H H') {t : Addr} {z : (Int × Int) × (Int × Int)} (h : Pr1 H t z) : Pr1 H' t z := by
  obtain ⟨b, c, h1, h2, h3⟩ := h
  exact ⟨b, c, s _ _ h1, s _ _ h2, s _ _ h3⟩
theorem prs_sam {H H' : Hp} (s : SamT H H') {ts : List Addr} {zs : List ((Int × Int) × (Int × Int))} (h : Prs H ts zs) : Prs H' ts zs := Paired.mapP h fun _ _ z => pr1_sam s z
theorem cut_1 (xs : List V) : cutV xs (some 1) none = xs.drop 1 := by
  have e : HT.sIx xs.length 0 (some 1) = min 1 xs.length := HT.sIx_nat xs.length 0 1
  unfold cutV
  rw [e, HT.sIx_none]
  cases xs with
  | nil => rfl
  | cons x xs =>
    have e2 : min 1 (x :: xs).length = 1 := Nat.min_eq_left (by simp)
    rw [e2]
    show (xs.take (xs.length + 1 - 1)) = xs
    rw [Nat.add_sub_cancel, List.take_length]
theorem cut_2 (xs : List V) : cutV xs none (some 1) = xs.take 1 := by
  have e : HT.sIx xs.length xs.length (some 1) = min 1 xs.length := HT.sIx_nat xs.length xs.length 1
  unfold cutV
  rw [e, HT.sIx_none, List.drop_zero, Nat.sub_zero]
  cases xs with
  | nil => rfl
  | cons x xs =>
    have e2 : min 1 (x :: xs).length = 1 := Nat.min_eq_left (by simp)
    rw [e2]
theorem pair_drop {α β : Type} {F : α → β → Prop} {l : List α} {m : List β} (a : Paired F l m) : ∀ n, Paired F (l.drop n) (m.drop n) := by
  induction a with
  | nil =>
    intro n
    rw [List.drop_nil, List.drop_nil]
    exact .nil
  | cons h t ih =>
    rintro (_ | n)
    · exact .cons h t
    · exact ih n
theorem pair_take {α β : Type} {F : α → β → Prop} {l : List α} {m : List β} (a : Paired F l m) : ∀ n, Paired F (l.take n) (m.take n) := by
  induction a with
  | nil =>
    intro n
    rw [List.take_nil, List.take_nil]
    exact .nil
  | cons h t ih =>
    rintro (_ | n)
    · exact .nil
    · exact .cons h (ih n)
/-- from the pairs of addresses to the pairs of places -/
theorem prs_of {H H' : Hp} (s : SamT H H') : ∀ {bs cs : List Addr} {ps qs : List (Int × Int)} {ts : List Addr}, Pts H bs ps → Pts H cs qs →
    Paired (fun t (z : V × V) => H' t = some (.tup [z.1, z.2])) ts ((bs.map V.ref).zip (cs.map V.ref)) → Prs H' ts (ps.zip qs)
  | _, _, _, _, _, .nil, _, h => by
    cases h
    exact .nil
  | _, _, _, _, _, .cons _ _, .nil, h => by
    cases h
    exact .nil
  | _, _, _, _, _, .cons a b, .cons c d, h => by
    cases h with
    | cons x y => exact .cons ⟨_, _, x, s _ _ a, s _ _ c⟩ (prs_of s b d y)
section
variable {P : Program} {w : World} {K : PySem.W.Frag} {mg : Str → Option Value} {base : Heap} {CO : Addr}
def spPairs (CO : Addr) : Sp := fun vs H Q _ => ∃ (a dx pA : Addr) (fs : Fs) (bs : List Addr) (ps : List (Int × Int)), vs = [.ref a] ∧ H a = some (.ins CO dx fs) ∧ fs.lookup kP = some (.ref pA) ∧ H pA = some (.lst (bs.map V.ref)) ∧ Pts H bs ps ∧ ps.length ≤ 1000 ∧
  ∀ H' l ts, Same H H' → H' l = some (.lst (ts.map V.ref)) → Prs H' ts (prs ps) → Q (.ref l) H'
theorem scO1 : FnScope ["self"] ["self"] (L2.defScope (icl 58 1)) := fnScope_by (by decide +kernel)
theorem o_pairs (T : TxB K mg) (O : TxO K mg CO) (d : MetT K CO "move_pairs" "Outline.move_pairs" (icl 58 1)) : Met P w K mg base 1 CO "move_pairs" (spPairs CO) := by
  refine met O.cl d scO1 (fun vs H Q E h => ?_) (fun _ _ _ _ _ _ us hl => match us, hl with | [_], _ => rfl) (fun f cdv A outer s H vs Q E hr h => ?_)
  · obtain ⟨a, dx, pA, fs, bs, ps, rfl, _⟩ := h
    rfl
  · obtain ⟨a, dx, pA, fs, bs, ps, rfl, ha, hl, hp, hb, hz, k⟩ := h
    refine ⟨_, (pss_one (ps_ret (pe_listZip rfl T.list T.zip (pa_cons (pe_fld (pv 0) rfl) (pa_cons (pe_op op_cat (pe_slice sl_list (pe_fld (pv 0) rfl) (po_some pe_int) po_none) (pe_slice sl_list (pe_fld (pv 0) rfl) po_none (po_some pe_int))) pa_nil))))), ?_⟩
    refine ⟨_, rfl, _, _, _, _, _, rfl, ha, O.cl, O.n2, hl, ?_⟩
    refine ⟨_, rfl, _, _, _, _, _, rfl, ha, O.cl, O.n2, hl, 1, rfl, pA, _, rfl, .of hp, fun p1 hp1 => ?_⟩
    have s1 := same_upd (o := .lst (cutV (bs.map V.ref) (some 1) none)) hp1
    refine ⟨_, rfl, _, _, _, _, _, rfl, s1 _ _ ha, O.cl, O.n2, hl, 1, rfl, pA, _, rfl, .of (s1 _ _ hp), fun p2 hp2 => ?_⟩
    have s2 := same_put (o := .lst (cutV (bs.map V.ref) none (some 1))) s1 (Same.free s1 hp2)
    have n12 : p1 ≠ p2 := fun z => by rw [← z, upd_same] at hp2; cases hp2
    have hlb := Paired.length hb
    have l1 := cutV_length (bs.map V.ref) (some 1) none
    have l2 := cutV_length (bs.map V.ref) none (some 1)
    rw [List.length_map] at l1 l2
    refine ⟨p1, p2, _, _, rfl, rfl, by rw [upd_ne n12, upd_same], upd_same, Nat.le_trans (by omega : _ ≤ 2000) (by decide), fun p3 hp3 => ?_⟩
    have s3 := same_put (o := .lst (cutV (bs.map V.ref) (some 1) none ++ cutV (bs.map V.ref) none (some 1))) s2 (Same.free s2 hp3)
    refine ⟨pA, p3, _, _, rfl, .of (s3 _ _ hp), .of upd_same, ?_, fun l ts H' hl0 s4 e4 h4 => ?_⟩
    · rw [cut_1, cut_2]
      simp only [List.length_append, List.length_drop, List.length_take, List.length_map]
      omega
    · rw [cut_1, cut_2, ← List.map_drop, ← List.map_take, ← List.map_append] at h4
      exact k H' l ts (Same.trans s3 s4) e4 (prs_of (samT_trans (samT_of s3) (samT_of s4)) hb (pair_app (pair_drop hb 1) (pair_take hb 1)) h4)
end
end K53
set_option maxHeartbeats 4000000
namespace K53
open PySem PySem.Spec PyProof.Rows L2
open C8 (fnScope_by pe_mk pe_mt pe_mt0 InsC)
open SX (S)
/-! ### the rows, as they lie -/
abbrev Tl := List (Int × Ev × Addr)
def encE (ev : Ev) : List (Key × V) := ev.map fun p => (Sum.inl p.1, V.int p.2)
def rsOf (tl : Tl) : List (Int × Ev) := tl.map fun t => (t.1, t.2.1)
structure RT (H : Hp) (d : Addr) (tl : Tl) : Prop where
  at_ : H d = some (.dK (tl.map fun t => (Sum.inl t.1, V.ref t.2.2)))
  ev : ∀ t ∈ tl, H t.2.2 = some (.dK (encE t.2.1))
  nd : (tl.map (·.2.2)).Nodup
  off : d ∉ tl.map (·.2.2)
  key : (tl.map (·.1)).Nodup
theorem kInl_inj : ∀ x y : Int, (Sum.inl x : Key) = Sum.inl y → x = y := fun _ _ h => by injection h
theorem encE_val (ev : Ev) (z : Int) : valV (encE ev) (Sum.inl z) = (valG ev z).map V.int := val_enc (fun x : Int => (Sum.inl x : Key)) V.int kInl_inj ev z
theorem encE_put (ev : Ev) (z n : Int) : putK (encE ev) (Sum.inl z) (V.int n) = encE (putG ev z n) := put_enc (fun x : Int => (Sum.inl x : Key)) V.int kInl_inj ev z n
theorem rt_val {tl : Tl} (r : Int) : valV (tl.map fun t => ((Sum.inl t.1 : Key), V.ref t.2.2)) (Sum.inl r) = ((tl.find? fun t => decide (t.1 = r)).map fun t => V.ref t.2.2) := by
  induction tl with
  | nil => rfl
  | cons t tl ih =>
    unfold valV at *
    rw [List.map_cons, List.find?_cons, List.find?_cons]
    by_cases e : t.1 = r
    · simp [e]
    · have e' : ¬ ((Sum.inl t.1 : Key) = Sum.inl r) := fun z => e (kInl_inj _ _ z)
      simp only [e, e', decide_false]
      exact ih
theorem rt_valG {tl : Tl} (r : Int) : valG (rsOf tl) r = ((tl.find? fun t => decide (t.1 = r)).map fun t => t.2.1) := by
  induction tl with
  | nil => rfl
  | cons t tl ih =>
    unfold valG rsOf at *
    rw [List.map_cons, List.find?_cons, List.find?_cons]
    by_cases e : t.1 = r
    · simp [e]
    · simp only [e, decide_false]
      exact ih
theorem sqT_put {K : PySem.W.Frag} {H : Hp} {c e : Addr} {xs : List V} {kvs : List (Key × V)} {o : HO} (h : SqT K H c xs) (he : H e = some (.dK kvs)) : SqT K (upd H e o) c xs := by
  rcases h with (h | ⟨u, h⟩) | h
  · exact .inl (.inl (by rw [upd_ne (fun z => by rw [z, he] at h; cases h)]; exact h))
  · exact .inl (.inr ⟨u, by rw [upd_ne (fun z => by rw [z, he] at h; cases h)]; exact h⟩)
  · exact .inr h
/-- a lock is taken off -/
theorem unlock {H H' : Hp} {e : Addr} {u v : HO} (he : H e = some u) (s : Same (upd H e v) H') : Same H (upd H' e u) := by
  intro b o eb
  by_cases z : b = e
  · rw [z] at eb ⊢
    rw [upd_same, ← he, eb]
  · rw [upd_ne z]
    exact s _ _ (by rw [upd_ne z]; exact eb)
section
variable {P : Program} {w : World} {K : PySem.W.Frag} {mg : Str → Option Value} {base : Heap} {CO : Addr}
def spNum (K : PySem.W.Frag) (CO : Addr) : Sp := fun vs H Q _ => ∃ (a dx c d : Addr) (fs : Fs) (tl : Tl) (cl : List Int) (r : Int), vs = [.ref a, .ref c] ∧ H a = some (.ins CO dx fs) ∧ fs.lookup kO = some (.ref d) ∧ RT H d tl ∧ SqT K H c (cl.map V.int) ∧ (cl.length = 2 ∨ cl.length = 3) ∧ cl[1]? = some r ∧
  (∀ t ∈ tl, t.2.1.length ≤ 1000) ∧ ∀ H', Same H H' → Q (.int (rnum (rsOf tl) r (cposn cl))) H'
abbrev nO3 : List Str := ["self", "cell", "events", "at", "number"]
theorem scO3 : FnScope nO3 ["self", "cell"] (L2.defScope (icl 58 3)) := fnScope_by (by decide +kernel)
theorem o_num (T : TxB K mg) (O : TxO K mg CO) (d : MetT K CO "number_of" "Outline.number_of" (icl 58 3)) (cp : Cal P w K mg base 1 "position" (spPosn K)) : Met P w K mg base 2 CO "number_of" (spNum K CO) := by
  refine met O.cl d scO3 (fun vs H Q E h => ?_) (fun _ _ _ _ _ _ us hl => match us, hl with | [_, _], _ => rfl) (fun f cdv A outer s H vs Q E hr h => ?_)
  · obtain ⟨a, dx, c, d, fs, tl, cl, r, rfl, _⟩ := h
    rfl
  · obtain ⟨a, dx, c, d, fs, tl, cl, r, rfl, ha, hf, hR, hc, hl, h1, hz, k⟩ := h
    refine ⟨_, C8.pss_cut (ps_set (i := 2) scO3.nd rfl (Or.inl rfl) (pe_dget2 (hu_of hr) (pe_fld (pv 0) rfl) (pe_ix ix_tup (pv 1) pe_int (fun _ _ => rfl)) pe_dnewK ⟨by rfl, by rfl, by rfl, by rfl⟩)) (pss_one (ps_ret (pe_callB (cr_sum rfl) (by rfl) T.sum (by decide +kernel) (pa_cons (pe_lock (pe_lc (own := [("at", 3), ("number", 4)]) (g := gTup K 2 (gCons (gName 3) (gCons (gName 4) gNil))) rfl scO3.nd (pi_items (pv 2)) (blkOk_by (own := [("at", 3), ("number", 4)]) (N := nO3) (sc := L2.defScope (icl 58 3)) (by decide +kernel)) (fun _ _ _ _ _ => (pg_tup rfl (pgs_cons (pg_name (i := 3) scO3.nd rfl (Or.inl rfl)) (pgs_cons (pg_name (i := 4) scO3.nd rfl (Or.inl rfl)) pgs_nil)))) (fun _ _ _ _ _ => (pts_one (pt_cmpR op_gt (pv 3) (C8.pe_c cp hr (by decide) rfl (pa_cons (pv 1) pa_nil)) (nomark _)))) (fun _ _ _ _ _ => (pv 4)))) pa_nil)))), ?_⟩
    refine ⟨fun σ' H' => ∃ e ev, σ' = [some (.ref a), some (.ref c), some (.ref e), none, none] ∧ Same H H' ∧ H' e = some (.dK (encE ev)) ∧ ev = (valG (rsOf tl) r).getD [] ∧ ev.length ≤ 1000, ?_, ?_⟩
    · refine ⟨_, rfl, _, _, _, _, _, rfl, ha, O.cl, O.n4, hf, d, rfl, .inl ⟨_, .of hR.at_⟩, _, rfl, _, _, _, .int r, rfl, rfl, hc, atI_nat (j := 1) (by rw [List.getElem?_map, h1]; rfl), fun e he => ?_⟩
      have s1 := same_upd (o := .dK []) he
      refine ⟨_, DGet.k (k := Sum.inl r) (s1 _ _ hR.at_), ?_⟩
      rw [rt_val, rt_valG]
      cases hfd : tl.find? fun t => decide (t.1 = r) with
      | none => exact ⟨e, [], rfl, s1, upd_same, rfl, Nat.zero_le _⟩
      | some t =>
        have hm := List.mem_of_find?_eq_some hfd
        exact ⟨t.2.2, t.2.1, rfl, s1, s1 _ _ (hR.ev t hm), rfl, hz t hm⟩
    · rintro _ H1 ⟨e, ev, rfl, s1, e1, hev, hle⟩
      refine ⟨e, _, e1, True.intro, fun od => ?_⟩
      generalize hHf : upd H1 e _ = Hf
      have ef : Hf e = some (.frz od (.dK (encE ev))) := by rw [← hHf]; exact upd_same
      have cf : SqT K Hf c (cl.map V.int) := by rw [← hHf]; exact sqT_put (same_tup s1 hc) e1
      refine ⟨_, rfl, e, od, _, rfl, ef, fun D hD => lc_it walk_items (fun i H' => Same Hf H' ∧ H' D = some (.lst ((((ev.take i).filter fun p => decide (cposn cl < p.1)).map (·.2)).map V.int))) ⟨same_upd hD, upd_same⟩ (fun _ H' _ z => z.1 _ _ ef) ?_ ?_⟩
      · rintro i _ H2 _ hi ⟨s2, e2⟩ ⟨t, x, y, rfl, ht, rfl, hx, hy⟩
        have hi' : i < ev.length := by simpa [encE] using hi
        have hp : ev[i]? = some ev[i] := List.getElem?_eq_getElem hi'
        generalize ev[i] = p at hp
        have he : (encE ev)[i]? = some (Sum.inl p.1, .int p.2) := by unfold encE; rw [List.getElem?_map, hp]; rfl
        have hx : (encE ev)[i]?.map (fun kv => kV kv.1) = some x := hx
        have hy : (encE ev)[i]?.map Prod.snd = some y := hy
        rw [he] at hx hy
        cases (show some (V.int p.1) = some x from hx)
        cases (show some (V.int p.2) = some y from hy)
        have s3 := same_put (o := .tup [.int p.1, .int p.2]) s2 (Same.free s2 ht)
        refine ⟨t, _, rfl, .of upd_same, rfl, _, _, rfl, _, _, rfl, rfl, rfl, _, rfl, _, rfl, c, cl, rfl, same_tup s3 cf, hl, _, _, rfl, rfl, _, rfl, ?_⟩
        have nDt : D ≠ t := fun z => by rw [z, ht] at e2; cases e2
        rw [take_snoc hp, List.filter_append, List.map_append, List.map_append]
        by_cases hq : cposn cl < p.1
        · refine itb (b := true) (decide_eq_true hq) (iteT ?_)
          refine ⟨_, rfl, _, (by rw [upd_ne nDt]; exact e2), ?_, same_put s3 hD, ?_⟩
          · rw [List.length_map, List.length_map]
            refine Nat.lt_of_le_of_lt (Nat.le_trans (List.length_filter_le _ _) (Nat.le_trans (List.length_take_le' i ev) hle)) (by decide)
          · rw [upd_same, List.filter_cons, decide_eq_true hq]
            rfl
        · refine itb (b := false) (decide_eq_false hq) (iteF ?_)
          refine ⟨s3, ?_⟩
          rw [upd_ne nDt, e2, List.filter_cons, decide_eq_false hq]
          simp
      · rintro H2 ⟨s2, e2⟩
        have nDe : D ≠ e := fun z => by rw [z, ef] at hD; cases hD
        refine ⟨s2 _ _ ef, D, ((ev.filter fun p => decide (cposn cl < p.1)).map (·.2)), rfl, .of (by rw [upd_ne nDe, e2]; simp [encE]), ?_⟩
        rw [← hHf] at s2
        have z := k (upd H2 e (.dK (encE ev))) (Same.trans s1 (unlock e1 s2))
        rw [rnum, ← hev] at z
        exact z
end
end K53
set_option maxHeartbeats 4000000
namespace K53
open PySem PySem.Spec PyProof.Rows L2
open C8 (fnScope_by pe_mk pe_mt pe_mt0 InsC)
open SX (S)
/-- the encoding of windings -/
def kI1 (c : List Int) : List Key := c.map Sum.inl
def encW (ws : List (List Int × Int)) : List (List Key × V) := ws.map fun p => (kI1 p.1, V.int p.2)
theorem kI1_inj : ∀ x y, kI1 x = kI1 y → x = y := by
  intro x
  induction x with
  | nil =>
    intro y h
    cases y with
    | nil => rfl
    | cons a l => cases h
  | cons a l ih =>
    intro y h
    cases y with
    | nil => cases h
    | cons b m =>
      simp only [kI1, List.map_cons, List.cons.injEq] at h
      rw [kInl_inj _ _ h.1, ih m h.2]
theorem kI1_kV (c : List Int) : (kI1 c).map kV = c.map V.int := by
  unfold kI1
  rw [List.map_map]
  rfl
theorem encW_put {ws : List (List Int × Int)} {c : List Int} {n : Int} (h : c ∉ ws.map (·.1)) : putK (encW ws) (kI1 c) (V.int n) = encW (ws ++ [(c, n)]) := by
  have e := put_enc (fun x : List Int => kI1 x) V.int kI1_inj ws c n
  unfold encW
  rw [e]
  congr 1
  unfold putG
  rw [if_neg]
  intro z
  obtain ⟨p, h1, h2⟩ := List.any_eq_true.mp z
  exact h (List.mem_map.mpr ⟨p, h1, of_decide_eq_true h2⟩)
theorem cell_inj {g : Bool} {r q r' q' : Int} (h : cell g r q = cell g r' q') : r = r' ∧ q = q' := by
  refine ⟨?_, by rw [← cposn_cell g r q, h, cposn_cell]⟩
  cases g
  · have h : [q, r] = [q', r'] := h
    simp only [List.cons.injEq] at h
    exact h.2.1
  · have h : [q / 2, r, q % 2] = [q' / 2, r', q' % 2] := h
    simp only [List.cons.injEq] at h
    exact h.2.1
def wrowN (g : Bool) (r : Int) (ev : Ev) (n : Nat) : List (List Int × Int) := (List.range n).filterMap fun (j : Nat) =>
  if esum ev (mxk ev - 1 - j) = 0 then none else some (cell g r (mxk ev - 1 - j), esum ev (mxk ev - 1 - j))
theorem wrowN_succ (g : Bool) (r : Int) (ev : Ev) (n : Nat) : wrowN g r ev (n + 1) = wrowN g r ev n ++ if esum ev (mxk ev - 1 - n) = 0 then [] else [(cell g r (mxk ev - 1 - n), esum ev (mxk ev - 1 - n))] := by
  unfold wrowN
  rw [List.range_succ, List.filterMap_append]
  congr 1
  by_cases h : esum ev (mxk ev - 1 - n) = 0
  · rw [if_pos h, List.filterMap_cons, if_pos h]
    rfl
  · rw [if_neg h, List.filterMap_cons, if_neg h]
    rfl
theorem wrowN_key {g : Bool} {r : Int} {ev : Ev} {n : Nat} {c : List Int} (h : c ∈ (wrowN g r ev n).map (·.1)) : ∃ j : Nat, j < n ∧ c = cell g r (mxk ev - 1 - j) := by
  obtain ⟨p, h1, rfl⟩ := List.mem_map.mp h
  unfold wrowN at h1
  obtain ⟨j, h2, h3⟩ := List.mem_filterMap.mp h1
  refine ⟨j, List.mem_range.mp h2, ?_⟩
  split at h3
  · cases h3
  · cases h3
    rfl
theorem wrowN_len (g : Bool) (r : Int) (ev : Ev) (n : Nat) : (wrowN g r ev n).length ≤ n := by
  unfold wrowN
  exact Nat.le_trans (List.length_filterMap_le _ _) (by simp)
theorem wnd_key {g : Bool} {rs : List (Int × Ev)} {c : List Int} (h : c ∈ (wnd g rs).map (·.1)) : ∃ r ∈ rs.map (·.1), ∃ q, c = cell g r q := by
  obtain ⟨p, h1, rfl⟩ := List.mem_map.mp h
  unfold wnd at h1
  obtain ⟨x, h2, h3⟩ := List.mem_flatMap.mp h1
  obtain ⟨j, _, e⟩ := wrowN_key (c := p.1) (n := (mxk x.2 - mnk x.2).toNat) (List.mem_map.mpr ⟨p, h3, rfl⟩)
  exact ⟨x.1, List.mem_map.mpr ⟨x, h2, rfl⟩, _, e⟩
theorem not_take {α : Type} {l : List α} (nd : l.Nodup) {i : Nat} {x : α} (h : l[i]? = some x) : x ∉ l.take i := by
  intro z
  obtain ⟨n, hn, e⟩ := List.mem_iff_getElem.mp z
  rw [List.getElem_take] at e
  rw [List.length_take] at hn
  have e5 : l[n]? = some x := by rw [List.getElem?_eq_getElem (by omega), e]
  have := nd_ix nd e5 h
  omega
/-- the rows are few and short -/
def rwOk (rs : List (Int × Ev)) : Prop := rs.length ≤ 100 ∧ ∀ r ∈ rs, r.2 ≠ [] ∧ (r.2.map (·.1)).Nodup ∧ r.2.length ≤ 1000 ∧ mxk r.2 - mnk r.2 ≤ 200 ∧ -1000000 ≤ mnk r.2 ∧ mxk r.2 ≤ 1000000
theorem wnd_len (g : Bool) : ∀ (rs : List (Int × Ev)), (∀ r ∈ rs, mxk r.2 - mnk r.2 ≤ 200) → (wnd g rs).length ≤ rs.length * 200
  | [], _ => Nat.zero_le _
  | r :: rs, h => by
    have a := wnd_len g rs fun x hx => h x (List.mem_cons_of_mem _ hx)
    have b := wrowN_len g r.1 r.2 (mxk r.2 - mnk r.2).toNat
    have c := h r List.mem_cons_self
    have d : (wrowN g r.1 r.2 (mxk r.2 - mnk r.2).toNat).length ≤ 200 := by omega
    have e : (wnd g (r :: rs)).length = (wrowN g r.1 r.2 (mxk r.2 - mnk r.2).toNat).length + (wnd g rs).length := by
      unfold wnd
      rw [List.flatMap_cons, List.length_append]
      rfl
    rw [e, List.length_cons, Nat.succ_mul]
    omega
theorem wnd_snoc (g : Bool) (rs : List (Int × Ev)) (r : Int × Ev) : wnd g (rs ++ [r]) = wnd g rs ++ wrow g r.1 r.2 := by
  unfold wnd
  rw [List.flatMap_append, List.flatMap_cons, List.flatMap_nil, List.append_nil]
section
variable {P : Program} {w : World} {K : PySem.W.Frag} {mg : Str → Option Value} {base : Heap} {CO : Addr}
def spWnd (CO : Addr) : Sp := fun vs H Q _ => ∃ (a dx d : Addr) (fs : Fs) (g : Bool) (tl : Tl), vs = [.ref a] ∧ H a = some (.ins CO dx fs) ∧ fs.lookup kN = some (net g) ∧ fs.lookup kO = some (.ref d) ∧ RT H d tl ∧ rwOk (rsOf tl) ∧
  ∀ H' f, Same H H' → H f = none → H' f = some (.dT (encW (wnd g (rsOf tl)))) → Q (.ref f) H'
abbrev nO5 : List Str := ["self", "found", "row", "events", "number", "at"]
theorem scO5 : FnScope nO5 ["self"] (L2.defScope (icl 58 5)) := fnScope_by (by decide +kernel)
theorem o_wnd (T : TxB K mg) (O : TxO K mg CO) (d : MetT K CO "windings" "Outline.windings" (icl 58 5)) (cc : Cal P w K mg base 1 "cell_at" spCellAt) : Met P w K mg base 2 CO "windings" (spWnd CO) := by
  refine met O.cl d scO5 (fun vs H Q E h => ?_) (fun _ _ _ _ _ _ us hl => match us, hl with | [_], _ => rfl) (fun f cdv A outer s H vs Q E hr h => ?_)
  · obtain ⟨a, dx, d, fs, g, tl, rfl, _⟩ := h
    rfl
  · obtain ⟨a, dx, d, fs, g, tl, rfl, ha, hn, hf, hR, hok, k⟩ := h
    refine ⟨_, (pss_cons (ps_set (i := 1) scO5.nd rfl (Or.inl rfl) pe_dnewT) (pss_cons (ps_lock (ps_for PassesOwn.never rfl (pi_items (pe_fld (pv 0) rfl)) (pg_tup rfl (pgs_cons (pg_name (i := 2) scO5.nd rfl (Or.inl rfl)) (pgs_cons (pg_name (i := 3) scO5.nd rfl (Or.inl rfl)) pgs_nil))) (pss_cons (ps_set (i := 4) scO5.nd rfl (Or.inl rfl) pe_int) (pss_one (ps_for PassesOwn.never rfl (pi_range3 rfl T.range (pa_cons (pe_callB (cr_maxK rfl) (by rfl) T.max (by decide +kernel) (pa_cons (pv 3) pa_nil)) (pa_cons (pe_callB (cr_minK rfl) (by rfl) T.min (by decide +kernel) (pa_cons (pv 3) pa_nil)) (pa_cons (pe_un un_neg pe_int) pa_nil)))) (pg_name (i := 5) scO5.nd rfl (Or.inl rfl)) (pss_cons (ps_aug (i := 4) scO5.nd rfl (.inl rfl) (pe_dget2 (hu_of hr) (pv 3) (pv 5) pe_int ⟨by rfl, by rfl, by rfl, by rfl⟩) ip_add) (pss_one (ps_if (pt_cmpR op_ne (pv 4) pe_int (nomark _)) (pss_one (ps_dput (hu_of hr) (pv 1) (C8.pe_c cc hr (by decide) rfl (pa_cons (pe_fld (pv 0) rfl) (pa_cons (pv 2) (pa_cons (pe_op op_sub (pv 5) pe_int) pa_nil)))) (pv 4) (by rfl))) pss_nil)))))))) (pss_one (ps_ret (pv 1))))), ?_⟩
    intro f hf0
    have nfd : f ≠ d := fun z => by rw [z, hR.at_] at hf0; cases hf0
    have dA : upd H f (.dT []) d = some (.dK (tl.map fun t => (Sum.inl t.1, V.ref t.2.2))) := same_upd hf0 _ _ hR.at_
    refine ⟨d, _, dA, True.intro, fun od => ?_⟩
    generalize hu : HO.dK (tl.map fun t => (Sum.inl t.1, V.ref t.2.2)) = u at dA
    generalize hB : upd H d (.frz od u) = B
    have nad : a ≠ d := fun z => by rw [z, hR.at_] at ha; cases ha
    have aB : B a = some (.ins CO dx fs) := by rw [← hB, upd_ne nad]; exact ha
    have dB : B d = some (.frz od u) := by rw [← hB]; exact upd_same
    have fB : B f = none := by rw [← hB, upd_ne nfd]; exact hf0
    have eB : ∀ t ∈ tl, B t.2.2 = some (.dK (encE t.2.1)) := by
      intro t ht
      rw [← hB, upd_ne (fun z => hR.off (by rw [← z]; exact List.mem_map.mpr ⟨t, ht, rfl⟩))]
      exact hR.ev t ht
    have s0 : Same B (upd (upd H f (.dT [])) d (.frz od u)) := by
      intro b o e
      by_cases z : b = d
      · rw [z] at e ⊢
        rw [upd_same, ← dB, e]
      · rw [← hB, upd_ne z] at e
        rw [upd_ne z]
        exact same_upd hf0 _ _ e
    have f0 : upd (upd H f (.dT [])) d (.frz od u) f = some (.dT []) := by rw [upd_ne nfd, upd_same]
    generalize upd (upd H f (.dT [])) d (.frz od u) = H0 at s0 f0
    subst hu
    refine ⟨_, rfl, _, _, _, _, _, rfl, s0 _ _ aB, O.cl, O.n4, hf, d, od, _, rfl, s0 _ _ dB, for_it walk_items (fun i σ' H' => ∃ rv ev nv av, σ' = [some (.ref a), some (.ref f), rv, ev, nv, av] ∧ Same B H' ∧ H' f = some (.dT (encW (wnd g ((rsOf tl).take i))))) ⟨none, none, none, none, rfl, s0, f0⟩ (fun i σ' H' _ z => ?_) ?_ ?_⟩
    · obtain ⟨_, _, _, _, _, s1, _⟩ := z
      exact s1 _ _ dB
    · rintro i _ σ' H1 _ hi ⟨rv, ev0, nv, av, rfl, s1, f1⟩ ⟨t, x, y, rfl, ht, rfl, hx, hy⟩
      have hi' : i < tl.length := by simpa using hi
      have hp : tl[i]? = some tl[i] := List.getElem?_eq_getElem hi'
      generalize tl[i] = z at hp
      obtain ⟨r, ev, e⟩ := z
      have hm := List.mem_of_getElem? hp
      have hx : (tl.map fun t => ((Sum.inl t.1 : Key), V.ref t.2.2))[i]?.map (fun kv => kV kv.1) = some x := hx
      have hy : (tl.map fun t => ((Sum.inl t.1 : Key), V.ref t.2.2))[i]?.map Prod.snd = some y := hy
      rw [List.getElem?_map, hp] at hx hy
      cases (show some (V.int r) = some x from hx)
      cases (show some (V.ref e) = some y from hy)
      have hrs : (rsOf tl)[i]? = some (r, ev) := by unfold rsOf; rw [List.getElem?_map, hp]; rfl
      obtain ⟨o1, o2, o3, o4, o5, o6⟩ := hok.2 _ (List.mem_of_getElem? hrs)
      have o1 : ev ≠ [] := o1
      have o2 : (ev.map (·.1)).Nodup := o2
      have o4 : mxk ev - mnk ev ≤ 200 := o4
      have o5 : -1000000 ≤ mnk ev := o5
      have o6 : mxk ev ≤ 1000000 := o6
      have s2 := same_put (o := .tup [.int r, .ref e]) s1 (Same.free s1 ht)
      have nft : f ≠ t := fun z => by rw [z, ht] at f1; cases f1
      have f2 : upd H1 t (.tup [.int r, .ref e]) f = some (.dT (encW (wnd g ((rsOf tl).take i)))) := by rw [upd_ne nft]; exact f1
      refine ⟨t, _, rfl, .of upd_same, rfl, _, _, rfl, _, _, rfl, rfl, ?_⟩
      have ee := eB _ hm
      have ne1 : ev.map (·.1) ≠ [] := fun z => o1 (List.map_eq_nil_iff.mp z)
      have keys : (encE ev).map (·.1) = (ev.map (·.1)).map Sum.inl := by unfold encE; rw [List.map_map, List.map_map]; rfl
      refine ⟨_, rfl, e, _, ev.map (·.1), rfl, s2 _ _ ee, keys, ne1, fun m hm1 hm2 => ?_⟩
      obtain rfl : m = mxk ev := Int.le_antisymm ((mxk_is o1).2 m hm1) (hm2 _ (mxk_is o1).1)
      refine ⟨_, rfl, e, _, ev.map (·.1), rfl, s2 _ _ ee, keys, ne1, fun m hm3 hm4 => ?_⟩
      obtain rfl : m = mnk ev := Int.le_antisymm (hm4 _ (mnk_is o1).1) ((mnk_is o1).2 m hm3)
      have hle : mnk ev ≤ mxk ev := (mnk_is o1).2 _ (mxk_is o1).1
      refine ⟨1, rfl, _, _, _, _, rfl, RgC.neg (by omega) (by omega) (by omega) (by omega), for_it walk_rangeC (fun j σ' H' => ∃ av, σ' = [some (.ref a), some (.ref f), some (.int r), some (.ref e), some (.int (esum ev (mxk ev - j))), av] ∧ Same B H' ∧
        H' f = some (.dT (encW (wnd g ((rsOf tl).take i) ++ wrowN g r ev j)))) ⟨av, ?_, s2, ?_⟩ (fun _ _ _ _ _ => trivial) ?_ ?_⟩
      · rw [esum_top (q := mxk ev - (0 : Nat)) (fun x hx => by have := (mxk_is o1).2 x hx; omega)]
        rfl
      · have z : wrowN g r ev 0 = [] := rfl
        rw [z, List.append_nil]
        exact f2
      · rintro j _ σ' _ H2 hj ⟨av, rfl, s3, f3⟩ ⟨rfl, rfl⟩
        refine ⟨_, rfl, _, rfl, e, rfl, .inl ⟨_, .of (s3 _ _ ee)⟩, _, rfl, _, DGet.k (k := Sum.inl (mxk ev + (j : Nat) * -1)) (s3 _ _ ee), ?_⟩
        rw [encE_val]
        have ez : mxk ev + (j : Nat) * -1 = mxk ev - j := by omega
        have eg : ((valG ev (mxk ev + (j : Nat) * -1)).map V.int).getD (.int 0) = .int (evGet ev (mxk ev - j)) := by
          rw [ez]
          unfold evGet
          cases valG ev (mxk ev - j) <;> rfl
        rw [eg]
        refine ⟨_, _, rfl, rfl, ?_⟩
        have est := esum_step o2 (mxk ev - j)
        have eq1 : mxk ev - j - 1 = mxk ev - 1 - j := by omega
        have eq2 : mxk ev - ((j + 1 : Nat) : Int) = mxk ev - 1 - j := by omega
        rw [eq1] at est
        refine ⟨_, rfl, rfl, _, rfl, ?_⟩
        show if (!decide (V.int (esum ev (mxk ev - j) + evGet ev (mxk ev - j)) = V.int 0)) = true then _ else _
        rw [← est]
        by_cases h0 : esum ev (mxk ev - 1 - j) = 0
        · refine itb (b := false) (by rw [h0]; rfl) (iteF ?_)
          refine ⟨_, by rw [eq2, est]; rfl, s3, ?_⟩
          rw [wrowN_succ, if_pos h0, List.append_nil]
          exact f3
        · refine itb (b := true) (by simp [h0]) (iteT ?_)
          refine ⟨_, rfl, _, rfl, _, rfl, _, _, _, _, _, rfl, s3 _ _ aB, O.cl, O.n1, hn, _, rfl, _, rfl, _, _, rfl, rfl, g, r, _, rfl, fun u hu => ?_⟩
          have ec : mxk ev + (j : Nat) * -1 - 1 = mxk ev - 1 - j := by omega
          rw [ec]
          have nfu : f ≠ u := fun z => by rw [z, hu] at f3; cases f3
          have fu : upd H2 u (.tup ((cell g r (mxk ev - 1 - j)).map V.int)) f = some (.dT (encW (wnd g ((rsOf tl).take i) ++ wrowN g r ev j))) := by rw [upd_ne nfu]; exact f3
          have s4 := same_put (o := .tup ((cell g r (mxk ev - 1 - j)).map V.int)) s3 (Same.free s3 hu)
          have nin : cell g r (mxk ev - 1 - j) ∉ (wnd g ((rsOf tl).take i) ++ wrowN g r ev j).map (·.1) := by
            intro z
            rw [List.map_append, List.mem_append] at z
            rcases z with z | z
            · obtain ⟨r', h1, q, h2⟩ := wnd_key z
              have e1 := (cell_inj h2).1
              have nd : ((rsOf tl).map (·.1)).Nodup := by
                have y := hR.key
                unfold rsOf
                rw [List.map_map]
                exact y
              rw [← e1] at h1
              have e6 : ((rsOf tl).map (·.1))[i]? = some r := by rw [List.getElem?_map, hrs]; rfl
              rw [List.map_take] at h1
              exact not_take nd e6 h1
            · obtain ⟨j', h1, h2⟩ := wrowN_key z
              have := (cell_inj h2).2
              omega
          have lw : (encW (wnd g ((rsOf tl).take i) ++ wrowN g r ev j)).length < sizeLine := by
            unfold encW
            rw [List.length_map, List.length_append]
            have z1 := wnd_len g ((rsOf tl).take i) fun x hx => (hok.2 x (List.mem_of_mem_take hx)).2.2.2.1
            have z2 := wrowN_len g r ev j
            have z3 : ((rsOf tl).take i).length ≤ 100 := Nat.le_trans (List.length_take_le' i _) hok.1
            have z4 : ((rsOf tl).take i).length * 200 ≤ 100 * 200 := Nat.mul_le_mul_right _ z3
            exact Nat.lt_of_le_of_lt (by omega : _ ≤ 30000) (by decide)
          refine ⟨f, _, rfl, DPut.t (k := kI1 (cell g r (mxk ev - 1 - j))) fu (by rw [kI1_kV]; exact upd_same) lw, ?_⟩
          refine ⟨_, by rw [eq2, est]; rfl, same_put s4 fB, ?_⟩
          rw [upd_same]
          show some (HO.dT (putK _ _ (V.int (esum ev (mxk ev - j) + evGet ev (mxk ev - j))))) = _
          rw [← est, encW_put nin, wrowN_succ, if_neg h0, List.append_assoc]
      · rintro σ' H2 ⟨av, rfl, s3, f3⟩
        refine ⟨_, _, _, _, rfl, s3, ?_⟩
        rw [take_snoc hrs, wnd_snoc]
        exact f3
    · rintro σ' H1 ⟨rv, ev, nv, av, rfl, s1, f1⟩
      have et : (rsOf tl).take (tl.map fun t => ((Sum.inl t.1 : Key), V.ref t.2.2)).length = rsOf tl := by
        rw [List.length_map]
        have : tl.length = (rsOf tl).length := by simp [rsOf]
        rw [this, List.take_length]
      rw [et] at f1
      refine ⟨s1 _ _ dB, _, rfl, ?_⟩
      rw [← hB] at s1
      exact k _ f (unlock hR.at_ s1) hf0 (by rw [upd_ne nfd]; exact f1)
end
end K53
set_option maxHeartbeats 4000000
namespace K53
open PySem PySem.Spec PyProof.Rows L2
open C8 (fnScope_by pe_mk pe_mt pe_mt0 InsC)
open SX (S)
/-! ### rules that name the written part by itself -/
section
variable {X : Cx} {K : PySem.W.Frag} {a b : Expr} {ta tb : TE} {pos p : Pos}
theorem pe_ixT (hK : X.K = K) (ha : PE X a ta) (hb : PE X b tb) (hs : PlainIx b) : PE X (.Subscript a b pos) (tOp (rIxT K) ta tb) := by
  cases hK
  exact pe_ix ix_tup ha hb hs
theorem pe_ixL (hK : X.K = K) (ha : PE X a ta) (hb : PE X b tb) (hs : PlainIx b) : PE X (.Subscript a b pos) (tOp (rIxL K) ta tb) := by
  cases hK
  exact pe_ix ix_list ha hb hs
theorem pe_fldK {f : Str} (hK : X.K = K) (ha : PE X a ta) (hb : attributeBase a f X.env (eval a X.env) = eval a X.env := by rfl) : PE X (.Attribute a f pos) (tFld K ta f) := by
  cases hK
  exact pe_fld ha hb
def rLenK (K : PySem.W.Frag) : List V → Hp → VK → Prop := fun vs H Q => ∃ (p : Addr) (xs : List V), vs = [.ref p] ∧ (SqL K H p xs ∨ SqT K H p xs) ∧ Q (.int (xs.length : Nat)) H
theorem call_lenK (hK : X.K = K) : CallR X (.builtin "len") (rLenK K) := by
  cases hK
  intro pins s σ H vs us Q I r h
  obtain ⟨p, xs, e, q, k⟩ := h
  exact call_len_seq pins s σ H vs us Q I r ⟨p, xs, e, q, k⟩
theorem pe_lenK (hK : X.K = K) (hm : X.mg "len" = none) (ha : PE X a ta) (hg : Gl X "len" := by rfl) (he : starEach [a] X.env = (false, eval a X.env) :: starEach [] X.env := by rfl) : PE X (.Call (.Name "len" p) [a] [] pos) (tCB (rLenK K) (tCons ta tNil)) :=
  pe_callB (call_lenK hK) hg hm PySem.boot_len (pa_cons (hs := he) ha pa_nil) (by decide) (by decide) he rfl
end
/-- the places at the first corners -/
def cnr1 (c : List Int) : Option (Int × Int) := match c with
  | [x, y] => some (x, y)
  | [x, y, k] => if k = 0 then some (x, y) else none
  | _ => none
def cnr (ws : List (List Int × Int)) : List (Int × Int) := ws.filterMap fun w => cnr1 w.1
section
variable {P : Program} {w : World} {K : PySem.W.Frag} {mg : Str → Option Value} {base : Heap} {CO : Addr}
def spCor (CO : Addr) : Sp := fun vs H Q _ => ∃ (a dx d : Addr) (fs : Fs) (g : Bool) (tl : Tl), vs = [.ref a] ∧ H a = some (.ins CO dx fs) ∧ fs.lookup (Str.ofString "windings") = none ∧ fs.lookup kN = some (net g) ∧ fs.lookup kO = some (.ref d) ∧ RT H d tl ∧ rwOk (rsOf tl) ∧
  ∀ H' l bs, Same H H' → H l = none → H' l = some (.lst (bs.map V.ref)) → Pts H' bs (cnr (wnd g (rsOf tl))) → Q (.ref l) H'
abbrev nO12 : List Str := ["self", "cell"]
theorem scO12 : FnScope nO12 ["self"] (L2.defScope (icl 58 12)) := fnScope_by (by decide +kernel)
theorem o_cor (T : TxB K mg) (O : TxO K mg CO) (d : MetT K CO "corners" "Outline.corners" (icl 58 12)) (cw : Met P w K mg base 2 CO "windings" (spWnd CO)) : Met P w K mg base 3 CO "corners" (spCor CO) := by
  refine met O.cl d scO12 (fun vs H Q E h => ?_) (fun _ _ _ _ _ _ us hl => match us, hl with | [_], _ => rfl) (fun f cdv A outer s H vs Q E hr h => ?_)
  · obtain ⟨a, dx, d, fs, g, tl, rfl, _⟩ := h
    rfl
  · obtain ⟨a, dx, d, fs, g, tl, rfl, ha, hw, hn, hf, hR, hok, k⟩ := h
    refine ⟨_, (pss_one (ps_ret (pe_lc (own := [("cell", 1)]) (g := gName 1) rfl scO12.nd (pi_keys (pe_frz (pe_mt0 cw hr (by decide) (pv 0)))) (blkOk_by (own := [("cell", 1)]) (N := nO12) (sc := L2.defScope (icl 58 12)) (by decide +kernel)) (fun _ _ _ _ _ => (pg_name (i := 1) scO12.nd rfl (Or.inl rfl))) (fun _ _ _ _ _ => (pts_one (PW.pt (pw_or (pt_cmpR op_eq (pe_lenK (K := K) rfl T.len (pv 1)) pe_int (nomark _)) (pw_or1 (pt_cmpR op_eq (pe_ixT (K := K) rfl (pv 1) pe_int (fun _ _ => rfl)) pe_int (nomark _))))))) (fun _ _ _ _ _ => (pe_tup (pa_cons (pe_ixT (K := K) rfl (pv 1) pe_int (fun _ _ => rfl)) (pa_cons (pe_ixT (K := K) rfl (pv 1) pe_int (fun _ _ => rfl)) pa_nil))))))), ?_⟩
    refine ⟨_, rfl, a, dx, fs, rfl, ha, hw, a, dx, d, fs, g, tl, rfl, ha, hn, hf, hR, hok, fun H1 f s1 hf0 f1 => ?_⟩
    generalize hws : wnd g (rsOf tl) = ws at f1
    have shape : ∀ w ∈ ws, ∃ r q, w.1 = cell g r q := by
      intro w hw
      obtain ⟨r, _, q, e⟩ := wnd_key (g := g) (rs := rsOf tl) (c := w.1) (by rw [hws]; exact List.mem_map.mpr ⟨w, hw, rfl⟩)
      exact ⟨r, q, e⟩
    have hlen : ws.length ≤ 20000 := by
      rw [← hws]
      have z1 := wnd_len g (rsOf tl) fun x hx => (hok.2 x hx).2.2.2.1
      have z3 := hok.1
      have z4 : (rsOf tl).length * 200 ≤ 100 * 200 := Nat.mul_le_mul_right _ z3
      omega
    refine ⟨f, _, rfl, f1, True.intro, fun od => ?_⟩
    generalize hHf : upd H1 f _ = Hf
    have sf : Same H Hf := by rw [← hHf]; exact same_put s1 hf0
    have ff : Hf f = some (.frz od (.dT (encW ws))) := by rw [← hHf]; exact upd_same
    refine ⟨f, od, rfl, .inr ⟨_, ff, fun D hD => lc_it walk_keysT (fun i H' => Same Hf H' ∧ ∃ bs, H' D = some (.lst (bs.map V.ref)) ∧ Pts H' bs (cnr (ws.take i))) ⟨same_upd hD, [], upd_same, .nil⟩ (fun _ H' _ z => z.1 _ _ ff) ?_ ?_⟩⟩
    · rintro i _ _ H2 hi ⟨s2, bs, e2, p2⟩ ⟨rfl, kk, v, q, hk, rfl, hq⟩
      have hi' : i < ws.length := by simpa [encW] using hi
      have hp : ws[i]? = some ws[i] := List.getElem?_eq_getElem hi'
      generalize ws[i] = u at hp
      obtain ⟨r, qq, ec⟩ := shape u (List.mem_of_getElem? hp)
      have he : (encW ws)[i]? = some (kI1 u.1, .int u.2) := by unfold encW; rw [List.getElem?_map, hp]; rfl
      rw [he] at hk
      cases hk
      rw [kI1_kV, ec] at hq
      have hqT : SqT K H2 q ((cell g r qq).map V.int) := .of hq
      rw [take_snoc hp]
      have ecn : cnr (ws.take i ++ [u]) = cnr (ws.take i) ++ (cnr1 u.1).toList := by
        unfold cnr
        rw [List.filterMap_append, List.filterMap_cons, List.filterMap_nil]
        cases cnr1 u.1 <;> rfl
      rw [ecn, ec]
      have lb : bs.length < sizeLine := by
        have z1 := Paired.length p2
        have z2 : (cnr (ws.take i)).length ≤ (ws.take i).length := List.length_filterMap_le _ _
        have z3 : (ws.take i).length ≤ ws.length := List.length_take_le' i ws
        exact Nat.lt_of_le_of_lt (by omega : bs.length ≤ 20000) (by decide)
      have more : ∀ p : Int × Int, ∀ H3 t, Same H2 H3 → H3 t = some (.tup (pl p)) → Same Hf (upd H3 D (.lst (bs.map V.ref ++ [.ref t]))) ∧ ∃ bs', upd H3 D (.lst (bs.map V.ref ++ [.ref t])) D = some (.lst (bs'.map V.ref)) ∧ Pts (upd H3 D (.lst (bs.map V.ref ++ [.ref t]))) bs' (cnr (ws.take i) ++ [p]) := by
        intro p H3 t s3 e3
        have z := samT_put (u := .lst (bs.map V.ref ++ [.ref t])) (s3 _ _ e2) fun _ z => nomatch z
        exact ⟨same_put (Same.trans s2 s3) hD, bs ++ [t], by rw [upd_same, List.map_append]; rfl, Paired.snoc (pts_sam (samT_trans (samT_of s3) z) p2) (z _ _ e3)⟩
      refine ⟨rfl, _, rfl, q, _, rfl, .inr hqT, rfl, _, rfl, ?_⟩
      cases g
      · refine iteT (iteT ⟨_, rfl, _, _, _, _, rfl, rfl, hqT, atI_nat (j := 0) rfl, _, rfl, _, _, _, _, rfl, rfl, hqT, atI_nat (j := 1) rfl, (small64 (n := 2) (by decide)), fun t ht => ?_⟩)
        refine ⟨bs.map V.ref, same_upd ht _ _ e2, by rw [List.length_map]; exact lb, ?_⟩
        exact more (qq, r) _ t (same_upd ht) upd_same
      · refine iteF ?_
        refine ⟨_, rfl, _, _, _, _, rfl, rfl, hqT, atI_nat (j := 2) rfl, rfl, _, rfl, ?_⟩
        by_cases h0 : qq % 2 = 0
        · refine itb (b := true) (decide_eq_true (by rw [h0])) (iteT ⟨_, rfl, _, _, _, _, rfl, rfl, hqT, atI_nat (j := 0) rfl, _, rfl, _, _, _, _, rfl, rfl, hqT, atI_nat (j := 1) rfl, (small64 (n := 2) (by decide)), fun t ht => ?_⟩)
          refine ⟨bs.map V.ref, same_upd ht _ _ e2, by rw [List.length_map]; exact lb, ?_⟩
          have e : cnr1 (cell true r qq) = some (qq / 2, r) := if_pos h0
          rw [e]
          exact more (qq / 2, r) _ t (same_upd ht) upd_same
        · refine itb (b := false) (decide_eq_false fun z => h0 (by injection z)) (iteF ⟨s2, bs, e2, ?_⟩)
          have e : cnr1 (cell true r qq) = none := if_neg h0
          rw [e]
          simpa using p2
    · rintro H2 ⟨s2, bs, e2, p2⟩
      have et : ws.take (encW ws).length = ws := by
        unfold encW
        rw [List.length_map, List.take_length]
      rw [et, ← hws] at p2
      exact k H2 D bs (Same.trans sf s2) (Same.free sf hD) e2 p2
end
end K53
set_option maxHeartbeats 4000000
namespace K53
open PySem PySem.Spec PyProof.Rows L2
open C8 (fnScope_by pe_mk pe_mt pe_mt0 InsC)
open SX (S)
section
variable {X : Cx} {K : PySem.W.Frag} {o e : Expr} {to te : TE} {apos cpos : Pos}
theorem pe_idxT (hK : X.K = K) (hu : X.A.units + 65 < cLine) (ho : PE X o to) (he : PE X e te) (hs : starEach [e] X.env = (false, eval e X.env) :: starEach [] X.env := by rfl)
    (hb : attributeBase o "index" X.env (eval o X.env) = eval o X.env := by rfl)
    (hf : ((backTo cpos (starEach [e] X.env)).all (fun x => !x.1) && (backToKw cpos (keywordEach [] X.env)).all (fun x => x.1.isSome) && decide (([e] : List Expr).length + ([] : List Keyword).length + (if ([] : List Keyword).isEmpty then 0 else 1) < 30)) = true := by rfl)
    (hl : (apos.endLine == cpos.line) = true := by rfl) : PE X (.Call (.Attribute o "index" apos) [e] [] cpos) (tBM K "tuple" (rIdx K fun a ys H => SqT K H a ys) to (tCons te tNil)) := by
  cases hK
  exact pe_bm PySem.F.plainAttrs_tuple PySem.F.slot_tuple_index PySem.F.type_tuple_index (mt_idxT hu) ho (pa_cons (hs := hs) he pa_nil) hb hf hl hs rfl
theorem pe_rowK {w : World} (hK : X.K = K) (hw : X.w = w) (ho : PE X o to) (he : PE X e te) (hs : PlainIx e) : PE X (.Subscript o e cpos) (tOp (rIxD K w) to te) := by
  cases hK
  cases hw
  exact pe_ix ix_kdict ho he hs
end
/-! ### turning -/
def stl (g : Bool) : List (Int × Int) := (List.range (hd g)).map (stp g)
def dirs (g : Bool) (ps : List (Int × Int)) : List Nat := (prs ps).map fun z => (stl g).idxOf (psub z.2 z.1)
/-- the turn from one heading to another, by the shorter way -/
def tw (h : Nat) (a b : Nat) : Int := if 2 * (((b : Int) - a) % h) > h then ((b : Int) - a) % h - h else ((b : Int) - a) % h
def trn (g : Bool) (ps : List (Int × Int)) : Int := (((dirs g ps).zip ((dirs g ps).drop 1 ++ (dirs g ps).take 1)).map fun z => tw (hd g) z.1 z.2).sum
/-- all steps are steps of the net -/
def okSt (g : Bool) (ps : List (Int × Int)) : Prop := ∀ z ∈ prs ps, psub z.2 z.1 ∈ stl g
section
variable {P : Program} {w : World} {K : PySem.W.Frag} {mg : Str → Option Value} {base : Heap} {CO sS : Addr}
def spTrn (CO : Addr) : Sp := fun vs H Q _ => ∃ (a dx pA : Addr) (fs : Fs) (g : Bool) (bs : List Addr) (ps : List (Int × Int)), vs = [.ref a] ∧ H a = some (.ins CO dx fs) ∧ fs.lookup (Str.ofString "move_pairs") = none ∧ fs.lookup kN = some (net g) ∧ fs.lookup kP = some (.ref pA) ∧
  H pA = some (.lst (bs.map V.ref)) ∧ Pts H bs ps ∧ ps.length ≤ 1000 ∧ okSt g ps ∧ ∀ H', Same H H' → Q (.int (trn g ps)) H'
abbrev nO9 : List Str := ["self", "count", "directions", "total", "one", "other", "turn", "before", "after"]
theorem scO9 : FnScope nO9 ["self"] (L2.defScope (icl 58 9)) := fnScope_by (by decide +kernel)
theorem o_trn (T : TxB K mg) (N : TxN K w mg sS) (O : TxO K mg CO) (d : MetT K CO "turned_round" "Outline.turned_round" (icl 58 9)) (c1 : Cal P w K mg base 1 "heading_count" spCount) (c2 : Met P w K mg base 1 CO "move_pairs" (spPairs CO)) (c3 : Cal P w K mg base 1 "difference" (spDiff K)) : Met P w K mg base 2 CO "turned_round" (spTrn CO) := by
  refine met O.cl d scO9 (fun vs H Q E h => ?_) (fun _ _ _ _ _ _ us hl => match us, hl with | [_], _ => rfl) (fun f cdv A outer s H vs Q E hr h => ?_)
  · obtain ⟨a, dx, pA, fs, g, bs, ps, rfl, _⟩ := h
    rfl
  · obtain ⟨a, dx, pA, fs, g, bs, ps, rfl, ha, hm, hn, hl, hp, hb, hz, hst, k⟩ := h
    obtain ⟨es, n, kd⟩ := N.kd
    obtain ⟨sa, ts, se, sk, st1, st2⟩ := N.row g
    have hu : A.units + 200 < cLine := by
      have := hr.un
      have e : (A.deeper (envOfC "Outline.turned_round" (L2.defScope (icl 58 9)) s.heap.objs.size f cdv)).units = A.units + 3 := rfl
      omega
    refine ⟨_, (pss_cons (ps_set (i := 1) scO9.nd rfl (Or.inl rfl) (C8.pe_c c1 hr (by decide) rfl (pa_cons (pe_fld (pv 0) rfl) pa_nil))) (pss_cons (ps_setLc (i := 2) (own := [("before", 7), ("after", 8)]) (g := gTup K 2 (gCons (gName 7) (gCons (gName 8) gNil))) rfl scO9.nd rfl rfl (sw_true rfl rfl rfl (by decide +kernel)) (pi_list (pe_mt0 c2 hr (by decide) (pv 0))) (blkOk_by (own := [("before", 7), ("after", 8)]) (N := nO9) (sc := L2.defScope (icl 58 9)) (by decide +kernel)) (fun _ _ _ _ _ => (pg_tup rfl (pgs_cons (pg_name (i := 7) scO9.nd rfl (Or.inl rfl)) (pgs_cons (pg_name (i := 8) scO9.nd rfl (Or.inl rfl)) pgs_nil)))) (fun _ _ _ _ _ => pts_nil) (fun _ _ _ _ _ => (pe_idxT (K := K) rfl (by show A.units + 3 + 65 < cLine; omega) (pe_rowK (K := K) (w := w) rfl rfl (pe_glob (v := .ref sS) (by rfl) N.at_ rfl) (pe_fldK (K := K) rfl (pv 0)) (fun _ _ => rfl)) (C8.pe_c c3 hr (by decide) rfl (pa_cons (pv 8) (pa_cons (pv 7) pa_nil)))))) (pss_cons (ps_set (i := 3) scO9.nd rfl (Or.inl rfl) pe_int) (pss_cons (ps_for PassesOwn.never rfl (pi_zip (by rfl) T.zip (pa_cons (pv 2) (pa_cons (pe_op op_cat (pe_slice sl_list (pv 2) (po_some pe_int) po_none) (pe_slice sl_list (pv 2) po_none (po_some pe_int))) pa_nil))) (pg_tup rfl (pgs_cons (pg_name (i := 4) scO9.nd rfl (Or.inl rfl)) (pgs_cons (pg_name (i := 5) scO9.nd rfl (Or.inl rfl)) pgs_nil))) (pss_cons (ps_set (i := 6) scO9.nd rfl (Or.inl rfl) (pe_op op_mod (pe_op op_sub (pv 5) (pv 4)) (pv 1))) (pss_one (ps_aug (i := 3) scO9.nd rfl (.inl rfl) (pe_ifExp (pt_cmpR op_gt (pe_op op_mul pe_int (pv 6)) (pv 1) (nomark _)) (pe_op op_sub (pv 6) (pv 1)) (pv 6)) ip_add)))) (pss_one (ps_ret (pv 3))))))), ?_⟩
    refine ⟨_, rfl, _, _, _, _, _, rfl, ha, O.cl, O.n1, hn, g, rfl, ?_⟩
    refine ⟨_, rfl, a, dx, fs, rfl, ha, hm, a, dx, pA, fs, bs, ps, rfl, ha, hl, hp, hb, hz, fun H1 l ts' s1 l1 p1 => ?_⟩
    refine ⟨l, rfl, ⟨_, .of l1⟩, fun D hD => lc_it walk_list (fun i H' => Same H1 H' ∧ H' D = some (.lst (((dirs g ps).take i).map fun (n : Nat) => V.int n))) ⟨same_upd hD, upd_same⟩ (fun _ H' _ z => .of (z.1 _ _ l1)) ?_ ?_⟩
    · rintro i _ _ H2 hi ⟨s2, e2⟩ ⟨rfl, hx⟩
      obtain ⟨t, ht, rfl⟩ := map_at hx
      obtain ⟨z, ⟨b, c, h1, h2, h3⟩, hz1⟩ := pair_l p1 ht
      have hd1 : (dirs g ps)[i]? = some ((stl g).idxOf (psub z.2 z.1)) := by unfold dirs; rw [List.getElem?_map, hz1]; rfl
      refine ⟨t, _, rfl, .of (s2 _ _ h1), rfl, _, _, rfl, _, _, rfl, rfl, rfl, _, rfl, _, _, _, _, _, rfl, s2 _ _ (s1 _ _ ha), O.cl, O.n1, hn, _, _, _, rfl, rfl, kdct kd se, .inr (.inl ⟨rfl, sk⟩), _, rfl, _, rfl, c, b, z.2, z.1, rfl, .of (s2 _ _ h3), .of (s2 _ _ h2), fun u hu => ?_⟩
      have s3 := same_put (o := .tup (pl (psub z.2 z.1))) s2 (Same.free s2 hu)
      refine ⟨sa, u, ts, stl g, psub z.2 z.1, rfl, rfl, st1 _, st2 _, .of upd_same, hst z (List.mem_of_getElem? hz1), _, same_upd hu _ _ e2, ?_, same_put s3 hD, ?_⟩
      · rw [List.length_map]
        have z1 : ((dirs g ps).take i).length ≤ (dirs g ps).length := List.length_take_le' i _
        have z2 : (dirs g ps).length ≤ 1000 := by
          unfold dirs prs
          rw [List.length_map, List.length_zip]
          omega
        exact Nat.lt_of_le_of_lt (by omega : _ ≤ 1000) (by decide)
      · rw [upd_same, take_snoc hd1, List.map_append]
        rfl
    rintro H2 ⟨s2, e2⟩
    have ed : (dirs g ps).take (ts'.map V.ref).length = dirs g ps := by
      have : (ts'.map V.ref).length = (dirs g ps).length := by
        rw [List.length_map, Paired.length p1]
        simp [dirs]
      rw [this, List.take_length]
    rw [ed] at e2
    generalize hds : dirs g ps = ds at e2
    have hdl : ds.length ≤ 1000 := by
      rw [← hds]
      unfold dirs prs
      rw [List.length_map, List.length_zip]
      omega
    have s02 := Same.trans s1 s2
    refine ⟨_, rfl, _, rfl, 1, rfl, D, _, rfl, .of e2, fun p2 hp2 => ⟨_, rfl, 1, rfl, D, _, rfl, .of (same_upd hp2 _ _ e2), fun p3 hp3 => ?_⟩⟩
    rw [cut_1, cut_2] at *
    generalize hxs : (ds.map fun (n : Nat) => V.int n) = xs at *
    have n23 : p2 ≠ p3 := fun z => by rw [← z, upd_same] at hp3; cases hp3
    have lxs : xs.length = ds.length := by rw [← hxs, List.length_map]
    refine ⟨p2, p3, _, _, rfl, rfl, by rw [upd_ne n23, upd_same], upd_same, ?_, fun p4 hp4 => ?_⟩
    · rw [List.length_drop, List.length_take]
      exact Nat.le_trans (by omega : _ ≤ 2000) (by decide)
    have s3 := same_put (o := .lst (xs.drop 1)) s02 (Same.free s02 hp2)
    have s4 := same_put (o := .lst (xs.take 1)) s3 (Same.free s3 hp3)
    have s5 := same_put (o := .lst (xs.drop 1 ++ xs.take 1)) s4 (Same.free s4 hp4)
    have eD : upd (upd (upd H2 p2 (.lst (xs.drop 1))) p3 (.lst (xs.take 1))) p4 (.lst (xs.drop 1 ++ xs.take 1)) D = some (.lst xs) := same_upd hp4 _ _ (same_upd hp3 _ _ (same_upd hp2 _ _ e2))
    have e4 : upd (upd (upd H2 p2 (.lst (xs.drop 1))) p3 (.lst (xs.take 1))) p4 (.lst (xs.drop 1 ++ xs.take 1)) p4 = some (.lst (xs.drop 1 ++ xs.take 1)) := upd_same
    generalize upd (upd (upd H2 p2 (.lst (xs.drop 1))) p3 (.lst (xs.take 1))) p4 (.lst (xs.drop 1 ++ xs.take 1)) = Hz at s5 eD e4
    have lrot : xs.length = (xs.drop 1 ++ xs.take 1).length := by
      rw [List.length_append, List.length_drop, List.length_take]
      omega
    generalize hrt : ds.drop 1 ++ ds.take 1 = rt
    have erot : xs.drop 1 ++ xs.take 1 = rt.map fun (n : Nat) => V.int n := by
      rw [← hxs, ← hrt, List.map_append, List.map_drop, List.map_take]
    refine ⟨D, p4, xs, _, rfl, .of eD, .of e4, RZ.for_zipL lrot (fun i σ' H' => ∃ on ot tn, σ' = [some (.ref a), some (.int (hd g : Nat)), some (.ref D), some (.int ((((ds.zip rt).take i).map fun z => tw (hd g) z.1 z.2).sum)), on, ot, tn, none, none] ∧ Same Hz H') ⟨none, none, none, rfl, Same.refl _⟩ (fun i σ' H' z => ?_) ?_ ?_⟩
    · obtain ⟨_, _, _, _, s6⟩ := z
      exact ⟨.of (s6 _ _ eD), .of (s6 _ _ e4)⟩
    · rintro i x y t σ' H' hx hy ⟨on, ot, tn, rfl, s6⟩ ht
      rw [← hxs] at hx
      rw [erot] at hy
      obtain ⟨m, hm1, rfl⟩ := map_at hx
      obtain ⟨n2, hn1, rfl⟩ := map_at hy
      have s7 := same_put (o := .tup [.int m, .int n2]) s6 (Same.free s6 ht)
      have hz2 : (ds.zip rt)[i]? = some (m, n2) := List.getElem?_zip_eq_some.mpr ⟨hm1, hn1⟩
      refine ⟨t, _, rfl, .of upd_same, rfl, _, _, rfl, _, _, rfl, rfl, _, rfl, _, rfl, _, _, rfl, rfl, _, rfl, _, _, rfl, rfl, hd_pos g, ?_⟩
      refine ⟨_, rfl, _, rfl, _, _, rfl, rfl, .inl ⟨by decide, by decide⟩, _, rfl, _, _, rfl, rfl, _, rfl, ?_⟩
      have fin : ∀ z : Int, z = tw (hd g) m n2 → ((((ds.zip rt).take i).map fun z => tw (hd g) z.1 z.2).sum) + z = ((((ds.zip rt).take (i + 1)).map fun z => tw (hd g) z.1 z.2).sum) := by
        intro z hz
        rw [take_snoc hz2, List.map_append, List.sum_append, hz]
        simp
      refine ite2 (fun q => ?_) fun q => ?_
      · have q := of_decide_eq_true q
        refine ⟨_, rfl, _, rfl, _, _, rfl, rfl, _, _, rfl, rfl, some (.int m), some (.int n2), some (.int (((n2 : Int) - m) % (hd g : Nat))), ?_, s7⟩
        rw [← fin (((n2 : Int) - m) % (hd g : Nat) - (hd g : Nat)) ?_]
        · rfl
        · unfold tw
          rw [if_pos q]
      · have q : ¬ (2 * (((n2 : Int) - m) % (hd g : Nat)) > (hd g : Nat)) := fun z => q (decide_eq_true z)
        refine ⟨_, rfl, _, _, rfl, rfl, some (.int m), some (.int n2), some (.int (((n2 : Int) - m) % (hd g : Nat))), ?_, s7⟩
        rw [← fin (((n2 : Int) - m) % (hd g : Nat)) ?_]
        · rfl
        · unfold tw
          rw [if_neg q]
    · rintro σ' H' ⟨on, ot, tn, rfl, s6⟩
      refine ⟨_, rfl, ?_⟩
      have ez : (ds.zip rt).take xs.length = ds.zip rt := by
        refine List.take_of_length_le ?_
        rw [List.length_zip, lxs]
        exact Nat.min_le_left _ _
      rw [ez]
      have z := k H' (Same.trans s5 s6)
      rw [trn, hds, hrt] at z
      exact z
end
end K53
set_option maxHeartbeats 4000000
namespace K53
open PySem PySem.Spec PyProof.Rows L2
open C8 (fnScope_by pe_mk pe_mt pe_mt0 InsC)
open SX (S)
/-- a dict comprehension with tuple keys over what is walked -/
theorem dcT_it {J : It} {n : Nat} {G : Hp → Prop} {Y : Nat → Hp → V → Hp → Prop} (w : L2.Walk J n G Y) {g : TG} {tk tv : TE} {vs : List Nat} {σ : L2.St} {H1 : Hp} {D : Addr} {Qd : Hp → Prop} (Pv : Nat → Hp → Prop) (h0 : Pv 0 (upd H1 D (.dT []))) (hG : ∀ i H, i ≤ n → Pv i H → G H)
    (hs : ∀ i x H H', i < n → Pv i H → Y i H x H' → g x (wipe σ vs) H' fun σ2 H2 => wipe σ2 vs = wipe σ vs ∧ tk σ2 H2 fun y H4 => tv σ2 H4 fun z H5 => ∃ b kvs k, y = .ref b ∧ H5 b = some (.tup (k.map kV)) ∧ H5 D = some (.dT kvs) ∧ kvs.length < sizeLine ∧ Pv (i + 1) (upd H5 D (.dT (putK kvs k z))))
    (hd : ∀ H, Pv n H → Qd H) :
    ∃ W : Nat → Nat → Hp → Prop, (∃ m, W 0 m (upd H1 D (.dT []))) ∧ ∀ i m H, W i m H →
      (J.stop i H ∧ Qd H) ∨ (J.go i H ∧ ∃ Nx : Hp → Prop, (∀ H', Nx H' → ∃ m', m' < m ∧ W (i + 1) m' H') ∧ ∀ x H', J.yld i H x H' → g x (wipe σ vs) H' fun σ2 H2 => wipe σ2 vs = wipe σ vs ∧
        tk σ2 H2 fun y H4 => tv σ2 H4 fun z H5 => ∃ b kvs k, y = .ref b ∧ H5 b = some (.tup (k.map kV)) ∧ H5 D = some (.dT kvs) ∧ kvs.length < sizeLine ∧ Nx (upd H5 D (.dT (putK kvs k z)))) := by
  refine ⟨fun i m H => m = n - i ∧ i ≤ n ∧ Pv i H, ⟨n, by simp, Nat.zero_le _, h0⟩, ?_⟩
  rintro i m H ⟨rfl, hi, p⟩
  have q := hG i H hi p
  by_cases lt : i < n
  · refine .inr ⟨w.goes i H lt q, Pv (i + 1), fun H' p' => ⟨n - (i + 1), by omega, rfl, lt, p'⟩, fun x H' y => hs i x H H' lt p (w.yields i H x H' lt q y)⟩
  · obtain rfl : i = n := by omega
    exact .inl ⟨w.stops H q, hd H p⟩
/-! ### the places known -/
def kp (p : Int × Int) : List Key := [Sum.inl p.1, Sum.inl p.2]
theorem kp_inj : ∀ x y, kp x = kp y → x = y := by
  rintro ⟨a, b⟩ ⟨c, d⟩ h
  simp only [kp, List.cons.injEq] at h
  rw [kInl_inj _ _ h.1, kInl_inj _ _ h.2.1]
theorem kp_kV (p : Int × Int) : (kp p).map kV = pl p := rfl
def ddA (acc : List (Int × Int)) (p : Int × Int) : List (Int × Int) := if p ∈ acc then acc else acc ++ [p]
def dd (ps : List (Int × Int)) : List (Int × Int) := ps.foldl ddA []
def kn (ps : List (Int × Int)) : List (List Key × V) := (dd ps).map fun p => (kp p, V.bl true)
theorem dd_snoc (ps : List (Int × Int)) (p : Int × Int) : dd (ps ++ [p]) = if p ∈ dd ps then dd ps else dd ps ++ [p] := by
  unfold dd
  rw [List.foldl_append]
  rfl
theorem dd_mem (ps : List (Int × Int)) (p : Int × Int) : p ∈ dd ps ↔ p ∈ ps := by
  have A : ∀ (ps acc : List (Int × Int)), p ∈ ps.foldl ddA acc ↔ p ∈ acc ∨ p ∈ ps := by
    intro ps
    induction ps with
    | nil => simp
    | cons q ps ih =>
      intro acc
      rw [List.foldl_cons, ih]
      unfold ddA
      by_cases h : q ∈ acc
      · rw [if_pos h, List.mem_cons]
        constructor
        · rintro (z | z)
          · exact .inl z
          · exact .inr (.inr z)
        · rintro (z | z | z)
          · exact .inl z
          · exact .inl (by rw [z]; exact h)
          · exact .inr z
      · rw [if_neg h, List.mem_append, List.mem_singleton, List.mem_cons, or_assoc]
  have h := A ps []
  unfold dd
  rw [h]
  simp
theorem kn_snoc (ps : List (Int × Int)) (p : Int × Int) : kn (ps ++ [p]) = putK (kn ps) (kp p) (.bl true) := by
  have e := put_enc kp (fun _ : Unit => V.bl true) kp_inj ((dd ps).map fun p => (p, ())) p ()
  rw [List.map_map] at e
  have e1 : ((fun p : (Int × Int) × Unit => (kp p.1, V.bl true)) ∘ fun p : Int × Int => (p, ())) = fun p => (kp p, V.bl true) := rfl
  rw [e1] at e
  unfold kn
  rw [e, dd_snoc]
  unfold putG
  by_cases h : p ∈ dd ps
  · rw [if_pos h, if_pos (List.any_eq_true.mpr ⟨(p, ()), List.mem_map.mpr ⟨p, h, rfl⟩, decide_eq_true rfl⟩), List.map_map, List.map_map]
    refine List.map_congr_left fun q _ => ?_
    show _ = (fun z : (Int × Int) × Unit => (kp z.1, V.bl true)) (if q = p then (q, ()) else (q, ()))
    split <;> rfl
  · rw [if_neg h, if_neg]
    · rw [List.map_append, List.map_append, List.map_map, e1]
      rfl
    · intro z
      obtain ⟨q, h1, h2⟩ := List.any_eq_true.mp z
      obtain ⟨q', h3, rfl⟩ := List.mem_map.mp h1
      have h2 : q' = p := of_decide_eq_true h2
      exact h (h2 ▸ h3)
theorem kn_val (ps : List (Int × Int)) (p : Int × Int) : valV (kn ps) (kp p) = if p ∈ ps then some (.bl true) else none := by
  have e := val_enc kp (fun _ : Unit => V.bl true) kp_inj ((dd ps).map fun p => (p, ())) p
  rw [List.map_map] at e
  have e1 : ((fun p : (Int × Int) × Unit => (kp p.1, V.bl true)) ∘ fun p : Int × Int => (p, ())) = fun p => (kp p, V.bl true) := rfl
  rw [e1] at e
  unfold kn
  rw [e]
  cases h : valG ((dd ps).map fun p => (p, ())) p with
  | none =>
    have h1 := valG_none.mp h
    rw [if_neg]
    · rfl
    · intro z
      exact h1 (List.mem_map.mpr ⟨(p, ()), List.mem_map.mpr ⟨p, (dd_mem ps p).mpr z, rfl⟩, rfl⟩)
  | some u =>
    have h1 := valG_some h
    obtain ⟨q, h2, h3⟩ := List.mem_map.mp h1
    cases h3
    rw [if_pos ((dd_mem ps p).mp h2)]
    rfl
theorem dd_len (ps : List (Int × Int)) : (dd ps).length ≤ ps.length := by
  have A : ∀ (ps acc : List (Int × Int)), (ps.foldl ddA acc).length ≤ acc.length + ps.length := by
    intro ps
    induction ps with
    | nil => exact fun acc => Nat.le_refl _
    | cons q ps ih =>
      intro acc
      refine Nat.le_trans (ih _) ?_
      unfold ddA
      by_cases h : q ∈ acc
      · rw [if_pos h, List.length_cons]
        omega
      · rw [if_neg h, List.length_append, List.length_cons, List.length_cons, List.length_nil]
        omega
  have h := A ps []
  simp only [List.length_nil, Nat.zero_add] at h
  exact h
/-! ### a row's events are written -/
theorem nodup_inj {α β : Type} {f : α → β} {l : List α} (h : (l.map f).Nodup) {a b : α} (ha : a ∈ l) (hb : b ∈ l) (e : f a = f b) : a = b := by
  obtain ⟨i, hi, rfl⟩ := List.mem_iff_getElem.mp ha
  obtain ⟨j, hj, rfl⟩ := List.mem_iff_getElem.mp hb
  have h1 : (l.map f)[i]? = some (f l[i]) := by rw [List.getElem?_map, List.getElem?_eq_getElem hi]; rfl
  have h2 : (l.map f)[j]? = some (f l[i]) := by rw [List.getElem?_map, List.getElem?_eq_getElem hj, e]; rfl
  have h3 := nd_ix h h1 h2
  subst h3
  rfl
def tlPut (tl : Tl) (r : Int) (ev : Ev) : Tl := tl.map fun t => if t.1 = r then (t.1, ev, t.2.2) else t
theorem tlPut_addr (tl : Tl) (r : Int) (ev : Ev) : (tlPut tl r ev).map (·.2.2) = tl.map (·.2.2) := by
  unfold tlPut
  rw [List.map_map]
  refine List.map_congr_left fun t _ => ?_
  show (if t.1 = r then (t.1, ev, t.2.2) else t).2.2 = t.2.2
  split <;> rfl
theorem tlPut_key (tl : Tl) (r : Int) (ev : Ev) : (tlPut tl r ev).map (·.1) = tl.map (·.1) := by
  unfold tlPut
  rw [List.map_map]
  refine List.map_congr_left fun t _ => ?_
  show (if t.1 = r then (t.1, ev, t.2.2) else t).1 = t.1
  split <;> rfl
theorem rt_put {H : Hp} {d e : Addr} {tl : Tl} {r : Int} {ev : Ev} (R : RT H d tl) (hm : (r, ev, e) ∈ tl) (ev' : Ev) : RT (upd H e (.dK (encE ev'))) d (tlPut tl r ev') := by
  have ned : d ≠ e := fun z => R.off (z ▸ List.mem_map.mpr ⟨_, hm, rfl⟩)
  refine ⟨?_, ?_, by rw [tlPut_addr]; exact R.nd, by rw [tlPut_addr]; exact R.off, by rw [tlPut_key]; exact R.key⟩
  · rw [upd_ne ned, R.at_]
    congr 2
    unfold tlPut
    rw [List.map_map]
    refine List.map_congr_left fun t _ => ?_
    show _ = (fun t : Int × Ev × Addr => ((Sum.inl t.1 : Key), V.ref t.2.2)) (if t.1 = r then (t.1, ev', t.2.2) else t)
    split <;> rfl
  · intro t' ht'
    unfold tlPut at ht'
    obtain ⟨t, ht, rfl⟩ := List.mem_map.mp ht'
    by_cases h : t.1 = r
    · rw [if_pos h]
      have e1 : t = (r, ev, e) := nodup_inj R.key ht hm h
      rw [e1]
      exact upd_same
    · rw [if_neg h]
      have ne : t.2.2 ≠ e := fun z => h (by rw [nodup_inj (f := fun t : Int × Ev × Addr => t.2.2) R.nd ht hm z])
      rw [upd_ne ne]
      exact R.ev t ht
theorem rsOf_put {tl : Tl} {r : Int} {ev : Ev} (h : r ∈ tl.map (·.1)) : rsOf (tlPut tl r ev) = putG (rsOf tl) r ev := by
  unfold putG
  rw [if_pos]
  · unfold rsOf tlPut
    rw [List.map_map, List.map_map]
    refine List.map_congr_left fun t _ => ?_
    show (fun t : Int × Ev × Addr => (t.1, t.2.1)) (if t.1 = r then (t.1, ev, t.2.2) else t) = (if t.1 = r then (t.1, ev) else (t.1, t.2.1))
    split <;> rfl
  · obtain ⟨t, h1, h2⟩ := List.mem_map.mp h
    exact List.any_eq_true.mpr ⟨(t.1, t.2.1), List.mem_map.mpr ⟨t, h1, rfl⟩, decide_eq_true h2⟩
theorem tlPut_other {tl : Tl} {r : Int} {ev : Ev} (h : r ∉ tl.map (·.1)) : tlPut tl r ev = tl := by
  unfold tlPut
  conv => rhs; rw [← List.map_id tl]
  refine List.map_congr_left fun t ht => ?_
  rw [if_neg fun z => h (List.mem_map.mpr ⟨t, ht, z⟩)]
  rfl
theorem rsOf_new {tl : Tl} {r : Int} {e : Addr} {ev ev' : Ev} (h : r ∉ tl.map (·.1)) : rsOf (tlPut (tl ++ [(r, ev, e)]) r ev') = putG (rsOf tl) r ev' := by
  have e1 : tlPut (tl ++ [(r, ev, e)]) r ev' = tl ++ [(r, ev', e)] := by
    have e2 := tlPut_other (ev := ev') h
    unfold tlPut at e2 ⊢
    rw [List.map_append, e2, List.map_cons, if_pos rfl]
    rfl
  rw [e1]
  unfold putG
  rw [if_neg]
  · unfold rsOf
    rw [List.map_append]
    rfl
  · intro z
    obtain ⟨p, h1, h2⟩ := List.any_eq_true.mp z
    unfold rsOf at h1
    obtain ⟨t, h3, rfl⟩ := List.mem_map.mp h1
    exact h (List.mem_map.mpr ⟨t, h3, of_decide_eq_true h2⟩)
theorem rt_new {H : Hp} {d e : Addr} {tl : Tl} {r : Int} (R : RT H d tl) (he : H e = none) (h : r ∉ tl.map (·.1)) :
    RT (upd (upd H e (.dK [])) d (.dK (putK (tl.map fun t => ((Sum.inl t.1 : Key), V.ref t.2.2)) (Sum.inl r) (.ref e)))) d (tl ++ [(r, [], e)]) := by
  have nde : d ≠ e := fun z => by have := R.at_; rw [z, he] at this; cases this
  have nin : e ∉ tl.map (·.2.2) := by
    intro z
    obtain ⟨t, h1, h2⟩ := List.mem_map.mp z
    have := R.ev t h1
    rw [h2, he] at this
    cases this
  refine ⟨?_, ?_, ?_, ?_, ?_⟩
  · rw [upd_same]
    congr 2
    unfold putK
    rw [if_neg]
    · rw [List.map_append]
      rfl
    · intro z
      obtain ⟨p, h1, h2⟩ := List.any_eq_true.mp z
      obtain ⟨t, h3, rfl⟩ := List.mem_map.mp h1
      exact h (List.mem_map.mpr ⟨t, h3, kInl_inj _ _ (of_decide_eq_true h2)⟩)
  · intro t ht
    rcases List.mem_append.mp ht with ht | ht
    · have n1 : t.2.2 ≠ d := fun z => R.off (List.mem_map.mpr ⟨t, ht, z⟩)
      have n2 : t.2.2 ≠ e := fun z => nin (List.mem_map.mpr ⟨t, ht, z⟩)
      rw [upd_ne n1, upd_ne n2]
      exact R.ev t ht
    · rw [List.mem_singleton.mp ht]
      rw [upd_ne (fun z => nde z.symm)]
      exact upd_same
  · rw [List.map_append]
    exact List.nodup_append.mpr ⟨R.nd, by simp, fun a ha b hb z => nin (by rw [List.mem_singleton.mp hb] at z; rw [z] at ha; exact ha)⟩
  · rw [List.map_append, List.mem_append]
    rintro (z | z)
    · exact R.off z
    · exact nde (List.mem_singleton.mp z)
  · rw [List.map_append]
    exact List.nodup_append.mpr ⟨R.key, by simp, fun a ha b hb z => h (by rw [List.mem_singleton.mp hb] at z; rw [z] at ha; exact ha)⟩
theorem rt_same {H H' : Hp} {d : Addr} {tl : Tl} (s : Same H H') (R : RT H d tl) : RT H' d tl := ⟨s _ _ R.at_, fun t ht => s _ _ (R.ev t ht), R.nd, R.off, R.key⟩
theorem rt_but {H H' : Hp} {x d : Addr} {tl : Tl} (b : But x H H') {C dx : Addr} {F : Fs} (hx : H x = some (.ins C dx F)) (R : RT H d tl) : RT H' d tl :=
  ⟨b _ _ (fun z => by have := R.at_; rw [z, hx] at this; cases this) R.at_, fun t ht => b _ _ (fun z => by have := R.ev t ht; rw [z, hx] at this; cases this) (R.ev t ht), R.nd, R.off, R.key⟩
end K53
set_option maxHeartbeats 4000000
namespace K53
open PySem PySem.Spec PyProof.Rows L2
open C8 (fnScope_by pe_mk pe_mt pe_mt0 InsC)
open SX (S)
def oF (g : Bool) (pA kA' rA : Addr) (ar tn inn : Int) : Fs := [(kN, net g), (kP, .ref pA), (kK, .ref kA'), (kO, .ref rA), (kA, .int ar), (kT, .int tn), (kI, .int inn)]
def oF2 (g : Bool) (pA : Addr) : Fs := putF kP (.ref pA) (putF kN (net g) [])
def oF3 (g : Bool) (pA kA' : Addr) : Fs := putF kK (.ref kA') (oF2 g pA)
def oF4 (g : Bool) (pA kA' rA : Addr) : Fs := putF kO (.ref rA) (oF3 g pA kA')
def oF5 (g : Bool) (pA kA' rA : Addr) (ar : Int) : Fs := putF kA (.int ar) (oF4 g pA kA' rA)
def oF6 (g : Bool) (pA kA' rA : Addr) (ar tn : Int) : Fs := putF kT (.int tn) (oF5 g pA kA' rA ar)
theorem oF7 (g : Bool) (pA kA' rA : Addr) (ar tn inn : Int) : putF kI (.int inn) (oF6 g pA kA' rA ar tn) = oF g pA kA' rA ar tn inn := by kernel_rfl
theorem oF_l (g : Bool) (pA kA' rA : Addr) (ar tn : Int) : (oF2 g pA).length = 2 ∧ (oF3 g pA kA').length = 3 ∧ (oF4 g pA kA' rA).length = 4 ∧ (oF5 g pA kA' rA ar).length = 5 ∧ (oF6 g pA kA' rA ar tn).length = 6 := ⟨by kernel_rfl, by kernel_rfl, by kernel_rfl, by kernel_rfl, by kernel_rfl⟩
theorem oF2p (g : Bool) (pA : Addr) : (oF2 g pA).lookup kP = some (.ref pA) := by kernel_rfl
theorem oF4n (g : Bool) (pA kA' rA : Addr) : (oF4 g pA kA' rA).lookup kN = some (net g) := by kernel_rfl
theorem oF4p (g : Bool) (pA kA' rA : Addr) : (oF4 g pA kA' rA).lookup kP = some (.ref pA) := by kernel_rfl
theorem oF4r (g : Bool) (pA kA' rA : Addr) : (oF4 g pA kA' rA).lookup kO = some (.ref rA) := by kernel_rfl
theorem oF4mp (g : Bool) (pA kA' rA : Addr) : (oF4 g pA kA' rA).lookup (Str.ofString "move_pairs") = none := by kernel_rfl
theorem oF4w (g : Bool) (pA kA' rA : Addr) : (oF4 g pA kA' rA).lookup (Str.ofString "windings") = none := by kernel_rfl
theorem oF5t (g : Bool) (pA kA' rA : Addr) (ar : Int) : (oF5 g pA kA' rA ar).lookup (Str.ofString "turned_round") = none := by kernel_rfl
theorem oF5mp (g : Bool) (pA kA' rA : Addr) (ar : Int) : (oF5 g pA kA' rA ar).lookup (Str.ofString "move_pairs") = none := by kernel_rfl
theorem oF5n (g : Bool) (pA kA' rA : Addr) (ar : Int) : (oF5 g pA kA' rA ar).lookup kN = some (net g) := by kernel_rfl
theorem oF5p (g : Bool) (pA kA' rA : Addr) (ar : Int) : (oF5 g pA kA' rA ar).lookup kP = some (.ref pA) := by kernel_rfl
theorem oF6c (g : Bool) (pA kA' rA : Addr) (ar tn : Int) : (oF6 g pA kA' rA ar tn).lookup (Str.ofString "corners") = none := by kernel_rfl
theorem oF6w (g : Bool) (pA kA' rA : Addr) (ar tn : Int) : (oF6 g pA kA' rA ar tn).lookup (Str.ofString "windings") = none := by kernel_rfl
theorem oF6n (g : Bool) (pA kA' rA : Addr) (ar tn : Int) : (oF6 g pA kA' rA ar tn).lookup kN = some (net g) := by kernel_rfl
theorem oF6r (g : Bool) (pA kA' rA : Addr) (ar tn : Int) : (oF6 g pA kA' rA ar tn).lookup kO = some (.ref rA) := by kernel_rfl
theorem oF6k (g : Bool) (pA kA' rA : Addr) (ar tn : Int) : (oF6 g pA kA' rA ar tn).lookup kK = some (.ref kA') := by kernel_rfl
/-- what an outline of the places ps shows -/
def orow (g : Bool) (ps : List (Int × Int)) : List (Int × Ev) := rws (crs g ps)
def owin (g : Bool) (ps : List (Int × Int)) : List (List Int × Int) := wnd g (orow g ps)
def oarea (g : Bool) (ps : List (Int × Int)) : Int := ((owin g ps).map (·.2)).sum
def oinner (g : Bool) (ps : List (Int × Int)) : Int := (((cnr (owin g ps)).filter fun p => decide (p ∉ ps)).length : Nat)
/-- the outline at a -/
def isO (CO : Addr) (H : Hp) (a : Addr) (g : Bool) (ps : List (Int × Int)) : Prop := ∃ dx pA kA' rA bs tl, H a = some (.ins CO dx (oF g pA kA' rA (oarea g ps) (trn g ps) (oinner g ps))) ∧ H pA = some (.lst (bs.map V.ref)) ∧ Pts H bs ps ∧
  H kA' = some (.dT (kn ps)) ∧ RT H rA tl ∧ rsOf tl = orow g ps
/-- places that the walk can take -/
def okP (g : Bool) (ps : List (Int × Int)) : Prop := okSt g ps ∧ rwOk (orow g ps) ∧ ps.length ≤ 1000
theorem isL_but {CL CW x C dx : Addr} {H H' : Hp} {a : Addr} {g : Bool} {cs : List Nat} (b : But x H H') (hx : H x = some (.ins C dx [])) (h : isL CL CW H a g cs) : isL CL CW H' a g cs := by
  obtain ⟨dl, wk, dr, p, h, bs, h1, h2, h3, h4⟩ := h
  exact ⟨dl, wk, dr, p, h, bs, b _ _ (fun z => by rw [z, hx] at h1; cases h1) h1, isW_but b hx h2, b _ _ (fun z => by rw [z, hx] at h3; cases h3) h3, pts_sam (but_sam b hx) h4⟩
theorem lF_st (wk dr p h : Addr) (n : Nat) : (lF wk dr p h n).lookup (Str.ofString "stored") = none := by kernel_rfl
/-- how things stand while an outline is made -/
structure OSt (CO x dx pA kA' : Addr) (bs : List Addr) (ps : List (Int × Int)) (F : Fs) (H0 H : Hp) : Prop where
  but : But x H0 H
  at_ : H x = some (.ins CO dx F)
  pl : H pA = some (.lst (bs.map V.ref))
  pt : Pts H bs ps
  kn : H kA' = some (.dT (kn ps))
section
variable {CO x dx pA kA' : Addr} {bs : List Addr} {ps : List (Int × Int)} {F F' : Fs} {H0 H H' : Hp}
theorem OSt.same (a : OSt CO x dx pA kA' bs ps F H0 H) (s : Same H H') : OSt CO x dx pA kA' bs ps F H0 H' := ⟨but_same a.but s, s _ _ a.at_, s _ _ a.pl, pts_sam (samT_of s) a.pt, s _ _ a.kn⟩
theorem OSt.put (a : OSt CO x dx pA kA' bs ps F H0 H) : OSt CO x dx pA kA' bs ps F' H0 (upd H x (.ins CO dx F')) :=
  ⟨but_put a.but, upd_same, by rw [upd_ne (fun z => by have e := a.pl; rw [z, a.at_] at e; cases e)]; exact a.pl, pts_sam (samT_put a.at_ fun _ z => nomatch z) a.pt, by rw [upd_ne (fun z => by have e := a.kn; rw [z, a.at_] at e; cases e)]; exact a.kn⟩
theorem OSt.mut {e : Addr} {k1 k2 : List (Key × V)} (a : OSt CO x dx pA kA' bs ps F H0 H) (he : H e = some (.dK k1)) (h0 : H0 e = none) : OSt CO x dx pA kA' bs ps F H0 (upd H e (.dK k2)) :=
  ⟨but_mut a.but h0, by rw [upd_ne (fun z => by have e := a.at_; rw [z, he] at e; cases e)]; exact a.at_, by rw [upd_ne (fun z => by have e := a.pl; rw [z, he] at e; cases e)]; exact a.pl, pts_sam (samT_put he fun _ z => nomatch z) a.pt,
    by rw [upd_ne (fun z => by have e := a.kn; rw [z, he] at e; cases e)]; exact a.kn⟩
end
section
variable {P : Program} {w : World} {K : PySem.W.Frag} {mg : Str → Option Value} {base : Heap} {CO CL CW sS : Addr}
def spOInit (CO CL CW : Addr) : Sp := fun vs H Q _ => ∃ (x dx lp : Addr) (g : Bool) (cs : List Nat), vs = [.ref x, .ref lp] ∧ H x = some (.ins CO dx []) ∧ isL CL CW H lp g cs ∧ lper g cs ≠ 0 ∧ okP g (lplaces g cs) ∧ ∀ H', isO CO H' x g (lplaces g cs) → But x H H' → Q .non H'
abbrev nO0 : List Str := ["self", "loop", "before", "after", "found", "row", "at", "sign", "events", "place"]
theorem scO0 : FnScope nO0 ["self", "loop"] (L2.defScope (icl 58 0)) := fnScope_by (by decide +kernel)
theorem o_init (T : TxB K mg) (O : TxO K mg CO) (L : TxL K mg CL) (d : MakT K mg "Outline" CO "Outline.__init__" (icl 58 0)) (c1 : Cal P w K mg base 1 "check_loop" (spIsLoop CL CW)) (c2 : Prp P w K mg base 1 CL "period" (spLPer CL CW)) (c3 : Prp P w K mg base 1 CL "walk" (spLWalk CL CW))
    (c4 : Prp P w K mg base 1 CW "net" (spWNet CW)) (c5 : Met P w K mg base 1 CL "stored" (spLStored CL CW)) (c6 : Met P w K mg base 1 CO "move_pairs" (spPairs CO)) (c7 : Cal P w K mg base 1 "crossing" (spCros K)) (c8 : Met P w K mg base 2 CO "windings" (spWnd CO))
    (c9 : Met P w K mg base 2 CO "turned_round" (spTrn CO)) (c10 : Met P w K mg base 3 CO "corners" (spCor CO)) : Mak P w K mg base 5 "Outline" CO (spOInit CO CL CW) := by
  refine mak d scO0 (fun vs H Q E h => ?_) (fun _ _ _ _ _ _ us hl => match us, hl with | [_, _], _ => rfl) (fun f cdv A outer s H vs Q E hr h => ?_)
  · obtain ⟨x, dx, lp, g, cs, rfl, _⟩ := h
    rfl
  · obtain ⟨x, dx, lp, g, cs, rfl, hx, hL, hper, ⟨hst, hrw, hlen⟩, k⟩ := h
    refine ⟨_, pss_cons (ps_expr (C8.pe_c c1 hr (by decide) rfl (pa_cons (pv 1) pa_nil))) (pss_cons (ps_if (pt_cmpR op_eq (pe_pr c2 hr (by decide) (pv 1)) pe_int (nomark _)) (pss_one ps_never) pss_nil) (pss_cons (ps_fld (pv 0) (pe_pr c4 hr (by decide) (pe_pr c3 hr (by decide) (pv 1))) rfl) (pss_cons (ps_fld (pv 0) (pe_mt0 c5 hr (by decide) (pv 1)) rfl)
      (C8.pss_cut (ps_fld (pv 0) (pe_dcT (own := [("place", 9)]) (g := gName 9) (hu_of hr) rfl scO0.nd (pi_list (pe_fld (pv 0) rfl)) (blkOk_by (own := [("place", 9)]) (N := nO0) (sc := L2.defScope (icl 58 0)) (by decide +kernel)) (fun _ _ _ _ _ => (pg_name (i := 9) scO0.nd rfl (Or.inl rfl))) (fun _ _ _ _ _ => (pv 9)) (fun _ _ _ _ _ => pe_bl)) rfl)
      (pss_cons (ps_fld (pv 0) pe_dnewK rfl)
      (C8.pss_cut (ps_for PassesOwn.never rfl (pi_list (pe_mt0 c6 hr (by decide) (pv 0))) (pg_tup rfl (pgs_cons (pg_name (i := 2) scO0.nd rfl (Or.inl rfl)) (pgs_cons (pg_name (i := 3) scO0.nd rfl (Or.inl rfl)) pgs_nil))) (pss_cons (ps_set (i := 4) scO0.nd rfl (Or.inl rfl) (C8.pe_c c7 hr (by decide) rfl (pa_cons (pe_fld (pv 0) rfl) (pa_cons (pv 2) (pa_cons (pv 3) pa_nil))))) (pss_one (ps_if (pt_cmpR op_notN (pv 4) pe_non (nomark _)) (pss_cons (ps_asg (pv 4) (pg_tup rfl (pgs_cons (pg_name (i := 5) scO0.nd rfl (Or.inl rfl)) (pgs_cons (pg_name (i := 6) scO0.nd rfl (Or.inl rfl)) (pgs_cons (pg_name (i := 7) scO0.nd rfl (Or.inl rfl)) pgs_nil))))) (C8.pss_cut (ps_set (i := 8) scO0.nd rfl (Or.inl rfl) (pe_dsetd (pe_fld (pv 0) rfl) (pv 5) pe_dnewK ⟨by rfl, by rfl, by rfl, by rfl⟩))
          (pss_one (ps_dput (hu_of hr) (pv 8) (pv 6) (pe_op op_add (pe_dget2 (hu_of hr) (pv 8) (pv 6) pe_int ⟨by rfl, by rfl, by rfl, by rfl⟩) (pv 7)) (by rfl))))) pss_nil))))
      (pss_cons (ps_fld (pv 0) (pe_sumVals rfl T.sum (pe_mt0 c8 hr (by decide) (pv 0))) rfl) (pss_cons (ps_fld (pv 0) (pe_mt0 c9 hr (by decide) (pv 0)) rfl) (pss_one (ps_fld (pv 0) (pe_callB call_len_seq (by rfl) T.len PySem.boot_len (pa_cons (pe_lc (own := [("place", 9)]) (g := gName 9) rfl scO0.nd (pi_list (pe_mt0 c10 hr (by decide) (pv 0))) (blkOk_by (own := [("place", 9)]) (N := nO0) (sc := L2.defScope (icl 58 0)) (by decide +kernel)) (fun _ _ _ _ _ => (pg_name (i := 9) scO0.nd rfl (Or.inl rfl))) (fun _ _ _ _ _ => (pts_one (pt_cmp (pc_dnotin (hu_of hr) (pv 9) (pe_fldK (K := K) rfl (pv 0)))))) (fun _ _ _ _ _ => (pv 9))) pa_nil)) rfl)))))))))), ?_⟩
    have hL' := hL
    obtain ⟨dl, wk, dr, lpA, lh, lbs, hl1, hl2, hl3, hl4⟩ := hL'
    obtain ⟨dw, wm, wp, was, wbs, hw1, _⟩ := id hl2
    generalize hps : lplaces g cs = ps at *
    refine ⟨_, rfl, lp, g, cs, rfl, hL, ?_⟩
    refine ⟨_, rfl, lp, _, _, rfl, hl1, lp, g, cs, rfl, hL, rfl, _, rfl, itb (b := false) (decide_eq_false fun z => hper (by injection z with z; omega)) (iteF ?_)⟩
    refine ⟨_, rfl, lp, _, _, rfl, hl1, lp, g, cs, rfl, hL, fun wk2 hw2 => ?_⟩
    obtain ⟨dw2, wm2, wp2, was2, wbs2, hw3, _⟩ := id hw2
    refine ⟨wk2, _, _, rfl, hw3, wk2, g, cs, rfl, hw2, _, rfl, _, _, _, _, rfl, hx, O.cl, O.n1, (by show 0 < 1000; decide), ?_⟩
    generalize hHA : upd H x _ = HA
    have bA : But x H HA := by rw [← hHA]; exact but_put fun _ _ _ e => e
    have xA : HA x = some (.ins CO dx (putF kN (net g) [])) := by rw [← hHA]; exact upd_same
    have LA := isL_but bA hx hL
    have nlx : lp ≠ x := fun z => by rw [z, hx] at hl1; cases hl1
    refine ⟨_, rfl, lp, _, _, rfl, bA _ _ nlx hl1, lF_st _ _ _ _ _, lp, g, cs, rfl, LA, fun pA bs hpA pA1 => ?_⟩
    rw [hps] at pA1
    have hlb : bs.length = ps.length := Paired.length pA1
    generalize hHB : upd HA pA _ = HB
    have sB : Same HA HB := by rw [← hHB]; exact same_upd hpA
    have eB : HB pA = some (.lst (bs.map V.ref)) := by rw [← hHB]; exact upd_same
    have npx : pA ≠ x := fun z => by rw [z, xA] at hpA; cases hpA
    refine ⟨_, rfl, _, _, _, _, rfl, sB _ _ xA, O.cl, O.n2, (by show 1 < 1000; decide), ?_⟩
    generalize hHC : upd HB x _ = HC
    have xC : HC x = some (.ins CO dx (oF2 g pA)) := by rw [← hHC]; exact upd_same
    have bC : But x H HC := by rw [← hHC]; exact but_put (but_same bA sB)
    have eC : HC pA = some (.lst (bs.map V.ref)) := by rw [← hHC, upd_ne npx]; exact eB
    have pC : Pts HC bs ps := by rw [← hHC]; exact pts_sam (samT_trans (samT_of sB) (samT_put (sB _ _ xA) fun _ z => nomatch z)) pA1
    refine ⟨fun σ' H' => ∃ kA', σ' = [some (.ref x), some (.ref lp), none, none, none, none, none, none, none, none] ∧ OSt CO x dx pA kA' bs ps (oF3 g pA kA') H H', ?_, ?_⟩
    · refine ⟨_, rfl, _, _, _, _, _, rfl, xC, O.cl, O.n2, oF2p g pA, pA, rfl, ⟨_, .of eC⟩, fun D hD => dcT_it walk_list (fun i H' => Same HC H' ∧ H' D = some (.dT (kn (ps.take i)))) ⟨same_upd hD, upd_same⟩ (fun _ H' _ z => .of (z.1 _ _ eC)) ?_ ?_⟩
      · rintro i _ _ H2 hi ⟨s2, e2⟩ ⟨rfl, hx2⟩
        obtain ⟨b, hb1, rfl⟩ := map_at hx2
        obtain ⟨p, hb2, hp2⟩ := pair_l pC hb1
        refine ⟨rfl, _, rfl, b, kn (ps.take i), kp p, rfl, s2 _ _ hb2, e2, ?_, same_put s2 hD, ?_⟩
        · unfold kn
          rw [List.length_map]
          have z1 := dd_len (ps.take i)
          have z2 : (ps.take i).length ≤ ps.length := List.length_take_le' i ps
          exact Nat.lt_of_le_of_lt (by omega : _ ≤ 1000) (by decide)
        · rw [upd_same, take_snoc hp2, kn_snoc]
      · rintro H2 ⟨s2, e2⟩
        rw [List.length_map, hlb, List.take_length] at e2
        have nDx : D ≠ x := fun z => by rw [z, xC] at hD; cases hD
        refine ⟨_, rfl, _, _, _, _, rfl, s2 _ _ xC, O.cl, O.n3, (by rw [(oF_l g pA pA pA 0 0).1]; decide), D, rfl, but_put (but_same bC s2), upd_same, ?_, ?_, ?_⟩
        · rw [upd_ne npx]
          exact s2 _ _ eC
        · exact pts_sam (samT_trans (samT_of s2) (samT_put (s2 _ _ xC) fun _ z => nomatch z)) pC
        · rw [upd_ne nDx]
          exact e2
    rintro _ H2 ⟨kA', rfl, O2⟩
    refine fun rA hrA => ⟨_, rfl, _, _, _, _, rfl, same_upd hrA _ _ O2.at_, O.cl, O.n4, (by rw [(oF_l g pA kA' pA 0 0).2.1]; decide), ?_⟩
    have O3 : OSt CO x dx pA kA' bs ps (oF4 g pA kA' rA) H (upd (upd H2 rA (.dK [])) x (.ins CO dx (putF kO (.ref rA) (oF3 g pA kA')))) := (O2.same (same_upd hrA)).put
    have nrx : rA ≠ x := fun z => by rw [z, O2.at_] at hrA; cases hrA
    have r3 : upd (upd H2 rA (.dK [])) x (.ins CO dx (putF kO (.ref rA) (oF3 g pA kA'))) rA = some (.dK []) := by rw [upd_ne nrx, upd_same]
    have f3 := but_free O2.but hrA nrx
    generalize upd (upd H2 rA (.dK [])) x (.ins CO dx (putF kO (.ref rA) (oF3 g pA kA'))) = H3 at O3 r3
    refine ⟨fun σ' H' => (∃ v2 v3 v4 v5 v6 v7 v8, σ' = [some (.ref x), some (.ref lp), v2, v3, v4, v5, v6, v7, v8, none]) ∧ OSt CO x dx pA kA' bs ps (oF4 g pA kA' rA) H H' ∧ ∃ tl, RT H' rA tl ∧ rsOf tl = orow g ps, ?_, ?_⟩
    · refine ⟨_, rfl, x, dx, _, rfl, O3.at_, oF4mp g pA kA' rA, x, dx, pA, _, bs, ps, rfl, O3.at_, oF4p g pA kA' rA, O3.pl, O3.pt, hlen, fun H4 l ts s4 l4 p4 => ?_⟩
      have O4 := O3.same s4
      have nlr : l ≠ rA := fun z => by rw [z, s4 _ _ r3] at l4; cases l4
      have R4 : RT H4 rA [] := ⟨s4 _ _ r3, (fun t h => nomatch h), List.Pairwise.nil, (fun h => nomatch h), List.Pairwise.nil⟩
      refine ⟨l, rfl, ⟨_, .of l4⟩, for_it walk_list (fun i σ' H' => (∃ v2 v3 v4 v5 v6 v7 v8, σ' = [some (.ref x), some (.ref lp), v2, v3, v4, v5, v6, v7, v8, none]) ∧ OSt CO x dx pA kA' bs ps (oF4 g pA kA' rA) H H' ∧ H' l = some (.lst (ts.map V.ref)) ∧ Prs H' ts (prs ps) ∧
        ∃ tl, RT H' rA tl ∧ (∀ t ∈ tl, H t.2.2 = none) ∧ tl.length ≤ i ∧ (∀ t ∈ tl, t.2.1.length ≤ i) ∧ rsOf tl = rws (((prs ps).take i).filterMap fun z => cros g z.1 z.2))
        ⟨⟨_, _, _, _, _, _, _, rfl⟩, O4, l4, p4, [], R4, (fun t h => nomatch h), Nat.le_refl _, (fun t h => nomatch h), rfl⟩ (fun _ _ _ _ z => .of z.2.2.1) ?_ ?_⟩
      · rintro i _ σ' _ H5 hi ⟨⟨v2, v3, v4, v5, v6, v7, v8, rfl⟩, O5, l5, p5, tl, R5, f5, tn5, te5, q5⟩ ⟨rfl, hx5⟩
        obtain ⟨t, ht, rfl⟩ := map_at hx5
        obtain ⟨z, ⟨b, c, h1, h2, h3⟩, hz⟩ := pair_l p5 ht
        have hi' : i < 1000 := by
          have y := Paired.length p5
          have y2 : (prs ps).length ≤ ps.length := by unfold prs; rw [List.length_zip]; exact Nat.min_le_left _ _
          rw [List.length_map] at hi
          omega
        refine ⟨t, _, rfl, .of h1, rfl, _, _, rfl, _, _, rfl, rfl, ?_⟩
        refine ⟨_, rfl, _, _, _, _, _, rfl, O5.at_, O.cl, O.n1, oF4n g pA kA' rA, _, rfl, _, rfl, g, b, c, z.1, z.2, rfl, h2, h3, fun hcn => ?_, fun r q sg hcs H6 u s6 e6 => ?_⟩
        · refine ⟨_, rfl, rfl, _, rfl, iteF ⟨⟨_, _, _, _, _, _, _, rfl⟩, O5, l5, p5, tl, R5, f5, Nat.le_succ_of_le tn5, fun t h => Nat.le_succ_of_le (te5 t h), ?_⟩⟩
          rw [take_snoc hz, List.filterMap_append, List.filterMap_cons, hcn, q5]
          simp
        · refine ⟨_, rfl, rfl, _, rfl, iteT ?_⟩
          have O6 := O5.same s6
          have R6 := rt_same s6 R5
          refine ⟨_, rfl, u, _, rfl, .of e6, rfl, _, _, rfl, _, _, rfl, _, _, rfl, rfl, ?_⟩
          have frr : rA ≠ x := nrx
          refine ⟨fun σ' H' => ∃ e ev tl', σ' = [some (.ref x), some (.ref lp), some (.ref b), some (.ref c), some (.ref u), some (.int r), some (.int q), some (.int sg), some (.ref e), none] ∧ OSt CO x dx pA kA' bs ps (oF4 g pA kA' rA) H H' ∧ H' l = some (.lst (ts.map V.ref)) ∧ Prs H' ts (prs ps) ∧
            RT H' rA tl' ∧ (∀ t ∈ tl', H t.2.2 = none) ∧ tl'.length ≤ i + 1 ∧ (∀ t ∈ tl', t.2.1.length ≤ i) ∧ (r, ev, e) ∈ tl' ∧ ev = (valG (rsOf tl) r).getD [] ∧ ∀ ev', rsOf (tlPut tl' r ev') = putG (rsOf tl) r ev', ?_, ?_⟩
          · refine ⟨_, rfl, _, _, _, _, _, rfl, O6.at_, O.cl, O.n4, oF4r g pA kA' rA, rA, rfl, .inl ⟨_, .of R6.at_⟩, _, rfl, fun e he => ⟨_, Sum.inl r, same_upd he _ _ R6.at_, rfl, ?_, fun v hv => ?_, fun hv => ?_⟩⟩
            · rw [List.length_map]
              exact Nat.lt_of_le_of_lt (by omega : _ ≤ 1000) (by decide)
            · rw [rt_val] at hv
              obtain ⟨t0, h4, h5⟩ := Option.map_eq_some_iff.mp hv
              have hm := List.mem_of_find?_eq_some h4
              have hr0 : t0.1 = r := by
                have y := List.find?_some h4
                exact of_decide_eq_true y
              obtain ⟨r0, ev, e0⟩ := t0
              have hr0 : r0 = r := hr0
              subst hr0
              cases h5
              refine ⟨e0, ev, tl, rfl, O6.same (same_upd he), same_upd he _ _ (s6 _ _ l5), prs_sam (samT_of (Same.trans s6 (same_upd he))) p5, rt_same (same_upd he) R6, f5, Nat.le_succ_of_le tn5, te5, hm, ?_, fun ev' => rsOf_put (List.mem_map.mpr ⟨_, hm, rfl⟩)⟩
              rw [rt_valG, h4]
              rfl
            · have hnk : r ∉ tl.map (·.1) := by
                intro z
                rw [rt_val] at hv
                have hv := Option.map_eq_none_iff.mp hv
                rw [List.find?_eq_none] at hv
                obtain ⟨t0, h4, h5⟩ := List.mem_map.mp z
                exact hv t0 h4 (decide_eq_true h5)
              have O7 := O6.same (same_upd (o := .dK []) he)
              have nex : e ≠ x := fun z => by rw [z, O6.at_] at he; cases he
              have st : SamT H6 (upd (upd H6 e (.dK [])) rA (.dK (putK (tl.map fun t => ((Sum.inl t.1 : Key), V.ref t.2.2)) (Sum.inl r) (.ref e)))) := samT_trans (samT_of (same_upd he)) (samT_put (same_upd he _ _ R6.at_) fun _ z => nomatch z)
              refine ⟨e, [], tl ++ [(r, [], e)], rfl, O7.mut (same_upd he _ _ R6.at_) f3, ?_, prs_sam (samT_trans (samT_of s6) st) p5, rt_new R6 he hnk, ?_, by rw [List.length_append]; exact Nat.succ_le_succ tn5, ?_, List.mem_append_right _ List.mem_cons_self, ?_, fun ev' => rsOf_new hnk⟩
              · rw [upd_ne nlr]
                exact same_upd he _ _ (s6 _ _ l5)
              · intro t0 h4
                rcases List.mem_append.mp h4 with h4 | h4
                · exact f5 t0 h4
                · rw [List.mem_singleton.mp h4]
                  exact but_free O6.but he nex
              · intro t0 h4
                rcases List.mem_append.mp h4 with h4 | h4
                · exact te5 t0 h4
                · rw [List.mem_singleton.mp h4]
                  exact Nat.zero_le _
              · have z : valG (rsOf tl) r = none := valG_none.mpr (by unfold rsOf; rw [List.map_map]; exact hnk)
                rw [z]
                rfl
          · rintro _ H7 ⟨e, ev, tl', rfl, O7, l7, p7, R7, f7, tn7, te7, hm7, hev, hput⟩
            have he7 := R7.ev _ hm7
            refine ⟨_, rfl, e, rfl, .inl ⟨_, .of he7⟩, _, rfl, _, DGet.k (k := Sum.inl q) he7, ?_⟩
            rw [encE_val]
            have eg : ((valG ev q).map V.int).getD (.int 0) = .int (evGet ev q) := by
              unfold evGet
              cases valG ev q <;> rfl
            rw [eg]
            refine ⟨_, rfl, _, _, rfl, rfl, _, rfl, _, rfl, e, _, rfl, DPut.k (k := Sum.inl q) he7 ?_, ?_⟩
            · unfold encE
              rw [List.length_map]
              exact Nat.lt_of_le_of_lt (Nat.le_trans (te7 _ hm7) (by omega : i ≤ 1000)) (by decide)
            · have e8 : (fun i j : Int => V.int (i + j)) (evGet ev q) sg = V.int (evGet ev q + sg) := rfl
              rw [e8, encE_put]
              have nle : l ≠ e := fun z => by rw [z, he7] at l7; cases l7
              refine ⟨⟨_, _, _, _, _, _, _, rfl⟩, O7.mut he7 (f7 _ hm7), by rw [upd_ne nle]; exact l7, prs_sam (samT_put he7 fun _ z => nomatch z) p7, tlPut tl' r (putG ev q (evGet ev q + sg)), rt_put R7 hm7 _, ?_, ?_, ?_, ?_⟩
              · intro t0 h4
                have h5 : t0.2.2 ∈ (tlPut tl' r (putG ev q (evGet ev q + sg))).map (·.2.2) := List.mem_map.mpr ⟨t0, h4, rfl⟩
                rw [tlPut_addr] at h5
                obtain ⟨t1, h6, h7⟩ := List.mem_map.mp h5
                rw [← h7]
                exact f7 t1 h6
              · unfold tlPut
                rw [List.length_map]
                exact tn7
              · intro t0 h4
                unfold tlPut at h4
                obtain ⟨t1, h6, rfl⟩ := List.mem_map.mp h4
                by_cases h8 : t1.1 = r
                · rw [if_pos h8]
                  have h9 : (putG ev q (evGet ev q + sg)).length ≤ ev.length + 1 := by
                    have y := congrArg List.length (putG_keys ev q (evGet ev q + sg))
                    rw [List.length_map] at y
                    split at y
                    · rw [y, List.length_map]; omega
                    · rw [y, List.length_append, List.length_map]; exact Nat.le_refl _
                  exact Nat.le_trans h9 (Nat.succ_le_succ (te7 _ hm7))
                · rw [if_neg h8]
                  exact Nat.le_succ_of_le (te7 t1 h6)
              · rw [hput, take_snoc hz, List.filterMap_append, List.filterMap_cons, hcs, List.filterMap_nil]
                unfold rws
                rw [List.foldl_append, ← rws, ← q5, List.foldl_cons, List.foldl_nil]
                unfold rwAdd evAdd
                rw [← hev]
      · rintro σ' H5 ⟨hσ, O5, l5, p5, tl, R5, _, _, _, q5⟩
        refine ⟨hσ, O5, tl, R5, ?_⟩
        rw [q5, List.length_map, Paired.length p5, List.take_length]
        rfl
    · rintro _ H5 ⟨⟨v2, v3, v4, v5, v6, v7, v8, rfl⟩, O5, tl, R5, q5⟩
      obtain ⟨-, len3, len4, len5, len6⟩ := oF_l g pA kA' rA (oarea g ps) (trn g ps)
      have hrw5 : rwOk (rsOf tl) := by rw [q5]; exact hrw
      refine ⟨_, rfl, x, dx, _, rfl, O5.at_, oF4w g pA kA' rA, x, dx, rA, _, g, tl, rfl, O5.at_, oF4n g pA kA' rA, oF4r g pA kA' rA, R5, hrw5, fun H6 f s6 f0 f1 => ?_⟩
      rw [q5] at f1
      refine ⟨f, _, (owin g ps).map (·.2), rfl, f1, ?_, ?_⟩
      · unfold encW owin
        rw [List.map_map, List.map_map]
        rfl
      have O6 := O5.same s6
      refine ⟨_, rfl, _, _, _, _, rfl, O6.at_, O.cl, O.n5, (by rw [len4]; decide), ?_⟩
      have O7 : OSt CO x dx pA kA' bs ps (oF5 g pA kA' rA (oarea g ps)) H (upd H6 x (.ins CO dx (putF kA (.int (((owin g ps).map (·.2)).sum)) (oF4 g pA kA' rA)))) := O6.put
      have R7 : RT (upd H6 x (.ins CO dx (putF kA (.int (((owin g ps).map (·.2)).sum)) (oF4 g pA kA' rA)))) rA tl := rt_but (but_put fun _ _ _ e => e) O6.at_ (rt_same s6 R5)
      generalize upd H6 x (.ins CO dx (putF kA (.int (((owin g ps).map (·.2)).sum)) (oF4 g pA kA' rA))) = H7 at O7 R7
      refine ⟨_, rfl, x, dx, _, rfl, O7.at_, oF5t g pA kA' rA _, x, dx, pA, _, g, bs, ps, rfl, O7.at_, oF5mp g pA kA' rA _, oF5n g pA kA' rA _, oF5p g pA kA' rA _, O7.pl, O7.pt, hlen, hst, fun H8 s8 => ?_⟩
      have O8 := O7.same s8
      refine ⟨_, rfl, _, _, _, _, rfl, O8.at_, O.cl, O.n6, (by rw [len5]; decide), ?_⟩
      have O9 : OSt CO x dx pA kA' bs ps (oF6 g pA kA' rA (oarea g ps) (trn g ps)) H (upd H8 x (.ins CO dx (putF kT (.int (trn g ps)) (oF5 g pA kA' rA (oarea g ps))))) := O8.put
      have R9 : RT (upd H8 x (.ins CO dx (putF kT (.int (trn g ps)) (oF5 g pA kA' rA (oarea g ps))))) rA tl := rt_but (but_put fun _ _ _ e => e) O8.at_ (rt_same s8 R7)
      generalize upd H8 x (.ins CO dx (putF kT (.int (trn g ps)) (oF5 g pA kA' rA (oarea g ps)))) = H9 at O9 R9
      refine ⟨_, rfl, x, dx, _, rfl, O9.at_, oF6c g pA kA' rA _ _, x, dx, rA, _, g, tl, rfl, O9.at_, oF6w g pA kA' rA _ _, oF6n g pA kA' rA _ _, oF6r g pA kA' rA _ _, R9, hrw5, fun H10 l bs2 s10 l0 l1 p1 => ?_⟩
      rw [q5] at p1
      have p1 : Pts H10 bs2 (cnr (owin g ps)) := p1
      have O10 := O9.same s10
      generalize hcn : cnr (owin g ps) = cn at p1
      have lcn : cn.length ≤ 20000 := by
        rw [← hcn]
        have z1 : (cnr (owin g ps)).length ≤ (owin g ps).length := List.length_filterMap_le _ _
        have z2 := wnd_len g (orow g ps) fun x hx => (hrw.2 x hx).2.2.2.1
        have z3 := hrw.1
        have z4 : (orow g ps).length * 200 ≤ 100 * 200 := Nat.mul_le_mul_right _ z3
        have z5 : (owin g ps).length ≤ (orow g ps).length * 200 := z2
        omega
      refine ⟨l, rfl, ⟨_, .of l1⟩, fun D hD => lc_it walk_list (fun i H' => Same H10 H' ∧ ∃ ds : List Addr, H' D = some (.lst (ds.map V.ref)) ∧ ds.length = ((cn.take i).filter fun p => decide (p ∉ ps)).length) ⟨same_upd hD, [], upd_same, rfl⟩ (fun _ H' _ z => .of (z.1 _ _ l1)) ?_ ?_⟩
      · rintro i _ _ H11 hi ⟨s11, ds, e11, d11⟩ ⟨rfl, hx11⟩
        obtain ⟨b, hb1, rfl⟩ := map_at hx11
        obtain ⟨p, hb2, hp2⟩ := pair_l p1 hb1
        refine ⟨rfl, _, rfl, _, rfl, _, _, _, _, _, rfl, s11 _ _ O10.at_, O.cl, O.n3, oF6k g pA kA' rA _ _, kA', _, rfl, DGet.t (k := kp p) (s11 _ _ O10.kn) (s11 _ _ hb2), ?_⟩
        rw [kn_val, take_snoc hp2, List.filter_append, List.length_append]
        by_cases hin : p ∈ ps
        · rw [if_pos hin]
          refine ⟨false, rfl, iteF ⟨s11, ds, e11, ?_⟩⟩
          rw [d11, List.filter_cons, decide_eq_false (fun z => z hin)]
          rfl
        · rw [if_neg hin]
          refine ⟨true, rfl, iteT ⟨_, rfl, ds.map V.ref, e11, ?_, same_put s11 hD, ds ++ [b], by rw [upd_same, List.map_append]; rfl, ?_⟩⟩
          · rw [List.length_map, d11]
            have z1 := List.length_filter_le (fun p => decide (p ∉ ps)) (cn.take i)
            have z2 : (cn.take i).length ≤ cn.length := List.length_take_le' i cn
            exact Nat.lt_of_le_of_lt (by omega : _ ≤ 20000) (by decide)
          · rw [List.length_append, d11, List.filter_cons, decide_eq_true hin]
            rfl
      · rintro H11 ⟨s11, ds, e11, d11⟩
        have O11 := O10.same s11
        rw [List.length_map, Paired.length p1, List.take_length] at d11
        refine ⟨D, _, rfl, .inl (.of e11), _, rfl, _, _, _, _, rfl, O11.at_, O.cl, O.n7, (by rw [len6]; decide), k _ ⟨dx, pA, kA', rA, bs, tl, ?_, O11.put.pl, O11.put.pt, O11.put.kn, rt_but (but_put fun _ _ _ e => e) O11.at_ (rt_same (Same.trans s10 s11) R9), q5⟩ (but_put O11.but)⟩
        rw [upd_same, oF7, List.length_map, d11]
        unfold oinner
        rw [hcn]
end
end K53
set_option maxHeartbeats 4000000
namespace K53
open PySem PySem.Spec PyProof.Rows L2
open C8 (fnScope_by pe_mk pe_mt pe_mt0 InsC)
open SX (S)
theorem oF_n (g : Bool) (pA kA' rA : Addr) (ar tn inn : Int) : (oF g pA kA' rA ar tn inn).lookup kN = some (net g) := by kernel_rfl
theorem oF_p (g : Bool) (pA kA' rA : Addr) (ar tn inn : Int) : (oF g pA kA' rA ar tn inn).lookup kP = some (.ref pA) := by kernel_rfl
theorem oF_k (g : Bool) (pA kA' rA : Addr) (ar tn inn : Int) : (oF g pA kA' rA ar tn inn).lookup kK = some (.ref kA') := by kernel_rfl
theorem oF_o (g : Bool) (pA kA' rA : Addr) (ar tn inn : Int) : (oF g pA kA' rA ar tn inn).lookup kO = some (.ref rA) := by kernel_rfl
theorem oF_a (g : Bool) (pA kA' rA : Addr) (ar tn inn : Int) : (oF g pA kA' rA ar tn inn).lookup kA = some (.int ar) := by kernel_rfl
theorem oF_t (g : Bool) (pA kA' rA : Addr) (ar tn inn : Int) : (oF g pA kA' rA ar tn inn).lookup kT = some (.int tn) := by kernel_rfl
theorem oF_i (g : Bool) (pA kA' rA : Addr) (ar tn inn : Int) : (oF g pA kA' rA ar tn inn).lookup kI = some (.int inn) := by kernel_rfl
theorem oF_nu (g : Bool) (pA kA' rA : Addr) (ar tn inn : Int) : (oF g pA kA' rA ar tn inn).lookup (Str.ofString "number_of") = none := by kernel_rfl
theorem oF_wi (g : Bool) (pA kA' rA : Addr) (ar tn inn : Int) : (oF g pA kA' rA ar tn inn).lookup (Str.ofString "windings") = none := by kernel_rfl
theorem oF_ar (g : Bool) (pA kA' rA : Addr) (ar tn inn : Int) : (oF g pA kA' rA ar tn inn).lookup (Str.ofString "around") = none := by kernel_rfl
theorem isO_same {CO : Addr} {H H' : Hp} {a : Addr} {g : Bool} {ps : List (Int × Int)} (s : Same H H') (h : isO CO H a g ps) : isO CO H' a g ps := by
  obtain ⟨dx, pA, kA', rA, bs, tl, h1, h2, h3, h4, h5, h6⟩ := h
  exact ⟨dx, pA, kA', rA, bs, tl, s _ _ h1, s _ _ h2, pts_sam (samT_of s) h3, s _ _ h4, rt_same s h5, h6⟩
theorem mkO {CO CL CW lp : Addr} {H : Hp} {Q : VK} {g : Bool} {cs : List Nat} (hL : isL CL CW H lp g cs) (hp : lper g cs ≠ 0) (ok : okP g (lplaces g cs)) (k : ∀ H' x, Same H H' → isO CO H' x g (lplaces g cs) → Q (.ref x) H') (x dx : Addr) (hx : H x = none) (hdx : H dx = none) (ne : dx ≠ x) :
    spOInit CO CL CW [.ref x, .ref lp] (upd (upd H dx (.own x)) x (.ins CO dx [])) (fun v H2 => v = .non ∧ Q (.ref x) H2) E0 :=
  ⟨x, dx, lp, g, cs, rfl, upd_same, isL_same (same_put (same_upd hdx) hx) hL, hp, ok, fun H' h1 h2 => ⟨rfl, k H' x (Same.made hx hdx fun b o e n => h2 b o n e) h1⟩⟩
section
variable {P : Program} {w : World} {K : PySem.W.Frag} {mg : Str → Option Value} {base : Heap} {CO CL CW sS : Addr}
def spOInt (CO : Addr) (v : Bool → List (Int × Int) → Int) : Sp := fun vs H Q _ => ∃ (a : Addr) (g : Bool) (ps : List (Int × Int)), vs = [.ref a] ∧ isO CO H a g ps ∧ Q (.int (v g ps)) H
theorem scO7 : FnScope ["self"] ["self"] (L2.defScope (icl 58 7)) := fnScope_by (by decide +kernel)
theorem o_area (O : TxO K mg CO) (D : PrpT K CO "area" "Outline.area" (icl 58 7)) : Prp P w K mg base 1 CO "area" (spOInt CO oarea) := by
  refine prp O.cl D scO7 (fun vs H Q E h => ?_) (fun _ _ _ _ _ _ us hl => match us, hl with | [_], _ => rfl) (fun f cdv A outer s H vs Q E hr h => ?_)
  · obtain ⟨a, g, ps, rfl, _⟩ := h
    rfl
  · obtain ⟨a, g, ps, rfl, ⟨dx, pA, kA', rA, bs, tl, ha, _⟩, k⟩ := h
    refine ⟨_, (pss_one (ps_ret (pe_fld (pv 0) rfl))), ?_⟩
    exact ⟨_, rfl, _, _, _, _, _, rfl, ha, O.cl, O.n5, oF_a _ _ _ _ _ _ _, k⟩
theorem scO8 : FnScope ["self"] ["self"] (L2.defScope (icl 58 8)) := fnScope_by (by decide +kernel)
theorem o_turning (O : TxO K mg CO) (D : PrpT K CO "turning" "Outline.turning" (icl 58 8)) : Prp P w K mg base 1 CO "turning" (spOInt CO trn) := by
  refine prp O.cl D scO8 (fun vs H Q E h => ?_) (fun _ _ _ _ _ _ us hl => match us, hl with | [_], _ => rfl) (fun f cdv A outer s H vs Q E hr h => ?_)
  · obtain ⟨a, g, ps, rfl, _⟩ := h
    rfl
  · obtain ⟨a, g, ps, rfl, ⟨dx, pA, kA', rA, bs, tl, ha, _⟩, k⟩ := h
    refine ⟨_, (pss_one (ps_ret (pe_fld (pv 0) rfl))), ?_⟩
    exact ⟨_, rfl, _, _, _, _, _, rfl, ha, O.cl, O.n6, oF_t _ _ _ _ _ _ _, k⟩
theorem scO11 : FnScope ["self"] ["self"] (L2.defScope (icl 58 11)) := fnScope_by (by decide +kernel)
theorem o_inner (O : TxO K mg CO) (D : PrpT K CO "inner" "Outline.inner" (icl 58 11)) : Prp P w K mg base 1 CO "inner" (spOInt CO oinner) := by
  refine prp O.cl D scO11 (fun vs H Q E h => ?_) (fun _ _ _ _ _ _ us hl => match us, hl with | [_], _ => rfl) (fun f cdv A outer s H vs Q E hr h => ?_)
  · obtain ⟨a, g, ps, rfl, _⟩ := h
    rfl
  · obtain ⟨a, g, ps, rfl, ⟨dx, pA, kA', rA, bs, tl, ha, _⟩, k⟩ := h
    refine ⟨_, (pss_one (ps_ret (pe_fld (pv 0) rfl))), ?_⟩
    exact ⟨_, rfl, _, _, _, _, _, rfl, ha, O.cl, O.n7, oF_i _ _ _ _ _ _ _, k⟩
/-- what around answers -/
def oaround (g : Bool) (ps : List (Int × Int)) (p : Int × Int) : V := if p ∈ ps then .non else .int (rnum (orow g ps) p.2 (if g then 2 * p.1 else p.1))
def spAround (CO : Addr) : Sp := fun vs H Q _ => ∃ (a c : Addr) (g : Bool) (ps : List (Int × Int)) (p : Int × Int), vs = [.ref a, .ref c] ∧ isO CO H a g ps ∧ H c = some (.tup (pl p)) ∧ (∀ r ∈ orow g ps, r.2.length ≤ 1000) ∧ ∀ H', Same H H' → Q (oaround g ps p) H'
theorem scO13 : FnScope ["self", "place"] ["self", "place"] (L2.defScope (icl 58 13)) := fnScope_by (by decide +kernel)
theorem o_around (O : TxO K mg CO) (d : MetT K CO "around" "Outline.around" (icl 58 13)) (c1 : Cal P w K mg base 3 "check_place" spOkPlace) (c2 : Met P w K mg base 2 CO "number_of" (spNum K CO)) : Met P w K mg base 4 CO "around" (spAround CO) := by
  refine met O.cl d scO13 (fun vs H Q E h => ?_) (fun _ _ _ _ _ _ us hl => match us, hl with | [_, _], _ => rfl) (fun f cdv A outer s H vs Q E hr h => ?_)
  · obtain ⟨a, c, g, ps, p, rfl, _⟩ := h
    rfl
  · obtain ⟨a, c, g, ps, p, rfl, ⟨dx, pA, kA', rA, bs, tl, ha, hpA, hbs, hkA, hR, hq⟩, hc, hz, k⟩ := h
    refine ⟨_, (pss_cons (ps_expr (C8.pe_c c1 hr (by decide) rfl (pa_cons (pv 1) pa_nil))) (pss_cons (ps_if (pt_cmp (pc_din (hu_of hr) (pv 1) (pe_fld (pv 0) rfl))) (pss_one (ps_ret pe_non)) pss_nil) (pss_one (ps_ret (pe_mt c2 hr (by decide) (pv 0) (pa_cons (pe_ifExp (pt_cmpR op_eq (pe_fld (pv 0) rfl) pe_str (nomark _)) (pv 1) (pe_tup (pa_cons (pe_ix ix_tup (pv 1) pe_int (fun _ _ => rfl)) (pa_cons (pe_ix ix_tup (pv 1) pe_int (fun _ _ => rfl)) (pa_cons pe_int pa_nil))))) pa_nil)))))), ?_⟩
    have hcT : SqT K H c (pl p) := .of hc
    have k := k
    refine ⟨_, rfl, c, p, rfl, hc, _, rfl, _, rfl, _, _, _, _, _, rfl, ha, O.cl, O.n3, oF_k _ _ _ _ _ _ _, kA', _, rfl, DGet.t (k := kp p) hkA hc, ?_⟩
    rw [kn_val]
    unfold oaround at k
    have hz' : ∀ t ∈ tl, t.2.1.length ≤ 1000 := by
      intro t ht
      exact hz (t.1, t.2.1) (by rw [← hq]; exact List.mem_map.mpr ⟨t, ht, rfl⟩)
    by_cases hin : p ∈ ps
    · rw [if_pos hin]
      rw [if_pos hin] at k
      exact ⟨true, rfl, iteT (k H (Same.refl _))⟩
    · rw [if_neg hin]
      rw [if_neg hin, ← hq] at k
      refine ⟨false, rfl, iteF ?_⟩
      refine ⟨_, rfl, a, dx, _, rfl, ha, oF_nu _ _ _ _ _ _ _, _, rfl, _, _, _, _, _, rfl, ha, O.cl, O.n1, oF_n _ _ _ _ _ _ _, rfl, _, rfl, itb (isSq g) ?_⟩
      cases g
      · refine iteT ⟨_, rfl, a, dx, c, rA, _, tl, [p.1, p.2], p.2, rfl, ha, oF_o _ _ _ _ _ _ _, hR, hcT, .inl rfl, rfl, hz', fun H' s' => ?_⟩
        exact k H' s'
      · refine iteF ⟨_, rfl, _, _, _, _, rfl, rfl, hcT, atI_nat (j := 0) rfl, _, rfl, _, _, _, _, rfl, rfl, hcT, atI_nat (j := 1) rfl, (small64 (n := 3) (by decide)), fun t ht => ?_⟩
        refine ⟨a, dx, t, rA, _, tl, [p.1, p.2, 0], p.2, rfl, same_upd ht _ _ ha, oF_o _ _ _ _ _ _ _, rt_same (same_upd ht) hR, .of upd_same, .inr rfl, rfl, hz', fun H' s' => ?_⟩
        have e : cposn [p.1, p.2, 0] = 2 * p.1 := by
          show 2 * p.1 + 0 = 2 * p.1
          omega
        rw [e]
        exact k H' (Same.trans (same_upd ht) s')
def osimple (ps : List (Int × Int)) : Bool := decide (3 ≤ ps.length) && decide (ps.length = (dd ps).length)
def spOSimple (CO : Addr) : Sp := fun vs H Q _ => ∃ (a : Addr) (g : Bool) (ps : List (Int × Int)), vs = [.ref a] ∧ isO CO H a g ps ∧ Q (.bl (osimple ps)) H
theorem scO10 : FnScope ["self"] ["self"] (L2.defScope (icl 58 10)) := fnScope_by (by decide +kernel)
theorem o_simple (T : TxB K mg) (O : TxO K mg CO) (D : PrpT K CO "is_simple" "Outline.is_simple" (icl 58 10)) : Prp P w K mg base 1 CO "is_simple" (spOSimple CO) := by
  refine prp O.cl D scO10 (fun vs H Q E h => ?_) (fun _ _ _ _ _ _ us hl => match us, hl with | [_], _ => rfl) (fun f cdv A outer s H vs Q E hr h => ?_)
  · obtain ⟨a, g, ps, rfl, _⟩ := h
    rfl
  · obtain ⟨a, g, ps, rfl, ⟨dx, pA, kA', rA, bs, tl, ha, hpA, hbs, hkA, _⟩, k⟩ := h
    refine ⟨_, (pss_one (ps_ret (pe_chain op_le op_eq pe_int (pe_callB call_len_seq (by rfl) T.len PySem.boot_len (pa_cons (pe_fld (pv 0) rfl) pa_nil)) (pe_callB call_len_dT (by rfl) T.len PySem.boot_len (pa_cons (pe_fld (pv 0) rfl) pa_nil))))), ?_⟩
    refine ⟨_, rfl, _, _, _, _, _, rfl, ha, O.cl, O.n2, oF_p _ _ _ _ _ _ _, pA, _, rfl, .inl (.of hpA), _, _, rfl, rfl, _, rfl, ?_⟩
    have hl : (bs.map V.ref).length = ps.length := by rw [List.length_map, Paired.length hbs]
    rw [hl]
    by_cases h3 : 3 ≤ ps.length
    · refine itb (b := true) (decide_eq_true (by omega)) (iteT ⟨_, rfl, _, _, _, _, _, rfl, ha, O.cl, O.n3, oF_k _ _ _ _ _ _ _, kA', _, rfl, hkA, rfl, ?_⟩)
      have e : osimple ps = decide (V.int (ps.length : Nat) = V.int ((kn ps).length : Nat)) := by
        unfold osimple kn
        rw [decide_eq_true h3, List.length_map]
        refine decide_eq_decide.mpr ⟨fun z => by rw [z], fun z => ?_⟩
        injection z with z
        omega
      rw [e] at k
      exact k
    · refine itb (b := false) (decide_eq_false (by omega)) (iteF ?_)
      have e : osimple ps = false := by
        unfold osimple
        rw [decide_eq_false h3]
        rfl
      rw [e] at k
      exact k
end
end K53
set_option maxHeartbeats 4000000
namespace K53
open PySem PySem.Spec PyProof.Rows L2
open C8 (fnScope_by pe_mk pe_mt pe_mt0 InsC)
open SX (S)
/-- a source of numbers -/
def isS (H : Hp) (s : Addr) : Prop := ∃ a b : Int, H s = some (.lst [.int a, .int b]) ∧ 0 ≤ a ∧ 0 ≤ b ∧ b < 2147483647
theorem isS_same {H H' : Hp} {s : Addr} (e : Same H H') (h : isS H s) : isS H' s := by
  obtain ⟨a, b, h1, h2⟩ := h
  exact ⟨a, b, e _ _ h1, h2⟩
theorem but_refl (x : Addr) (H : Hp) : But x H H := fun _ _ _ e => e
theorem but_trans {x : Addr} {H H1 H2 : Hp} (a : But x H H1) (b : But x H1 H2) : But x H H2 := fun c o n e => b c o n (a c o n e)
theorem same_but {x : Addr} {H H' : Hp} (a : Same H H') : But x H H' := fun c o _ e => a c o e
theorem pts_more {H : Hp} {ts : List Addr} {ps : List (Int × Int)} {t : Addr} (p : Int × Int) (h : Pts H ts ps) (ht : H t = none) : Pts (upd H t (.tup (pl p))) (ts ++ [t]) (ps ++ [p]) := Paired.snoc (pts_sam (samT_of (same_upd ht)) h) upd_same
section
variable {P : Program} {w : World} {K : PySem.W.Frag} {mg : Str → Option Value} {base : Heap} {CO CL CW sS : Addr}
def spSrc (K : PySem.W.Frag) : Sp := fun vs H Q _ => ∃ (l : Addr) (is : List Int) (k : Nat), vs = [.ref l, .int k] ∧ SqL K H l (is.map V.int) ∧ k ≤ 6 ∧ ∀ H' s, Same H H' → H s = none → isS H' s → Q (.ref s) H'
abbrev n60 : List Str := ["_law_script", "_law_k", "_law_cell", "_law_number", "_law_seed"]
theorem sc60 : FnScope n60 ["_law_script", "_law_k"] (L2.defScope (top 60)) := fnScope_by (by decide +kernel)
theorem c_src (T : TxB K mg) (d : DefT K mg 60 "_law_source") : Cal P w K mg base 1 "_law_source" (spSrc K) := by
  refine cal d sc60 (fun vs H Q E h => ?_) (fun _ _ _ _ _ _ us hl => match us, hl with | [_, _], _ => rfl) (fun f cdv A outer s H vs Q E hr h => ?_)
  · obtain ⟨l, is, k, rfl, _⟩ := h
    rfl
  · obtain ⟨l, is, k, rfl, hl, hk, kk⟩ := h
    refine ⟨_, pss_cons (ps_set (i := 2) sc60.nd rfl (Or.inl rfl) pe_int) (C8.pss_cut (ps_if (pt_cmpR op_lt (pv 1) (pe_callB call_len_seq (by rfl) T.len PySem.boot_len (pa_cons (pv 0) pa_nil)) (nomark _)) (pss_one (ps_set (i := 2) sc60.nd rfl (Or.inl rfl) (pe_ix ix_list (pv 0) (pv 1) (fun _ _ => rfl)))) pss_nil)
      (pss_cons (ps_set (i := 3) sc60.nd rfl (Or.inl rfl) (pe_callB (call_max2 rfl) (by rfl) T.max (by decide +kernel) (pa_cons (pv 2) (pa_cons (pe_op op_sub (pe_un un_neg pe_int) (pv 2)) pa_nil))))
      (pss_cons (ps_set (i := 4) sc60.nd rfl (Or.inl rfl) (pe_op op_mod (pe_op op_add (pe_op op_add (pe_op op_mul (pe_op op_mod (pv 3) pe_int) pe_int) (pe_op op_mul pe_int (pv 1))) pe_int) pe_int))
      (C8.pss_cut (ps_if (pt_cmpR op_lt (pv 3) (pe_op op_pow pe_int pe_int) (nomark _)) (pss_one (ps_set (i := 3) sc60.nd rfl (Or.inl rfl) pe_int)) pss_nil) (pss_one (ps_ret (pe_lst (pa_cons (pv 3) (pa_cons (pv 4) pa_nil))))))))), ?_⟩
    refine ⟨fun σ' H' => H' = H ∧ ∃ c : Int, σ' = [some (.ref l), some (.int k), some (.int c), none, none], ?_, ?_⟩
    · refine ⟨_, rfl, _, rfl, _, _, rfl, .inl hl, _, _, rfl, rfl, _, rfl, ite2 (fun z => ?_) fun z => ⟨rfl, 0, rfl⟩⟩
      have z := of_decide_eq_true z
      rw [List.length_map] at z
      have z : k < is.length := by omega
      refine ⟨_, rfl, _, rfl, _, _, _, _, rfl, rfl, hl, atI_nat (j := k) (by rw [List.getElem?_map, List.getElem?_eq_getElem z]; rfl), rfl, _, rfl⟩
    · rintro _ H ⟨rfl, c, rfl⟩
      refine ⟨_, rfl, 1, rfl, _, rfl, _, _, rfl, rfl, _, _, rfl, ?_⟩
      generalize hn : (if (-1 - c) > c then (-1 - c) else c) = n
      have n0 : 0 ≤ n := by rw [← hn]; split <;> omega
      have b1 := Int.emod_nonneg n (by decide : (2147483629 : Int) ≠ 0)
      have b2 := Int.emod_lt_of_pos n (by decide : (0 : Int) < 2147483629)
      refine ⟨_, rfl, _, _, rfl, rfl, (by show (0 : Int) < 2147483629; decide), _, _, rfl, rfl, .inl ⟨by omega, by omega⟩, _, rfl, _, _, rfl, rfl, .inl ⟨by decide, by decide⟩, _, _, rfl, rfl, _, _, rfl, rfl, _, _, rfl, rfl, (by show (0 : Int) < 2147483647; decide), ?_⟩
      refine ⟨fun σ' H' => H' = H ∧ ∃ a b : Int, σ' = [some (.ref l), some (.int k), some (.int c), some (.int a), some (.int b)] ∧ 0 ≤ a ∧ 0 ≤ b ∧ b < 2147483647, ?_, ?_⟩
      · have e1 := Int.emod_nonneg (n % 2147483629 * 16807 + 104729 * (k : Int) + 11) (by decide : (2147483647 : Int) ≠ 0)
        have e2 := Int.emod_lt_of_pos (n % 2147483629 * 16807 + 104729 * (k : Int) + 11) (by decide : (0 : Int) < 2147483647)
        refine ⟨_, rfl, _, _, rfl, rfl, ⟨by decide, by decide, by decide⟩, _, _, rfl, rfl, _, rfl, ite2 (fun z => ?_) fun z => ?_⟩
        · exact ⟨rfl, 0, _, rfl, Int.le_refl _, e1, e2⟩
        · exact ⟨rfl, n, _, rfl, n0, e1, e2⟩
      · rintro _ H ⟨rfl, a, b, rfl, a0, b0, b1⟩
        exact ⟨_, rfl, _, rfl, (small64 (n := 2) (by decide)), fun t ht => kk _ t (same_upd ht) ht ⟨a, b, upd_same, a0, b0, b1⟩⟩
/-! _law_draw -/
def spDraw : Sp := fun vs H Q _ => ∃ (s : Addr) (n : Nat), vs = [.ref s, .int n] ∧ 0 < n ∧ n ≤ 1000 ∧ isS H s ∧ ∀ H' (d : Nat), But s H H' → isS H' s → d < n → Q (.int d) H'
theorem sc61 : FnScope ["_law_source_here", "_law_amount", "_law_digit"] ["_law_source_here", "_law_amount"] (L2.defScope (top 61)) := fnScope_by (by decide +kernel)
theorem c_draw (d : DefT K mg 61 "_law_draw") : Cal P w K mg base 1 "_law_draw" spDraw := by
  refine cal d sc61 (fun vs H Q E h => ?_) (fun _ _ _ _ _ _ us hl => match us, hl with | [_, _], _ => rfl) (fun f cdv A outer s H vs Q E hr h => ?_)
  · obtain ⟨s, n, rfl, _⟩ := h
    rfl
  · obtain ⟨s, n, rfl, n0, n1, ⟨a, b, hs, a0, b0, b1⟩, k⟩ := h
    refine ⟨_, (pss_cons (ps_if (pt_cmpR op_gt (pe_ix ix_list (pv 0) pe_int (fun _ _ => rfl)) pe_int (nomark _)) (pss_cons (ps_set (i := 2) sc61.nd rfl (Or.inl rfl) (pe_op op_mod (pe_ix ix_list (pv 0) pe_int (fun _ _ => rfl)) (pv 1))) (pss_cons (ps_asg (pe_op op_fdiv (pe_ix ix_list (pv 0) pe_int (fun _ _ => rfl)) (pv 1)) (pg_sub (pv 0) pe_int set_list)) (pss_one (ps_ret (pv 2))))) pss_nil) (pss_cons (ps_asg (pe_op op_mod (pe_op op_add (pe_op op_mul (pe_ix ix_list (pv 0) pe_int (fun _ _ => rfl)) pe_int) pe_int) pe_int) (pg_sub (pv 0) pe_int set_list)) (pss_one (ps_ret (pe_op op_mod (pe_op op_fdiv (pe_op op_mod (pe_op op_mul (pe_ix ix_list (pv 0) pe_int (fun _ _ => rfl)) (pe_ix ix_list (pv 0) pe_int (fun _ _ => rfl))) pe_int) pe_int) (pv 1)))))), ?_⟩
    have hL : SqL K H s [V.int a, V.int b] := .of hs
    have np : (0 : Int) < (n : Nat) := by omega
    have toNat : ∀ z : Int, 0 ≤ z → z < (n : Nat) → z = ((z.toNat : Nat) : Int) ∧ z.toNat < n := by intro z h1 h2; omega
    refine ⟨_, rfl, _, _, _, _, rfl, rfl, hL, atI_nat (j := 0) rfl, _, _, rfl, rfl, _, rfl, ite2 (fun z => ?_) fun z => ?_⟩
    · refine ⟨_, rfl, _, _, _, _, rfl, rfl, hL, atI_nat (j := 0) rfl, _, rfl, _, _, rfl, rfl, np, ?_⟩
      refine ⟨_, rfl, _, _, _, _, rfl, rfl, hL, atI_nat (j := 0) rfl, _, rfl, _, _, rfl, rfl, ⟨np, by omega⟩, _, rfl, s, _, _, 0, rfl, rfl, hs, rfl, _, rfl, ?_⟩
      obtain ⟨e1, e2⟩ := toNat (a % (n : Nat)) (Int.emod_nonneg _ (Int.ne_of_gt np)) (Int.emod_lt_of_pos _ np)
      have e3 : (fun i j : Int => V.int (i % j)) a (n : Nat) = .int (((a % (n : Nat)).toNat : Nat)) := congrArg V.int e1
      rw [e3]
      exact k _ _ (fun c o hc e => by rw [upd_ne hc]; exact e) ⟨_, b, upd_same, Int.ediv_nonneg a0 (by omega), b0, b1⟩ e2
    · have e1 := Int.emod_nonneg (b * 48271 + 11) (by decide : (2147483647 : Int) ≠ 0)
      have e2 := Int.emod_lt_of_pos (b * 48271 + 11) (by decide : (0 : Int) < 2147483647)
      refine ⟨_, rfl, _, _, _, _, rfl, rfl, hL, atI_nat (j := 1) rfl, _, _, rfl, rfl, .inl ⟨by omega, by omega⟩, _, _, rfl, rfl, _, _, rfl, rfl, (by show (0 : Int) < 2147483647; decide), _, rfl, s, _, _, 1, rfl, rfl, hs, rfl, ?_⟩
      generalize hb2 : (b * 48271 + 11) % 2147483647 = b2 at e1 e2
      have hs2 : upd H s (.lst ([V.int a, V.int b].set 1 ((fun i j : Int => V.int (i % j)) (b * 48271 + 11) 2147483647))) s = some (.lst [V.int a, V.int b2]) := by
        rw [upd_same, ← hb2]
        rfl
      have hb : But s H (upd H s (.lst ([V.int a, V.int b].set 1 ((fun i j : Int => V.int (i % j)) (b * 48271 + 11) 2147483647)))) := fun c o hc e => by rw [upd_ne hc]; exact e
      generalize upd H s (.lst ([V.int a, V.int b].set 1 ((fun i j : Int => V.int (i % j)) (b * 48271 + 11) 2147483647))) = H2 at hs2 hb
      have hL2 : SqL K H2 s [V.int a, V.int b2] := .of hs2
      refine ⟨_, rfl, _, _, _, _, rfl, rfl, hL2, atI_nat (j := 1) rfl, _, rfl, _, _, _, _, rfl, rfl, hL2, atI_nat (j := 1) rfl, _, _, rfl, rfl, .inl ⟨by omega, by omega⟩, _, _, rfl, rfl, (by show (0 : Int) < 2147483629; decide), _, _, rfl, rfl, ⟨by decide, by decide⟩, _, rfl, _, _, rfl, rfl, np, ?_⟩
      obtain ⟨e4, e5⟩ := toNat (b2 * b2 % 2147483629 / 64 % (n : Nat)) (Int.emod_nonneg _ (Int.ne_of_gt np)) (Int.emod_lt_of_pos _ np)
      have e6 : (fun i j : Int => V.int (i % j)) (b2 * b2 % 2147483629 / 64) (n : Nat) = .int (((b2 * b2 % 2147483629 / 64 % (n : Nat)).toNat : Nat)) := congrArg V.int e4
      have z := k H2 _ hb ⟨a, b2, hs2, a0, e1, e2⟩ e5
      rw [← e6] at z
      exact z
/-! _law_steps -/
def spSteps : Sp := fun vs H Q _ => ∃ g, vs = [net g] ∧ ∀ H' l ts, Same H H' → H l = none → H' l = some (.lst (ts.map V.ref)) → Pts H' ts (stl g) → Q (.ref l) H'
theorem sc62 : FnScope ["_law_kind_here"] ["_law_kind_here"] (L2.defScope (top 62)) := fnScope_by (by decide +kernel)
theorem c_steps (d : DefT K mg 62 "_law_steps") : Cal P w K mg base 1 "_law_steps" spSteps := by
  refine cal d sc62 (fun vs H Q E h => ?_) (fun _ _ _ _ _ _ us hl => match us, hl with | [_], _ => rfl) (fun f cdv A outer s H vs Q E hr h => ?_)
  · obtain ⟨g, rfl, _⟩ := h
    rfl
  · obtain ⟨g, rfl, k⟩ := h
    refine ⟨_, (pss_cons (ps_if (pt_cmpR op_eq (pv 0) pe_str (nomark _)) (pss_one (ps_ret (pe_lst (pa_cons (pe_tup (pa_cons pe_int (pa_cons pe_int pa_nil))) (pa_cons (pe_tup (pa_cons pe_int (pa_cons pe_int pa_nil))) (pa_cons (pe_tup (pa_cons (pe_un un_neg pe_int) (pa_cons pe_int pa_nil))) (pa_cons (pe_tup (pa_cons pe_int (pa_cons (pe_un un_neg pe_int) pa_nil))) pa_nil))))))) pss_nil) (pss_one (ps_ret (pe_lst (pa_cons (pe_tup (pa_cons pe_int (pa_cons pe_int pa_nil))) (pa_cons (pe_tup (pa_cons pe_int (pa_cons pe_int pa_nil))) (pa_cons (pe_tup (pa_cons (pe_un un_neg pe_int) (pa_cons pe_int pa_nil))) (pa_cons (pe_tup (pa_cons (pe_un un_neg pe_int) (pa_cons pe_int pa_nil))) (pa_cons (pe_tup (pa_cons pe_int (pa_cons (pe_un un_neg pe_int) pa_nil))) (pa_cons (pe_tup (pa_cons pe_int (pa_cons (pe_un un_neg pe_int) pa_nil))) pa_nil)))))))))), ?_⟩
    refine ⟨_, rfl, rfl, _, rfl, itb (isSq g) ?_⟩
    cases g
    · refine iteT ⟨(small64 (n := 2) (by decide)), fun t1 h1 => ⟨(small64 (n := 2) (by decide)), fun t2 h2 => ⟨1, rfl, (small64 (n := 2) (by decide)), fun t3 h3 => ⟨1, rfl, (small64 (n := 2) (by decide)), fun t4 h4 => ⟨(small64 (n := 4) (by decide)), fun l hl => ?_⟩⟩⟩⟩⟩
      have p4 := pts_more (0, -1) (pts_more (-1, 0) (pts_more (0, 1) (pts_more (1, 0) (H := H) .nil h1) h2) h3) h4
      have s1 := same_upd (o := .tup (pl (1, 0))) h1
      have s2 := same_put (o := .tup (pl (0, 1))) s1 (Same.free s1 h2)
      have s3 := same_put (o := .tup (pl (-1, 0))) s2 (Same.free s2 h3)
      have s4 := same_put (o := .tup (pl (0, -1))) s3 (Same.free s3 h4)
      exact k _ l [t1, t2, t3, t4] (same_put s4 (Same.free s4 hl)) (Same.free s4 hl) upd_same (pts_sam (samT_of (same_upd hl)) p4)
    · refine iteF ⟨(small64 (n := 2) (by decide)), fun t1 h1 => ⟨(small64 (n := 2) (by decide)), fun t2 h2 => ⟨1, rfl, (small64 (n := 2) (by decide)), fun t3 h3 => ⟨1, rfl, (small64 (n := 2) (by decide)), fun t4 h4 => ⟨1, rfl, (small64 (n := 2) (by decide)), fun t5 h5 => ⟨1, rfl, (small64 (n := 2) (by decide)), fun t6 h6 => ⟨(small64 (n := 6) (by decide)), fun l hl => ?_⟩⟩⟩⟩⟩⟩⟩
      have p4 := pts_more (1, -1) (pts_more (0, -1) (pts_more (-1, 0) (pts_more (-1, 1) (pts_more (0, 1) (pts_more (1, 0) (H := H) .nil h1) h2) h3) h4) h5) h6
      have s1 := same_upd (o := .tup (pl (1, 0))) h1
      have s2 := same_put (o := .tup (pl (0, 1))) s1 (Same.free s1 h2)
      have s3 := same_put (o := .tup (pl (-1, 1))) s2 (Same.free s2 h3)
      have s4 := same_put (o := .tup (pl (-1, 0))) s3 (Same.free s3 h4)
      have s5 := same_put (o := .tup (pl (0, -1))) s4 (Same.free s4 h5)
      have s6 := same_put (o := .tup (pl (1, -1))) s5 (Same.free s5 h6)
      exact k _ l [t1, t2, t3, t4, t5, t6] (same_put s6 (Same.free s6 hl)) (Same.free s6 hl) upd_same (pts_sam (samT_of (same_upd hl)) p4)
/-! _law_signs, _law_moving -/
def spSigns : Sp := fun vs H Q _ => ∃ (s : Addr) (n : Nat), vs = [.ref s, .int n] ∧ 0 < n ∧ n ≤ 1000 ∧ isS H s ∧ ∀ H' cs, But s H H' → isS H' s → (∀ c ∈ cs, okC c) → cs.length ≤ n → Q (.str (S cs)) H'
theorem sign_at (d : Nat) (h : d < 6) : ∃ c, ([70, 70, 70, 76, 82, 66] : List Nat)[d]? = some c ∧ okC c := by
  match d, h with
  | 0, _ => exact ⟨70, rfl, by decide⟩
  | 1, _ => exact ⟨70, rfl, by decide⟩
  | 2, _ => exact ⟨70, rfl, by decide⟩
  | 3, _ => exact ⟨76, rfl, by decide⟩
  | 4, _ => exact ⟨82, rfl, by decide⟩
  | 5, _ => exact ⟨66, rfl, by decide⟩
theorem signs_S : Str.ofString "FFFLRB" = S [70, 70, 70, 76, 82, 66] := by kernel_rfl
abbrev n65 : List Str := ["_law_source_here", "_law_most", "_law_text", "_law_attempt"]
theorem sc65 : FnScope n65 ["_law_source_here", "_law_most"] (L2.defScope (top 65)) := fnScope_by (by decide +kernel)
theorem c_signs (T : TxB K mg) (d : DefT K mg 65 "_law_signs") (c1 : Cal P w K mg base 1 "_law_draw" spDraw) : Cal P w K mg base 2 "_law_signs" spSigns := by
  refine cal d sc65 (fun vs H Q E h => ?_) (fun _ _ _ _ _ _ us hl => match us, hl with | [_, _], _ => rfl) (fun f cdv A outer s H vs Q E hr h => ?_)
  · obtain ⟨s, n, rfl, _⟩ := h
    rfl
  · obtain ⟨s, n, rfl, n0, n1, hs, k⟩ := h
    refine ⟨_, (pss_cons (ps_set (i := 2) sc65.nd rfl (Or.inl rfl) pe_str) (pss_cons (ps_for PassesOwn.never rfl (pi_range1 (by rfl) T.range (pa_cons (pe_op op_add pe_int (C8.pe_c c1 hr (by decide) rfl (pa_cons (pv 0) (pa_cons (pv 1) pa_nil)))) pa_nil)) (pg_name (i := 3) sc65.nd rfl (Or.inl rfl)) (pss_one (ps_set (i := 2) sc65.nd rfl (Or.inl rfl) (pe_op op_add_str (pv 2) (pe_ix ix_str pe_str (C8.pe_c c1 hr (by decide) rfl (pa_cons (pv 0) (pa_cons pe_int pa_nil))) (fun _ _ => rfl)))))) (pss_one (ps_ret (pv 2))))), ?_⟩
    refine ⟨_, rfl, _, rfl, s, n, rfl, n0, n1, hs, fun H1 m b1 s1 hm => ⟨_, _, rfl, rfl, _, rfl, by omega, by omega, ?_⟩⟩
    have em : (1 + (m : Int)).toNat = m + 1 := by omega
    rw [em]
    refine for_range (n := m + 1) (fun i σ' H' => ∃ cs v, σ' = [some (.ref s), some (.int n), some (.str (S cs)), v] ∧ But s H H' ∧ isS H' s ∧ (∀ c ∈ cs, okC c) ∧ cs.length = i) ⟨[], none, by rw [nil_S]; rfl, b1, s1, (fun c h => nomatch h), rfl⟩ ?_ ?_
    · rintro i σ' H2 hi ⟨cs, v, rfl, b2, s2, ok, lc⟩
      refine ⟨_, rfl, _, rfl, s, 6, rfl, by decide, by decide, s2, fun H3 d' b3 s3 hd' => ?_⟩
      obtain ⟨c, hc, okc⟩ := sign_at d' hd'
      refine ⟨_, _, c, rfl, rfl, by rw [signs_S]; decide, atI_nat (j := d') (by rw [signs_S]; exact hc), _, _, rfl, rfl, ?_, cs ++ [c], some (.int (0 + i)), ?_, but_trans b2 b3, s3, ?_, by rw [List.length_append, lc]; rfl⟩
      · rw [SX.S_len]
        show cs.length + 1 ≤ _
        exact Nat.le_trans (by omega : _ ≤ 1001) (by decide)
      · have e : S cs ++ (⟨#[c]⟩ : Str) = S (cs ++ [c]) := SX.S_cat cs [c]
        rw [← e]
        rfl
      · intro c' hc'
        rcases List.mem_append.mp hc' with h | h
        · exact ok c' h
        · rw [List.mem_singleton.mp h]
          exact okc
    · rintro σ' H2 ⟨cs, v, rfl, b2, s2, ok, lc⟩
      exact ⟨_, rfl, k H2 cs b2 s2 ok (by omega)⟩
/-- how many moves the commands have -/
def mvn (cs : List Nat) : Nat := (cs.filter fun c => decide (c = 70 ∨ c = 66)).length
def spMovingS : Sp := fun vs H Q _ => ∃ (s : Addr) (n : Nat), vs = [.ref s, .int n] ∧ 1 < n ∧ n ≤ 100 ∧ isS H s ∧ ∀ H' cs, But s H H' → isS H' s → (∀ c ∈ cs, okC c) → cs.length ≤ n + 1 → 0 < mvn cs → mvn cs ≤ n → (mvn cs < n ∨ mvn cs = cs.length) → Q (.str (S cs)) H'
theorem inS (c : Nat) (cs : List Nat) : decide (c ∈ (S cs).cps.toList) = decide (c ∈ cs) := by simp
theorem mvn_pos {cs : List Nat} : 0 < mvn cs ↔ (70 ∈ cs ∨ 66 ∈ cs) := by
  unfold mvn
  rw [List.length_pos_iff_exists_mem]
  constructor
  · rintro ⟨c, h⟩
    obtain ⟨h1, h2⟩ := List.mem_filter.mp h
    rcases of_decide_eq_true h2 with rfl | rfl
    · exact .inl h1
    · exact .inr h1
  · rintro (h | h)
    · exact ⟨70, List.mem_filter.mpr ⟨h, by decide⟩⟩
    · exact ⟨66, List.mem_filter.mpr ⟨h, by decide⟩⟩
theorem mvn_le (cs : List Nat) : mvn cs ≤ cs.length := List.length_filter_le _ _
abbrev n68 : List Str := ["_law_source_here", "_law_most", "_law_text"]
theorem sc68 : FnScope n68 ["_law_source_here", "_law_most"] (L2.defScope (top 68)) := fnScope_by (by decide +kernel)
theorem F_is : (Str.ofString "F") = ⟨#[70]⟩ := by kernel_rfl
theorem B_is : (Str.ofString "B") = ⟨#[66]⟩ := by kernel_rfl
theorem c_movingS (d : DefT K mg 68 "_law_moving") (c1 : Cal P w K mg base 2 "_law_signs" spSigns) : Cal P w K mg base 3 "_law_moving" spMovingS := by
  refine cal d sc68 (fun vs H Q E h => ?_) (fun _ _ _ _ _ _ us hl => match us, hl with | [_, _], _ => rfl) (fun f cdv A outer s H vs Q E hr h => ?_)
  · obtain ⟨s, n, rfl, _⟩ := h
    rfl
  · obtain ⟨s, n, rfl, n0, n1, hs, k⟩ := h
    refine ⟨_, (pss_cons (ps_set (i := 2) sc68.nd rfl (Or.inl rfl) (C8.pe_c c1 hr (by decide) rfl (pa_cons (pv 0) (pa_cons (pv 1) pa_nil)))) (pss_one (ps_ret (pe_ifExp (PW.pt (pw_or (pt_cmpR op_in_sign pe_str (pv 2) rfl) (pw_or1 (pt_cmpR op_in_sign pe_str (pv 2) rfl)))) (pv 2) (pe_op op_add_str (pv 2) pe_str))))), ?_⟩
    refine ⟨_, rfl, _, rfl, s, n, rfl, by omega, by omega, hs, fun H1 cs b1 s1 ok lc => ?_⟩
    refine ⟨_, rfl, 70, _, congrArg V.str F_is, rfl, _, rfl, itb (inS 70 cs) (ite2 (fun z => ?_) fun z => ?_)⟩
    · have z := of_decide_eq_true z
      refine ⟨_, rfl, k H1 cs b1 s1 ok (by omega) (mvn_pos.mpr (.inl z)) (Nat.le_trans (mvn_le cs) lc) ?_⟩
      have := mvn_le cs
      omega
    · refine ⟨_, rfl, 66, _, congrArg V.str B_is, rfl, _, rfl, itb (inS 66 cs) (ite2 (fun y => ?_) fun y => ?_)⟩
      · have y := of_decide_eq_true y
        refine ⟨_, rfl, k H1 cs b1 s1 ok (by omega) (mvn_pos.mpr (.inr y)) (Nat.le_trans (mvn_le cs) lc) ?_⟩
        have := mvn_le cs
        omega
      · have e : S cs ++ Str.ofString "F" = S (cs ++ [70]) := by rw [F_is]; exact SX.S_cat cs [70]
        have h0 : mvn cs = 0 := by
          refine Classical.byContradiction fun x => ?_
          rcases mvn_pos.mp (Nat.pos_of_ne_zero x) with h | h
          · exact z (decide_eq_true h)
          · exact y (decide_eq_true h)
        have h1 : mvn (cs ++ [70]) = 1 := by
          unfold mvn at h0 ⊢
          rw [List.filter_append, List.length_append, h0]
          rfl
        refine ⟨_, rfl, _, _, rfl, rfl, ?_, ?_⟩
        · rw [SX.S_len, F_is]
          show cs.length + 1 ≤ _
          exact Nat.le_trans (by omega : _ ≤ 1001) (by decide)
        · rw [e]
          refine k H1 _ b1 s1 (fun c' hc' => ?_) (by rw [List.length_append]; show cs.length + 1 ≤ _; omega) (by omega) (by omega) (by omega)
          rcases List.mem_append.mp hc' with h | h
          · exact ok c' h
          · rw [List.mem_singleton.mp h]
            decide
end
end K53
set_option maxHeartbeats 4000000
namespace K53
open PySem PySem.Spec PyProof.Rows L2
open C8 (fnScope_by pe_mk pe_mt pe_mt0 InsC)
open SX (S)
/-- commands whose loop closes -/
structure Clo (g : Bool) (cs : List Nat) : Prop where
  ok : ∀ c ∈ cs, okC c
  len : cs.length ≤ 200
  mv : 0 < mvn cs
  per : lper g cs ≠ 0
  sz : lper g cs ≤ 66
theorem wrun_mvn (g : Bool) (cs : List Nat) : (wrun g cs).ms.length = mvn cs := by
  have A : ∀ (cs : List Nat) (s : Wst), (cs.foldl (wnext g) s).ms.length = s.ms.length + mvn cs := by
    intro cs
    induction cs with
    | nil => exact fun s => rfl
    | cons c cs ih =>
      intro s
      rw [List.foldl_cons, ih]
      unfold wnext mvn
      rw [List.filter_cons]
      by_cases h : c = 70 ∨ c = 66
      · simp only [if_pos h, decide_eq_true h, if_true, List.length_append, List.length_cons, List.length_nil]
        omega
      · simp only [if_neg h, decide_eq_false h]
        simp
  have h := A cs ⟨[], (0, 0), 0⟩
  simp only [List.length_nil, Nat.zero_add] at h
  exact h
theorem ms_ne {g : Bool} {cs : List Nat} (h : 0 < mvn cs) : (wrun g cs).ms ≠ [] := by
  intro z
  have e := wrun_mvn g cs
  rw [z] at e
  simp at e
  omega
/-- without turns the heading stays -/
theorem chg_zero {cs : List Nat} (h : mvn cs = cs.length) : (cs.map chg).sum = 0 := by
  have A : ∀ cs : List Nat, (∀ c ∈ cs, c = 70 ∨ c = 66) → (cs.map chg).sum = 0 := by
    intro cs
    induction cs with
    | nil => exact fun _ => rfl
    | cons c cs ih =>
      intro h
      rw [List.map_cons, List.sum_cons, ih fun x hx => h x (List.mem_cons_of_mem _ hx)]
      rcases h c List.mem_cons_self with rfl | rfl <;> rfl
  refine A cs fun c hc => ?_
  unfold mvn at h
  have e := List.length_filter_eq_length_iff.mp h c hc
  exact of_decide_eq_true e
theorem lper_le {g : Bool} {cs : List Nat} {n : Nat} (hn : n ≤ 12) (h1 : mvn cs ≤ n) (h2 : mvn cs < n ∨ mvn cs = cs.length) : lper g cs ≤ 66 := by
  unfold lper
  rw [wrun_mvn]
  have h6 := lord_le g cs
  rcases h2 with h | h
  · have : mvn cs * lord g cs ≤ 11 * 6 := Nat.mul_le_mul (by omega) h6
    omega
  · have e : (wrun g cs).h = 0 := by
      rw [← chg_sum, chg_zero h]
      cases g <;> rfl
    have e2 : lord g cs ≤ 1 := by
      unfold lord ordr
      rw [if_pos e]
      split <;> omega
    have : mvn cs * lord g cs ≤ 12 * 1 := Nat.mul_le_mul (by omega) e2
    omega
def lows : List (List Nat) := [[70, 76], [70, 70, 76, 70, 76], [70, 76, 76, 66], [70, 70, 82, 70, 82, 82], [70, 76, 70, 76, 70, 82, 70, 76]]
def cloB (g : Bool) (cs : List Nat) : Bool := cs.all (fun c => decide (okC c)) && decide (cs.length ≤ 200) && decide (0 < mvn cs) && decide (lper g cs ≠ 0) && decide (lper g cs ≤ 66)
theorem cloB_ok {g : Bool} {cs : List Nat} (h : cloB g cs = true) : Clo g cs := by
  unfold cloB at h
  simp only [Bool.and_eq_true, List.all_eq_true, decide_eq_true_eq] at h
  obtain ⟨⟨⟨⟨h1, h2⟩, h3⟩, h4⟩, h5⟩ := h
  exact ⟨h1, h2, h3, h4, h5⟩
theorem lows_ok : ∀ g : Bool, lows.all (cloB g) = true
  | false => by decide +kernel
  | true => by decide +kernel
section
variable {P : Program} {w : World} {K : PySem.W.Frag} {mg : Str → Option Value} {base : Heap} {CO CL CW sS : Addr}
def spClosed : Sp := fun vs H Q _ => ∃ (s : Addr) (g : Bool) (n : Nat), vs = [.ref s, net g, .int n] ∧ 1 < n ∧ n ≤ 12 ∧ isS H s ∧ ∀ H' cs, But s H H' → isS H' s → Clo g cs → Q (.str (S cs)) H'
abbrev n69 : List Str := ["_law_source_here", "_law_kind_here", "_law_most", "_law_attempt", "_law_text"]
theorem sc69 : FnScope n69 ["_law_source_here", "_law_kind_here", "_law_most"] (L2.defScope (top 69)) := fnScope_by (by decide +kernel)
theorem c_closed (T : TxB K mg) (d : DefT K mg 69 "_law_closed") (c1 : Cal P w K mg base 3 "_law_moving" spMovingS) (cw : Mak P w K mg base 3 "Walk" CW (spWInit CW)) (cl : Mak P w K mg base 8 "Loop" CL (spLInit CL CW)) (cp : Prp P w K mg base 1 CL "period" (spLPer CL CW)) (c2 : Cal P w K mg base 1 "_law_draw" spDraw) :
    Cal P w K mg base 10 "_law_closed" spClosed := by
  refine cal d sc69 (fun vs H Q E h => ?_) (fun _ _ _ _ _ _ us hl => match us, hl with | [_, _, _], _ => rfl) (fun f cdv A outer s H vs Q E hr h => ?_)
  · obtain ⟨s, g, n, rfl, _⟩ := h
    rfl
  · obtain ⟨s, g, n, rfl, n0, n1, hs, k⟩ := h
    refine ⟨_, (pss_cons (ps_for PassesOwn.never rfl (pi_range1 (by rfl) T.range (pa_cons pe_int pa_nil)) (pg_name (i := 3) sc69.nd rfl (Or.inl rfl)) (pss_cons (ps_set (i := 4) sc69.nd rfl (Or.inl rfl) (C8.pe_c c1 hr (by decide) rfl (pa_cons (pv 0) (pa_cons (pv 2) pa_nil)))) (pss_one (ps_if (pt_cmpR op_gt (pe_pr cp hr (by decide) (C8.pe_mk cl hr (by decide) rfl (pa_cons (C8.pe_mk cw hr (by decide) rfl (pa_cons (pv 1) (pa_cons (pv 4) pa_nil))) pa_nil))) pe_int (nomark _)) (pss_one (ps_ret (pv 4))) pss_nil)))) (pss_one (ps_ret (pe_ix ix_list (pe_lst (pa_cons pe_str (pa_cons pe_str (pa_cons pe_str (pa_cons pe_str (pa_cons pe_str pa_nil)))))) (C8.pe_c c2 hr (by decide) rfl (pa_cons (pv 0) (pa_cons pe_int pa_nil))) (fun _ _ => rfl))))), ?_⟩
    refine ⟨12, rfl, by decide, by decide, for_range (n := 12) (fun i σ' H' => ∃ v1 v2, σ' = [some (.ref s), some (net g), some (.int n), v1, v2] ∧ But s H H' ∧ isS H' s) ⟨none, none, rfl, but_refl s H, hs⟩ ?_ ?_⟩
    · rintro i σ' H1 hi ⟨v1, v2, rfl, b1, s1⟩
      refine ⟨_, rfl, _, rfl, s, n, rfl, n0, by omega, s1, fun H2 cs b2 s2 ok lc mv0 mvl mvx => ?_⟩
      refine ⟨_, rfl, _, rfl, ?_⟩
      intro x dx nx ndx nex; refine ⟨x, dx, g, cs, rfl, ok, (by omega), upd_same, fun H3 hW btx => ⟨rfl, ?_⟩⟩; have s3 := Same.made nx ndx fun b o e n => btx b o n e
      intro y dy ny ndy ney; refine ⟨y, dy, x, g, cs, rfl, upd_same, isW_same (same_put (same_upd ndy) ny) hW, (ms_ne mv0), fun H4 hL bty => ⟨rfl, ?_⟩⟩; have s4 := Same.made ny ndy fun b o e n => bty b o n e
      obtain ⟨dl, wk, dr, lp, lh, lbs, hl1, _⟩ := id hL
      have s24 := Same.trans s3 s4
      refine ⟨y, _, _, rfl, hl1, y, g, cs, rfl, hL, _, _, rfl, rfl, _, rfl, ite2 (fun z => ?_) fun z => ?_⟩
      · have z := of_decide_eq_true z
        exact ⟨_, rfl, k H4 cs (but_trans b1 (but_same b2 s24)) (isS_same s24 s2) ⟨ok, by omega, mv0, by omega, lper_le n1 mvl mvx⟩⟩
      · exact ⟨_, _, rfl, but_trans b1 (but_same b2 s24), isS_same s24 s2⟩
    · rintro σ' H1 ⟨v1, v2, rfl, b1, s1⟩
      refine ⟨(small64 (n := 5) (by decide)), fun l hl => ⟨_, rfl, s, 5, rfl, by decide, by decide, isS_same (same_upd hl) s1, fun H2 m b2 s2 hm => ?_⟩⟩
      have nls : l ≠ s := fun z => by obtain ⟨_, _, h, _⟩ := s1; rw [← z, hl] at h; cases h
      have e1 := b2 l _ nls upd_same
      have hg : lows[m]? = some lows[m] := List.getElem?_eq_getElem hm
      have hok := List.all_eq_true.mp (lows_ok g) _ (List.mem_of_getElem? hg)
      have e5 : ([.str (Str.ofString "FL"), .str (Str.ofString "FFLFL"), .str (Str.ofString "FLLB"), .str (Str.ofString "FFRFRR"), .str (Str.ofString "FLFLFRFL")] : List V) = lows.map fun l => V.str (S l) := by kernel_rfl
      refine ⟨l, _, _, .str (S lows[m]), rfl, rfl, .of e1, atI_nat (j := m) ?_, k H2 _ (but_trans b1 (but_trans (same_but (same_upd hl)) b2)) s2 (cloB_ok hok)⟩
      rw [e5, List.getElem?_map, hg]
      rfl
end
end K53
set_option maxHeartbeats 4000000
namespace K53
open PySem PySem.Spec PyProof.Rows L2
open C8 (fnScope_by pe_mk pe_mt pe_mt0 InsC)
open SX (S)
/-- the walk from any place and heading -/
def wfrom (g : Bool) (p : Int × Int) (h : Nat) (cs : List Nat) : Wst := cs.foldl (wnext g) ⟨[], p, h⟩
theorem wfrom_snoc (g : Bool) (p : Int × Int) (h : Nat) (cs : List Nat) (c : Nat) : wfrom g p h (cs ++ [c]) = wnext g (wfrom g p h cs) c := by simp [wfrom]
theorem wfrom_h (g : Bool) (p : Int × Int) {h : Nat} (h0 : h < hd g) (cs : List Nat) : (wfrom g p h cs).h < hd g := by
  have A : ∀ (cs : List Nat) (s : Wst), s.h < hd g → (cs.foldl (wnext g) s).h < hd g := by
    intro cs
    induction cs with
    | nil => exact fun s h => h
    | cons c cs ih => exact fun s h => ih _ (hd_mod g _).1
  exact A cs _ h0
theorem wfrom_len (g : Bool) (p : Int × Int) (h : Nat) (cs : List Nat) : (wfrom g p h cs).ms.length = mvn cs := by
  have A : ∀ (cs : List Nat) (s : Wst), (cs.foldl (wnext g) s).ms.length = s.ms.length + mvn cs := by
    intro cs
    induction cs with
    | nil => exact fun s => rfl
    | cons c cs ih =>
      intro s
      rw [List.foldl_cons, ih]
      unfold wnext mvn
      rw [List.filter_cons]
      by_cases h : c = 70 ∨ c = 66
      · simp only [if_pos h, decide_eq_true h, if_true, List.length_append, List.length_cons, List.length_nil]
        omega
      · simp only [if_neg h, decide_eq_false h]
        simp
  have z := A cs ⟨[], p, h⟩
  simp only [List.length_nil, Nat.zero_add] at z
  exact z
theorem mvTo_way (g : Bool) (p : Int × Int) (h c : Nat) (w : Int) (hw : w = if c = 70 then 1 else -1) : mvTo g p h c = (p.1 + w * (stp g h).1, p.2 + w * (stp g h).2) := by
  unfold mvTo padd pneg
  by_cases hc : c = 70
  · rw [if_pos hc] at hw ⊢
    rw [hw, Int.one_mul, Int.one_mul]
  · rw [if_neg hc] at hw ⊢
    rw [hw]
    simp only [Int.mul_neg, Int.mul_one, Int.neg_mul, Int.one_mul]
theorem isLc (c : Nat) : decide (V.str (sgn c) = V.str "L") = decide (c = 76) := by
  have e : (Str.ofString "L") = sgn 76 := by kernel_rfl
  rw [e]
  exact eqSgn c 76
theorem isRc (c : Nat) : decide (V.str (sgn c) = V.str "R") = decide (c = 82) := by
  have e : (Str.ofString "R") = sgn 82 := by kernel_rfl
  rw [e]
  exact eqSgn c 82
/-- the new heading, as the law says it -/
theorem head_eq (g : Bool) (st : Wst) (c n : Nat) (hn : n = hd g) : V.int (((st.h : Int) + (if decide (V.str (sgn c) = V.str "L") then 1 else 0) - (if decide (V.str (sgn c) = V.str "R") then 1 else 0)) % (n : Nat)) = V.int ((wnext g st c).h : Nat) := by
  have hnew : ((wnext g st c).h : Int) = ((st.h : Int) + chg c) % (hd g : Nat) := (hd_mod g _).2
  rw [hnew, isLc, isRc, hn]
  congr 2
  unfold chg
  by_cases h1 : c = 76
  · subst h1
    simp
  · by_cases h2 : c = 82
    · subst h2
      simp
      omega
    · simp [h1, h2]
section
variable {P : Program} {w : World} {K : PySem.W.Frag} {mg : Str → Option Value} {base : Heap} {CO CL CW sS : Addr}
def spWalked : Sp := fun vs H Q _ => ∃ (g : Bool) (cs : List Nat) (b : Addr) (p : Int × Int) (h : Nat), vs = [net g, .str (S cs), .ref b, .int h] ∧ H b = some (.tup (pl p)) ∧ h < hd g ∧ (∀ c ∈ cs, okC c) ∧ cs.length ≤ 200 ∧
  ∀ H' l m b' as, Same H H' → H m = none → H' l = some (.lst [.ref m, .ref b', .int (wfrom g p h cs).h]) → H' m = some (.lst (as.map V.ref)) → Mvs H' as (wfrom g p h cs).ms → H' b' = some (.tup (pl (wfrom g p h cs).p)) → Q (.ref l) H'
abbrev n66 : List Str := ["_law_kind_here", "_law_text", "_law_spot", "_law_heading", "_law_steps_here", "_law_moves", "_law_sign", "_law_way", "_law_later"]
theorem sc66 : FnScope n66 ["_law_kind_here", "_law_text", "_law_spot", "_law_heading"] (L2.defScope (top 66)) := fnScope_by (by decide +kernel)
theorem c_walked (T : TxB K mg) (d : DefT K mg 66 "_law_walked") (c1 : Cal P w K mg base 1 "_law_steps" spSteps) : Cal P w K mg base 2 "_law_walked" spWalked := by
  refine cal d sc66 (fun vs H Q E h => ?_) (fun _ _ _ _ _ _ us hl => match us, hl with | [_, _, _, _], _ => rfl) (fun f cdv A outer s H vs Q E hr h => ?_)
  · obtain ⟨g, cs, b, p, h, rfl, _⟩ := h
    rfl
  · obtain ⟨g, cs, b, p, h, rfl, hb, hh, ok, hl, k⟩ := h
    refine ⟨_, (pss_cons (ps_set (i := 4) sc66.nd rfl (Or.inl rfl) (C8.pe_c c1 hr (by decide) rfl (pa_cons (pv 0) pa_nil))) (pss_cons (ps_set (i := 5) sc66.nd rfl (Or.inl rfl) (pe_lst pa_nil)) (pss_cons (ps_for PassesOwn.never rfl (pi_str (pv 1)) (pg_name (i := 6) sc66.nd rfl (Or.inl rfl)) (pss_cons (ps_if (pt_cmpR op_in_sign (pv 6) pe_str rfl) (C8.pss_cut (ps_set (i := 7) sc66.nd rfl (Or.inl rfl) (pe_ifExp (pt_cmpR op_eq (pv 6) pe_str (nomark _)) pe_int (pe_un un_neg pe_int))) (pss_cons (ps_set (i := 8) sc66.nd rfl (Or.inl rfl) (pe_tup (pa_cons (pe_op op_add (pe_ix ix_tup (pv 2) pe_int (fun _ _ => rfl)) (pe_op op_mul (pv 7) (pe_ix ix_tup (pe_ix ix_list (pv 4) (pv 3) (fun _ _ => rfl)) pe_int (fun _ _ => rfl)))) (pa_cons (pe_op op_add (pe_ix ix_tup (pv 2) pe_int (fun _ _ => rfl)) (pe_op op_mul (pv 7) (pe_ix ix_tup (pe_ix ix_list (pv 4) (pv 3) (fun _ _ => rfl)) pe_int (fun _ _ => rfl)))) pa_nil)))) (pss_cons (ps_expr (pe_bm PySem.F.plainAttrs_list PySem.F.slot_list_append PySem.F.type_list_append mt_append (pv 5) (pa_cons (pe_tup (pa_cons (pv 2) (pa_cons (pv 3) (pa_cons (pv 8) pa_nil)))) pa_nil))) (pss_one (ps_set (i := 2) sc66.nd rfl (Or.inl rfl) (pv 8)))))) pss_nil) (pss_one (ps_set (i := 3) sc66.nd rfl (Or.inl rfl) (pe_op op_mod (pe_op op_sub (pe_op op_add (pv 3) (pe_callTy call_int1 (by rfl) T.int (by decide +kernel) (pa_cons (pe_cmpR op_eq (pv 6) pe_str (nomark _)) pa_nil))) (pe_callTy call_int1 (by rfl) T.int (by decide +kernel) (pa_cons (pe_cmpR op_eq (pv 6) pe_str (nomark _)) pa_nil))) (pe_callB call_len_seq (by rfl) T.len PySem.boot_len (pa_cons (pv 4) pa_nil))))))) (pss_one (ps_ret (pe_lst (pa_cons (pv 5) (pa_cons (pv 2) (pa_cons (pv 3) pa_nil))))))))), ?_⟩
    refine ⟨_, rfl, g, rfl, fun H1 sl ts s1 sl0 sl1 pts => ⟨by decide, fun m hm => ?_⟩⟩
    have lts : ts.length = hd g := by rw [Paired.length pts]; simp [stl]
    have nslm : sl ≠ m := fun z => by rw [z, hm] at sl1; cases sl1
    have hm0 := Same.free s1 hm
    have sm : SamT H1 (upd H1 m (.lst [])) := samT_of (same_upd hm)
    refine ⟨_, rfl, _, rfl, for_it walk_str (fun i σ' H' => ∃ (v6 v7 v8 : Option V) (b : Addr) (as : List Addr), σ' = [some (net g), some (.str (S cs)), some (.ref b), some (.int (wfrom g p h (cs.take i)).h), some (.ref sl), some (.ref m), v6, v7, v8] ∧ Same H H' ∧
      H' sl = some (.lst (ts.map V.ref)) ∧ Pts H' ts (stl g) ∧ H' m = some (.lst (as.map V.ref)) ∧ Mvs H' as (wfrom g p h (cs.take i)).ms ∧ H' b = some (.tup (pl (wfrom g p h (cs.take i)).p)))
      ⟨none, none, none, b, [], rfl, same_put s1 hm0, by rw [upd_ne nslm]; exact sl1, pts_sam sm pts, upd_same, .nil, sm _ _ (s1 _ _ hb)⟩ (fun _ _ _ _ _ => trivial) ?_ ?_⟩
    · rintro i x σ' _ H2 hi ⟨v6, v7, v8, b, as, rfl, s2, sl2, pts2, e2, m2, b2⟩ ⟨rfl, c, hc, rfl⟩
      have hc' : cs[i]? = some c := by simpa using hc
      have okc := ok c (List.mem_of_getElem? hc')
      rw [take_snoc hc', wfrom_snoc]
      have hsh : (wfrom g p h (cs.take i)).h < hd g := wfrom_h g p hh _
      have lenas : as.length < 1000 := by
        have z1 := Paired.length m2
        rw [wfrom_len] at z1
        have z2 := mvn_le (cs.take i)
        have z3 : (cs.take i).length ≤ cs.length := List.length_take_le' i cs
        omega
      generalize wfrom g p h (cs.take i) = st at *
      have hlen : ((ts.map V.ref).length : Nat) = hd g := by rw [List.length_map, lts]
      have hpos : (0 : Int) < ((ts.map V.ref).length : Nat) := by rw [hlen]; exact hd_pos g
      refine ⟨_, rfl, c, _, rfl, rfl, _, rfl, itb (inFB c) ?_⟩
      by_cases hcm : c = 70 ∨ c = 66
      · refine itb (b := true) (decide_eq_true hcm) (iteT ?_)
        refine ⟨fun σ' H' => H' = H2 ∧ ∃ wy : Int, wy = (if c = 70 then 1 else -1) ∧ σ' = [some (net g), some (.str (S cs)), some (.ref b), some (.int st.h), some (.ref sl), some (.ref m), some (.str (sgn c)), some (.int wy), v8], ?_, ?_⟩
        · refine ⟨_, rfl, rfl, _, rfl, itb (isF c) (ite2 (fun hF => ?_) fun hF => ?_)⟩
          · exact ⟨rfl, 1, by rw [if_pos (of_decide_eq_true hF)], rfl⟩
          · exact ⟨1, rfl, rfl, -1, by rw [if_neg (fun z => hF (decide_eq_true z))], rfl⟩
        · rintro _ H2 ⟨rfl, wy, hwy, rfl⟩
          have bT : SqT K H2 b (pl st.p) := .of b2
          obtain ⟨t, ht, e5⟩ : ∃ t, H2 t = some (.tup (pl (stp g st.h))) ∧ ts[st.h]? = some t := by
            have e : (stl g)[st.h]? = some (stp g st.h) := by simp [stl, hsh]
            obtain ⟨t, h1, h2⟩ := pair_at pts2 e
            exact ⟨t, h1, h2⟩
          have tT : SqT K H2 t (pl (stp g st.h)) := .of ht
          have wys : -(2 ^ 64) < wy ∧ wy < 2 ^ 64 := by rw [hwy]; split <;> decide
          have itm : atI (ts.map V.ref) (st.h : Int) = some (.ref t) := atI_nat (j := st.h) (by rw [List.getElem?_map, e5]; rfl)
          refine ⟨_, rfl, _, _, _, _, rfl, rfl, bT, atI_nat (j := 0) rfl, _, rfl, _, rfl, _, rfl, _, _, _, _, rfl, rfl, .of sl2, itm, _, _, _, _, rfl, rfl, tT, atI_nat (j := 0) rfl, _, _, rfl, rfl, .inl wys, _, _, rfl, rfl, ?_⟩
          refine ⟨_, rfl, _, _, _, _, rfl, rfl, bT, atI_nat (j := 1) rfl, _, rfl, _, rfl, _, rfl, _, _, _, _, rfl, rfl, .of sl2, itm, _, _, _, _, rfl, rfl, tT, atI_nat (j := 1) rfl, _, _, rfl, rfl, .inl wys, _, _, rfl, rfl, (small64 (n := 2) (by decide)), fun u hu => ?_⟩
          have eu : upd H2 u (.tup [.int (st.p.1 + wy * (stp g st.h).1), .int (st.p.2 + wy * (stp g st.h).2)]) u = some (.tup (pl (mvTo g st.p st.h c))) := by
            rw [upd_same, mvTo_way g st.p st.h c wy hwy]
            rfl
          have s3 := same_put (o := .tup [.int (st.p.1 + wy * (stp g st.h).1), .int (st.p.2 + wy * (stp g st.h).2)]) s2 (Same.free s2 hu)
          have s23 := same_upd (o := .tup [.int (st.p.1 + wy * (stp g st.h).1), .int (st.p.2 + wy * (stp g st.h).2)]) hu
          have e3 := s23 _ _ e2
          have sl3 := s23 _ _ sl2
          have pts3 := pts_sam (samT_of s23) pts2
          have m3 := mvs_sam (samT_of s23) m2
          have b3 := s23 _ _ b2
          generalize upd H2 u (.tup [.int (st.p.1 + wy * (stp g st.h).1), .int (st.p.2 + wy * (stp g st.h).2)]) = H3 at eu s3 e3 sl3 pts3 m3 b3
          refine ⟨_, rfl, .inl ⟨rfl, _, .of e3⟩, _, rfl, _, rfl, _, rfl, (small64 (n := 3) (by decide)), fun q hq => ?_⟩
          have s4 := same_upd (o := .tup [.ref b, .int st.h, .ref u]) hq
          have nms : sl ≠ m := nslm
          have s5 : SamT H3 (upd (upd H3 q (.tup [.ref b, .int st.h, .ref u])) m (.lst (as.map V.ref ++ [.ref q]))) := samT_trans (samT_of s4) (samT_put (s4 _ _ e3) fun _ z => nomatch z)
          have s6 : SamT (upd H3 q (.tup [.ref b, .int st.h, .ref u])) (upd (upd H3 q (.tup [.ref b, .int st.h, .ref u])) m (.lst (as.map V.ref ++ [.ref q]))) := samT_put (s4 _ _ e3) fun _ z => nomatch z
          refine ⟨m, _, _, rfl, rfl, s4 _ _ e3, by rw [List.length_map]; exact Nat.lt_of_lt_of_le lenas (by decide), _, rfl, ?_⟩
          have sl4 : upd (upd H3 q (.tup [.ref b, .int st.h, .ref u])) m (.lst (as.map V.ref ++ [.ref q])) sl = some (.lst (ts.map V.ref)) := by rw [upd_ne nslm]; exact s4 _ _ sl3
          refine ⟨_, rfl, _, rfl, rfl, .inr ⟨_, rfl, _, _, rfl, rfl, _, rfl, rfl, .inr ⟨_, rfl, _, _, rfl, rfl, _, rfl, sl, _, rfl, .inl (.of sl4), _, _, rfl, rfl, hpos, ?_⟩⟩⟩
          have ea : (wnext g st c).ms = st.ms ++ [(st.p, st.h, mvTo g st.p st.h c)] := if_pos hcm
          have eb : (wnext g st c).p = mvTo g st.p st.h c := if_pos hcm
          refine ⟨some (.str (sgn c)), some (.int wy), some (.ref u), u, as ++ [q], ?_, same_put (Same.trans s3 s4) hm0, sl4, pts_sam s5 pts3, by rw [upd_same, List.map_append]; rfl, ?_, by rw [eb]; exact s5 _ _ eu⟩
          · rw [← head_eq g st c _ hlen]
            rfl
          · rw [ea]
            exact Paired.snoc (mvs_sam s5 m3) ⟨b, u, s6 _ _ upd_same, s5 _ _ b3, s5 _ _ eu⟩
      · refine itb (b := false) (decide_eq_false hcm) (iteF ?_)
        refine ⟨_, rfl, _, rfl, rfl, .inr ⟨_, rfl, _, _, rfl, rfl, _, rfl, rfl, .inr ⟨_, rfl, _, _, rfl, rfl, _, rfl, sl, _, rfl, .inl (.of sl2), _, _, rfl, rfl, hpos, ?_⟩⟩⟩
        have ea : (wnext g st c).ms = st.ms := if_neg hcm
        have eb : (wnext g st c).p = st.p := if_neg hcm
        refine ⟨some (.str (sgn c)), v7, v8, b, as, ?_, s2, sl2, pts2, e2, by rw [ea]; exact m2, by rw [eb]; exact b2⟩
        rw [← head_eq g st c _ hlen]
        rfl
    · rintro σ' H2 ⟨v6, v7, v8, b', as, rfl, s2, sl2, pts2, e2, m2, b2⟩
      have e : cs.take (S cs).cps.size = cs := by simp
      rw [e] at m2 b2 ⊢
      exact ⟨_, rfl, _, rfl, _, rfl, (small64 (n := 3) (by decide)), fun l hl => k _ l m b' as (same_put s2 (Same.free s2 hl)) hm0 upd_same (same_upd hl _ _ e2) (mvs_sam (samT_of (same_upd hl)) m2) (same_upd hl _ _ b2)⟩
end
end K53
set_option maxHeartbeats 4000000
namespace K53
open PySem PySem.Spec PyProof.Rows L2
open C8 (fnScope_by pe_mk pe_mt pe_mt0 InsC)
open SX (S)
/-- where round n begins; the moves of n rounds -/
def rst (g : Bool) (cs : List Nat) : Nat → (Int × Int) × Nat
  | 0 => ((0, 0), 0)
  | n + 1 => ((wfrom g (rst g cs n).1 (rst g cs n).2 cs).p, (wfrom g (rst g cs n).1 (rst g cs n).2 cs).h)
def rmv (g : Bool) (cs : List Nat) : Nat → List Mv
  | 0 => []
  | n + 1 => rmv g cs n ++ (wfrom g (rst g cs n).1 (rst g cs n).2 cs).ms
theorem rst_h (g : Bool) (cs : List Nat) : ∀ n, (rst g cs n).2 < hd g
  | 0 => by
    show 0 < hd g
    cases g <;> decide
  | n + 1 => wfrom_h g _ (rst_h g cs n) cs
theorem rmv_len (g : Bool) (cs : List Nat) : ∀ n, (rmv g cs n).length = n * mvn cs
  | 0 => by simp [rmv]
  | n + 1 => by rw [rmv, List.length_append, rmv_len g cs n, wfrom_len, Nat.succ_mul]
section
variable {P : Program} {w : World} {K : PySem.W.Frag} {mg : Str → Option Value} {base : Heap} {CO CL CW sS : Addr}
def spLooped : Sp := fun vs H Q _ => ∃ (g : Bool) (cs : List Nat) (m : Nat), vs = [net g, .str (S cs), .int m] ∧ (∀ c ∈ cs, okC c) ∧ cs.length ≤ 200 ∧ 0 < mvn cs ∧ m ≤ 2000 ∧
  ∀ H' l as n, Same H H' → H l = none → H' l = some (.lst (as.map V.ref)) → Mvs H' as (rmv g cs n) → m < n * mvn cs → n * mvn cs ≤ 3000 → Q (.ref l) H'
abbrev n67 : List Str := ["_law_kind_here", "_law_text", "_law_least", "_law_moves", "_law_spot", "_law_heading", "_law_more"]
theorem sc67 : FnScope n67 ["_law_kind_here", "_law_text", "_law_least"] (L2.defScope (top 67)) := fnScope_by (by decide +kernel)
theorem c_looped (T : TxB K mg) (d : DefT K mg 67 "_law_looped") (c1 : Cal P w K mg base 2 "_law_walked" spWalked) : Cal P w K mg base 3 "_law_looped" spLooped := by
  refine cal d sc67 (fun vs H Q E h => ?_) (fun _ _ _ _ _ _ us hl => match us, hl with | [_, _, _], _ => rfl) (fun f cdv A outer s H vs Q E hr h => ?_)
  · obtain ⟨g, cs, m, rfl, _⟩ := h
    rfl
  · obtain ⟨g, cs, m, rfl, ok, hl, mv0, hm, k⟩ := h
    refine ⟨_, (pss_cons (ps_par3 (i := 3) (j := 4) (l := 5) (by rfl) sc67.nd rfl rfl rfl (by decide) (by decide) (by decide) rfl rfl rfl (pa_cons (pe_lst pa_nil) (pa_cons (pe_tup (pa_cons pe_int (pa_cons pe_int pa_nil))) (pa_cons pe_int pa_nil))) (by rfl)) (pss_cons (ps_while PassesOwn.never (pt_cmpR op_le (pe_callB call_len_seq (by rfl) T.len PySem.boot_len (pa_cons (pv 3) pa_nil)) (pv 2) (nomark _)) (pss_cons (ps_asg (C8.pe_c c1 hr (by decide) rfl (pa_cons (pv 0) (pa_cons (pv 1) (pa_cons (pv 4) (pa_cons (pv 5) pa_nil))))) (pg_unl rfl (pgs_cons (pg_name (i := 6) sc67.nd rfl (Or.inl rfl)) (pgs_cons (pg_name (i := 4) sc67.nd rfl (Or.inl rfl)) (pgs_cons (pg_name (i := 5) sc67.nd rfl (Or.inl rfl)) pgs_nil))))) (pss_one (ps_set (i := 3) sc67.nd rfl (Or.inl rfl) (pe_op op_cat (pv 3) (pv 6)))))) (pss_one (ps_ret (pv 3))))), ?_⟩
    refine ⟨by decide, fun l0 hl0 => ⟨(small64 (n := 2) (by decide)), fun b0 hb0 => ⟨_, _, _, rfl, ?_⟩⟩⟩
    have nlb : l0 ≠ b0 := fun z => by rw [← z, upd_same] at hb0; cases hb0
    have s0 := same_put (o := .tup [.int 0, .int 0]) (same_upd (o := .lst []) hl0) (Same.free (same_upd hl0) hb0)
    refine while_by (fun σ' H' => ∃ (l b : Addr) (v : Option V) (as : List Addr) (n : Nat), σ' = [some (net g), some (.str (S cs)), some (.int m), some (.ref l), some (.ref b), some (.int (rst g cs n).2), v] ∧ Same H H' ∧ H l = none ∧ H' l = some (.lst (as.map V.ref)) ∧ Mvs H' as (rmv g cs n) ∧ H' b = some (.tup (pl (rst g cs n).1)) ∧ as.length ≤ m + 200)
      (fun σ' H' => match σ' with | [_, _, _, some (.ref l), _, _, _] => (match H' l with | some (.lst xs) => m + 1 - xs.length | _ => 0) | _ => 0)
      ⟨l0, b0, none, [], 0, rfl, s0, hl0, by rw [upd_ne nlb, upd_same]; rfl, .nil, upd_same, Nat.zero_le _⟩ ?_ (fun σ H Q Q' h ⟨v, e, p, xs, e1, sq, v2, e2, i, j, e3, e4, b, e5, q⟩ => ⟨v, e, p, xs, e1, sq, v2, e2, i, j, e3, e4, b, e5, h _ _ q⟩)
    rintro σ' H1 ⟨l, b, v, as, n, rfl, s1, hl1, e1, m1, b1, la⟩
    have hlen := rmv_len g cs n
    rw [← Paired.length m1] at hlen
    refine ⟨_, rfl, l, _, rfl, .inl (.of e1), _, rfl, _, _, rfl, rfl, _, rfl, ite2 (fun z => ?_) fun z => ?_⟩
    · have z := of_decide_eq_true z
      rw [List.length_map] at z
      refine ⟨_, rfl, _, rfl, _, rfl, _, rfl, g, cs, b, _, _, rfl, b1, rst_h g cs n, ok, hl, fun H2 q m2 b2 as2 s2 hm2 eq2 em2 mv2 eb2 => ?_⟩
      have nlm : l ≠ m2 := fun z => by rw [← z, e1] at hm2; cases hm2
      refine ⟨q, _, rfl, .of eq2, rfl, _, _, rfl, _, _, rfl, _, _, rfl, rfl, _, rfl, _, rfl, l, m2, _, _, rfl, rfl, s2 _ _ e1, em2, ?_, fun p hp => ?_⟩
      · have z2 := Paired.length mv2
        rw [wfrom_len] at z2
        have z3 := mvn_le cs
        rw [List.length_map, List.length_map]
        exact Nat.le_trans (by omega : _ ≤ 5000) (by decide)
      · have s3 := same_upd (o := .lst (as.map V.ref ++ as2.map V.ref)) hp
        have z2 := Paired.length mv2
        rw [wfrom_len] at z2
        have z3 := mvn_le cs
        refine ⟨⟨p, b2, some (.ref m2), as ++ as2, n + 1, rfl, Same.trans s1 (Same.trans s2 s3), Same.free (Same.trans s1 s2) hp, by rw [upd_same, List.map_append], pair_app (mvs_sam (samT_of (Same.trans s2 s3)) m1) (mvs_sam (samT_of s3) mv2), s3 _ _ eb2, ?_⟩, ?_⟩
        · rw [List.length_append]
          omega
        · show (match upd H2 p (.lst (as.map V.ref ++ as2.map V.ref)) p with | some (.lst xs) => m + 1 - xs.length | _ => 0) < (match H1 l with | some (.lst xs) => m + 1 - xs.length | _ => 0)
          rw [upd_same, e1]
          simp only [List.length_append, List.length_map]
          omega
    · have z : ¬ (((as.map V.ref).length : Nat) : Int) ≤ (m : Nat) := fun y => z (decide_eq_true y)
      rw [List.length_map] at z
      exact ⟨_, rfl, k H1 l as n s1 hl1 e1 m1 (by omega) (by omega)⟩
/-! _law_ring -/
theorem cut_n (xs : List V) (n : Nat) : cutV xs none (some (n : Int)) = xs.take n := by
  unfold cutV
  rw [HT.sIx_nat, HT.sIx_none, List.drop_zero, Nat.sub_zero]
  rcases Nat.le_total n xs.length with h | h
  · rw [Nat.min_eq_left h]
  · rw [Nat.min_eq_right h, List.take_length, List.take_of_length_le h]
/-- the places at which the moves of n rounds begin -/
def rbf (g : Bool) (cs : List Nat) (n : Nat) : List (Int × Int) := (rmv g cs n).map (·.1)
def spRing (K : PySem.W.Frag) : Sp := fun vs H Q _ => ∃ (g : Bool) (cs : List Nat), vs = [net g, .str (S cs)] ∧ Clo g cs ∧ (∀ n, 6 * mvn cs < n * mvn cs → (rbf g cs n).take (lper g cs) = lplaces g cs) ∧
  ∀ H' l bs, Same H H' → H l = none → H' l = some (.lst (bs.map V.ref)) → Pts H' bs (lplaces g cs) → Q (.ref l) H'
abbrev n70 : List Str := ["_law_kind_here", "_law_text", "_law_walk", "_law_spots", "_law_move"]
theorem sc70 : FnScope n70 ["_law_kind_here", "_law_text"] (L2.defScope (top 70)) := fnScope_by (by decide +kernel)
theorem c_ring (T : TxB K mg) (d : DefT K mg 70 "_law_ring") (c1 : Cal P w K mg base 3 "_law_looped" spLooped) (cw : Mak P w K mg base 3 "Walk" CW (spWInit CW)) (cl : Mak P w K mg base 8 "Loop" CL (spLInit CL CW)) (cp : Prp P w K mg base 1 CL "period" (spLPer CL CW)) (cn : Met P w K mg base 1 CW "__len__" (spWLen CW)) :
    Cal P w K mg base 10 "_law_ring" (spRing K) := by
  refine cal d sc70 (fun vs H Q E h => ?_) (fun _ _ _ _ _ _ us hl => match us, hl with | [_, _], _ => rfl) (fun f cdv A outer s H vs Q E hr h => ?_)
  · obtain ⟨g, cs, rfl, _⟩ := h
    rfl
  · obtain ⟨g, cs, rfl, C, hrb, k⟩ := h
    have hmvl := mvn_le cs
    have hcl := C.len
    refine ⟨_, (pss_cons (ps_set (i := 2) sc70.nd rfl (Or.inl rfl) (C8.pe_mk cw hr (by decide) rfl (pa_cons (pv 0) (pa_cons (pv 1) pa_nil)))) (pss_cons (ps_setLc (i := 3) (own := [("_law_move", 4)]) (g := gName 4) rfl sc70.nd rfl rfl (sw_true rfl rfl rfl (by decide +kernel)) (pi_list (C8.pe_c c1 hr (by decide) rfl (pa_cons (pv 0) (pa_cons (pv 1) (pa_cons (pe_op op_mul pe_int (pe_callB (call_lenO cn hr (by decide)) (by rfl) T.len PySem.boot_len (pa_cons (pv 2) pa_nil))) pa_nil))))) (blkOk_by (own := [("_law_move", 4)]) (N := n70) (sc := L2.defScope (top 70)) (by decide +kernel)) (fun _ _ _ _ _ => (pg_name (i := 4) sc70.nd rfl (Or.inl rfl))) (fun _ _ _ _ _ => pts_nil) (fun _ _ _ _ _ => (pe_ixT (K := K) rfl (pv 4) pe_int (fun _ _ => rfl)))) (pss_one (ps_ret (pe_slice sl_list (pv 3) po_none (po_some (pe_pr cp hr (by decide) (C8.pe_mk cl hr (by decide) rfl (pa_cons (pv 2) pa_nil))))))))), ?_⟩
    refine ⟨_, rfl, _, rfl, ?_⟩
    intro x dx nx ndx nex; refine ⟨x, dx, g, cs, rfl, C.ok, C.len, upd_same, fun H1 hW btx => ⟨rfl, ?_⟩⟩; have s1 := Same.made nx ndx fun b o e n => btx b o n e
    obtain ⟨dw, wm, wp, was, wbs, hw1, _⟩ := id hW
    refine ⟨_, rfl, _, rfl, _, rfl, x, dw, _, rfl, hw1, x, g, cs, rfl, hW, _, rfl, ?_, _, _, rfl, rfl, .inl ⟨by decide, by decide⟩, g, cs, 6 * mvn cs, ?_, C.ok, C.len, C.mv, by omega, fun H2 l as n s2 l0 l1 m2 hn hn2 => ?_⟩
    · rw [wrun_mvn]
      exact Nat.lt_of_le_of_lt (by omega : _ ≤ 200) (by decide)
    · rw [wrun_mvn]
      have e : (fun i j : Int => V.int (i * j)) 6 ((mvn cs : Nat) : Int) = .int ((6 * mvn cs : Nat) : Int) := by
        show V.int (6 * ((mvn cs : Nat) : Int)) = _
        congr 1
      rw [e]
      rfl
    refine ⟨l, rfl, ⟨_, .of l1⟩, fun D hD => lc_it walk_list (fun i H' => Same H2 H' ∧ ∃ bs, H' D = some (.lst (bs.map V.ref)) ∧ Pts H' bs ((rbf g cs n).take i)) ⟨same_upd hD, [], upd_same, .nil⟩ (fun _ H' _ z => .of (z.1 _ _ l1)) ?_ ?_⟩
    · rintro i _ _ H3 hi ⟨s3, bs, e3, p3⟩ ⟨rfl, hx3⟩
      obtain ⟨a, ha, rfl⟩ := map_at hx3
      obtain ⟨v, ⟨b, c, h1, h2, h3⟩, hv⟩ := pair_l m2 ha
      have hb : (rbf g cs n)[i]? = some v.1 := by unfold rbf; rw [List.getElem?_map, hv]; rfl
      refine ⟨rfl, _, rfl, _, _, _, _, rfl, rfl, .of (s3 _ _ h1), atI_nat (j := 0) rfl, bs.map V.ref, e3, ?_, same_put s3 hD, bs ++ [b], by rw [upd_same, List.map_append]; rfl, ?_⟩
      · have z1 := Paired.length p3
        have z2 : ((rbf g cs n).take i).length ≤ (rbf g cs n).length := List.length_take_le' i _
        have z3 : (rbf g cs n).length = n * mvn cs := by unfold rbf; rw [List.length_map, rmv_len]
        rw [List.length_map]
        exact Nat.lt_of_le_of_lt (by omega : bs.length ≤ 3000) (by decide)
      · rw [take_snoc hb]
        have z := samT_put (u := .lst (bs.map V.ref ++ [.ref b])) e3 fun _ z => nomatch z
        exact Paired.snoc (pts_sam z p3) (z _ _ (s3 _ _ h2))
    · rintro H3 ⟨s3, bs, e3, p3⟩
      have lr : (as.map V.ref).length = (rbf g cs n).length := by unfold rbf; rw [List.length_map, List.length_map, Paired.length m2]
      rw [lr, List.take_length] at p3
      have s13 := Same.trans s2 s3
      refine ⟨_, rfl, _, rfl, ?_⟩
      intro y dy ny ndy ney; refine ⟨y, dy, x, g, cs, rfl, upd_same, isW_same (same_put (same_upd ndy) ny) (isW_same s13 hW), (ms_ne C.mv), fun H4 hL bty => ⟨rfl, ?_⟩⟩; have s4 := Same.made ny ndy fun b o e n => bty b o n e
      obtain ⟨dl, wk, dr, lp, lh, lbs, hl1, _⟩ := id hL
      refine ⟨y, _, _, rfl, hl1, y, g, cs, rfl, hL, _, rfl, D, _, rfl, .of (s4 _ _ e3), fun p hp => ?_⟩
      rw [cut_n, ← List.map_take]
      have s14 := Same.trans s1 (Same.trans s13 s4)
      have pp := pair_take p3 (lper g cs)
      rw [hrb n hn] at pp
      exact k _ p (bs.take (lper g cs)) (same_put s14 (Same.free s14 hp)) (Same.free s14 hp) upd_same (pts_sam (samT_of (Same.trans s4 (same_upd hp))) pp)
/-! _law_pairs: a place and the one before it -/
def prv {α : Type} (ps : List α) : List (α × α) := (ps.drop (ps.length - 1) ++ ps.take (ps.length - 1)).zip ps
theorem prv_at {α : Type} {ps : List α} {i : Nat} (hi : i < ps.length) : ∃ j p q, ps[j]? = some p ∧ ps[i]? = some q ∧ (prv ps)[i]? = some (p, q) ∧ ((i = 0 ∧ j + 1 = ps.length) ∨ i = j + 1) := by
  have hq : ps[i]? = some ps[i] := List.getElem?_eq_getElem hi
  cases i with
  | zero =>
    have hj : ps.length - 1 < ps.length := by omega
    refine ⟨ps.length - 1, ps[ps.length - 1], ps[0], List.getElem?_eq_getElem hj, hq, ?_, .inl ⟨rfl, by omega⟩⟩
    unfold prv
    refine List.getElem?_zip_eq_some.mpr ⟨?_, hq⟩
    rw [List.getElem?_append_left (by rw [List.length_drop]; omega), List.getElem?_drop, Nat.add_zero]
    exact List.getElem?_eq_getElem hj
  | succ j =>
    have hj : j < ps.length := by omega
    refine ⟨j, ps[j], ps[j + 1], List.getElem?_eq_getElem hj, hq, ?_, .inr rfl⟩
    unfold prv
    refine List.getElem?_zip_eq_some.mpr ⟨?_, hq⟩
    have e : (ps.drop (ps.length - 1)).length = 1 := by rw [List.length_drop]; omega
    rw [List.getElem?_append_right (by omega), e, Nat.add_sub_cancel, List.getElem?_take_of_lt (by omega)]
    exact List.getElem?_eq_getElem hj
def spPrv : Sp := fun vs H Q _ => ∃ (l : Addr) (bs : List Addr) (ps : List (Int × Int)), vs = [.ref l] ∧ H l = some (.lst (bs.map V.ref)) ∧ Pts H bs ps ∧ ps.length ≤ 1000 ∧ ∀ H' q ts, Same H H' → H q = none → H' q = some (.lst (ts.map V.ref)) → Prs H' ts (prv ps) → Q (.ref q) H'
abbrev n71 : List Str := ["_law_ring_here", "_law_at"]
theorem sc71 : FnScope n71 ["_law_ring_here"] (L2.defScope (top 71)) := fnScope_by (by decide +kernel)
theorem c_prv (T : TxB K mg) (d : DefT K mg 71 "_law_pairs") : Cal P w K mg base 1 "_law_pairs" spPrv := by
  refine cal d sc71 (fun vs H Q E h => ?_) (fun _ _ _ _ _ _ us hl => match us, hl with | [_], _ => rfl) (fun f cdv A outer s H vs Q E hr h => ?_)
  · obtain ⟨l, bs, ps, rfl, _⟩ := h
    rfl
  · obtain ⟨l, bs, ps, rfl, hl, hb, hz, k⟩ := h
    refine ⟨_, (pss_one (ps_ret (pe_lc (own := [("_law_at", 1)]) (g := gName 1) rfl sc71.nd (pi_range1 (by rfl) T.range (pa_cons (pe_callB call_len_seq (by rfl) T.len PySem.boot_len (pa_cons (pv 0) pa_nil)) pa_nil)) (blkOk_by (own := [("_law_at", 1)]) (N := n71) (sc := L2.defScope (top 71)) (by decide +kernel)) (fun _ _ _ _ _ => (pg_name (i := 1) sc71.nd rfl (Or.inl rfl))) (fun _ _ _ _ _ => pts_nil) (fun _ _ _ _ _ => (pe_tup (pa_cons (pe_ixL (K := K) rfl (pv 0) (pe_op op_sub (pv 1) pe_int) (fun _ _ => rfl)) (pa_cons (pe_ixL (K := K) rfl (pv 0) (pv 1) (fun _ _ => rfl)) pa_nil))))))), ?_⟩
    have lb := Paired.length hb
    refine ⟨_, rfl, _, _, rfl, .inl (.of hl), _, rfl, by omega, by rw [List.length_map]; omega, fun D hD => ?_⟩
    have en : (((bs.map V.ref).length : Nat) : Int).toNat = ps.length := by rw [List.length_map, lb]; rfl
    rw [en]
    refine lc_it walk_range (fun i H' => Same H H' ∧ ∃ ts, H' D = some (.lst (ts.map V.ref)) ∧ Prs H' ts ((prv ps).take i)) ⟨same_upd hD, [], upd_same, .nil⟩ (fun _ _ _ _ => trivial) ?_ ?_
    · rintro i _ _ H2 hi ⟨s2, ts, e2, p2⟩ ⟨rfl, rfl⟩
      obtain ⟨j, p, q, hp, hq, hpq, hji⟩ := prv_at hi
      obtain ⟨b, hb1, hb2⟩ := pair_at hb hp
      obtain ⟨c, hc1, hc2⟩ := pair_at hb hq
      have ib : atI (bs.map V.ref) ((0 + (i : Int)) - 1) = some (.ref b) := by
        rcases hji with ⟨h1, h2⟩ | h1
        · subst h1
          exact at_last (n := j) (by rw [List.length_map, lb, ← h2]) (by rw [List.getElem?_map, hb2]; rfl)
        · have e : (0 + (i : Int)) - 1 = (j : Int) := by omega
          rw [e]
          exact atI_nat (j := j) (by rw [List.getElem?_map, hb2]; rfl)
      have ic : atI (bs.map V.ref) (0 + (i : Int)) = some (.ref c) := by
        have e : (0 + (i : Int)) = (i : Int) := by omega
        rw [e]
        exact atI_nat (j := i) (by rw [List.getElem?_map, hc2]; rfl)
      refine ⟨rfl, _, rfl, _, rfl, _, _, rfl, rfl, _, _, _, _, rfl, rfl, .of (s2 _ _ hl), ib, _, rfl, _, rfl, _, _, _, _, rfl, rfl, .of (s2 _ _ hl), ic, (small64 (n := 2) (by decide)), fun t ht => ?_⟩
      have s3 := same_upd (o := .tup [.ref b, .ref c]) ht
      refine ⟨ts.map V.ref, s3 _ _ e2, ?_, same_put (Same.trans s2 s3) hD, ts ++ [t], by rw [upd_same, List.map_append]; rfl, ?_⟩
      · have z1 := Paired.length p2
        have z2 : ((prv ps).take i).length ≤ i := by rw [List.length_take]; omega
        rw [List.length_map]
        exact Nat.lt_of_le_of_lt (by omega : ts.length ≤ 1000) (by decide)
      · rw [take_snoc hpq]
        have z := samT_put (u := .lst (ts.map V.ref ++ [.ref t])) (s3 _ _ e2) fun _ z => nomatch z
        exact Paired.snoc (prs_sam (samT_trans (samT_of s3) z) p2) ⟨b, c, z _ _ upd_same, z _ _ (s3 _ _ (s2 _ _ hb1)), z _ _ (s3 _ _ (s2 _ _ hc1))⟩
    · rintro H2 ⟨s2, ts, e2, p2⟩
      have lp : (prv ps).length = ps.length := by
        unfold prv
        rw [List.length_zip, List.length_append, List.length_drop, List.length_take]
        omega
      rw [← lp, List.take_length] at p2
      exact k H2 D ts s2 hD e2 p2
end
end K53
set_option maxHeartbeats 4000000
namespace K53
open PySem PySem.Spec PyProof.Rows L2
open C8 (fnScope_by pe_mk pe_mt pe_mt0 InsC)
open SX (S)
section
variable {X : Cx} {K : PySem.W.Frag} {o e : Expr} {to te : TE} {apos cpos : Pos}
theorem pe_idxL (hK : X.K = K) (hu : X.A.units + 65 < cLine) (ho : PE X o to) (he : PE X e te) (hs : starEach [e] X.env = (false, eval e X.env) :: starEach [] X.env := by rfl)
    (hb : attributeBase o "index" X.env (eval o X.env) = eval o X.env := by rfl)
    (hf : ((backTo cpos (starEach [e] X.env)).all (fun x => !x.1) && (backToKw cpos (keywordEach [] X.env)).all (fun x => x.1.isSome) && decide (([e] : List Expr).length + ([] : List Keyword).length + (if ([] : List Keyword).isEmpty then 0 else 1) < 30)) = true := by rfl)
    (hl : (apos.endLine == cpos.line) = true := by rfl) : PE X (.Call (.Attribute o "index" apos) [e] [] cpos) (tBM K "list" (rIdx K fun a ys H => SqL K H a ys) to (tCons te tNil)) := by
  cases hK
  exact pe_bm PySem.F.plainAttrs_list PySem.F.slot_list_index PySem.F.type_list_index (mt_idxL hu) ho (pa_cons (hs := hs) he pa_nil) hb hf hl hs rfl
end
/-! ### the law's turning -/
def lways (g : Bool) (ps : List (Int × Int)) : List Nat := (prv ps).map fun z => (stl g).idxOf (psub z.2 z.1)
def ltrn (g : Bool) (ps : List (Int × Int)) : Int := ((prv (lways g ps)).map fun z => tw (hd g) z.1 z.2).sum
section
variable {P : Program} {w : World} {K : PySem.W.Frag} {mg : Str → Option Value} {base : Heap} {CO CL CW sS : Addr}
def spLTrn (K : PySem.W.Frag) : Sp := fun vs H Q _ => ∃ (g : Bool) (l : Addr) (bs : List Addr) (ps : List (Int × Int)), vs = [net g, .ref l] ∧ H l = some (.lst (bs.map V.ref)) ∧ Pts H bs ps ∧ ps.length ≤ 1000 ∧ (∀ z ∈ prv ps, psub z.2 z.1 ∈ stl g) ∧ ∀ H', Same H H' → Q (.int (ltrn g ps)) H'
abbrev n76 : List Str := ["_law_kind_here", "_law_ring_here", "_law_steps_here", "_law_ways", "_law_total", "_law_at", "_law_turn", "_law_one", "_law_two"]
theorem sc76 : FnScope n76 ["_law_kind_here", "_law_ring_here"] (L2.defScope (top 76)) := fnScope_by (by decide +kernel)
theorem c_ltrn (T : TxB K mg) (d : DefT K mg 76 "_law_turning") (c1 : Cal P w K mg base 1 "_law_steps" spSteps) (c2 : Cal P w K mg base 1 "_law_pairs" spPrv) : Cal P w K mg base 2 "_law_turning" (spLTrn K) := by
  refine cal d sc76 (fun vs H Q E h => ?_) (fun _ _ _ _ _ _ us hl => match us, hl with | [_, _], _ => rfl) (fun f cdv A outer s H vs Q E hr h => ?_)
  · obtain ⟨g, l, bs, ps, rfl, _⟩ := h
    rfl
  · obtain ⟨g, l, bs, ps, rfl, hl, hb, hz, hst, k⟩ := h
    have hu : A.units + 200 < cLine := by
      have := hr.un
      have e : (A.deeper (envOfC "_law_turning" (L2.defScope (top 76)) s.heap.objs.size f cdv)).units = A.units + 3 := rfl
      omega
    refine ⟨_, (pss_cons (ps_set (i := 2) sc76.nd rfl (Or.inr rfl) (C8.pe_c c1 hr (by decide) rfl (pa_cons (pv 0) pa_nil))) (pss_cons (ps_setLc (i := 3) (own := [("_law_one", 7), ("_law_two", 8)]) (g := gTup K 2 (gCons (gName 7) (gCons (gName 8) gNil))) rfl sc76.nd rfl rfl (sw_true rfl rfl rfl (by decide +kernel)) (pi_list (C8.pe_c c2 hr (by decide) rfl (pa_cons (pv 1) pa_nil))) (blkOk_by (own := [("_law_one", 7), ("_law_two", 8)]) (N := n76) (sc := L2.defScope (top 76)) (by decide +kernel)) (fun _ _ _ _ _ => (pg_tup rfl (pgs_cons (pg_name (i := 7) sc76.nd rfl (Or.inl rfl)) (pgs_cons (pg_name (i := 8) sc76.nd rfl (Or.inl rfl)) pgs_nil)))) (fun _ _ _ _ _ => pts_nil) (fun _ _ _ _ _ => (pe_idxL (K := K) rfl (by show A.units + 3 + 65 < cLine; omega) (pv 2) (pe_tup (pa_cons (pe_op op_sub (pe_ixT (K := K) rfl (pv 8) pe_int (fun _ _ => rfl)) (pe_ixT (K := K) rfl (pv 7) pe_int (fun _ _ => rfl))) (pa_cons (pe_op op_sub (pe_ixT (K := K) rfl (pv 8) pe_int (fun _ _ => rfl)) (pe_ixT (K := K) rfl (pv 7) pe_int (fun _ _ => rfl))) pa_nil)))))) (pss_cons (ps_set (i := 4) sc76.nd rfl (Or.inl rfl) pe_int) (pss_cons (ps_for PassesOwn.never rfl (pi_range1 (by rfl) T.range (pa_cons (pe_callB call_len_seq (by rfl) T.len PySem.boot_len (pa_cons (pv 3) pa_nil)) pa_nil)) (pg_name (i := 5) sc76.nd rfl (Or.inl rfl)) (pss_cons (ps_set (i := 6) sc76.nd rfl (Or.inl rfl) (pe_op op_mod (pe_op op_sub (pe_ix ix_list (pv 3) (pv 5) (fun _ _ => rfl)) (pe_ix ix_list (pv 3) (pe_op op_sub (pv 5) pe_int) (fun _ _ => rfl))) (pe_callB call_len_seq (by rfl) T.len PySem.boot_len (pa_cons (pv 2) pa_nil)))) (pss_one (ps_set (i := 4) sc76.nd rfl (Or.inl rfl) (pe_op op_add (pv 4) (pe_ifExp (pt_cmpR op_le (pe_op op_mul pe_int (pv 6)) (pe_callB call_len_seq (by rfl) T.len PySem.boot_len (pa_cons (pv 2) pa_nil)) (nomark _)) (pv 6) (pe_op op_sub (pv 6) (pe_callB call_len_seq (by rfl) T.len PySem.boot_len (pa_cons (pv 2) pa_nil))))))))) (pss_one (ps_ret (pv 4))))))), ?_⟩
    refine ⟨_, rfl, g, rfl, fun H1 sl sts s1 sl0 sl1 spts => ?_⟩
    refine ⟨_, rfl, l, bs, ps, rfl, s1 _ _ hl, pts_sam (samT_of s1) hb, hz, fun H2 q ts s2 q0 q1 p2 => ?_⟩
    have lst : (sts.map V.ref).length = hd g := by rw [List.length_map, Paired.length spts]; simp [stl]
    have sl2 := s2 _ _ sl1
    have spt2 := pts_sam (samT_of s2) spts
    have plr : ∀ H', Same H2 H' → PlR K H' sts (stl g) := fun H' s' => Paired.mapP spt2 fun _ _ z => .of (s' _ _ z)
    refine ⟨q, rfl, ⟨_, .of q1⟩, fun D hD => lc_it walk_list (fun i H' => Same H2 H' ∧ H' D = some (.lst (((lways g ps).take i).map fun (n : Nat) => V.int n))) ⟨same_upd hD, upd_same⟩ (fun _ H' _ z => .of (z.1 _ _ q1)) ?_ ?_⟩
    · rintro i _ _ H3 hi ⟨s3, e3⟩ ⟨rfl, hx⟩
      obtain ⟨t, ht, rfl⟩ := map_at hx
      obtain ⟨z, ⟨b, c, h1, h2, h3⟩, hz1⟩ := pair_l p2 ht
      have hd1 : (lways g ps)[i]? = some ((stl g).idxOf (psub z.2 z.1)) := by unfold lways; rw [List.getElem?_map, hz1]; rfl
      have bT : SqT K H3 b (pl z.1) := .of (s3 _ _ h2)
      have cT : SqT K H3 c (pl z.2) := .of (s3 _ _ h3)
      refine ⟨t, _, rfl, .of (s3 _ _ h1), rfl, _, _, rfl, _, _, rfl, rfl, rfl, _, rfl, .inl ⟨rfl, _, .of (s3 _ _ sl2)⟩, _, rfl, _, _, _, _, rfl, rfl, cT, atI_nat (j := 0) rfl, _, rfl, _, _, _, _, rfl, rfl, bT, atI_nat (j := 0) rfl, _, _, rfl, rfl, _, rfl, _, _, _, _, rfl, rfl, cT, atI_nat (j := 1) rfl, _, rfl, _, _, _, _, rfl, rfl, bT, atI_nat (j := 1) rfl, _, _, rfl, rfl, (small64 (n := 2) (by decide)), fun u hu => ?_⟩
      have s4 := same_put (o := .tup (pl (psub z.2 z.1))) s3 (Same.free s3 hu)
      refine ⟨sl, u, sts, stl g, psub z.2 z.1, rfl, rfl, .of (s4 _ _ sl2), plr _ s4, .of upd_same, hst z (List.mem_of_getElem? hz1), _, same_upd hu _ _ e3, ?_, same_put s4 hD, ?_⟩
      · rw [List.length_map]
        have z1 : ((lways g ps).take i).length ≤ (lways g ps).length := List.length_take_le' i _
        have z2 : (lways g ps).length ≤ 1000 := by
          unfold lways prv
          rw [List.length_map, List.length_zip]
          omega
        exact Nat.lt_of_le_of_lt (by omega : _ ≤ 1000) (by decide)
      · rw [upd_same, take_snoc hd1, List.map_append]
        rfl
    rintro H3 ⟨s3, e3⟩
    have ed : (lways g ps).take (ts.map V.ref).length = lways g ps := by
      have : (ts.map V.ref).length = (lways g ps).length := by
        rw [List.length_map, Paired.length p2]
        simp [lways]
      rw [this, List.take_length]
    rw [ed] at e3
    generalize hws : lways g ps = ws at e3
    have hwl : ws.length ≤ 1000 := by
      rw [← hws]
      unfold lways prv
      rw [List.length_map, List.length_zip]
      omega
    have hxs : ((ws.map fun (n : Nat) => V.int n).length : Nat) = ws.length := by rw [List.length_map]
    refine ⟨_, rfl, _, _, rfl, .inl (.of e3), _, rfl, by omega, by omega, ?_⟩
    have en : (((ws.map fun (n : Nat) => V.int n).length : Nat) : Int).toNat = ws.length := by rw [hxs]; rfl
    rw [en]
    have sl3 := s3 _ _ sl2
    have s03 := Same.trans s1 (Same.trans s2 s3)
    refine for_range (n := ws.length) (fun i σ' H' => H' = H3 ∧ ∃ at_ tn, σ' = [some (net g), some (.ref l), some (.ref sl), some (.ref D), some (.int (((prv ws).take i).map fun z => tw (hd g) z.1 z.2).sum), at_, tn, none, none]) ⟨rfl, none, none, rfl⟩ ?_ ?_
    · rintro i σ' H4 hi ⟨rfl, at_, tn, rfl⟩
      obtain ⟨j, p, q, hp, hq, hpq, hji⟩ := prv_at hi
      have ip : atI (ws.map fun (n : Nat) => V.int n) ((0 + (i : Int)) - 1) = some (.int p) := by
        rcases hji with ⟨h1, h2⟩ | h1
        · subst h1
          exact at_last (n := j) (by rw [List.length_map, ← h2]) (by rw [List.getElem?_map, hp]; rfl)
        · have e : (0 + (i : Int)) - 1 = (j : Int) := by omega
          rw [e]
          exact atI_nat (j := j) (by rw [List.getElem?_map, hp]; rfl)
      have iq : atI (ws.map fun (n : Nat) => V.int n) (0 + (i : Int)) = some (.int q) := by
        have e : (0 + (i : Int)) = (i : Int) := by omega
        rw [e]
        exact atI_nat (j := i) (by rw [List.getElem?_map, hq]; rfl)
      refine ⟨_, rfl, _, rfl, _, _, _, _, rfl, rfl, .of e3, iq, _, rfl, _, rfl, _, _, rfl, rfl, _, _, _, _, rfl, rfl, .of e3, ip, _, _, rfl, rfl, _, rfl, _, _, rfl, .inl (.of sl3), ?_⟩
      rw [lst]
      refine ⟨_, _, rfl, rfl, hd_pos g, _, rfl, _, rfl, _, _, rfl, rfl, .inl ⟨by decide, by decide⟩, _, rfl, _, _, rfl, .inl (.of sl3), ?_⟩
      rw [lst]
      have fin : ∀ z : Int, z = tw (hd g) p q → (((prv ws).take i).map fun z => tw (hd g) z.1 z.2).sum + z = (((prv ws).take (i + 1)).map fun z => tw (hd g) z.1 z.2).sum := by
        intro z hz
        rw [take_snoc hpq, List.map_append, List.sum_append, hz]
        simp
      refine ⟨_, _, rfl, rfl, _, rfl, ite2 (fun y => ?_) fun y => ?_⟩
      · have y := of_decide_eq_true y
        refine ⟨_, rfl, _, _, rfl, rfl, rfl, some (.int (0 + i)), some (.int (((q : Int) - p) % (hd g : Nat))), ?_⟩
        rw [← fin (((q : Int) - p) % (hd g : Nat)) ?_]
        · rfl
        · unfold tw
          rw [if_neg (by omega)]
      · have y : ¬ (2 * (((q : Int) - p) % (hd g : Nat)) ≤ (hd g : Nat)) := fun z => y (decide_eq_true z)
        refine ⟨_, rfl, _, rfl, _, _, rfl, .inl (.of sl3), _, _, rfl, rfl, _, _, rfl, rfl, rfl, some (.int (0 + i)), some (.int (((q : Int) - p) % (hd g : Nat))), ?_⟩
        rw [lst, ← fin (((q : Int) - p) % (hd g : Nat) - (hd g : Nat)) ?_]
        · rfl
        · unfold tw
          rw [if_pos (by omega)]
    · rintro σ' H4 ⟨rfl, at_, tn, rfl⟩
      refine ⟨_, rfl, ?_⟩
      have ez : (prv ws).take ws.length = prv ws := by
        refine List.take_of_length_le ?_
        unfold prv
        rw [List.length_zip]
        exact Nat.min_le_right _ _
      rw [ez, ← hws]
      exact k _ s03
end
end K53
set_option maxHeartbeats 4000000
namespace K53
open PySem PySem.Spec PyProof.Rows L2
open C8 (fnScope_by pe_mk pe_mt pe_mt0 InsC)
open SX (S)
/-- the cells round a place, as the law lists them -/
def lcor (g : Bool) (p : Int × Int) : List (List Int) := if g then [[p.1, p.2, 0], [p.1 - 1, p.2, 1], [p.1 - 1, p.2, 0], [p.1 - 1, p.2 - 1, 1], [p.1, p.2 - 1, 0], [p.1, p.2 - 1, 1]]
  else [[p.1, p.2], [p.1 - 1, p.2], [p.1 - 1, p.2 - 1], [p.1, p.2 - 1]]
abbrev Tps (H : Hp) (ts : List Addr) (cs : List (List Int)) : Prop := Paired (fun t c => H t = some (.tup (c.map V.int))) ts cs
theorem tps_sam {H H' : Hp} (s : SamT H H') {ts : List Addr} {cs : List (List Int)} (h : Tps H ts cs) : Tps H' ts cs := Paired.mapP h fun _ _ z => s _ _ z
theorem tps_more {H : Hp} {ts : List Addr} {cs : List (List Int)} {t : Addr} (c : List Int) (h : Tps H ts cs) (ht : H t = none) : Tps (upd H t (.tup (c.map V.int))) (ts ++ [t]) (cs ++ [c]) := Paired.snoc (tps_sam (samT_of (same_upd ht)) h) upd_same
section
variable {P : Program} {w : World} {K : PySem.W.Frag} {mg : Str → Option Value} {base : Heap} {CO CL CW sS : Addr}
def spLCor (K : PySem.W.Frag) : Sp := fun vs H Q _ => ∃ (g : Bool) (a : Addr) (p : Int × Int), vs = [net g, .ref a] ∧ SqT K H a (pl p) ∧ ∀ H' l ts, Same H H' → H l = none → H' l = some (.lst (ts.map V.ref)) → Tps H' ts (lcor g p) → Q (.ref l) H'
theorem sc75 : FnScope ["_law_kind_here", "_law_spot", "_law_x", "_law_y"] ["_law_kind_here", "_law_spot"] (L2.defScope (top 75)) := fnScope_by (by decide +kernel)
theorem c_lcor (d : DefT K mg 75 "_law_corners") : Cal P w K mg base 1 "_law_corners" (spLCor K) := by
  refine cal d sc75 (fun vs H Q E h => ?_) (fun _ _ _ _ _ _ us hl => match us, hl with | [_, _], _ => rfl) (fun f cdv A outer s H vs Q E hr h => ?_)
  · obtain ⟨g, a, p, rfl, _⟩ := h
    rfl
  · obtain ⟨g, a, p, rfl, ha, k⟩ := h
    refine ⟨_, (pss_cons (ps_asg (pv 1) (pg_tup rfl (pgs_cons (pg_name (i := 2) sc75.nd rfl (Or.inl rfl)) (pgs_cons (pg_name (i := 3) sc75.nd rfl (Or.inl rfl)) pgs_nil)))) (pss_cons (ps_if (pt_cmpR op_eq (pv 0) pe_str (nomark _)) (pss_one (ps_ret (pe_lst (pa_cons (pe_tup (pa_cons (pv 2) (pa_cons (pv 3) pa_nil))) (pa_cons (pe_tup (pa_cons (pe_op op_sub (pv 2) pe_int) (pa_cons (pv 3) pa_nil))) (pa_cons (pe_tup (pa_cons (pe_op op_sub (pv 2) pe_int) (pa_cons (pe_op op_sub (pv 3) pe_int) pa_nil))) (pa_cons (pe_tup (pa_cons (pv 2) (pa_cons (pe_op op_sub (pv 3) pe_int) pa_nil))) pa_nil))))))) pss_nil) (pss_one (ps_ret (pe_lst (pa_cons (pe_tup (pa_cons (pv 2) (pa_cons (pv 3) (pa_cons pe_int pa_nil)))) (pa_cons (pe_tup (pa_cons (pe_op op_sub (pv 2) pe_int) (pa_cons (pv 3) (pa_cons pe_int pa_nil)))) (pa_cons (pe_tup (pa_cons (pe_op op_sub (pv 2) pe_int) (pa_cons (pv 3) (pa_cons pe_int pa_nil)))) (pa_cons (pe_tup (pa_cons (pe_op op_sub (pv 2) pe_int) (pa_cons (pe_op op_sub (pv 3) pe_int) (pa_cons pe_int pa_nil)))) (pa_cons (pe_tup (pa_cons (pv 2) (pa_cons (pe_op op_sub (pv 3) pe_int) (pa_cons pe_int pa_nil)))) (pa_cons (pe_tup (pa_cons (pv 2) (pa_cons (pe_op op_sub (pv 3) pe_int) (pa_cons pe_int pa_nil)))) pa_nil))))))))))), ?_⟩
    refine ⟨_, rfl, a, _, rfl, ha, rfl, _, _, rfl, _, _, rfl, rfl, ?_⟩
    refine ⟨_, rfl, rfl, _, rfl, itb (isSq g) ?_⟩
    cases g
    · refine iteT ⟨_, rfl, _, rfl, (small64 (n := 2) (by decide)), fun t1 h1 => ⟨_, rfl, _, _, rfl, rfl, _, rfl, (small64 (n := 2) (by decide)), fun t2 h2 => ⟨_, rfl, _, _, rfl, rfl, _, rfl, _, _, rfl, rfl, (small64 (n := 2) (by decide)), fun t3 h3 => ⟨_, rfl, _, rfl, _, _, rfl, rfl, (small64 (n := 2) (by decide)), fun t4 h4 => ⟨(small64 (n := 4) (by decide)), fun l hl => ?_⟩⟩⟩⟩⟩
      have p4 := tps_more [p.1, p.2 - 1] (tps_more [p.1 - 1, p.2 - 1] (tps_more [p.1 - 1, p.2] (tps_more [p.1, p.2] (H := H) .nil h1) h2) h3) h4
      have s1 := same_upd (o := .tup ([p.1, p.2].map V.int)) h1
      have s2 := same_put (o := .tup ([p.1 - 1, p.2].map V.int)) s1 (Same.free s1 h2)
      have s3 := same_put (o := .tup ([p.1 - 1, p.2 - 1].map V.int)) s2 (Same.free s2 h3)
      have s4 := same_put (o := .tup ([p.1, p.2 - 1].map V.int)) s3 (Same.free s3 h4)
      exact k _ l [t1, t2, t3, t4] (same_put s4 (Same.free s4 hl)) (Same.free s4 hl) upd_same (tps_sam (samT_of (same_upd hl)) p4)
    · refine iteF ⟨_, rfl, _, rfl, (small64 (n := 3) (by decide)), fun t1 h1 => ⟨_, rfl, _, _, rfl, rfl, _, rfl, (small64 (n := 3) (by decide)), fun t2 h2 => ⟨_, rfl, _, _, rfl, rfl, _, rfl, (small64 (n := 3) (by decide)), fun t3 h3 => ⟨_, rfl, _, _, rfl, rfl, _, rfl, _, _, rfl, rfl, (small64 (n := 3) (by decide)), fun t4 h4 => ⟨_, rfl, _, rfl, _, _, rfl, rfl, (small64 (n := 3) (by decide)), fun t5 h5 => ⟨_, rfl, _, rfl, _, _, rfl, rfl, (small64 (n := 3) (by decide)), fun t6 h6 => ⟨(small64 (n := 6) (by decide)), fun l hl => ?_⟩⟩⟩⟩⟩⟩⟩
      have p4 := tps_more [p.1, p.2 - 1, 1] (tps_more [p.1, p.2 - 1, 0] (tps_more [p.1 - 1, p.2 - 1, 1] (tps_more [p.1 - 1, p.2, 0] (tps_more [p.1 - 1, p.2, 1] (tps_more [p.1, p.2, 0] (H := H) .nil h1) h2) h3) h4) h5) h6
      have s1 := same_upd (o := .tup ([p.1, p.2, 0].map V.int)) h1
      have s2 := same_put (o := .tup ([p.1 - 1, p.2, 1].map V.int)) s1 (Same.free s1 h2)
      have s3 := same_put (o := .tup ([p.1 - 1, p.2, 0].map V.int)) s2 (Same.free s2 h3)
      have s4 := same_put (o := .tup ([p.1 - 1, p.2 - 1, 1].map V.int)) s3 (Same.free s3 h4)
      have s5 := same_put (o := .tup ([p.1, p.2 - 1, 0].map V.int)) s4 (Same.free s4 h5)
      have s6 := same_put (o := .tup ([p.1, p.2 - 1, 1].map V.int)) s5 (Same.free s5 h6)
      exact k _ l [t1, t2, t3, t4, t5, t6] (same_put s6 (Same.free s6 hl)) (Same.free s6 hl) upd_same (tps_sam (samT_of (same_upd hl)) p4)
/-! _law_commands -/
theorem fold_rep (l : List Nat) : ∀ (n : Nat) (acc : Array Nat), (List.foldl (fun x y => x ++ y) acc (List.replicate n l.toArray)).toList = acc.toList ++ (List.replicate n l).flatten
  | 0, acc => by simp
  | n + 1, acc => by
    rw [List.replicate_succ, List.foldl_cons, fold_rep l n]
    simp [List.replicate_succ]
theorem mul_S (l : List Nat) (n : Nat) : Txt.mul (S l) n = S ((List.replicate n l).flatten) := by
  unfold Txt.mul
  by_cases h0 : n = 0
  · subst h0
    rw [if_pos (by decide)]
    rfl
  · rw [if_neg (by omega)]
    by_cases h1 : ((n : Int) == 1 || (S l).length == 0) = true
    · rw [if_pos h1]
      rcases Bool.or_eq_true_iff.mp h1 with h | h
      · have h : (n : Int) = 1 := by simpa using h
        have h : n = 1 := by omega
        subst h
        simp
      · have h : l = [] := by simpa [SX.S_len] using h
        subst h
        simp
    · rw [if_neg h1]
      have e := fold_rep l n #[]
      have e2 : (List.foldl (fun x y => x ++ y) #[] (List.replicate n l.toArray)) = ((List.replicate n l).flatten).toArray := by
        apply Array.ext'
        rw [e]
        simp
      show (⟨_⟩ : Str) = ⟨_⟩
      rw [Int.toNat_natCast]
      exact congrArg Str.mk e2
theorem mul_L (n : Nat) : Txt.mul (Str.ofString "L") n = S (List.replicate n 76) := by
  have e : Str.ofString "L" = S [76] := by kernel_rfl
  rw [e, mul_S]
  congr 1
  induction n with
  | zero => rfl
  | succ n ih => rw [List.replicate_succ, List.flatten_cons, ih]; rfl
def ctn (g : Bool) (h w : Nat) : Nat := (((w : Int) - h) % (hd g : Nat)).toNat
def cstep (g : Bool) (s : List Nat × Nat) (w : Nat) : List Nat × Nat := (s.1 ++ List.replicate (ctn g s.2 w) 76 ++ [70], w)
def crun (g : Bool) (ws : List Nat) : List Nat × Nat := ws.foldl (cstep g) ([], 0)
def cmds (g : Bool) (ws : List Nat) : List Nat := (crun g ws).1 ++ List.replicate (ctn g (crun g ws).2 0) 76
theorem crun_snoc (g : Bool) (ws : List Nat) (w : Nat) : crun g (ws ++ [w]) = cstep g (crun g ws) w := by simp [crun]
theorem ctn_lt (g : Bool) (h w : Nat) : ctn g h w < hd g := (hd_mod g _).1
theorem crun_len (g : Bool) (ws : List Nat) : (crun g ws).1.length ≤ ws.length * 6 := by
  have A : ∀ (ws : List Nat) (s : List Nat × Nat), (ws.foldl (cstep g) s).1.length ≤ s.1.length + ws.length * 6 := by
    intro ws
    induction ws with
    | nil => exact fun s => by simp
    | cons w ws ih =>
      intro s
      refine Nat.le_trans (ih _) ?_
      have h1 := ctn_lt g s.2 w
      have h2 := hd6 g
      unfold cstep
      simp only [List.length_append, List.length_replicate, List.length_cons, List.length_nil]
      omega
  have h := A ws ([], 0)
  simp only [List.length_nil, Nat.zero_add] at h
  exact h
def spCmds (K : PySem.W.Frag) : Sp := fun vs H Q _ => ∃ (g : Bool) (l : Addr) (ws : List Nat), vs = [net g, .ref l] ∧ SqL K H l (ws.map fun (n : Nat) => V.int n) ∧ ws.length ≤ 100 ∧ ∀ H', Same H H' → Q (.str (S (cmds g ws))) H'
abbrev n79 : List Str := ["_law_kind_here", "_law_ways", "_law_text", "_law_heading", "_law_many", "_law_way"]
theorem sc79 : FnScope n79 ["_law_kind_here", "_law_ways"] (L2.defScope (top 79)) := fnScope_by (by decide +kernel)
theorem c_cmds (T : TxB K mg) (d : DefT K mg 79 "_law_commands") (c1 : Cal P w K mg base 1 "_law_steps" spSteps) : Cal P w K mg base 2 "_law_commands" (spCmds K) := by
  refine cal d sc79 (fun vs H Q E h => ?_) (fun _ _ _ _ _ _ us hl => match us, hl with | [_, _], _ => rfl) (fun f cdv A outer s H vs Q E hr h => ?_)
  · obtain ⟨g, l, ws, rfl, _⟩ := h
    rfl
  · obtain ⟨g, l, ws, rfl, hl, hz, k⟩ := h
    refine ⟨_, (pss_cons (ps_par3 (i := 2) (j := 3) (l := 4) (by rfl) sc79.nd rfl rfl rfl (by decide) (by decide) (by decide) rfl rfl rfl (pa_cons pe_str (pa_cons pe_int (pa_cons (pe_callB call_len_seq (by rfl) T.len PySem.boot_len (pa_cons (C8.pe_c c1 hr (by decide) rfl (pa_cons (pv 0) pa_nil)) pa_nil)) pa_nil))) (by rfl)) (pss_cons (ps_for PassesOwn.never rfl (pi_list (pv 1)) (pg_name (i := 5) sc79.nd rfl (Or.inl rfl)) (pss_cons (ps_set (i := 2) sc79.nd rfl (Or.inl rfl) (pe_op op_add_str (pe_op op_add_str (pv 2) (pe_op op_mulS pe_str (pe_op op_mod (pe_op op_sub (pv 5) (pv 3)) (pv 4)))) pe_str)) (pss_one (ps_set (i := 3) sc79.nd rfl (Or.inl rfl) (pv 5))))) (pss_one (ps_ret (pe_op op_add_str (pv 2) (pe_op op_mulS pe_str (pe_op op_mod (pe_op op_sub pe_int (pv 3)) (pv 4)))))))), ?_⟩
    refine ⟨_, rfl, g, rfl, fun H1 sl sts s1 sl0 sl1 spts => ⟨_, _, rfl, .inl (.of sl1), _, _, _, rfl, ?_⟩⟩
    have lst : (sts.map V.ref).length = hd g := by rw [List.length_map, Paired.length spts]; simp [stl]
    rw [lst]
    have hl1 := s1.seq hl
    refine ⟨_, rfl, l, rfl, ⟨_, hl1⟩, for_list (fun i σ' H' => H' = H1 ∧ ∃ v, σ' = [some (net g), some (.ref l), some (.str (S (crun g (ws.take i)).1)), some (.int ((crun g (ws.take i)).2 : Nat)), some (.int (hd g : Nat)), v]) ⟨rfl, none, by rw [nil_S]; rfl⟩ (fun _ _ _ _ z => by rw [z.1]; exact hl1) ?_ ?_⟩
    · rintro i x σ' H2 hx ⟨rfl, v, rfl⟩
      obtain ⟨n, hn, rfl⟩ := map_at hx
      have lc := crun_len g (ws.take i)
      have li : (ws.take i).length ≤ ws.length := List.length_take_le' i ws
      rw [take_snoc hn, crun_snoc]
      generalize crun g (ws.take i) = st at lc ⊢
      obtain ⟨tx, hh⟩ := st
      have ec : (fun i j : Int => V.int (i % j)) ((n : Int) - (hh : Int)) (hd g : Nat) = .int ((ctn g hh n : Nat) : Int) := congrArg V.int (hd_mod g _).2.symm
      have lt := ctn_lt g hh n
      have h6 := hd6 g
      refine ⟨_, rfl, _, rfl, _, rfl, _, _, rfl, rfl, _, rfl, _, _, rfl, rfl, hd_pos g, ?_⟩
      rw [ec]
      refine ⟨_, ctn g hh n, rfl, rfl, ?_, by omega, ?_⟩
      · have e : (Str.ofString "L").length = 1 := by kernel_rfl
        rw [e]
        omega
      rw [mul_L]
      have lt2 : tx.length ≤ 700 := by
        have lc : tx.length ≤ (ws.take i).length * 6 := lc
        omega
      have e1 : S tx ++ S (List.replicate (ctn g hh n) 76) = S (tx ++ List.replicate (ctn g hh n) 76) := SX.S_cat _ _
      refine ⟨_, _, rfl, rfl, ?_, _, _, rfl, rfl, ?_, ?_⟩
      · rw [SX.S_len, SX.S_len, List.length_replicate]
        exact Nat.le_trans (by omega : _ ≤ 1000) (by decide)
      · rw [e1, SX.S_len, F_is]
        show _ + 1 ≤ _
        rw [List.length_append, List.length_replicate]
        exact Nat.le_trans (by omega : _ ≤ 1000) (by decide)
      · have e2 : S (tx ++ List.replicate (ctn g hh n) 76) ++ Str.ofString "F" = S (tx ++ List.replicate (ctn g hh n) 76 ++ [70]) := by rw [F_is]; exact SX.S_cat _ [70]
        rw [e1, e2]
        exact ⟨_, rfl, rfl, some (.int n), rfl⟩
    · rintro σ' H2 ⟨rfl, v, rfl⟩
      have ew : ws.take (ws.map fun (n : Nat) => V.int n).length = ws := by rw [List.length_map, List.take_length]
      rw [ew]
      have lc := crun_len g ws
      have kk := k H2 s1
      unfold cmds at kk
      generalize crun g ws = st at lc kk ⊢
      obtain ⟨tx, hh⟩ := st
      have ec : (fun i j : Int => V.int (i % j)) ((0 : Int) - (hh : Int)) (hd g : Nat) = .int ((ctn g hh 0 : Nat) : Int) := congrArg V.int (hd_mod g _).2.symm
      have lt := ctn_lt g hh 0
      have h6 := hd6 g
      refine ⟨_, rfl, _, rfl, _, _, rfl, rfl, _, rfl, _, _, rfl, rfl, hd_pos g, ?_⟩
      rw [ec]
      refine ⟨_, ctn g hh 0, rfl, rfl, ?_, by omega, ?_⟩
      · have e : (Str.ofString "L").length = 1 := by kernel_rfl
        rw [e]
        omega
      rw [mul_L]
      have lt2 : tx.length ≤ 700 := by
        have lc : tx.length ≤ ws.length * 6 := lc
        omega
      have e1 : S tx ++ S (List.replicate (ctn g hh 0) 76) = S (tx ++ List.replicate (ctn g hh 0) 76) := SX.S_cat _ _
      refine ⟨_, _, rfl, rfl, ?_, ?_⟩
      · rw [SX.S_len, SX.S_len, List.length_replicate]
        exact Nat.le_trans (by omega : _ ≤ 1000) (by decide)
      · rw [e1]
        exact kk
end
end K53
set_option maxHeartbeats 4000000
namespace K53
open PySem PySem.Spec PyProof.Rows L2
open C8 (fnScope_by pe_mk pe_mt pe_mt0 InsC)
open SX (S)
/-! ### ways that grow -/
def wsum (g : Bool) (ws : List Nat) : Int × Int := ws.foldl (fun p w => padd p (stp g w)) (0, 0)
/-- the places on a way -/
def spt (g : Bool) (ws : List Nat) (n : Nat) : List (Int × Int) := (List.range n).map fun i => wsum g (ws.take i)
structure Grown (g : Bool) (ws : List Nat) : Prop where
  lt : ∀ w ∈ ws, w < hd g
  few : ws.length ≤ 20
  three : 3 ≤ ws.length
  close : wsum g ws = (0, 0)
  nd : (spt g ws ws.length).Nodup
def moreG (g : Bool) (w : Nat) (sd : Int) : List Nat := if g then [(((w : Int) - sd) % 6).toNat, (((w : Int) + sd) % 6).toNat] else [(((w : Int) - sd) % 4).toNat, w, (((w : Int) + sd) % 4).toNat]
def bendG (g : Bool) (ws : List Nat) (at_ w : Nat) (sd : Int) : List Nat := ws.take at_ ++ moreG g w sd ++ ws.drop (at_ + 1)
theorem padd_assoc (p q r : Int × Int) : padd (padd p q) r = padd p (padd q r) := by
  simp only [padd, Int.add_assoc]
theorem padd_zero (p : Int × Int) : padd (0, 0) p = p := by
  simp only [padd, Int.zero_add]
theorem wsum_app (g : Bool) (us vs : List Nat) : wsum g (us ++ vs) = padd (wsum g us) (wsum g vs) := by
  have A : ∀ (vs : List Nat) (p : Int × Int), vs.foldl (fun p w => padd p (stp g w)) p = padd p (wsum g vs) := by
    intro vs
    induction vs with
    | nil =>
      intro p
      show p = padd p (0, 0)
      simp only [padd, Int.add_zero]
    | cons v vs ih =>
      intro p
      have e : wsum g (v :: vs) = padd (stp g v) (wsum g vs) := by
        show vs.foldl (fun p w => padd p (stp g w)) (padd (0, 0) (stp g v)) = _
        rw [ih, padd_zero]
      rw [List.foldl_cons, ih, e, padd_assoc]
  unfold wsum
  rw [List.foldl_append, A]
  rfl
theorem more_ok : ∀ (g : Bool) (w : Nat), w < hd g → ∀ sd : Int, sd = 1 ∨ sd = -1 → wsum g (moreG g w sd) = stp g w ∧ (∀ v ∈ moreG g w sd, v < hd g) ∧ 2 ≤ (moreG g w sd).length ∧ (moreG g w sd).length ≤ 3 := by
  have A : ∀ g : Bool, (List.range (hd g)).all (fun w => [(1 : Int), -1].all fun sd => decide (wsum g (moreG g w sd) = stp g w) && (moreG g w sd).all (fun v => decide (v < hd g)) && decide (2 ≤ (moreG g w sd).length) && decide ((moreG g w sd).length ≤ 3)) = true := by
    intro g
    cases g <;> decide +kernel
  intro g w hw sd hs
  have h := List.all_eq_true.mp (List.all_eq_true.mp (A g) w (List.mem_range.mpr hw)) sd (by rcases hs with rfl | rfl <;> simp)
  simp only [Bool.and_eq_true, decide_eq_true_eq, List.all_eq_true] at h
  exact ⟨h.1.1.1, h.1.1.2, h.1.2, h.2⟩
theorem bend_sum {g : Bool} {ws : List Nat} {i w : Nat} {sd : Int} (hw : ws[i]? = some w) (hlt : w < hd g) (hs : sd = 1 ∨ sd = -1) : wsum g (bendG g ws i w sd) = wsum g ws := by
  have e : ws = ws.take i ++ [w] ++ ws.drop (i + 1) := by
    have hi := (List.getElem?_eq_some_iff.mp hw).1
    have e1 : ws.drop i = w :: ws.drop (i + 1) := by
      rw [List.drop_eq_getElem_cons hi, (List.getElem?_eq_some_iff.mp hw).2]
    conv => lhs; rw [← List.take_append_drop i ws, e1]
    simp
  unfold bendG
  rw [wsum_app, wsum_app, (more_ok g w hlt sd hs).1]
  conv => rhs; rw [e, wsum_app, wsum_app]
  have e2 : wsum g [w] = stp g w := padd_zero _
  rw [e2]
/-- as many as there are places: all differ -/
theorem nodup_of_len {α : Type} [DecidableEq α] {D l : List α} (hD : D.Nodup) (h : ∀ z, z ∈ D ↔ z ∈ l) (hl : D.length = l.length) : l.Nodup := by
  induction l generalizing D with
  | nil => exact List.nodup_nil
  | cons x l ih =>
    by_cases hx : x ∈ l
    · exfalso
      have e := nodup_le D l hD fun z hz => by
        rcases List.mem_cons.mp ((h z).mp hz) with rfl | y
        · exact hx
        · exact y
      rw [hl, List.length_cons] at e
      omega
    · refine List.nodup_cons.mpr ⟨hx, ih (D := D.erase x) (hD.erase x) (fun z => ?_) ?_⟩
      · constructor
        · intro hz
          have h1 := List.mem_of_mem_erase hz
          rcases List.mem_cons.mp ((h z).mp h1) with rfl | y
          · exact absurd hz (hD.not_mem_erase)
          · exact y
        · intro hz
          have ne : z ≠ x := fun e => hx (by rw [← e]; exact hz)
          exact (List.mem_erase_of_ne ne).mpr ((h z).mpr (List.mem_cons_of_mem _ hz))
      · rw [List.length_erase_of_mem ((h x).mpr List.mem_cons_self), hl, List.length_cons]
        rfl
theorem spt_len (g : Bool) (ws : List Nat) (n : Nat) : (spt g ws n).length = n := by simp [spt]
theorem spt_succ (g : Bool) (ws : List Nat) (n : Nat) : spt g ws (n + 1) = spt g ws n ++ [wsum g (ws.take n)] := by
  unfold spt
  rw [List.range_succ, List.map_append]
  rfl
/-- the law's test of a bent way -/
theorem grown_of {g : Bool} {ws : List Nat} (lt : ∀ w ∈ ws, w < hd g) (few : ws.length ≤ 20) (three : 3 ≤ ws.length) (close : wsum g ws = (0, 0)) {D : List (Int × Int)} (hD : D.Nodup) (hm : ∀ z, z ∈ D ↔ z ∈ spt g ws (ws.length + 1)) (hl : D.length = ws.length) : Grown g ws := by
  refine ⟨lt, few, three, close, nodup_of_len hD (fun z => ?_) (by rw [hl, spt_len])⟩
  rw [hm z, spt_succ, List.mem_append]
  constructor
  · rintro (h | h)
    · exact h
    · rw [List.mem_singleton.mp h, List.take_length, close]
      exact List.mem_map.mpr ⟨0, List.mem_range.mpr (by omega), rfl⟩
  · exact .inl
theorem base_ok : ∀ g : Bool, Grown g (List.range (hd g)) := by
  intro g
  cases g
  · exact ⟨by decide, by decide, by decide, by decide +kernel, by decide +kernel⟩
  · exact ⟨by decide, by decide, by decide, by decide +kernel, by decide +kernel⟩
theorem base_tri : Grown true [0, 2, 4] := ⟨by decide, by decide, by decide, by decide +kernel, by decide +kernel⟩
theorem cut_d (xs : List V) (n : Nat) : cutV xs (some (n : Int)) none = xs.drop n := by
  unfold cutV
  rw [HT.sIx_nat, HT.sIx_none]
  rcases Nat.le_total n xs.length with h | h
  · rw [Nat.min_eq_left h, List.take_of_length_le (by rw [List.length_drop]; exact Nat.le_refl _)]
  · rw [Nat.min_eq_right h, List.drop_length, List.drop_of_length_le h, List.take_nil]
abbrev nL (ws : List Nat) : List V := ws.map fun (n : Nat) => V.int n
theorem rg_nL (n : Nat) : rgV 0 (n : Nat) = nL (List.range n) := by
  unfold rgV nL
  have e : (((n : Nat) : Int) - 0).toNat = n := by omega
  rw [e]
  refine List.map_congr_left fun i _ => ?_
  rw [Int.zero_add]
theorem mod_nat (g : Bool) (n : Int) (m : Int) (hm : m = (hd g : Nat)) : V.int (n % m) = V.int (((n % m).toNat : Nat) : Int) := by
  subst hm
  exact congrArg V.int (hd_mod g n).2.symm
/-- what a turn of the growing leaves alone -/
structure GSt (s wl : Addr) (ws : List Nat) (H0 H : Hp) : Prop where
  but : But s H0 H
  src : isS H s
  way : H wl = some (.lst (nL ws))
theorem GSt.same {s wl : Addr} {ws : List Nat} {H0 H H' : Hp} (a : GSt s wl ws H0 H) (e : Same H H') : GSt s wl ws H0 H' := ⟨but_same a.but e, isS_same e a.src, e _ _ a.way⟩
section
variable {P : Program} {w : World} {K : PySem.W.Frag} {mg : Str → Option Value} {base : Heap} {CO CL CW sS : Addr}
def spGrown : Sp := fun vs H Q _ => ∃ (s : Addr) (g : Bool), vs = [.ref s, net g] ∧ isS H s ∧ ∀ H' ws, But s H H' → isS H' s → Grown g ws → Q (.str (S (cmds g ws))) H'
abbrev n80 : List Str := ["_law_source_here", "_law_kind_here", "_law_many", "_law_ways", "_law_attempt", "_law_at", "_law_half", "_law_side", "_law_way", "_law_more", "_law_bent", "_law_spots", "_law_one", "_law_step_here"]
theorem sc80 : FnScope n80 ["_law_source_here", "_law_kind_here"] (L2.defScope (top 80)) := fnScope_by (by decide +kernel)
theorem c_grown (T : TxB K mg) (d : DefT K mg 80 "_law_grown") (c1 : Cal P w K mg base 1 "_law_steps" spSteps) (c2 : Cal P w K mg base 1 "_law_draw" spDraw) (c3 : Cal P w K mg base 2 "_law_commands" (spCmds K)) : Cal P w K mg base 3 "_law_grown" spGrown := by
  refine cal d sc80 (fun vs H Q E h => ?_) (fun _ _ _ _ _ _ us hl => match us, hl with | [_, _], _ => rfl) (fun f cdv A outer s0 H vs Q E hr h => ?_)
  · obtain ⟨s, g, rfl, _⟩ := h
    rfl
  · obtain ⟨s, g, rfl, hs, k⟩ := h
    have hu : A.units + 200 < cLine := by
      have := hr.un
      have e : (A.deeper (envOfC "_law_grown" (L2.defScope (top 80)) s0.heap.objs.size f cdv)).units = A.units + 3 := rfl
      omega
    refine ⟨_, pss_cons (ps_set (i := 2) sc80.nd rfl (Or.inl rfl) (pe_callB call_len_seq (by rfl) T.len PySem.boot_len (pa_cons (C8.pe_c c1 hr (by decide) rfl (pa_cons (pv 1) pa_nil)) pa_nil))) (C8.pss_cut (ps_set (i := 3) sc80.nd rfl (Or.inl rfl) (pe_ifExp (PW.pt (pw_or (pt_cmpR op_eq (pv 1) pe_str (nomark _)) (pw_or1 (pt_cmpR op_eq (C8.pe_c c2 hr (by decide) rfl (pa_cons (pv 0) (pa_cons pe_int pa_nil))) pe_int (nomark _))))) (pe_listRg rfl (by rfl) T.list (prg_1 (by rfl) T.range (pv 2))) (pe_lst (pa_cons pe_int (pa_cons pe_int (pa_cons pe_int pa_nil))))))
      (pss_cons (ps_for PassesOwn.never rfl (pi_range1 (by rfl) T.range (pa_cons (C8.pe_c c2 hr (by decide) rfl (pa_cons (pv 0) (pa_cons pe_int pa_nil))) pa_nil)) (pg_name (i := 4) sc80.nd rfl (Or.inl rfl)) (pss_cons (ps_set (i := 5) sc80.nd rfl (Or.inl rfl) (C8.pe_c c2 hr (by decide) rfl (pa_cons (pv 0) (pa_cons (pe_callB call_len_seq (by rfl) T.len PySem.boot_len (pa_cons (pv 3) pa_nil)) pa_nil)))) (C8.pss_cut (ps_par (i := 6) (j := 7) (by rfl) sc80.nd rfl rfl (by decide) rfl rfl (pa_cons (pe_op op_fdiv (pv 2) pe_int) (pa_cons (pe_ix ix_list (pe_lst (pa_cons pe_int (pa_cons (pe_un un_neg pe_int) pa_nil))) (C8.pe_c c2 hr (by decide) rfl (pa_cons (pv 0) (pa_cons pe_int pa_nil))) (fun _ _ => rfl)) pa_nil)) (by rfl))
          (pss_cons (ps_set (i := 8) sc80.nd rfl (Or.inl rfl) (pe_ix ix_list (pv 3) (pv 5) (fun _ _ => rfl)))
          (C8.pss_cut (ps_if (pt_cmpR op_eq (pv 1) pe_str (nomark _)) (pss_one (ps_set (i := 9) sc80.nd rfl (Or.inl rfl) (pe_lst (pa_cons (pe_op op_mod (pe_op op_sub (pv 8) (pv 7)) pe_int) (pa_cons (pv 8) (pa_cons (pe_op op_mod (pe_op op_add (pv 8) (pv 7)) pe_int) pa_nil)))))) (pss_one (ps_set (i := 9) sc80.nd rfl (Or.inl rfl) (pe_lst (pa_cons (pe_op op_mod (pe_op op_sub (pv 8) (pv 7)) pe_int) (pa_cons (pe_op op_mod (pe_op op_add (pv 8) (pv 7)) pe_int) pa_nil))))))
          (C8.pss_cut (ps_set (i := 10) sc80.nd rfl (Or.inl rfl) (pe_op op_cat (pe_op op_cat (pe_slice sl_list (pv 3) po_none (po_some (pv 5))) (pv 9)) (pe_slice sl_list (pv 3) (po_some (pe_op op_add (pv 5) pe_int)) po_none)))
          (C8.pss_cut (ps_set (i := 11) sc80.nd rfl (Or.inl rfl) (pe_lst (pa_cons (pe_tup (pa_cons pe_int (pa_cons pe_int pa_nil))) pa_nil)))
          (C8.pss_cut (ps_for PassesOwn.never rfl (pi_list (pv 10)) (pg_name (i := 12) sc80.nd rfl (Or.inl rfl)) (pss_cons (ps_set (i := 13) sc80.nd rfl (Or.inl rfl) (pe_ix ix_list (C8.pe_c c1 hr (by decide) rfl (pa_cons (pv 1) pa_nil)) (pv 12) (fun _ _ => rfl))) (pss_one (ps_expr (pe_bm PySem.F.plainAttrs_list PySem.F.slot_list_append PySem.F.type_list_append mt_append (pv 11) (pa_cons (pe_tup (pa_cons (pe_op op_add (pe_ix ix_tup (pe_ix ix_list (pv 11) (pe_un un_neg pe_int) (fun _ _ => rfl)) pe_int (fun _ _ => rfl)) (pe_ix ix_tup (pv 13) pe_int (fun _ _ => rfl))) (pa_cons (pe_op op_add (pe_ix ix_tup (pe_ix ix_list (pv 11) (pe_un un_neg pe_int) (fun _ _ => rfl)) pe_int (fun _ _ => rfl)) (pe_ix ix_tup (pv 13) pe_int (fun _ _ => rfl))) pa_nil))) pa_nil))))))
          (pss_one (ps_if (PW.pt (pw_and (pt_cmpR op_eq (pe_lenSetT rfl (by show A.units + 3 + 8 < cLine; omega) T.len T.set (pv 11)) (pe_op op_sub (pe_callB call_len_seq (by rfl) T.len PySem.boot_len (pa_cons (pv 11) pa_nil)) pe_int) (nomark _)) (pw_and1 (pt_cmpR op_le (pe_callB call_len_seq (by rfl) T.len PySem.boot_len (pa_cons (pv 10) pa_nil)) (pe_op op_add (pe_op op_mul pe_int (pv 6)) pe_int) (nomark _))))) (pss_one (ps_set (i := 3) sc80.nd rfl (Or.inl rfl) (pv 10))) pss_nil)))))))))) (pss_one (ps_ret (C8.pe_c c3 hr (by decide) rfl (pa_cons (pv 1) (pa_cons (pv 3) pa_nil))))))), ?_⟩
    refine ⟨_, rfl, g, rfl, fun H1 sl sts s1 sl0 sl1 spts => ⟨_, _, rfl, .inl (.of sl1), ?_⟩⟩
    have lst : (sts.map V.ref).length = hd g := by rw [List.length_map, Paired.length spts]; simp [stl]
    rw [lst]
    have hs1 := isS_same s1 hs
    have new : ∀ (H' : Hp) (l : Addr), isS H' s → H' l = none → l ≠ s := fun H' l h e z => by obtain ⟨_, _, h, _⟩ := h; rw [← z, e] at h; cases h
    refine ⟨fun σ' H' => ∃ wl ws, σ' = [some (.ref s), some (net g), some (.int (hd g : Nat)), some (.ref wl), none, none, none, none, none, none, none, none, none, none] ∧ GSt s wl ws H H' ∧ wl ≠ s ∧ Grown g ws, ?_, ?_⟩
    · have rng : ∀ H2, But s H H2 → isS H2 s → ∀ q, H2 q = none → (∃ wl ws, [some (.ref s), some (net g), some (.int (hd g : Nat)), some (.ref q), none, none, none, none, none, none, none, none, none, none] = [some (.ref s), some (net g), some (.int (hd g : Nat)), some (.ref wl), none, none, none, none, none, none, none, none, none, none] ∧ GSt s wl ws H (upd H2 q (.lst (rgV 0 (hd g : Nat)))) ∧ wl ≠ s ∧ Grown g ws) := by
        intro H2 b2 i2 q hq
        exact ⟨q, List.range (hd g), rfl, ⟨but_same b2 (same_upd hq), isS_same (same_upd hq) i2, by rw [upd_same, rg_nL]⟩, new H2 q i2 hq, base_ok g⟩
      have rgok : RgOk 0 (hd g : Nat) := by
        have h6 := hd6 g
        exact .of_le (by omega) (by omega) (by omega) (by omega)
      refine ⟨_, rfl, rfl, _, rfl, itb (isSq g) ?_⟩
      cases g
      · exact iteT (iteT ⟨_, rfl, _, rfl, rgok, fun q hq => rng H1 (same_but s1) hs1 q hq⟩)
      · refine iteF ⟨_, rfl, s, 2, rfl, by decide, by decide, hs1, fun H2 d' b2 s2 hd' => ⟨rfl, _, rfl, ite2 (fun z => ?_) fun z => ?_⟩⟩
        · exact ⟨_, rfl, _, rfl, rgok, fun q hq => rng H2 (but_trans (same_but s1) b2) s2 q hq⟩
        · exact ⟨(small64 (n := 3) (by decide)), fun q hq => ⟨q, [0, 2, 4], rfl, ⟨but_same (but_trans (same_but s1) b2) (same_upd hq), isS_same (same_upd hq) s2, upd_same⟩, new H2 q s2 hq, base_tri⟩⟩
    rintro _ H2 ⟨wl, ws, rfl, G2, nwl, gr⟩
    refine ⟨_, rfl, s, 8, rfl, by decide, by decide, G2.src, fun H3 d' b3 s3 hd' => ⟨_, rfl, by omega, by omega, ?_⟩⟩
    have G3 : GSt s wl ws H H3 := ⟨but_trans G2.but b3, s3, b3 _ _ nwl G2.way⟩
    refine for_range (n := d') (fun i σ' H' => ∃ wl ws v4 v5 v6 v7 v8 v9 v10 v11 v12 v13, σ' = [some (.ref s), some (net g), some (.int (hd g : Nat)), some (.ref wl), v4, v5, v6, v7, v8, v9, v10, v11, v12, v13] ∧ GSt s wl ws H H' ∧ wl ≠ s ∧ Grown g ws)
      ⟨wl, ws, _, _, _, _, _, _, _, _, _, _, rfl, G3, nwl, gr⟩ ?_ ?_
    · rintro i σ' H4 hi ⟨wl, ws, v4, v5, v6, v7, v8, v9, v10, v11, v12, v13, rfl, G4, nwl, gr⟩
      have lw : (nL ws).length = ws.length := List.length_map _
      have g3 := gr.three
      have g20 := gr.few
      refine ⟨_, rfl, _, rfl, wl, nL ws, rfl, .inl (.of G4.way), s, (nL ws).length, rfl, by omega, by omega, G4.src, fun H5 at_ b5 s5 hat => ?_⟩
      rw [lw] at hat
      have G5 : GSt s wl ws H H5 := ⟨but_trans G4.but b5, s5, b5 _ _ nwl G4.way⟩
      obtain ⟨wv, hwv⟩ : ∃ wv, ws[at_]? = some wv := ⟨_, List.getElem?_eq_getElem hat⟩
      have wlt := gr.lt wv (List.mem_of_getElem? hwv)
      refine ⟨fun σ' H' => ∃ sd : Int, (sd = 1 ∨ sd = -1) ∧ σ' = [some (.ref s), some (net g), some (.int (hd g : Nat)), some (.ref wl), some (.int (0 + i)), some (.int at_), some (.int ((hd g : Nat) / 2)), some (.int sd), v8, v9, v10, v11, v12, v13] ∧ GSt s wl ws H H', ?_, ?_⟩
      · refine ⟨_, rfl, _, _, rfl, rfl, ⟨by decide, by decide⟩, 1, rfl, (small64 (n := 2) (by decide)), fun l hl => ?_⟩
        have nls := new H5 l s5 hl
        have G6 := G5.same (same_upd (o := .lst [.int 1, .int (-1)]) hl)
        refine ⟨_, rfl, s, 2, rfl, by decide, by decide, G6.src, fun H7 d2 b7 s7 hd2 => ?_⟩
        have el := b7 _ _ nls (upd_same (H := H5) (o := .lst [.int 1, .int (-1)]))
        have G7 : GSt s wl ws H H7 := ⟨but_trans G6.but b7, s7, b7 _ _ nwl G6.way⟩
        match d2, hd2 with
        | 0, _ => exact ⟨l, _, _, .int 1, rfl, rfl, .of el, atI_nat (j := 0) rfl, _, _, rfl, 1, .inl rfl, rfl, G7⟩
        | 1, _ => exact ⟨l, _, _, .int (-1), rfl, rfl, .of el, atI_nat (j := 1) rfl, _, _, rfl, -1, .inr rfl, rfl, G7⟩
      rintro _ H6 ⟨sd, hsd, rfl, G6⟩
      obtain ⟨m1, m2, m3, m4⟩ := more_ok g wv wlt sd hsd
      refine ⟨_, rfl, _, rfl, _, _, _, .int wv, rfl, rfl, .of G6.way, atI_nat (j := at_) (by rw [List.getElem?_map, hwv]; rfl), ?_⟩
      refine ⟨fun σ' H' => ∃ ml, σ' = [some (.ref s), some (net g), some (.int (hd g : Nat)), some (.ref wl), some (.int (0 + i)), some (.int at_), some (.int ((hd g : Nat) / 2)), some (.int sd), some (.int wv), some (.ref ml), v10, v11, v12, v13] ∧ GSt s wl ws H H' ∧ H' ml = some (.lst (nL (moreG g wv sd))), ?_, ?_⟩
      · refine ⟨_, rfl, rfl, _, rfl, itb (isSq g) ?_⟩
        cases g
        · refine iteT ⟨_, rfl, _, rfl, _, _, rfl, rfl, _, _, rfl, rfl, (by show (0 : Int) < 4; decide), _, rfl, _, rfl, _, rfl, _, _, rfl, rfl, _, _, rfl, rfl, (by show (0 : Int) < 4; decide), (small64 (n := 3) (by decide)), fun q hq => ⟨q, rfl, G6.same (same_upd hq), ?_⟩⟩
          rw [upd_same]
          show some (HO.lst [V.int (((wv : Int) - sd) % 4), .int wv, V.int (((wv : Int) + sd) % 4)]) = _
          rw [mod_nat false _ 4 rfl, mod_nat false _ 4 rfl]
          rfl
        · refine iteF ⟨_, rfl, _, rfl, _, _, rfl, rfl, _, _, rfl, rfl, (by show (0 : Int) < 6; decide), _, rfl, _, rfl, _, _, rfl, rfl, _, _, rfl, rfl, (by show (0 : Int) < 6; decide), (small64 (n := 2) (by decide)), fun q hq => ⟨q, rfl, G6.same (same_upd hq), ?_⟩⟩
          rw [upd_same]
          show some (HO.lst [V.int (((wv : Int) - sd) % 6), V.int (((wv : Int) + sd) % 6)]) = _
          rw [mod_nat true _ 6 rfl, mod_nat true _ 6 rfl]
          rfl
      rintro _ H7 ⟨ml, rfl, G7, eml⟩
      have lbend : (bendG g ws at_ wv sd).length ≤ 22 := by
        unfold bendG
        rw [List.length_append, List.length_append, List.length_take, List.length_drop]
        omega
      have lbend3 : 3 ≤ (bendG g ws at_ wv sd).length := by
        unfold bendG
        rw [List.length_append, List.length_append, List.length_take, List.length_drop]
        omega
      have ltb : ∀ v ∈ bendG g ws at_ wv sd, v < hd g := by
        intro v hv
        unfold bendG at hv
        rcases List.mem_append.mp hv with hv | hv
        · rcases List.mem_append.mp hv with hv | hv
          · exact gr.lt v (List.mem_of_mem_take hv)
          · exact m2 v hv
        · exact gr.lt v (List.mem_of_mem_drop hv)
      have closeb : wsum g (bendG g ws at_ wv sd) = (0, 0) := (bend_sum hwv wlt hsd).trans gr.close
      refine ⟨fun σ' H' => ∃ bl, σ' = [some (.ref s), some (net g), some (.int (hd g : Nat)), some (.ref wl), some (.int (0 + i)), some (.int at_), some (.int ((hd g : Nat) / 2)), some (.int sd), some (.int wv), some (.ref ml), some (.ref bl), v11, v12, v13] ∧ GSt s wl ws H H' ∧ H' bl = some (.lst (nL (bendG g ws at_ wv sd))) ∧ bl ≠ s, ?_, ?_⟩
      · refine ⟨_, rfl, _, rfl, at_, rfl, wl, _, rfl, .of G7.way, fun p1 hp1 => ⟨_, rfl, ?_⟩⟩
        have s1' := same_upd (o := .lst (cutV (nL ws) none (some at_))) hp1
        have lc1 := cutV_length (nL ws) none (some (at_ : Int))
        have lm : (nL (moreG g wv sd)).length ≤ 3 := by rw [List.length_map]; exact m4
        refine ⟨p1, ml, _, _, rfl, rfl, upd_same, s1' _ _ eml, Nat.le_trans (by omega : _ ≤ 100) (by decide), fun p2 hp2 => ?_⟩
        have s2' := same_upd (o := .lst (cutV (nL ws) none (some at_) ++ nL (moreG g wv sd))) hp2
        refine ⟨_, rfl, _, rfl, _, _, rfl, rfl, _, rfl, wl, _, rfl, .of (s2' _ _ (s1' _ _ G7.way)), fun p3 hp3 => ?_⟩
        have s3' := same_upd (o := .lst (cutV (nL ws) (some ((at_ : Int) + 1)) none)) hp3
        have lc3 := cutV_length (nL ws) (some ((at_ : Int) + 1)) none
        refine ⟨p2, p3, _, _, rfl, rfl, s3' _ _ upd_same, upd_same, ?_, fun p4 hp4 => ?_⟩
        · rw [List.length_append]
          exact Nat.le_trans (by omega : _ ≤ 200) (by decide)
        have s4' := same_upd (o := .lst (cutV (nL ws) none (some at_) ++ nL (moreG g wv sd) ++ cutV (nL ws) (some ((at_ : Int) + 1)) none)) hp4
        have G8 := (((G7.same s1').same s2').same s3')
        refine ⟨p4, rfl, G8.same s4', ?_, new _ p4 G8.src hp4⟩
        rw [upd_same, cut_n, show ((at_ : Int) + 1) = ((at_ + 1 : Nat) : Int) from rfl, cut_d]
        unfold bendG nL
        rw [List.map_append, List.map_append, List.map_take, List.map_drop]
      rintro _ H8 ⟨bl, rfl, G8, ebl, nbl⟩
      generalize hbw : bendG g ws at_ wv sd = bw at *
      refine ⟨fun σ' H' => ∃ sp t0, σ' = [some (.ref s), some (net g), some (.int (hd g : Nat)), some (.ref wl), some (.int (0 + i)), some (.int at_), some (.int ((hd g : Nat) / 2)), some (.int sd), some (.int wv), some (.ref ml), some (.ref bl), some (.ref sp), v12, v13] ∧ GSt s wl ws H H' ∧ H' bl = some (.lst (nL bw)) ∧ H8 sp = none ∧ Same H8 H' ∧ H' sp = some (.lst [.ref t0]) ∧ H' t0 = some (.tup (pl (0, 0))), ?_, ?_⟩
      · refine ⟨(small64 (n := 2) (by decide)), fun t0 ht0 => ⟨(small64 (n := 1) (by decide)), fun sp hsp => ?_⟩⟩
        have s1' := same_upd (o := .tup (pl (0, 0))) ht0
        have s2' := same_put (o := .lst [.ref t0]) s1' (Same.free s1' hsp)
        exact ⟨sp, t0, rfl, G8.same s2', s2' _ _ ebl, Same.free s1' hsp, s2', upd_same, same_upd hsp _ _ upd_same⟩
      rintro _ H9 ⟨sp, t0, rfl, G9, ebl9, hsp0, s89, esp9, et0⟩
      have nsp : sp ≠ s := new H8 sp G8.src hsp0
      have nspw : wl ≠ sp := fun z => by have := G8.way; rw [z, hsp0] at this; cases this
      have nspb : bl ≠ sp := fun z => by rw [z, hsp0] at ebl; cases ebl
      have fsp : H sp = none := but_free G8.but hsp0 nsp
      refine ⟨fun σ' H' => ∃ v12 v13 bs, σ' = [some (.ref s), some (net g), some (.int (hd g : Nat)), some (.ref wl), some (.int (0 + i)), some (.int at_), some (.int ((hd g : Nat) / 2)), some (.int sd), some (.int wv), some (.ref ml), some (.ref bl), some (.ref sp), v12, v13] ∧ GSt s wl ws H H' ∧ H' bl = some (.lst (nL bw)) ∧ H' sp = some (.lst (bs.map V.ref)) ∧ Pts H' bs (spt g bw (bw.length + 1)), ?_, ?_⟩
      · have lbw : (nL bw).length = bw.length := List.length_map _
        refine ⟨_, rfl, bl, rfl, ⟨_, .of ebl9⟩, for_list (K := K) (a := bl) (xs := nL bw) (fun j σ' H' => ∃ v12 v13 bs, σ' = [some (.ref s), some (net g), some (.int (hd g : Nat)), some (.ref wl), some (.int (0 + i)), some (.int at_), some (.int ((hd g : Nat) / 2)), some (.int sd), some (.int wv), some (.ref ml), some (.ref bl), some (.ref sp), v12, v13] ∧ GSt s wl ws H H' ∧ H' bl = some (.lst (nL bw)) ∧ H' sp = some (.lst (bs.map V.ref)) ∧ Pts H' bs (spt g bw (j + 1)))
          ⟨v12, v13, [t0], rfl, G9, ebl9, esp9, .cons et0 .nil⟩ (fun j σ' H' _ z => ?_) ?_ ?_⟩
        · obtain ⟨_, _, _, _, _, e, _⟩ := z
          exact .of e
        · rintro j x σ' H10 hx ⟨v12, v13, bs, rfl, G10, ebl10, esp10, p10⟩
          obtain ⟨ow, how, rfl⟩ := map_at hx
          have owlt := ltb ow (List.mem_of_getElem? how)
          have lbs := Paired.length p10
          rw [spt_len] at lbs
          have lj : j < bw.length := (List.getElem?_eq_some_iff.mp how).1
          obtain ⟨lb, hlb1, hlb2⟩ : ∃ lb, H10 lb = some (.tup (pl (wsum g (bw.take j)))) ∧ bs[j]? = some lb := by
            have e : (spt g bw (j + 1))[j]? = some (wsum g (bw.take j)) := by unfold spt; simp
            obtain ⟨b, h1, h2⟩ := pair_at p10 e
            exact ⟨b, h1, h2⟩
          refine ⟨_, rfl, g, rfl, fun H11 sl2 sts2 s11 _ sl21 spts2 => ?_⟩
          obtain ⟨t, ht1, ht2⟩ : ∃ t, H11 t = some (.tup (pl (stp g ow))) ∧ sts2[ow]? = some t := by
            have e : (stl g)[ow]? = some (stp g ow) := by simp [stl, owlt]
            obtain ⟨b, h1, h2⟩ := pair_at spts2 e
            exact ⟨b, h1, h2⟩
          have G11 := G10.same s11
          have esp11 := s11 _ _ esp10
          have tT : SqT K H11 t (pl (stp g ow)) := .of ht1
          have lT : SqT K H11 lb (pl (wsum g (bw.take j))) := .of (s11 _ _ hlb1)
          have il : atI (bs.map V.ref) (-1) = some (.ref lb) := at_last (n := j) (by rw [List.length_map, lbs]) (by rw [List.getElem?_map, hlb2]; rfl)
          refine ⟨_, rfl, _, _, _, .ref t, rfl, rfl, .of sl21, atI_nat (j := ow) (by rw [List.getElem?_map, ht2]; rfl), ?_⟩
          refine ⟨_, rfl, .inl ⟨rfl, _, .of esp11⟩, _, rfl, 1, rfl, _, _, _, .ref lb, rfl, rfl, .of esp11, il, _, _, _, _, rfl, rfl, lT, atI_nat (j := 0) rfl, _, rfl, _, _, _, _, rfl, rfl, tT, atI_nat (j := 0) rfl, _, _, rfl, rfl, _, rfl, 1, rfl, _, _, _, .ref lb, rfl, rfl, .of esp11, il, _, _, _, _, rfl, rfl, lT, atI_nat (j := 1) rfl, _, rfl, _, _, _, _, rfl, rfl, tT, atI_nat (j := 1) rfl, _, _, rfl, rfl, (small64 (n := 2) (by decide)), fun u hu => ?_⟩
          have s12 := same_upd (o := .tup (pl (padd (wsum g (bw.take j)) (stp g ow)))) hu
          refine ⟨sp, _, _, rfl, rfl, s12 _ _ esp11, by rw [List.length_map, lbs]; exact Nat.lt_of_le_of_lt (by omega : _ ≤ 100) (by decide), ?_⟩
          have G12 := G11.same s12
          have st : SamT (upd H11 u (.tup (pl (padd (wsum g (bw.take j)) (stp g ow))))) (upd (upd H11 u (.tup (pl (padd (wsum g (bw.take j)) (stp g ow))))) sp (.lst (bs.map V.ref ++ [.ref u]))) := samT_put (s12 _ _ esp11) fun _ z => nomatch z
          refine ⟨some (.int ow), some (.ref t), bs ++ [u], rfl, ⟨but_mut G12.but fsp, ?_, by rw [upd_ne nspw]; exact G12.way⟩, by rw [upd_ne nspb]; exact s12 _ _ (s11 _ _ ebl10), by rw [upd_same, List.map_append]; rfl, ?_⟩
          · obtain ⟨x, y, h1, h2⟩ := G12.src
            exact ⟨x, y, by rw [upd_ne (fun z => nsp z.symm)]; exact h1, h2⟩
          · rw [spt_succ g bw (j + 1), take_snoc how, wsum_app]
            have e : wsum g [ow] = stp g ow := padd_zero _
            rw [e]
            exact Paired.snoc (pts_sam (samT_trans (samT_of (Same.trans s11 s12)) st) p10) (st _ _ upd_same)
        · rintro σ' H10 ⟨v12, v13, bs, rfl, G10, ebl10, esp10, p10⟩
          rw [lbw] at p10
          exact ⟨_, _, bs, rfl, G10, ebl10, esp10, p10⟩
      rintro _ H10 ⟨v12, v13, bs, rfl, G10, ebl10, esp10, p10⟩
      have lbs : (bs.map V.ref).length = bw.length + 1 := by rw [List.length_map, Paired.length p10, spt_len]
      have lbw : (nL bw).length = bw.length := List.length_map _
      refine ⟨_, rfl, sp, bs, spt g bw (bw.length + 1), rfl, .of esp10, Paired.mapP p10 fun _ _ z => .of z, by rw [spt_len]; omega, fun D nD mD => ?_⟩
      refine ⟨_, rfl, _, _, rfl, .inl (.of esp10), _, _, rfl, rfl, rfl, _, rfl, ?_⟩
      rw [lbs]
      refine ite2 (fun y => ?_) fun y => ?_
      · have y := of_decide_eq_true y
        have yD : D.length = bw.length := by
          injection y with y
          omega
        refine ⟨_, rfl, _, _, rfl, .inl (.of ebl10), _, rfl, _, _, rfl, rfl, .inl ⟨by decide, by decide⟩, _, _, rfl, rfl, _, _, rfl, rfl, _, rfl, ?_⟩
        rw [lbw]
        refine ite2 (fun z => ?_) fun z => ⟨wl, ws, _, _, _, _, _, _, _, _, _, _, rfl, G10, nwl, gr⟩
        have z := of_decide_eq_true z
        have few : bw.length ≤ 20 := by
          cases g
          · have z : (bw.length : Int) ≤ 4 * (4 / 2) + 8 := z
            omega
          · have z : (bw.length : Int) ≤ 4 * (6 / 2) + 8 := z
            omega
        exact ⟨_, rfl, bl, bw, _, _, _, _, _, _, _, _, _, _, rfl, ⟨G10.but, G10.src, ebl10⟩, nbl, grown_of ltb few lbend3 closeb nD mD yD⟩
      · exact iteF ⟨wl, ws, _, _, _, _, _, _, _, _, _, _, rfl, G10, nwl, gr⟩
    · rintro σ' H4 ⟨wl, ws, v4, v5, v6, v7, v8, v9, v10, v11, v12, v13, rfl, G4, _, gr⟩
      refine ⟨_, rfl, _, rfl, g, wl, ws, rfl, .of G4.way, Nat.le_trans gr.few (by decide), fun H5 s5 => ?_⟩
      exact k H5 ws (but_same G4.but s5) (isS_same s5 G4.src) gr
end
end K53
set_option maxHeartbeats 4000000
namespace K53
open PySem PySem.Spec PyProof.Rows L2
open C8 (fnScope_by pe_mk pe_mt pe_mt0 InsC)
open SX (S)
/-- what holds of an outline that goes nowhere twice -/
structure SimF (g : Bool) (ps : List (Int × Int)) (s : Int) : Prop where
  sg : s = 1 ∨ s = -1
  ne : owin g ps ≠ []
  all : ∀ w ∈ owin g ps, w.2 = s
  tn : trn g ps = s * (hd g : Nat)
  cnt : if g then s * oarea g ps = 2 * oinner g ps + ps.length - 2 else 2 * (s * oarea g ps) = 2 * oinner g ps + ps.length - 2
theorem sorted_one {ns : List Int} {s : Int} (h : ∀ k, k ∈ ns ↔ k = s) (pw : ns.Pairwise (· < ·)) : ns = [s] := by
  cases ns with
  | nil => exact absurd ((h s).mpr rfl) (List.not_mem_nil)
  | cons a l =>
    have ha : a = s := (h a).mp List.mem_cons_self
    cases l with
    | nil => rw [ha]
    | cons b m =>
      have hb : b = s := (h b).mp (List.mem_cons_of_mem _ List.mem_cons_self)
      have := (List.pairwise_cons.mp pw).1 b List.mem_cons_self
      omega
theorem eqv_one (a b : Int) : PyData.eqv (.list [.int a]) (.list [.int b]) = decide (a = b) := by
  simp [PyData.eqv, PyData.eqvAll]
  rfl
section
variable {P : Program} {w : World} {K : PySem.W.Frag} {mg : Str → Option Value} {base : Heap} {CO CL CW sS : Addr}
def spSimR (CO : Addr) : Sp := fun vs H Q _ => ∃ (g : Bool) (l o f : Addr) (bs : List Addr) (ps : List (Int × Int)) (s : Int), vs = [net g, .ref l, .ref o, .ref f] ∧ H l = some (.lst (bs.map V.ref)) ∧ bs.length = ps.length ∧ isO CO H o g ps ∧ H f = some (.dT (encW (owin g ps))) ∧ (owin g ps).length ≤ 4000 ∧
  SimF g ps s ∧ ∀ H', Same H H' → Q (.bl true) H'
abbrev n77 : List Str := ["_law_kind_here", "_law_ring_here", "_law_outline", "_law_found", "_law_signs_here", "_law_cells", "_law_cell"]
theorem sc77 : FnScope n77 ["_law_kind_here", "_law_ring_here", "_law_outline", "_law_found"] (L2.defScope (top 77)) := fnScope_by (by decide +kernel)
theorem c_simR (T : TxB K mg) (d : DefT K mg 77 "_law_simple_right") (c1 : Cal P w K mg base 1 "_law_steps" spSteps) (c2 : Prp P w K mg base 1 CO "turning" (spOInt CO trn)) (c3 : Prp P w K mg base 1 CO "area" (spOInt CO oarea)) (c4 : Prp P w K mg base 1 CO "inner" (spOInt CO oinner)) : Cal P w K mg base 3 "_law_simple_right" (spSimR CO) := by
  refine cal d sc77 (fun vs H Q E h => ?_) (fun _ _ _ _ _ _ us hl => match us, hl with | [_, _, _, _], _ => rfl) (fun f cdv A outer s0 H vs Q E hr h => ?_)
  · obtain ⟨g, l, o, f, bs, ps, s, rfl, _⟩ := h
    rfl
  · obtain ⟨g, l, o, fo, bs, ps, s, rfl, hl, hbs, hO, hf, hz, F, k⟩ := h
    have hu : A.units + 200 < cLine := by
      have := hr.un
      have e : (A.deeper (envOfC "_law_simple_right" (L2.defScope (top 77)) s0.heap.objs.size f cdv)).units = A.units + 3 := rfl
      omega
    refine ⟨_, (C8.pss_cut (ps_set (i := 4) sc77.nd rfl (Or.inl rfl) (pe_callB (cr_sortedSet rfl) (by rfl) T.sorted (by decide +kernel) (pa_cons (pe_callTy (call_setI rfl) (by rfl) T.set (by decide +kernel) (pa_cons (pe_lock (pe_lc (own := [("_law_cell", 6)]) (g := gName 6) rfl sc77.nd (pi_keys (pv 3)) (blkOk_by (own := [("_law_cell", 6)]) (N := n77) (sc := L2.defScope (top 77)) (by decide +kernel)) (fun _ _ _ _ _ => (pg_name (i := 6) sc77.nd rfl (Or.inl rfl))) (fun _ _ _ _ _ => pts_nil) (fun _ _ _ _ _ => (pe_dget (hu_of hr) (pv 3) (pv 6) (fun _ _ => rfl))))) pa_nil)) pa_nil)))
      (pss_cons (ps_if (PW.pt (pw_or (pt_cmpR (op_notInD (by show A.units + 3 + 65 < cLine; omega)) (pv 4) (pe_lst (pa_cons (pe_lst (pa_cons pe_int pa_nil)) (pa_cons (pe_lst (pa_cons (pe_un un_neg pe_int) pa_nil)) pa_nil))) (by rfl)) (pw_or1 (pt_cmpR op_ne (pe_pr c2 hr (by decide) (pv 2)) (pe_op op_mul (pe_ix ix_list (pv 4) pe_int (fun _ _ => rfl)) (pe_callB call_len_seq (by rfl) T.len PySem.boot_len (pa_cons (C8.pe_c c1 hr (by decide) rfl (pa_cons (pv 0) pa_nil)) pa_nil))) (nomark _))))) (pss_one (ps_ret pe_bl)) pss_nil) (pss_cons (ps_set (i := 5) sc77.nd rfl (Or.inl rfl) (pe_op op_mul (pe_ix ix_list (pv 4) pe_int (fun _ _ => rfl)) (pe_pr c3 hr (by decide) (pv 2)))) (pss_cons (ps_if (pt_cmpR op_eq (pv 0) pe_str (nomark _)) (pss_one (ps_ret (pe_cmpR op_eq (pe_op op_mul pe_int (pv 5)) (pe_op op_sub (pe_op op_add (pe_op op_mul pe_int (pe_pr c4 hr (by decide) (pv 2))) (pe_callB call_len_seq (by rfl) T.len PySem.boot_len (pa_cons (pv 1) pa_nil))) pe_int) (nomark _)))) pss_nil) (pss_one (ps_ret (pe_cmpR op_eq (pv 5) (pe_op op_sub (pe_op op_add (pe_op op_mul pe_int (pe_pr c4 hr (by decide) (pv 2))) (pe_callB call_len_seq (by rfl) T.len PySem.boot_len (pa_cons (pv 1) pa_nil))) pe_int) (nomark _)))))))), ?_⟩
    generalize hws : owin g ps = ws at *
    have hf1 : H fo = some (.dT (encW ws)) := hf
    have allw : ∀ w ∈ ws, w.2 = s := fun w hw => F.all w (by rw [hws]; exact hw)
    have wne : ws ≠ [] := by rw [← hws]; exact F.ne
    obtain ⟨do_, pA, kA', rA, obs, tl, ho1, _⟩ := id hO
    refine ⟨fun σ' H' => ∃ p, σ' = [some (net g), some (.ref l), some (.ref o), some (.ref fo), some (.ref p), none, none] ∧ Same H H' ∧ H' p = some (.lst [V.int s]), ?_, ?_⟩
    rotate_left
    · rintro _ HC ⟨p, rfl, sC, eP⟩
      refine ⟨_, rfl, (small64 (n := 1) (by decide)), fun a1 ha1 => ⟨1, rfl, (small64 (n := 1) (by decide)), fun a2 ha2 => ⟨(small64 (n := 2) (by decide)), fun a3 ha3 => ?_⟩⟩⟩
      have t1 := same_upd (o := .lst [V.int 1]) ha1
      have t2 := same_upd (o := .lst [V.int (-1)]) ha2
      have t3 := same_upd (o := .lst [V.ref a1, V.ref a2]) ha3
      have eP3 := t3 _ _ (t2 _ _ (t1 _ _ eP))
      have e1 := t3 _ _ (t2 _ _ (upd_same (H := HC) (a := a1) (o := .lst [V.int 1])))
      have e2' := t3 _ _ (upd_same (H := upd HC a1 (.lst [V.int 1])) (a := a2) (o := .lst [V.int (-1)]))
      have e3 : upd (upd (upd HC a1 (.lst [V.int 1])) a2 (.lst [V.int (-1)])) a3 (.lst [V.ref a1, V.ref a2]) a3 = some (.lst [V.ref a1, V.ref a2]) := upd_same
      have sD := Same.trans sC (Same.trans t1 (Same.trans t2 t3))
      have O4 := isO_same sD hO
      have ho4 := sD _ _ ho1
      have eS : SqL K _ p [V.int s] := .of eP3
      refine ⟨.list [.int s], [.list [.int 1], .list [.int (-1)]], .lst eS (.cons (.int s) .nil), .lst (.of e3) (.cons (.lst (.of e1) (.cons (.int 1) .nil)) (.cons (.lst (.of e2') (.cons (.int (-1)) .nil)) .nil)), rfl, rfl, _, rfl, ?_⟩
      have anyb : (!([PyData.list [.int 1], .list [.int (-1)]].any fun z => PyData.eqv z (.list [.int s]))) = false := by
        simp only [List.any_cons, List.any_nil, eqv_one]
        rcases F.sg with rfl | rfl <;> rfl
      refine itb anyb (iteF ?_)
      have sb : -(2 ^ 64) < s ∧ s < 2 ^ 64 := by rcases F.sg with rfl | rfl <;> decide
      refine ⟨_, rfl, o, _, _, rfl, ho4, o, g, ps, rfl, O4, _, rfl, _, _, _, _, rfl, rfl, eS, atI_nat (j := 0) rfl, _, rfl, g, rfl, fun HE sl sts sE _ sl1 spts => ⟨_, _, rfl, .inl (.of sl1), _, _, rfl, rfl, .inl sb, rfl, _, rfl, ?_⟩⟩
      have lst : (sts.map V.ref).length = hd g := by rw [List.length_map, Paired.length spts]; simp [stl]
      rw [lst]
      refine itb (b := false) (by rw [F.tn]; simp) (iteF ?_)
      have O5 := isO_same sE O4
      have ho5 := sE _ _ ho4
      refine ⟨_, rfl, _, _, _, _, rfl, rfl, sE.seq eS, atI_nat (j := 0) rfl, _, rfl, o, _, _, rfl, ho5, o, g, ps, rfl, O5, _, _, rfl, rfl, .inl sb, ?_⟩
      have sDE := Same.trans sD sE
      have hl5 := sDE _ _ hl
      have kk := k HE sDE
      refine ⟨_, rfl, rfl, _, rfl, itb (isSq g) ?_⟩
      have cnt := F.cnt
      cases g
      · refine iteT ⟨_, rfl, _, _, rfl, rfl, .inl ⟨by decide, by decide⟩, _, rfl, o, _, _, rfl, ho5, o, false, ps, rfl, O5, _, _, rfl, rfl, .inl ⟨by decide, by decide⟩, _, rfl, _, _, rfl, .inl (.of hl5), _, _, rfl, rfl, _, _, rfl, rfl, rfl, ?_⟩
        have e : decide (V.int (2 * (s * oarea false ps)) = V.int (2 * oinner false ps + ((bs.map V.ref).length : Nat) - 2)) = true := by
          rw [List.length_map, hbs]
          exact decide_eq_true (congrArg V.int cnt)
        rw [← e] at kk
        exact kk
      · refine iteF ⟨_, rfl, _, rfl, o, _, _, rfl, ho5, o, true, ps, rfl, O5, _, _, rfl, rfl, .inl ⟨by decide, by decide⟩, _, rfl, _, _, rfl, .inl (.of hl5), _, _, rfl, rfl, _, _, rfl, rfl, rfl, ?_⟩
        have e : decide (V.int (s * oarea true ps) = V.int (2 * oinner true ps + ((bs.map V.ref).length : Nat) - 2)) = true := by
          rw [List.length_map, hbs]
          exact decide_eq_true (congrArg V.int cnt)
        rw [← e] at kk
        exact kk
    refine ⟨fo, _, hf, True.intro, fun od => ?_⟩
    generalize hHf : upd H fo _ = Hf
    have ff : Hf fo = some (.frz od (.dT (encW ws))) := by rw [← hHf]; exact upd_same
    refine ⟨_, rfl, fo, od, rfl, .inr ⟨_, ff, fun D hD => lc_it walk_keysT (fun i H' => Same Hf H' ∧ H' D = some (.lst ((List.replicate i s).map V.int))) ⟨same_upd hD, upd_same⟩ (fun _ H' _ z => z.1 _ _ ff) ?_ ?_⟩⟩
    · rintro i _ _ H2 hi ⟨s2, e2⟩ ⟨rfl, kk, v, q, hk, rfl, hq⟩
      have hi' : i < ws.length := by simpa [encW] using hi
      have hp : ws[i]? = some ws[i] := List.getElem?_eq_getElem hi'
      have hall := allw ws[i] (List.mem_of_getElem? hp)
      have hmem := List.mem_of_getElem? hp
      generalize ws[i] = u at hp hall hmem
      have he : (encW ws)[i]? = some (kI1 u.1, .int u.2) := by unfold encW; rw [List.getElem?_map, hp]; rfl
      rw [he] at hk
      cases hk
      have vg : valV (encW ws) (kI1 u.1) = some (.int s) := by
        have e := val_enc (fun x : List Int => kI1 x) V.int kI1_inj ws u.1
        have e : valV (encW ws) (kI1 u.1) = (valG ws u.1).map V.int := e
        rw [e]
        cases hv : valG ws u.1 with
        | none => exact absurd (List.mem_map.mpr ⟨u, hmem, rfl⟩) (valG_none.mp hv)
        | some n =>
          have := allw _ (valG_some hv)
          rw [show n = s from this]
          rfl
      refine ⟨rfl, _, rfl, _, rfl, fo, .int s, rfl, .inr ⟨encW ws, kI1 u.1, q, .inr ⟨od, s2 _ _ ff⟩, rfl, hq, vg.symm⟩, _, e2, ?_, same_put s2 hD, ?_⟩
      · rw [List.length_map, List.length_replicate]
        exact Nat.lt_of_le_of_lt (by omega : i ≤ 4000) (by decide)
      · rw [upd_same, List.replicate_succ', List.map_append]
        rfl
    rintro H2 ⟨s2, e2⟩
    have nDf : D ≠ fo := fun z => by rw [z, ff] at hD; cases hD
    have lw : (encW ws).length = ws.length := by unfold encW; rw [List.length_map]
    rw [lw] at e2
    refine ⟨s2 _ _ ff, D, List.replicate ws.length s, rfl, .of (by rw [upd_ne nDf]; exact e2), by rw [List.length_replicate]; exact hz, fun q c hq hc => ?_⟩
    have c1 : c ≤ 1 := hc [s] fun k hk => by rw [List.eq_of_mem_replicate hk]; exact List.mem_cons_self
    refine ⟨q, _, c, rfl, upd_same, by omega, fun ns p pw mem len hp => ?_⟩
    have nns : ns = [s] := sorted_one (fun k => by
      rw [mem k, decide_eq_true_eq, List.mem_replicate]
      exact ⟨fun z => z.2, fun z => ⟨by
        intro z2
        exact wne (List.eq_nil_of_length_eq_zero z2), z⟩⟩) pw
    subst nns
    have hf2 : Hf = upd H fo (.frz od (.dT (encW ws))) := hHf.symm
    rw [hf2] at s2
    have sA := unlock hf1 s2
    have sB := same_put (o := SetO w q (fun j => decide (j ∈ List.replicate ws.length s)) c) sA (Same.free sA hq)
    have sC := same_put (o := .lst ([s].map V.int)) sB (Same.free sB hp)
    exact ⟨p, rfl, sC, upd_same⟩
end
end K53
set_option maxHeartbeats 8000000
namespace K53
open PySem PySem.Spec PyProof.Rows L2
open C8 (fnScope_by pe_mk pe_mt pe_mt0 InsC)
open SX (S)
def lmx (l : List Int) : Int := l.foldl max (l.headD 0)
def lmn (l : List Int) : Int := l.foldl min (l.headD 0)
theorem lmx_is {l : List Int} (h : l ≠ []) : lmx l ∈ l ∧ ∀ x ∈ l, x ≤ lmx l := by
  obtain ⟨a, b, c⟩ := fold_max l (l.headD 0)
  refine ⟨?_, c⟩
  rcases a with a | a
  · unfold lmx
    rw [a]
    cases l with
    | nil => exact absurd rfl h
    | cons p l => exact List.mem_cons_self
  · exact a
theorem lmn_is {l : List Int} (h : l ≠ []) : lmn l ∈ l ∧ ∀ x ∈ l, lmn l ≤ x := by
  obtain ⟨a, b, c⟩ := fold_min l (l.headD 0)
  refine ⟨?_, c⟩
  rcases a with a | a
  · unfold lmn
    rw [a]
    cases l with
    | nil => exact absurd rfl h
    | cons p l => exact List.mem_cons_self
  · exact a
/-- a place's number, as the outline tells it -/
def pnum (g : Bool) (ps : List (Int × Int)) (p : Int × Int) : Int := rnum (orow g ps) p.2 (if g then 2 * p.1 else p.1)
def inn (g : Bool) (ps : List (Int × Int)) (x y : Int) : Int := if (x, y) ∉ ps ∧ pnum g ps (x, y) ≠ 0 then 1 else 0
theorem inn_is {g : Bool} {ps : List (Int × Int)} {x y : Int} (hin : (x, y) ∉ ps) : (if (!decide (V.int (pnum g ps (x, y)) = V.int 0)) = true then (1 : Int) else 0) = inn g ps x y := by
  unfold inn
  by_cases h0 : pnum g ps (x, y) = 0
  · have e : (!decide (V.int (pnum g ps (x, y)) = V.int 0)) = false := by rw [h0]; rfl
    rw [e, if_neg (fun q : (x, y) ∉ ps ∧ pnum g ps (x, y) ≠ 0 => q.2 h0)]
    rfl
  · have e : (!decide (V.int (pnum g ps (x, y)) = V.int 0)) = true := by simp [h0]
    rw [e, if_pos rfl]
    exact (if_pos ⟨hin, h0⟩).symm
def bx0 (ps : List (Int × Int)) : Int := lmn (ps.map (·.1)) - 1
def by0 (ps : List (Int × Int)) : Int := lmn (ps.map (·.2)) - 1
def bxn (ps : List (Int × Int)) : Nat := (lmx (ps.map (·.1)) + 2 - bx0 ps).toNat
def byn (ps : List (Int × Int)) : Nat := (lmx (ps.map (·.2)) + 2 - by0 ps).toNat
def itot (g : Bool) (ps : List (Int × Int)) : Int := ((List.range (bxn ps)).map fun (i : Nat) => ((List.range (byn ps)).map fun (j : Nat) => inn g ps (bx0 ps + i) (by0 ps + j)).sum).sum
/-- what the law asks of closed commands, in plain words -/
structure RightF (g : Bool) (cs : List Nat) : Prop where
  clo : Clo g cs
  ring : ∀ n, 6 * mvn cs < n * mvn cs → (rbf g cs n).take (lper g cs) = lplaces g cs
  ok : okP g (lplaces g cs)
  few : (lplaces g cs).length ≤ 74
  ne : lplaces g cs ≠ []
  small : ∀ p ∈ lplaces g cs, -1000000 ≤ p.1 ∧ p.1 ≤ 1000000 ∧ -1000000 ≤ p.2 ∧ p.2 ≤ 1000000
  prv : ∀ z ∈ prv (lplaces g cs), psub z.2 z.1 ∈ stl g
  trn : ltrn g (lplaces g cs) = trn g (lplaces g cs)
  win : (owin g (lplaces g cs)).length ≤ 4000
  sim : 3 ≤ (lplaces g cs).length → (lplaces g cs).Nodup → ∃ s, SimF g (lplaces g cs) s
  off : ∀ p, p ∉ lplaces g cs → ∀ c ∈ lcor g p, (valG (owin g (lplaces g cs)) c).getD 0 = pnum g (lplaces g cs) p
  inner : oinner g (lplaces g cs) = itot g (lplaces g cs)
theorem nodup_len {ps D : List (Int × Int)} (nD : D.Nodup) (mD : ∀ z, z ∈ D ↔ z ∈ ps) : D.length = ps.length ↔ ps.Nodup := by
  constructor
  · exact fun h => nodup_of_len nD mD h
  · intro h
    have a := nodup_le D ps nD fun z hz => (mD z).mp hz
    have b := nodup_le ps D h fun z hz => (mD z).mpr hz
    omega
theorem dd_nodup (ps : List (Int × Int)) : (dd ps).Nodup := by
  have A : ∀ (ps acc : List (Int × Int)), acc.Nodup → (ps.foldl ddA acc).Nodup := by
    intro ps
    induction ps with
    | nil => exact fun acc h => h
    | cons q ps ih =>
      intro acc h
      refine ih _ ?_
      unfold ddA
      by_cases hq : q ∈ acc
      · rw [if_pos hq]
        exact h
      · rw [if_neg hq]
        exact List.nodup_append.mpr ⟨h, by simp, fun a ha b hb z => hq (by rw [← List.mem_singleton.mp hb, ← z]; exact ha)⟩
  exact A ps [] List.nodup_nil
theorem osimple_is (ps : List (Int × Int)) : osimple ps = decide (3 ≤ ps.length ∧ ps.Nodup) := by
  have h := nodup_len (dd_nodup ps) (dd_mem ps)
  unfold osimple
  rw [← Bool.decide_and]
  refine decide_eq_decide.mpr ⟨fun z => ⟨z.1, h.mp z.2.symm⟩, fun z => ⟨z.1, (h.mpr z.2).symm⟩⟩
def t3 (b : Addr) (p : Int × Int) : T3 := (kp p, b, V.bl true)
theorem putAll_kn : ∀ (bs : List Addr) (ps qs : List (Int × Int)), bs.length = ps.length → putAll (kn qs) ((bs.zip ps).map fun z => t3 z.1 z.2) = kn (qs ++ ps)
  | [], [], qs, _ => by rw [List.append_nil]; rfl
  | b :: bs, p :: ps, qs, h => by
    have e : putAll (kn qs) (((b :: bs).zip (p :: ps)).map fun z => t3 z.1 z.2) = putAll (putK (kn qs) (kp p) (.bl true)) ((bs.zip ps).map fun z => t3 z.1 z.2) := rfl
    rw [e, ← kn_snoc, putAll_kn bs ps (qs ++ [p]) (by simpa using h), List.append_assoc]
    rfl
  | [], _ :: _, _, h => by simp at h
  | _ :: _, [], _, h => by simp at h
def cvals (g : Bool) (ps : List (Int × Int)) (p : Int × Int) : List Int := (lcor g p).map fun c => (valG (owin g ps) c).getD 0
theorem cvals_len (g : Bool) (ps : List (Int × Int)) (p : Int × Int) : (cvals g ps p).length ≤ 6 ∧ 0 < (cvals g ps p).length := by
  unfold cvals lcor
  cases g <;> simp
section
variable {P : Program} {w : World} {K : PySem.W.Frag} {mg : Str → Option Value} {base : Heap} {CO CL CW sS : Addr}
def spRight : Sp := fun vs H Q _ => ∃ (g : Bool) (cs : List Nat), vs = [net g, .str (S cs)] ∧ RightF g cs ∧ ∀ H', Same H H' → Q (.bl true) H'
abbrev n78 : List Str := ["_law_kind_here", "_law_text", "_law_ring_here", "_law_outline", "_law_found", "_law_is_due", "_law_xs", "_law_ys", "_law_inner", "_law_on_ring", "_law_x", "_law_y", "_law_numbers", "_law_due", "_law_spot", "_law_cell"]
theorem sc78 : FnScope n78 ["_law_kind_here", "_law_text"] (L2.defScope (top 78)) := fnScope_by (by decide +kernel)
theorem c_right (T : TxB K mg) (O : TxO K mg CO) (d : DefT K mg 78 "_law_right") (c1 : Cal P w K mg base 10 "_law_ring" (spRing K)) (cw : Mak P w K mg base 3 "Walk" CW (spWInit CW)) (cl : Mak P w K mg base 8 "Loop" CL (spLInit CL CW)) (co : Mak P w K mg base 5 "Outline" CO (spOInit CO CL CW))
    (c2 : Met P w K mg base 2 CO "windings" (spWnd CO)) (c3 : Prp P w K mg base 1 CO "is_simple" (spOSimple CO)) (c4 : Prp P w K mg base 1 CO "turning" (spOInt CO trn)) (c5 : Cal P w K mg base 2 "_law_turning" (spLTrn K)) (c6 : Cal P w K mg base 3 "_law_simple_right" (spSimR CO))
    (c7 : Cal P w K mg base 1 "_law_corners" (spLCor K)) (c8 : Met P w K mg base 4 CO "around" (spAround CO)) (c9 : Prp P w K mg base 1 CO "inner" (spOInt CO oinner)) : Cal P w K mg base 12 "_law_right" spRight := by
  refine cal d sc78 (fun vs H Q E h => ?_) (fun _ _ _ _ _ _ us hl => match us, hl with | [_, _], _ => rfl) (fun f cdv A outer s0 H vs Q E hr h => ?_)
  · obtain ⟨g, cs, rfl, _⟩ := h
    rfl
  · obtain ⟨g, cs, rfl, F, k⟩ := h
    have hu : A.units + 200 < cLine := by
      have := hr.un
      have e : (A.deeper (envOfC "_law_right" (L2.defScope (top 78)) s0.heap.objs.size f cdv)).units = A.units + 3 := rfl
      omega
    refine ⟨_, pss_cons (ps_set (i := 2) sc78.nd rfl (Or.inl rfl) (C8.pe_c c1 hr (by decide) rfl (pa_cons (pv 0) (pa_cons (pv 1) pa_nil)))) (pss_cons (ps_set (i := 3) sc78.nd rfl (Or.inl rfl) (C8.pe_mk co hr (by decide) rfl (pa_cons (C8.pe_mk cl hr (by decide) rfl (pa_cons (C8.pe_mk cw hr (by decide) rfl (pa_cons (pv 0) (pa_cons (pv 1) pa_nil))) pa_nil)) pa_nil))) (pss_cons (ps_set (i := 4) sc78.nd rfl (Or.inr rfl) (pe_mt0 c2 hr (by decide) (pv 3)))
      (C8.pss_cut (ps_set (i := 5) sc78.nd rfl (Or.inl rfl) (pe_and (pe_cmpR op_gt (pe_callB call_len_seq (by rfl) T.len PySem.boot_len (pa_cons (pv 2) pa_nil)) pe_int (nomark _)) (pe_one (pe_cmpR op_eq (pe_lenSetT rfl (by show A.units + 3 + 8 < cLine; omega) T.len T.set (pv 2)) (pe_callB call_len_seq (by rfl) T.len PySem.boot_len (pa_cons (pv 2) pa_nil)) (nomark _)))))
      (C8.pss_cut (ps_if (PW.pt (pw_or (pt_cmpR op_ne (pe_callB call_reprB (by rfl) T.repr (by decide +kernel) (pa_cons (pe_pr c3 hr (by decide) (pv 3)) pa_nil)) (pe_callB call_reprB (by rfl) T.repr (by decide +kernel) (pa_cons (pv 5) pa_nil)) (nomark _)) (pw_or1 (pt_cmpR op_ne (pe_pr c4 hr (by decide) (pv 3)) (C8.pe_c c5 hr (by decide) rfl (pa_cons (pv 0) (pa_cons (pv 2) pa_nil))) (nomark _))))) (pss_one (ps_ret pe_bl)) pss_nil)
      (C8.pss_cut (ps_if (PW.pt (pw_and (pt_val (pv 5)) (pw_and1 (pt_not (pt_val (C8.pe_c c6 hr (by decide) rfl (pa_cons (pv 0) (pa_cons (pv 2) (pa_cons (pv 3) (pa_cons (pv 4) pa_nil)))))))))) (pss_one (ps_ret pe_bl)) pss_nil)
      (C8.pss_cut (ps_par3 (i := 6) (j := 7) (l := 8) (by rfl) sc78.nd rfl rfl rfl (by decide) (by decide) (by decide) rfl rfl rfl (pa_cons (pe_lc (own := [("_law_spot", 14)]) (g := gName 14) rfl sc78.nd (pi_list (pv 2)) (blkOk_by (own := [("_law_spot", 14)]) (N := n78) (sc := L2.defScope (top 78)) (by decide +kernel)) (fun _ _ _ _ _ => (pg_name (i := 14) sc78.nd rfl (Or.inl rfl))) (fun _ _ _ _ _ => pts_nil) (fun _ _ _ _ _ => (pe_ixT (K := K) rfl (pv 14) pe_int (fun _ _ => rfl)))) (pa_cons (pe_lc (own := [("_law_spot", 14)]) (g := gName 14) rfl sc78.nd (pi_list (pv 2)) (blkOk_by (own := [("_law_spot", 14)]) (N := n78) (sc := L2.defScope (top 78)) (by decide +kernel)) (fun _ _ _ _ _ => (pg_name (i := 14) sc78.nd rfl (Or.inl rfl))) (fun _ _ _ _ _ => pts_nil) (fun _ _ _ _ _ => (pe_ixT (K := K) rfl (pv 14) pe_int (fun _ _ => rfl)))) (pa_cons pe_int pa_nil))) (by rfl))
      (C8.pss_cut (ps_set (i := 9) sc78.nd rfl (Or.inl rfl) (pe_callTy (call_dictT rfl (by show A.units + 3 + 3 < cLine; omega)) (by rfl) T.dict (by decide +kernel) (pa_cons (pe_lc (own := [("_law_spot", 14)]) (g := gName 14) rfl sc78.nd (pi_list (pv 2)) (blkOk_by (own := [("_law_spot", 14)]) (N := n78) (sc := L2.defScope (top 78)) (by decide +kernel)) (fun _ _ _ _ _ => (pg_name (i := 14) sc78.nd rfl (Or.inl rfl))) (fun _ _ _ _ _ => pts_nil) (fun _ _ _ _ _ => (pe_tup (pa_cons (pv 14) (pa_cons pe_bl pa_nil))))) pa_nil)))
      (C8.pss_cut (ps_for PassesOwn.never rfl (pi_range2 (by rfl) T.range (pa_cons (pe_op op_sub (pe_callB (cr_min rfl) (by rfl) T.min (by decide +kernel) (pa_cons (pv 6) pa_nil)) pe_int) (pa_cons (pe_op op_add (pe_callB (cr_max rfl) (by rfl) T.max (by decide +kernel) (pa_cons (pv 6) pa_nil)) pe_int) pa_nil))) (pg_name (i := 10) sc78.nd rfl (Or.inl rfl)) (pss_one (ps_for PassesOwn.never rfl (pi_range2 (by rfl) T.range (pa_cons (pe_op op_sub (pe_callB (cr_min rfl) (by rfl) T.min (by decide +kernel) (pa_cons (pv 7) pa_nil)) pe_int) (pa_cons (pe_op op_add (pe_callB (cr_max rfl) (by rfl) T.max (by decide +kernel) (pa_cons (pv 7) pa_nil)) pe_int) pa_nil))) (pg_name (i := 11) sc78.nd rfl (Or.inl rfl)) (C8.pss_cut (ps_set (i := 12) sc78.nd rfl (Or.inl rfl) (pe_callB (cr_sortedSet rfl) (by rfl) T.sorted (by decide +kernel) (pa_cons (pe_callTy (call_setI rfl) (by rfl) T.set (by decide +kernel) (pa_cons (pe_lc (own := [("_law_cell", 15)]) (g := gName 15) rfl sc78.nd (pi_list (C8.pe_c c7 hr (by decide) rfl (pa_cons (pv 0) (pa_cons (pe_tup (pa_cons (pv 10) (pa_cons (pv 11) pa_nil))) pa_nil)))) (blkOk_by (own := [("_law_cell", 15)]) (N := n78) (sc := L2.defScope (top 78)) (by decide +kernel)) (fun _ _ _ _ _ => (pg_name (i := 15) sc78.nd rfl (Or.inl rfl))) (fun _ _ _ _ _ => pts_nil) (fun _ _ _ _ _ => (pe_dget2 (hu_of hr) (pv 4) (pv 15) pe_int ⟨by rfl, by rfl, by rfl, by rfl⟩))) pa_nil)) pa_nil)))
            (C8.pss_cut (ps_set (i := 13) sc78.nd rfl (Or.inl rfl) (pe_ifExp (pt_cmp (pc_din (hu_of hr) (pe_tup (pa_cons (pv 10) (pa_cons (pv 11) pa_nil))) (pv 9))) pe_non (pe_ix ix_list (pv 12) pe_int (fun _ _ => rfl))))
            (pss_cons (ps_if (PW.pt (pw_or (pt_cmpR op_ne (pe_mt c8 hr (by decide) (pv 3) (pa_cons (pe_tup (pa_cons (pv 10) (pa_cons (pv 11) pa_nil))) pa_nil)) (pv 13) (nomark _)) (pw_or1 (PW.pt (pw_and (pt_cmpR op_notN (pv 13) pe_non (nomark _)) (pw_and1 (pt_cmpR op_gt (pe_callB call_len_seq (by rfl) T.len PySem.boot_len (pa_cons (pv 12) pa_nil)) pe_int (nomark _)))))))) (pss_one (ps_ret pe_bl)) pss_nil) (pss_one (ps_set (i := 8) sc78.nd rfl (Or.inl rfl) (pe_op op_add (pv 8) (pe_callTy call_int1 (by rfl) T.int (by decide +kernel) (pa_cons (pe_and (pe_cmpR op_notN (pv 13) pe_non (nomark _)) (pe_one (pe_cmpR op_ne (pv 13) pe_int (nomark _)))) pa_nil)))))))))))
      (pss_one (ps_ret (pe_cmpR op_eq (pe_pr c9 hr (by decide) (pv 3)) (pv 8) (nomark _)))))))))))), ?_⟩
    obtain ⟨Cl, hring, hok, hfew, hne, hsmall, hprv, htrn, hwin, hsim, hoff, hinner⟩ := F
    refine ⟨_, rfl, _, rfl, g, cs, rfl, Cl, hring, fun H1 rl bs s1 rl0 rl1 rp => ?_⟩
    refine ⟨_, rfl, _, rfl, ?_⟩
    intro x dx nx ndx nex; refine ⟨x, dx, g, cs, rfl, Cl.ok, Cl.len, upd_same, fun H2 hW btx => ⟨rfl, ?_⟩⟩; have s2 := Same.made nx ndx fun b o e n => btx b o n e
    intro y dy ny ndy ney; refine ⟨y, dy, x, g, cs, rfl, upd_same, isW_same (same_put (same_upd ndy) ny) hW, (ms_ne Cl.mv), fun H3 hL bty => ⟨rfl, ?_⟩⟩; have s3 := Same.made ny ndy fun b o e n => bty b o n e
    intro z dz nz ndz nez; refine ⟨z, dz, y, g, cs, rfl, upd_same, isL_same (same_put (same_upd ndz) nz) hL, Cl.per, hok, fun H4 hO btz => ⟨rfl, ?_⟩⟩; have s4 := Same.made nz ndz fun b o e n => btz b o n e
    generalize hps : lplaces g cs = ps at *
    obtain ⟨dz, pA, kA', rA, obs, tl, ho1, ho2, ho3, ho4, ho5, ho6⟩ := id hO
    refine ⟨_, rfl, z, dz, _, rfl, ho1, oF_wi _ _ _ _ _ _ _, z, dz, rA, _, g, tl, rfl, ho1, oF_n _ _ _ _ _ _ _, oF_o _ _ _ _ _ _ _, ho5, by rw [ho6]; exact hok.2.1, fun H5 fo s5 fo0 fo1 => ?_⟩
    rw [ho6] at fo1
    have fo1 : H5 fo = some (.dT (encW (owin g ps))) := fo1
    have s15 := Same.trans s2 (Same.trans s3 (Same.trans s4 s5))
    have S5 := Same.trans s1 s15
    have rl5 := s15 _ _ rl1
    have rp5 := pts_sam (samT_of s15) rp
    have O5 := isO_same s5 hO
    have lbs := Paired.length rp5
    have lbV : (bs.map V.ref).length = ps.length := by rw [List.length_map, lbs]
    have hrr : ∀ r ∈ orow g ps, r.2.length ≤ 1000 := fun r hr => (hok.2.1.2 r hr).2.2.1
    generalize hdue : decide (3 ≤ ps.length ∧ ps.Nodup) = due
    refine ⟨fun σ' H' => H' = H5 ∧ σ' = [some (net g), some (.str (S cs)), some (.ref rl), some (.ref z), some (.ref fo), some (.bl due), none, none, none, none, none, none, none, none, none, none], ?_, ?_⟩
    · refine ⟨_, rfl, _, _, rfl, .inl (.of rl5), _, _, rfl, rfl, _, rfl, ?_⟩
      rw [lbV]
      refine ite2 (fun h => ?_) fun h => ?_
      · have h := of_decide_eq_true h
        refine ⟨_, rfl, rl, bs, ps, rfl, .of rl5, Paired.mapP rp5 fun _ _ z => .of z, hfew, fun D nD mD => ⟨_, rfl, _, _, rfl, .inl (.of rl5), rfl, rfl, ?_⟩⟩
        rw [lbV]
        have e : decide (V.int (D.length : Nat) = V.int (ps.length : Nat)) = due := by
          rw [← hdue]
          refine decide_eq_decide.mpr ⟨fun y => ⟨by omega, (nodup_len nD mD).mp (by injection y with y; omega)⟩, fun y => by rw [(nodup_len nD mD).mpr y.2]⟩
        rw [e]
        rfl
      · have h : ¬ ((ps.length : Int) > 2) := fun y => h (decide_eq_true y)
        have e : due = false := by
          rw [← hdue]
          exact decide_eq_false fun y => h (by omega)
        rw [e]
        exact ⟨rfl, rfl⟩
    rintro _ H6 ⟨rfl, rfl⟩
    refine ⟨fun σ' H' => Same H6 H' ∧ σ' = [some (net g), some (.str (S cs)), some (.ref rl), some (.ref z), some (.ref fo), some (.bl due), none, none, none, none, none, none, none, none, none, none], ?_, ?_⟩
    · obtain ⟨du, _, _, _, _, _, ho, _⟩ := id O5
      refine ⟨_, rfl, z, du, _, rfl, ho, z, g, ps, rfl, O5, _, rfl, _, rfl, due, rfl, rfl, _, rfl, itb (b := false) ?_ (iteF ?_)⟩
      · rw [osimple_is, hdue]
        simp
      · refine ⟨_, rfl, z, du, _, rfl, ho, z, g, ps, rfl, O5, _, rfl, _, rfl, g, rl, bs, ps, rfl, rl5, rp5, hok.2.2, hprv, fun H7 s7 => ⟨rfl, _, rfl, itb (b := false) ?_ (iteF ⟨s7, rfl⟩)⟩⟩
        rw [htrn]
        simp
    rintro _ H7 ⟨s7, rfl⟩
    have s57 := s7
    refine ⟨fun σ' H' => Same H6 H' ∧ σ' = [some (net g), some (.str (S cs)), some (.ref rl), some (.ref z), some (.ref fo), some (.bl due), none, none, none, none, none, none, none, none, none, none], ?_, ?_⟩
    · refine ⟨_, rfl, due, rfl, ?_⟩
      cases due with
      | false => exact iteF (iteF ⟨s7, rfl⟩)
      | true =>
        have hd2 := of_decide_eq_true hdue
        obtain ⟨sg, SF⟩ := hsim hd2.1 hd2.2
        refine iteT ⟨_, rfl, _, rfl, _, rfl, _, rfl, g, rl, z, fo, bs, ps, sg, rfl, s7 _ _ rl5, lbs, isO_same s7 O5, s7 _ _ fo1, hwin, SF, fun H8 s8 => ⟨true, rfl, iteF ⟨Same.trans s7 s8, rfl⟩⟩⟩
    rintro _ H8 ⟨s8, rfl⟩
    have rl8 := s8 _ _ rl5
    have rp8 := pts_sam (samT_of s8) rp5
    have comp : ∀ (sel : Int × Int → Int) (j : Nat) (Hb : Hp), Same H6 Hb → (∀ p, (pl p)[j]? = some (.int (sel p))) → True := fun _ _ _ _ _ => trivial
    refine ⟨fun σ' H' => ∃ xl yl, σ' = [some (net g), some (.str (S cs)), some (.ref rl), some (.ref z), some (.ref fo), some (.bl due), some (.ref xl), some (.ref yl), some (.int 0), none, none, none, none, none, none, none] ∧ Same H6 H' ∧ H' xl = some (.lst ((ps.map (·.1)).map V.int)) ∧ H' yl = some (.lst ((ps.map (·.2)).map V.int)), ?_, ?_⟩
    · refine ⟨_, rfl, rl, rfl, ⟨_, .of rl8⟩, fun D hD => lc_it walk_list (fun i H' => Same H8 H' ∧ H' D = some (.lst (((ps.take i).map (·.1)).map V.int))) ⟨same_upd hD, upd_same⟩ (fun _ H' _ z => .of (z.1 _ _ rl8)) ?_ ?_⟩
      · rintro i _ _ H9 hi ⟨s9, e9⟩ ⟨rfl, hx⟩
        obtain ⟨b, hb1, rfl⟩ := map_at hx
        obtain ⟨p, hb2, hp2⟩ := pair_l rp8 hb1
        have bT : SqT K H9 b (pl p) := .of (s9 _ _ hb2)
        refine ⟨rfl, _, rfl, _, _, _, _, rfl, rfl, bT, atI_nat (j := 0) rfl, _, e9, ?_, same_put s9 hD, ?_⟩
        · rw [List.length_map, List.length_map]
          have z2 : (ps.take i).length ≤ ps.length := List.length_take_le' i ps
          exact Nat.lt_of_le_of_lt (by omega : _ ≤ 74) (by decide)
        · rw [upd_same, take_snoc hp2, List.map_append, List.map_append]
          rfl
      rintro H9 ⟨s9, e9⟩
      rw [lbV, List.take_length] at e9
      have rl9 := s9 _ _ rl8
      refine ⟨_, rfl, rl, rfl, ⟨_, .of rl9⟩, fun D2 hD2 => lc_it walk_list (fun i H' => Same H9 H' ∧ H' D2 = some (.lst (((ps.take i).map (·.2)).map V.int))) ⟨same_upd hD2, upd_same⟩ (fun _ H' _ z => .of (z.1 _ _ rl9)) ?_ ?_⟩
      · rintro i _ _ H10 hi ⟨s10, e10⟩ ⟨rfl, hx⟩
        obtain ⟨b, hb1, rfl⟩ := map_at hx
        obtain ⟨p, hb2, hp2⟩ := pair_l rp8 hb1
        have bT : SqT K H10 b (pl p) := .of (s10 _ _ (s9 _ _ hb2))
        refine ⟨rfl, _, rfl, _, _, _, _, rfl, rfl, bT, atI_nat (j := 1) rfl, _, e10, ?_, same_put s10 hD2, ?_⟩
        · rw [List.length_map, List.length_map]
          have z2 : (ps.take i).length ≤ ps.length := List.length_take_le' i ps
          exact Nat.lt_of_le_of_lt (by omega : _ ≤ 74) (by decide)
        · rw [upd_same, take_snoc hp2, List.map_append, List.map_append]
          rfl
      rintro H10 ⟨s10, e10⟩
      rw [lbV, List.take_length] at e10
      exact ⟨_, _, _, rfl, D, D2, rfl, Same.trans s8 (Same.trans s9 s10), s10 _ _ e9, e10⟩
    rintro _ H9 ⟨xl, yl, rfl, s9, xl9, yl9⟩
    have rl9 := s9 _ _ rl5
    have rp9 := pts_sam (samT_of s9) rp5
    refine ⟨fun σ' H' => ∃ dl, σ' = [some (net g), some (.str (S cs)), some (.ref rl), some (.ref z), some (.ref fo), some (.bl due), some (.ref xl), some (.ref yl), some (.int 0), some (.ref dl), none, none, none, none, none, none] ∧ Same H9 H' ∧ H' dl = some (.dT (kn ps)), ?_, ?_⟩
    · refine ⟨_, rfl, rl, rfl, ⟨_, .of rl9⟩, fun D hD => lc_it walk_list (fun i H' => Same H9 H' ∧ ∃ ts : List Addr, H' D = some (.lst (ts.map V.ref)) ∧ Paired (fun t b => H' t = some (.tup [.ref b, .bl true])) ts (bs.take i)) ⟨same_upd hD, [], upd_same, .nil⟩ (fun _ H' _ z => .of (z.1 _ _ rl9)) ?_ ?_⟩
      · rintro i _ _ H10 hi ⟨s10, ts, e10, p10⟩ ⟨rfl, hx⟩
        obtain ⟨b, hb1, rfl⟩ := map_at hx
        refine ⟨rfl, _, rfl, (small64 (n := 2) (by decide)), fun t ht => ?_⟩
        have st := same_upd (o := .tup [.ref b, .bl true]) ht
        refine ⟨ts.map V.ref, st _ _ e10, ?_, same_put (Same.trans s10 st) hD, ts ++ [t], by rw [upd_same, List.map_append]; rfl, ?_⟩
        · have z1 := Paired.length p10
          have z2 : (bs.take i).length ≤ bs.length := List.length_take_le' i bs
          rw [List.length_map]
          exact Nat.lt_of_le_of_lt (by omega : ts.length ≤ 74) (by decide)
        · rw [take_snoc hb1]
          have sm := samT_put (u := .lst (ts.map V.ref ++ [.ref t])) (st _ _ e10) fun _ z => nomatch z
          exact Paired.snoc (Paired.mapP p10 fun _ _ z => sm _ _ (st _ _ z)) (sm _ _ upd_same)
      rintro H10 ⟨s10, ts, e10, p10⟩
      rw [List.length_map, List.take_length] at p10
      have rp10 := pts_sam (samT_of s10) rp9
      have isp : Paired (IsP K H10) ts ((bs.zip ps).map fun z => t3 z.1 z.2) := by
        have A : ∀ {ts bs : List Addr} {ps : List (Int × Int)}, Paired (fun t b => H10 t = some (.tup [.ref b, .bl true])) ts bs → Pts H10 bs ps → Paired (IsP K H10) ts ((bs.zip ps).map fun z => t3 z.1 z.2) := by
          intro ts bs ps h1
          induction h1 generalizing ps with
          | nil => exact fun _ => .nil
          | cons a t ih =>
            intro h2
            cases h2 with
            | cons c e => exact .cons ⟨.of a, c⟩ (ih e)
        exact A p10 rp10
      refine ⟨D, ts, _, rfl, .of e10, isp, fun q hq => ⟨q, rfl, same_put s10 (Same.free s10 hq), ?_⟩⟩
      have e := putAll_kn bs ps [] lbs
      rw [upd_same, List.nil_append] at *
      rw [← e]
      rfl
    rintro _ H10 ⟨dl, rfl, s10, dl10⟩
    have s610 := Same.trans s9 s10
    have O10 := isO_same s610 O5
    have fo10 := s610 _ _ fo1
    have xl10 := s10 _ _ xl9
    have yl10 := s10 _ _ yl9
    obtain ⟨du, _, _, _, _, _, hoz, _⟩ := id O10
    have nx : ps.map (·.1) ≠ [] := fun y => hne (List.map_eq_nil_iff.mp y)
    have ny : ps.map (·.2) ≠ [] := fun y => hne (List.map_eq_nil_iff.mp y)
    have bdx : ∀ x ∈ ps.map (·.1), -1000000 ≤ x ∧ x ≤ 1000000 := by
      intro x hx
      obtain ⟨p, hp, rfl⟩ := List.mem_map.mp hx
      exact ⟨(hsmall p hp).1, (hsmall p hp).2.1⟩
    have bdy : ∀ x ∈ ps.map (·.2), -1000000 ≤ x ∧ x ≤ 1000000 := by
      intro x hx
      obtain ⟨p, hp, rfl⟩ := List.mem_map.mp hx
      exact (hsmall p hp).2.2
    have mnx := bdx _ (lmn_is nx).1
    have mxx := bdx _ (lmx_is nx).1
    have mny := bdy _ (lmn_is ny).1
    have mxy := bdy _ (lmx_is ny).1
    have lx : 0 < (ps.map (·.1)).length := List.length_pos_iff.mpr nx
    have ly : 0 < (ps.map (·.2)).length := List.length_pos_iff.mpr ny
    -- the two loops
    refine ⟨fun σ' H' => Same H10 H' ∧ ∃ v10 v11 v12 v13, σ' = [some (net g), some (.str (S cs)), some (.ref rl), some (.ref z), some (.ref fo), some (.bl due), some (.ref xl), some (.ref yl), some (.int (itot g ps)), some (.ref dl), v10, v11, v12, v13, none, none], ?_, ?_⟩
    · refine ⟨_, rfl, xl, ps.map (·.1), rfl, .of xl10, lx, fun m hm1 hm2 => ?_⟩
      obtain rfl : m = lmn (ps.map (·.1)) := Int.le_antisymm (hm2 _ (lmn_is nx).1) ((lmn_is nx).2 m hm1)
      refine ⟨_, _, rfl, rfl, _, rfl, xl, ps.map (·.1), rfl, .of xl10, lx, fun m hm3 hm4 => ?_⟩
      obtain rfl : m = lmx (ps.map (·.1)) := Int.le_antisymm ((lmx_is nx).2 m hm3) (hm4 _ (lmx_is nx).1)
      refine ⟨_, _, rfl, rfl, bx0 ps, lmx (ps.map (·.1)) + 2, rfl, ⟨by unfold bx0; omega, by unfold bx0; omega, by omega, by omega⟩, for_range (lo := bx0 ps) (n := bxn ps) (fun i σ' H' => Same H10 H' ∧ ∃ v10 v11 v12 v13, σ' = [some (net g), some (.str (S cs)), some (.ref rl), some (.ref z), some (.ref fo), some (.bl due), some (.ref xl), some (.ref yl),
          some (.int (((List.range i).map fun (i : Nat) => ((List.range (byn ps)).map fun (j : Nat) => inn g ps (bx0 ps + i) (by0 ps + j)).sum).sum)), some (.ref dl), v10, v11, v12, v13, none, none]) ⟨Same.refl _, none, none, none, none, rfl⟩ ?_ (fun σ' H' q => q)⟩
      rintro i σ' H11 hi ⟨s11, v10, v11, v12, v13, rfl⟩
      generalize hti : ((List.range i).map fun (i : Nat) => ((List.range (byn ps)).map fun (j : Nat) => inn g ps (bx0 ps + i) (by0 ps + j)).sum).sum = ti
      have yl11 := s11 _ _ yl10
      refine ⟨_, rfl, yl, ps.map (·.2), rfl, .of yl11, ly, fun m hm1 hm2 => ?_⟩
      obtain rfl : m = lmn (ps.map (·.2)) := Int.le_antisymm (hm2 _ (lmn_is ny).1) ((lmn_is ny).2 m hm1)
      refine ⟨_, _, rfl, rfl, _, rfl, yl, ps.map (·.2), rfl, .of yl11, ly, fun m hm3 hm4 => ?_⟩
      obtain rfl : m = lmx (ps.map (·.2)) := Int.le_antisymm ((lmx_is ny).2 m hm3) (hm4 _ (lmx_is ny).1)
      refine ⟨_, _, rfl, rfl, by0 ps, lmx (ps.map (·.2)) + 2, rfl, ⟨by unfold by0; omega, by unfold by0; omega, by omega, by omega⟩, for_range (lo := by0 ps) (n := byn ps) (fun j σ' H' => Same H10 H' ∧ ∃ v11 v12 v13, σ' = [some (net g), some (.str (S cs)), some (.ref rl), some (.ref z), some (.ref fo), some (.bl due), some (.ref xl), some (.ref yl),
          some (.int (ti + ((List.range j).map fun (j : Nat) => inn g ps (bx0 ps + i) (by0 ps + j)).sum)), some (.ref dl), some (.int (bx0 ps + i)), v11, v12, v13, none, none]) ⟨s11, v11, v12, v13, by simp⟩ ?_ ?_⟩
      · rintro j σ' H12 hj ⟨s12, v11, v12, v13, rfl⟩
        generalize htj : ti + ((List.range j).map fun (j : Nat) => inn g ps (bx0 ps + i) (by0 ps + j)).sum = tj
        generalize hx0 : bx0 ps + (i : Int) = x0 at *
        generalize hy0 : by0 ps + (j : Int) = y0 at *
        have O12 := isO_same s12 O10
        have fo12 := s12 _ _ fo10
        have dl12 := s12 _ _ dl10
        have ho12 := s12 _ _ hoz
        refine ⟨fun σ' H' => Same H12 H' ∧ ∃ (nl : Addr) (ns : List Int), σ' = [some (net g), some (.str (S cs)), some (.ref rl), some (.ref z), some (.ref fo), some (.bl due), some (.ref xl), some (.ref yl), some (.int tj), some (.ref dl), some (.int x0), some (.int y0), some (.ref nl), v13, none, none] ∧
          H' nl = some (.lst (ns.map V.int)) ∧ ns.Pairwise (· < ·) ∧ ∀ k, k ∈ ns ↔ k ∈ cvals g ps (x0, y0), ?_, ?_⟩
        · refine ⟨_, rfl, _, rfl, _, rfl, (small64 (n := 2) (by decide)), fun t ht => ?_⟩
          have st := same_upd (o := .tup (pl (x0, y0))) ht
          refine ⟨g, t, (x0, y0), rfl, .of upd_same, fun H13 l ts s13 l0 l1 tps => ⟨l, rfl, ⟨_, .of l1⟩, fun D hD => lc_it walk_list (fun i H' => Same H13 H' ∧ H' D = some (.lst (((cvals g ps (x0, y0)).take i).map V.int))) ⟨same_upd hD, upd_same⟩ (fun _ H' _ z => .of (z.1 _ _ l1)) ?_ ?_⟩⟩
          · rintro m _ _ H14 hm ⟨s14, e14⟩ ⟨rfl, hx⟩
            obtain ⟨q, hq1, rfl⟩ := map_at hx
            obtain ⟨c, hc1, hc2⟩ := pair_l tps hq1
            have hcv : (cvals g ps (x0, y0))[m]? = some ((valG (owin g ps) c).getD 0) := by unfold cvals; rw [List.getElem?_map, hc2]; rfl
            have fo14 := s14 _ _ (s13 _ _ (st _ _ fo12))
            refine ⟨rfl, _, rfl, fo, rfl, .inr ⟨_, .of fo14⟩, _, rfl, _, DGet.t (k := kI1 c) fo14 (by rw [kI1_kV]; exact s14 _ _ hc1), ?_⟩
            have e : (valV (encW (owin g ps)) (kI1 c)).getD (.int 0) = .int ((valG (owin g ps) c).getD 0) := by
              have e1 := val_enc (fun x : List Int => kI1 x) V.int kI1_inj (owin g ps) c
              have e1 : valV (encW (owin g ps)) (kI1 c) = (valG (owin g ps) c).map V.int := e1
              rw [e1]
              cases valG (owin g ps) c <;> rfl
            rw [e]
            refine ⟨_, e14, ?_, same_put s14 hD, ?_⟩
            · rw [List.length_map]
              have z2 : ((cvals g ps (x0, y0)).take m).length ≤ (cvals g ps (x0, y0)).length := List.length_take_le' m _
              have z3 := (cvals_len g ps (x0, y0)).1
              exact Nat.lt_of_le_of_lt (by omega : _ ≤ 6) (by decide)
            · rw [upd_same, take_snoc hcv, List.map_append]
              rfl
          rintro H14 ⟨s14, e14⟩
          have lcv : (ts.map V.ref).length = (cvals g ps (x0, y0)).length := by unfold cvals; rw [List.length_map, List.length_map, Paired.length tps]
          rw [lcv, List.take_length] at e14
          have z3 := (cvals_len g ps (x0, y0)).1
          have s1214 := Same.trans st (Same.trans s13 s14)
          refine ⟨D, cvals g ps (x0, y0), rfl, .of e14, by omega, fun q c hq hc => ?_⟩
          have hc6 := hc (cvals g ps (x0, y0)) fun k hk => hk
          refine ⟨q, _, c, rfl, upd_same, by omega, fun ns p pw mem len hp => ?_⟩
          have sq := same_put (o := SetO w q (fun j => decide (j ∈ cvals g ps (x0, y0))) c) s1214 (Same.free s1214 hq)
          exact ⟨same_put sq (Same.free sq hp), p, ns, rfl, upd_same, pw, fun k => (mem k).trans decide_eq_true_iff⟩
        rintro _ H13 ⟨s13, nl, ns, rfl, nl13, pw, mem⟩
        have O13 := isO_same s13 O12
        have dl13 := s13 _ _ dl12
        have ho13 := s13 _ _ ho12
        have nsne : (x0, y0) ∉ ps → ns = [pnum g ps (x0, y0)] := by
          intro hp
          refine sorted_one (fun k => (mem k).trans ?_) pw
          constructor
          · intro hk
            obtain ⟨c, hc, rfl⟩ := List.mem_map.mp hk
            exact hoff _ hp c hc
          · intro hk
            obtain ⟨v, hv⟩ := List.exists_mem_of_length_pos (cvals_len g ps (x0, y0)).2
            obtain ⟨c, hc, e⟩ := List.mem_map.mp hv
            rw [hk, ← hoff _ hp c hc]
            exact List.mem_map.mpr ⟨c, hc, rfl⟩
        generalize hdv : oaround g ps (x0, y0) = dv
        refine ⟨fun σ' H' => Same H13 H' ∧ σ' = [some (net g), some (.str (S cs)), some (.ref rl), some (.ref z), some (.ref fo), some (.bl due), some (.ref xl), some (.ref yl), some (.int tj), some (.ref dl), some (.int x0), some (.int y0), some (.ref nl), some dv, none, none], ?_, ?_⟩
        · refine ⟨_, rfl, _, rfl, (small64 (n := 2) (by decide)), fun t ht => ?_⟩
          have st := same_upd (o := .tup (pl (x0, y0))) ht
          refine ⟨_, rfl, dl, _, rfl, DGet.t (k := kp (x0, y0)) (st _ _ dl13) upd_same, ?_⟩
          rw [kn_val]
          by_cases hin : (x0, y0) ∈ ps
          · rw [if_pos hin]
            have e : dv = .non := by rw [← hdv]; exact if_pos hin
            rw [e]
            exact ⟨true, rfl, iteT ⟨st, rfl⟩⟩
          · rw [if_neg hin]
            have e : dv = .int (pnum g ps (x0, y0)) := by rw [← hdv]; exact if_neg hin
            rw [e]
            refine ⟨false, rfl, iteF ⟨_, rfl, _, _, _, .int (pnum g ps (x0, y0)), rfl, rfl, .of (st _ _ nl13), atI_nat (j := 0) (by rw [nsne hin]; rfl), st, rfl⟩⟩
        rintro _ H14 ⟨s14, rfl⟩
        have O14 := isO_same s14 O13
        have ho14 := s14 _ _ ho13
        have nl14 := s14 _ _ nl13
        have sofar := Same.trans s12 (Same.trans s13 s14)
        have fin : ∀ v : Int, v = inn g ps x0 y0 → tj + v = ti + ((List.range (j + 1)).map fun (j : Nat) => inn g ps x0 (by0 ps + j)).sum := by
          intro v hv
          rw [← htj, hv, List.range_succ, List.map_append, List.sum_append, ← hy0]
          simp only [List.map_cons, List.map_nil, List.sum_cons, List.sum_nil]
          omega
        refine ⟨_, rfl, z, du, _, rfl, ho14, oF_ar _ _ _ _ _ _ _, _, rfl, _, rfl, (small64 (n := 2) (by decide)), fun t ht => ?_⟩
        have st := same_upd (o := .tup (pl (x0, y0))) ht
        refine ⟨z, t, g, ps, (x0, y0), rfl, isO_same st O14, upd_same, hrr, fun H15 s15 => ?_⟩
        rw [hdv]
        have s1415 := Same.trans st s15
        have fin15 := Same.trans sofar s1415
        have nl15 := s1415 _ _ nl14
        by_cases hin : (x0, y0) ∈ ps
        · have e : dv = .non := by rw [← hdv]; exact if_pos hin
          rw [e]
          have ei : (0 : Int) = inn g ps x0 y0 := by
            unfold inn
            rw [if_neg (fun q => q.1 hin)]
          refine ⟨_, rfl, rfl, _, rfl, iteF ⟨_, rfl, rfl, _, rfl, iteF ?_⟩⟩
          refine ⟨_, rfl, _, rfl, rfl, false, rfl, iteF (.inr ⟨false, rfl, _, _, rfl, rfl, fin15, some (.int y0), some (.ref nl), some .non, ?_⟩)⟩
          rw [← fin 0 ei]
          rfl
        · have e : dv = .int (pnum g ps (x0, y0)) := by rw [← hdv]; exact if_neg hin
          have e2 := nsne hin
          rw [e]
          refine ⟨_, rfl, rfl, _, rfl, itb (b := false) (by simp) (iteF ⟨_, rfl, rfl, _, rfl, iteT ⟨_, rfl, _, _, rfl, .inl (.of nl15), _, _, rfl, rfl, _, rfl, itb (b := false) ?_ (iteF ?_)⟩⟩)⟩
          · rw [e2]
            rfl
          · refine ⟨_, rfl, _, rfl, rfl, true, rfl, iteT ⟨_, rfl, rfl, .inr ⟨!decide (V.int (pnum g ps (x0, y0)) = V.int 0), rfl, _, _, rfl, rfl, fin15, some (.int y0), some (.ref nl), some (.int (pnum g ps (x0, y0))), ?_⟩⟩⟩
            rw [← fin (if (!decide (V.int (pnum g ps (x0, y0)) = V.int 0)) = true then 1 else 0) ?_]
            · rfl
            · exact inn_is hin
      · rintro σ' H12 ⟨s12, v11, v12, v13, rfl⟩
        refine ⟨s12, some (.int (bx0 ps + i)), v11, v12, v13, ?_⟩
        rw [← hti, List.range_succ, List.map_append, List.sum_append]
        simp
    rintro _ H11 ⟨s11, v10, v11, v12, v13, rfl⟩
    have O11 := isO_same s11 O10
    have kk := k H11 (Same.trans S5 (Same.trans s610 s11))
    refine ⟨_, rfl, z, du, _, rfl, s11 _ _ hoz, z, g, ps, rfl, O11, _, rfl, rfl, ?_⟩
    rw [hinner]
    have e : decide (V.int (itot g ps) = V.int (itot g ps)) = true := by simp
    rw [e]
    exact kk
end
end K53
set_option maxHeartbeats 8000000
namespace K53
open PySem PySem.Spec PyProof.Rows L2
open C8 (fnScope_by pe_mk pe_mt pe_mt0 InsC)
open SX (S)
theorem but_none {s : Addr} {H H' : Hp} (b : But s H H') (h : H s = none) : Same H H' := fun c o e => b c o (fun z => by rw [z, h] at e; cases e) e
/-- the plain law -/
theorem wF_mi (g : Bool) (cs : List Nat) (m p : Addr) : (wF g cs m p).lookup (Str.ofString "mirror") = none := by kernel_rfl
theorem isS_nl {H : Hp} {s m : Addr} {as : List Addr} (i : isS H s) (h : H m = some (.lst (as.map V.ref))) : m ≠ s := by
  rintro rfl
  obtain ⟨a, b, e, _⟩ := i
  rw [h] at e
  match as, e with
  | [], e => cases e
  | _ :: _, e => cases e
theorem isW_butS {CW s : Addr} {H H' : Hp} {a : Addr} {g : Bool} {cs : List Nat} (b : But s H H') (i : isS H s) (h : isW CW H a g cs) : isW CW H' a g cs := by
  obtain ⟨dx, m, p, as, bs, h1, h2, h3, h4, h5, h6⟩ := h
  have st : SamT H H' := fun c xs e => b c _ (fun z => by obtain ⟨_, _, e2, _⟩ := i; rw [z, e2] at e; cases e) e
  exact ⟨dx, m, p, as, bs, b _ _ (fun z => by obtain ⟨_, _, e2, _⟩ := i; rw [z, e2] at h1; cases h1) h1, b _ _ (isS_nl i h2) h2, mvs_sam st h3, b _ _ (isS_nl i h4) h4, pts_sam st h5, h6⟩
structure PlainLaw : Prop where
  right : ∀ g cs, Clo g cs → RightF g cs
  fb : ∀ g, Clo g [70, 66]
  grown : ∀ g ws, Grown g ws → Clo g (cmds g ws) ∧ osimple (lplaces g (cmds g ws)) = true ∧ (2 * (cmds g ws).length ≤ 200 → Clo g (cmds g ws ++ cmds g ws)) ∧ Clo g ((cmds g ws).map mir1) ∧ Clo g ((cmds g ws).reverse.map inv1)
theorem FB_S : Str.ofString "FB" = S [70, 66] := by kernel_rfl
theorem mul_2 (cs : List Nat) : Txt.mul (S cs) ((2 : Nat) : Int) = S (cs ++ cs) := by
  rw [mul_S]
  congr 1
  simp [List.replicate]
section
variable {P : Program} {w : World} {K : PySem.W.Frag} {mg : Str → Option Value} {base : Heap} {CO CL CW sS : Addr}
def spLaw (K : PySem.W.Frag) : Sp := fun vs H Q _ => ∃ (l : Addr) (is : List Int), vs = [.ref l] ∧ SqL K H l (is.map V.int) ∧ ∀ H', Same H H' → Q (.bl true) H'
abbrev n81 : List Str := ["_law_script", "_law_k", "_law_source_here", "_law_kind_here", "_law_text", "_law_walk", "_law_doubled", "_law_other"]
theorem sc81 : FnScope n81 ["_law_script"] (L2.defScope (top 81)) := fnScope_by (by decide +kernel)
theorem law_ok (PL : PlainLaw) (T : TxB K mg) {fL : Addr} {fdL : FuncData} (d : FunT K "law" "law" (top 81) fL fdL) (c1 : Cal P w K mg base 1 "_law_source" (spSrc K)) (c2 : Cal P w K mg base 3 "_law_grown" spGrown) (cw : Mak P w K mg base 3 "Walk" CW (spWInit CW)) (cl : Mak P w K mg base 8 "Loop" CL (spLInit CL CW)) (co : Mak P w K mg base 5 "Outline" CO (spOInit CO CL CW))
    (c3 : Prp P w K mg base 1 CO "is_simple" (spOSimple CO)) (c4 : Cal P w K mg base 12 "_law_right" spRight) (c5 : Prp P w K mg base 1 CW "commands" (spWCom CW)) (c6 : Cal P w K mg base 10 "_law_closed" spClosed) (c7 : Met P w K mg base 5 CW "mirror" (spWMir CW)) (c8 : Met P w K mg base 5 CW "__invert__" (spWInv CW)) : FnOk P w K mg base CX0 14 fL fdL ["_law_script"] (spLaw K) := by
  refine okT d sc81 (fun vs H Q E h => ?_) (fun f cdv A outer s0 H vs Q E hr h => ?_)
  · obtain ⟨l, is, rfl, _⟩ := h
    rfl
  · obtain ⟨l, is, rfl, hl, k⟩ := h
    refine ⟨_, (pss_cons (ps_for PassesOwn.never rfl (pi_range1 (by rfl) T.range (pa_cons (pe_callB (call_max2 rfl) (by rfl) T.max (by decide +kernel) (pa_cons pe_int (pa_cons (pe_callB (call_min2 rfl) (by rfl) T.min (by decide +kernel) (pa_cons (pe_callB call_len_seq (by rfl) T.len PySem.boot_len (pa_cons (pv 0) pa_nil)) (pa_cons pe_int pa_nil))) pa_nil))) pa_nil)) (pg_name (i := 1) sc81.nd rfl (Or.inl rfl)) (pss_cons (ps_set (i := 2) sc81.nd rfl (Or.inl rfl) (C8.pe_c c1 hr (by decide) rfl (pa_cons (pv 0) (pa_cons (pv 1) pa_nil)))) (pss_one (ps_for PassesOwn.never rfl (pi_list (pe_lst (pa_cons pe_str (pa_cons pe_str pa_nil)))) (pg_name (i := 3) sc81.nd rfl (Or.inl rfl)) (pss_cons (ps_set (i := 4) sc81.nd rfl (Or.inl rfl) (C8.pe_c c2 hr (by decide) rfl (pa_cons (pv 2) (pa_cons (pv 3) pa_nil))))
          (pss_cons (ps_if (PW.pt (pw_or (pt_not (pt_val (pe_pr c3 hr (by decide) (C8.pe_mk co hr (by decide) rfl (pa_cons (C8.pe_mk cl hr (by decide) rfl (pa_cons (C8.pe_mk cw hr (by decide) rfl (pa_cons (pv 3) (pa_cons (pv 4) pa_nil))) pa_nil)) pa_nil))))) (pw_or1 (pt_not (pt_val (C8.pe_c c4 hr (by decide) rfl (pa_cons (pv 3) (pa_cons (pv 4) pa_nil)))))))) (pss_one (ps_ret pe_bl)) pss_nil)
          (pss_cons (ps_set (i := 5) sc81.nd rfl (Or.inl rfl) (C8.pe_mk cw hr (by decide) rfl (pa_cons (pv 3) (pa_cons (pv 4) pa_nil))))
          (C8.pss_cut (ps_set (i := 6) sc81.nd rfl (Or.inl rfl) (pe_ifExp (pt_cmpR op_le (pe_op op_mul pe_int (pe_callB call_len_str (by rfl) T.len PySem.boot_len (pa_cons (pv 4) pa_nil))) pe_int (nomark _)) (pe_op op_mulS (pe_pr c5 hr (by decide) (pv 5)) pe_int) pe_str))
          (pss_one (ps_for PassesOwn.never rfl (pi_list (pe_lst (pa_cons (C8.pe_c c6 hr (by decide) rfl (pa_cons (pv 2) (pa_cons (pv 3) (pa_cons pe_int pa_nil)))) (pa_cons pe_str (pa_cons (pv 6) (pa_cons (pe_pr c5 hr (by decide) (pe_mt0 c7 hr (by decide) (pv 5))) (pa_cons (pe_pr c5 hr (by decide) (pe_un (un_invO c8 hr) (pv 5))) pa_nil))))))) (pg_name (i := 7) sc81.nd rfl (Or.inl rfl)) (pss_one (ps_if (pt_not (pt_val (C8.pe_c c4 hr (by decide) rfl (pa_cons (pv 3) (pa_cons (pv 7) pa_nil))))) (pss_one (ps_ret pe_bl)) pss_nil)))))))))))) (pss_one (ps_ret pe_bl))), ?_⟩
    refine ⟨_, rfl, _, _, rfl, .inl hl, _, _, rfl, _, _, rfl, ?_⟩
    generalize hn : (if (if (6 : Int) < ((is.map V.int).length : Nat) then (6 : Int) else ((is.map V.int).length : Nat)) > 1 then (if (6 : Int) < ((is.map V.int).length : Nat) then (6 : Int) else ((is.map V.int).length : Nat)) else 1) = n
    have hn6 : 0 ≤ n ∧ n ≤ 6 := by
      rw [← hn]
      split
      · split <;> omega
      · omega
    refine ⟨n, rfl, by omega, by omega, for_range (n := n.toNat) (fun i σ' H' => ∃ v1 v2 v3 v4 v5 v6 v7, σ' = [some (.ref l), v1, v2, v3, v4, v5, v6, v7] ∧ Same H H') ⟨none, none, none, none, none, none, none, rfl, Same.refl H⟩ ?_ ?_⟩
    · rintro i σ' H1 hi ⟨v1, v2, v3, v4, v5, v6, v7, rfl, s1⟩
      have ei : (0 : Int) + i = ((i : Nat) : Int) := by omega
      refine ⟨_, rfl, _, rfl, l, is, i, by rw [ei]; rfl, s1.seq hl, by omega, fun H2 s s2 s0' isS2 => ?_⟩
      have nos : H s = none := Same.free s1 s0'
      refine ⟨(small64 (n := 2) (by decide)), fun kl hkl => ⟨kl, rfl, ⟨_, .of upd_same⟩, for_list (K := K) (a := kl) (xs := [net false, net true]) (fun j σ' H' => ∃ v3 v4 v5 v6 v7, σ' = [some (.ref l), some (.int (0 + i)), some (.ref s), v3, v4, v5, v6, v7] ∧ Same H H' ∧ isS H' s ∧ H' kl = some (.lst [net false, net true]))
        ⟨v3, v4, v5, v6, v7, rfl, Same.trans s1 (Same.trans s2 (same_upd hkl)), isS_same (same_upd hkl) isS2, upd_same⟩ (fun j σ' H' _ z => ?_) ?_ ?_⟩⟩
      · obtain ⟨_, _, _, _, _, _, _, _, e⟩ := z
        exact .of e
      · have nks : kl ≠ s := fun z => by obtain ⟨_, _, h, _⟩ := isS2; rw [← z, hkl] at h; cases h
        rintro j x σ' H3 hx ⟨v3, v4, v5, v6, v7, rfl, s3, i3, k3⟩
        obtain ⟨g, rfl⟩ : ∃ g, x = net g := by
          match j, hx with
          | 0, hx => exact ⟨false, (Option.some.inj hx).symm⟩
          | 1, hx => exact ⟨true, (Option.some.inj hx).symm⟩
        refine ⟨_, rfl, _, rfl, s, g, rfl, i3, fun H4 ws b4 i4 gr => ?_⟩
        obtain ⟨CC, simp_, dbl, mirr, invv⟩ := PL.grown g ws gr
        have RC := PL.right g _ CC
        have s4 : Same H H4 := but_none (but_trans (same_but s3) b4) nos
        have k4 : H4 kl = some (.lst [net false, net true]) := b4 _ _ nks k3
        refine ⟨_, rfl, _, rfl, ?_⟩
        intro x dx nx ndx nex; refine ⟨x, dx, g, cmds g ws, rfl, CC.ok, CC.len, upd_same, fun H5 hW btx => ⟨rfl, ?_⟩⟩; have s5 := Same.made nx ndx fun b o e n => btx b o n e
        intro y dy ny ndy ney; refine ⟨y, dy, x, g, cmds g ws, rfl, upd_same, isW_same (same_put (same_upd ndy) ny) hW, (ms_ne CC.mv), fun H6 hL bty => ⟨rfl, ?_⟩⟩; have s6 := Same.made ny ndy fun b o e n => bty b o n e
        intro z dz nz ndz nez; refine ⟨z, dz, y, g, cmds g ws, rfl, upd_same, isL_same (same_put (same_upd ndz) nz) hL, CC.per, RC.ok, fun H7 hO btz => ⟨rfl, ?_⟩⟩; have s7 := Same.made nz ndz fun b o e n => btz b o n e
        obtain ⟨du, _, _, _, _, _, ho, _⟩ := id hO
        have s8 : Same H4 H7 := Same.trans s5 (Same.trans s6 s7)
        refine ⟨z, du, _, rfl, ho, z, g, lplaces g (cmds g ws), rfl, hO, true, by rw [simp_], iteF ⟨_, rfl, _, rfl, g, _, rfl, RC, fun H8 s9 => ⟨true, rfl, iteF ?_⟩⟩⟩
        have s10 : Same H4 H8 := Same.trans s8 s9
        refine ⟨_, rfl, _, rfl, ?_⟩
        intro x2 dx2 nx2 ndx2 nex2; refine ⟨x2, dx2, g, cmds g ws, rfl, CC.ok, CC.len, upd_same, fun H9 hW9 btx2 => ⟨rfl, ?_⟩⟩; have s11 := Same.made nx2 ndx2 fun b o e n => btx2 b o n e
        have s12 : Same H H9 := Same.trans s4 (Same.trans s10 s11)
        have s13 : Same H4 H9 := Same.trans s10 s11
        have i9 : isS H9 s := isS_same s13 i4
        have k9 : H9 kl = some (.lst [net false, net true]) := s13 _ _ k4
        obtain ⟨dw, mw, pw, asw, bsw, haw, _⟩ := id hW9
        refine ⟨fun σ' H' => ∃ dd, Clo g dd ∧ H' = H9 ∧ σ' = [some (.ref l), some (.int (0 + i)), some (.ref s), some (net g), some (.str (S (cmds g ws))), some (.ref x2), some (.str (S dd)), v7], ?_, ?_⟩
        · refine ⟨_, rfl, _, rfl, by rw [SX.S_len]; exact Nat.le_trans CC.len (by decide), _, _, rfl, rfl, .inl ⟨by decide, by decide⟩, _, _, rfl, rfl, _, rfl, ite2 (fun h => ?_) fun h => ?_⟩
          · have h := of_decide_eq_true h
            rw [SX.S_len] at h
            refine ⟨_, rfl, x2, dw, _, rfl, haw, x2, g, _, rfl, hW9, S (cmds g ws), 2, rfl, rfl, by rw [SX.S_len]; have := CC.len; omega, by decide, ?_⟩
            rw [mul_2]
            exact ⟨_, dbl (by omega), rfl, rfl⟩
          · rw [FB_S]
            exact ⟨_, PL.fb g, rfl, rfl⟩
        · rintro _ H9 ⟨dd, Cd, rfl, rfl⟩
          refine ⟨_, rfl, _, rfl, s, g, 12, rfl, by decide, by decide, i9, fun Ha c1 ba ia Ca => ?_⟩
          have wa : isW CW Ha x2 g (cmds g ws) := isW_butS ba i9 hW9
          have haw' := ba _ _ (fun z => by obtain ⟨_, _, e2, _⟩ := i9; rw [z, e2] at haw; cases haw) haw
          refine ⟨_, rfl, _, rfl, x2, dw, _, rfl, haw', wF_mi _ _ _ _, x2, g, _, rfl, wa, fun Hb xm sm wm => ?_⟩
          obtain ⟨dm, m1, m2, m3, m4, ham, _⟩ := id wm
          refine ⟨xm, dm, _, rfl, ham, xm, g, _, rfl, wm, _, rfl, x2, dw, _, rfl, sm _ _ haw', x2, g, _, rfl, isW_same sm wa, fun Hc xi si wi => ?_⟩
          obtain ⟨di, m1, m2, m3, m4, hai, _⟩ := id wi
          refine ⟨xi, di, _, rfl, hai, xi, g, _, rfl, wi, (small64 (n := 5) (by decide)), fun tl htl => ⟨tl, rfl, ⟨_, .of upd_same⟩, ?_⟩⟩
          have all : ∀ x ∈ [V.str (S c1), V.str (Str.ofString "FB"), V.str (S dd), V.str (S ((cmds g ws).map mir1)), V.str (S ((cmds g ws).reverse.map inv1))], ∃ cs, x = V.str (S cs) ∧ Clo g cs := by
            intro x hx
            simp only [List.mem_cons, List.not_mem_nil, or_false] at hx
            rcases hx with h | h | h | h | h
            · exact ⟨_, h, Ca⟩
            · exact ⟨[70, 66], by rw [h, FB_S], PL.fb g⟩
            · exact ⟨_, h, Cd⟩
            · exact ⟨_, h, mirr⟩
            · exact ⟨_, h, invv⟩
          have sC : Same Ha Hc := Same.trans sm si
          have s14 : Same H Hc := Same.trans (but_none (but_trans (same_but s12) ba) nos) sC
          have i14 : isS Hc s := isS_same sC ia
          have k14 : Hc kl = some (.lst [net false, net true]) := sC _ _ (ba _ _ nks k9)
          refine for_list (K := K) (a := tl) (xs := [V.str (S c1), V.str (Str.ofString "FB"), V.str (S dd), V.str (S ((cmds g ws).map mir1)), V.str (S ((cmds g ws).reverse.map inv1))]) (fun _ σ' H' => Same (upd Hc tl (.lst [V.str (S c1), V.str (Str.ofString "FB"), V.str (S dd), V.str (S ((cmds g ws).map mir1)), V.str (S ((cmds g ws).reverse.map inv1))])) H' ∧ ∃ u, σ' = [some (.ref l), some (.int (0 + i)), some (.ref s), some (net g), some (.str (S (cmds g ws))), some (.ref x2), some (.str (S dd)), u])
            ⟨Same.refl _, v7, rfl⟩ (fun _ _ _ _ z => .of (z.1 _ _ upd_same)) ?_ ?_
          · rintro j2 x σ' H' hx ⟨q1, u, rfl⟩
            obtain ⟨cs, rfl, Cs⟩ := all x (List.mem_of_getElem? hx)
            refine ⟨_, rfl, _, rfl, g, cs, rfl, PL.right g cs Cs, fun H'' q2 => ⟨true, rfl, iteF ⟨Same.trans q1 q2, _, rfl⟩⟩⟩
          · rintro σ' H' ⟨q1, u, rfl⟩
            have q2 : Same Hc H' := Same.trans (same_upd htl) q1
            exact ⟨_, _, _, _, _, rfl, Same.trans s14 q2, isS_same q2 i14, q2 _ _ k14⟩
      · rintro σ' H3 ⟨v3, v4, v5, v6, v7, rfl, s3, _, _⟩
        exact ⟨_, _, _, _, _, _, _, rfl, s3⟩
    · rintro σ' H1 ⟨v1, v2, v3, v4, v5, v6, v7, rfl, s1⟩
      exact k H1 s1
end
end K53
set_option maxHeartbeats 4000000
set_option maxHeartbeats 4000000
namespace Jd
def sx (d : Nat) : Int := if d = 0 then 1 else if d = 1 then 0 else if d = 2 then -1 else if d = 3 then -1 else if d = 4 then 0 else 1
def sy (d : Nat) : Int := if d = 0 then 0 else if d = 1 then 1 else if d = 2 then 1 else if d = 3 then 0 else if d = 4 then -1 else -1
def S (f : Nat → Int) : Nat → Int
  | 0 => 0
  | n + 1 => S f n + f n
theorem S_congr {f g : Nat → Int} {n : Nat} (h : ∀ i, i < n → f i = g i) : S f n = S g n := by
  induction n with
  | zero => rfl
  | succ n ih => simp only [S]; rw [ih (fun i hi => h i (by omega)), h n (by omega)]
theorem S_add (f g : Nat → Int) (n : Nat) : S (fun i => f i + g i) n = S f n + S g n := by
  induction n with
  | zero => rfl
  | succ n ih => simp only [S, ih]; omega
theorem S_sub (f g : Nat → Int) (n : Nat) : S (fun i => f i - g i) n = S f n - S g n := by
  induction n with
  | zero => rfl
  | succ n ih => simp only [S, ih]; omega
theorem S_tel (g : Nat → Int) (n : Nat) : S (fun i => g (i+1) - g i) n = g n - g 0 := by
  induction n with
  | zero => simp [S]
  | succ n ih => simp only [S, ih]; omega
theorem S_zero {f : Nat → Int} {n : Nat} (h : ∀ i, i < n → f i = 0) : S f n = 0 := by
  induction n with
  | zero => rfl
  | succ n ih => simp only [S]; rw [ih (fun i hi => h i (by omega)), h n (by omega)]; rfl
def cr (ax ay bx by' q r : Int) : Int := if by' = ay + 1 ∧ ay = r ∧ q < ax + bx then 1 else if ay = by' + 1 ∧ by' = r ∧ q < ax + bx then -1 else 0
structure Path (n : Nat) (x y : Nat → Int) (d : Nat → Nat) : Prop where
  pos : 0 < n
  dlt : ∀ i, d i < 6
  hx : ∀ i, x (i+1) = x i + sx (d i)
  hy : ∀ i, y (i+1) = y i + sy (d i)
  px : ∀ i, x (i+n) = x i
  py : ∀ i, y (i+n) = y i
  pd : ∀ i, d (i+n) = d i
def N (n : Nat) (x y : Nat → Int) (r q : Int) : Int := S (fun i => cr (x i) (y i) (x (i+1)) (y (i+1)) q r) n
def sr (y : Int) (j : Nat) : Int := if j < 3 then y else y - 1
def sq (x : Int) (j : Nat) : Int := if j = 0 then 2*x else if j = 1 then 2*x-1 else if j = 2 then 2*x-2 else if j = 3 then 2*x-1 else if j = 4 then 2*x else 2*x+1
def W (n : Nat) (x y : Nat → Int) (px py : Int) (j : Nat) : Int := N n x y (sr py j) (sq px j)
def ed (x y : Nat → Int) (d : Nat → Nat) (px py : Int) (j i : Nat) : Int := (if x i = px ∧ y i = py ∧ d i = j then 1 else 0) - (if x (i+1) = px ∧ y (i+1) = py ∧ d i = (j+3)%6 then 1 else 0)

theorem six {d : Nat} (h : d < 6) : d = 0 ∨ d = 1 ∨ d = 2 ∨ d = 3 ∨ d = 4 ∨ d = 5 := by omega

theorem edge_pt {n : Nat} {x y : Nat → Int} {d : Nat → Nat} (h : Path n x y d) (px py : Int) (j i : Nat) (hj : j = 1 ∨ j = 2 ∨ j = 4 ∨ j = 5) :
    cr (x i) (y i) (x (i+1)) (y (i+1)) (sq px j) (sr py j) - cr (x i) (y i) (x (i+1)) (y (i+1)) (sq px ((j+5)%6)) (sr py ((j+5)%6)) = ed x y d px py j i := by
  have h1 := h.hx i
  have h2 := h.hy i
  unfold ed
  generalize x (i+1) = bx at *
  generalize y (i+1) = by' at *
  generalize x i = ax at *
  generalize y i = ay at *
  rcases six (h.dlt i) with e | e | e | e | e | e <;> simp only [e] at * <;> rcases hj with e' | e' | e' | e' <;> subst e' <;> simp only [sx, sy, cr, sq, sr] at * <;> simp at * <;> subst h1 <;> subst h2 <;> (repeat' split) <;> omega
theorem edge0_pt {n : Nat} {x y : Nat → Int} {d : Nat → Nat} (h : Path n x y d) (px py : Int) (i : Nat) :
    cr (x i) (y i) (x (i+1)) (y (i+1)) (sq px 0) (sr py 0) - cr (x i) (y i) (x (i+1)) (y (i+1)) (sq px 5) (sr py 5) = ed x y d px py 0 i
      - ((fun i => if y i = py ∧ px < x i then (1:Int) else 0) (i+1) - (fun i => if y i = py ∧ px < x i then (1:Int) else 0) i) := by
  have h1 := h.hx i
  have h2 := h.hy i
  unfold ed
  simp only []
  generalize x (i+1) = bx at *
  generalize y (i+1) = by' at *
  generalize x i = ax at *
  generalize y i = ay at *
  rcases six (h.dlt i) with e | e | e | e | e | e <;> simp only [e] at * <;> simp only [sx, sy, cr, sq, sr] at * <;> simp at * <;> subst h1 <;> subst h2 <;> (repeat' split) <;> omega
theorem edge3_pt {n : Nat} {x y : Nat → Int} {d : Nat → Nat} (h : Path n x y d) (px py : Int) (i : Nat) :
    cr (x i) (y i) (x (i+1)) (y (i+1)) (sq px 3) (sr py 3) - cr (x i) (y i) (x (i+1)) (y (i+1)) (sq px 2) (sr py 2) = ed x y d px py 3 i
      + ((fun i => if y i = py ∧ px ≤ x i then (1:Int) else 0) (i+1) - (fun i => if y i = py ∧ px ≤ x i then (1:Int) else 0) i) := by
  have h1 := h.hx i
  have h2 := h.hy i
  unfold ed
  simp only []
  generalize x (i+1) = bx at *
  generalize y (i+1) = by' at *
  generalize x i = ax at *
  generalize y i = ay at *
  rcases six (h.dlt i) with e | e | e | e | e | e <;> simp only [e] at * <;> simp only [sx, sy, cr, sq, sr] at * <;> simp at * <;> subst h1 <;> subst h2 <;> (repeat' split) <;> omega

theorem edge {n : Nat} {x y : Nat → Int} {d : Nat → Nat} (h : Path n x y d) (px py : Int) (j : Nat) (hj : j < 6) :
    W n x y px py j - W n x y px py ((j+5)%6) = S (ed x y d px py j) n := by
  have hp : ∀ (c : Int → Int → Int), (fun i => c (x i) (y i)) n = (fun i => c (x i) (y i)) 0 := by
    intro c
    have a := h.px 0
    have b := h.py 0
    simp only [Nat.zero_add] at a b
    simp only [a, b]
  by_cases h0 : j = 0
  · subst h0
    have e : S (ed x y d px py 0) n = S (fun i => ed x y d px py 0 i - ((fun i => if y i = py ∧ px < x i then (1:Int) else 0) (i+1) - (fun i => if y i = py ∧ px < x i then (1:Int) else 0) i)) n := by
      rw [S_sub (ed x y d px py 0) (fun i => (fun i => if y i = py ∧ px < x i then (1:Int) else 0) (i+1) - (fun i => if y i = py ∧ px < x i then (1:Int) else 0) i), S_tel (fun i => if y i = py ∧ px < x i then (1:Int) else 0)]
      have := hp (fun x y => if y = py ∧ px < x then (1:Int) else 0)
      simp only [] at this ⊢
      omega
    rw [e]
    show N n x y (sr py 0) (sq px 0) - N n x y (sr py 5) (sq px 5) = _
    unfold N
    rw [← S_sub]
    exact S_congr fun i _ => edge0_pt h px py i
  · by_cases h3 : j = 3
    · subst h3
      have e : S (ed x y d px py 3) n = S (fun i => ed x y d px py 3 i + ((fun i => if y i = py ∧ px ≤ x i then (1:Int) else 0) (i+1) - (fun i => if y i = py ∧ px ≤ x i then (1:Int) else 0) i)) n := by
        rw [S_add (ed x y d px py 3) (fun i => (fun i => if y i = py ∧ px ≤ x i then (1:Int) else 0) (i+1) - (fun i => if y i = py ∧ px ≤ x i then (1:Int) else 0) i), S_tel (fun i => if y i = py ∧ px ≤ x i then (1:Int) else 0)]
        have := hp (fun x y => if y = py ∧ px ≤ x then (1:Int) else 0)
        simp only [] at this ⊢
        omega
      rw [e]
      show N n x y (sr py 3) (sq px 3) - N n x y (sr py 2) (sq px 2) = _
      unfold N
      rw [← S_sub]
      exact S_congr fun i _ => edge3_pt h px py i
    · unfold W N
      rw [← S_sub]
      exact S_congr fun i _ => edge_pt h px py j i (by omega)

/-- a place off the ring: all cells around have one winding -/
theorem off {n : Nat} {x y : Nat → Int} {d : Nat → Nat} (h : Path n x y d) (px py : Int) (ho : ∀ i, i < n → ¬ (x i = px ∧ y i = py)) (j : Nat) (hj : j < 6) : W n x y px py j = W n x y px py 0 := by
  have z : ∀ j, j < 6 → W n x y px py j = W n x y px py ((j+5)%6) := by
    intro j hj
    have e := edge h px py j hj
    rw [S_zero] at e
    · omega
    · intro i hi
      unfold ed
      have a := ho i hi
      have b : ¬ (x (i+1) = px ∧ y (i+1) = py) := by
        by_cases q : i + 1 < n
        · exact ho _ q
        · have q' : i + 1 = 0 + n := by omega
          rw [q', h.px, h.py]
          exact ho 0 h.pos
      rw [if_neg (fun c => a ⟨c.1, c.2.1⟩), if_neg (fun c => b ⟨c.1, c.2.1⟩)]
      rfl
  have z1 := z 1 (by omega)
  have z2 := z 2 (by omega)
  have z3 := z 3 (by omega)
  have z4 := z 4 (by omega)
  have z5 := z 5 (by omega)
  simp only [show (1+5)%6 = 0 from rfl, show (2+5)%6 = 1 from rfl, show (3+5)%6 = 2 from rfl, show (4+5)%6 = 3 from rfl, show (5+5)%6 = 4 from rfl] at z1 z2 z3 z4 z5
  rcases six hj with e | e | e | e | e | e <;> subst e <;> omega

/-- the winding far right is 0, and between two crossings it stays -/
theorem N_far {n : Nat} {x y : Nat → Int} {r q : Int} (hf : ∀ i, i < n → x i + x (i+1) ≤ q) : N n x y r q = 0 := by
  unfold N
  refine S_zero fun i hi => ?_
  have := hf i hi
  unfold cr
  rw [if_neg (by omega), if_neg (by omega)]
theorem N_step {n : Nat} {x y : Nat → Int} {r q : Int} (hf : ∀ i, i < n → ¬ (x i + x (i+1) = q ∧ ((y (i+1) = y i + 1 ∧ y i = r) ∨ (y i = y (i+1) + 1 ∧ y (i+1) = r)))) : N n x y r (q-1) = N n x y r q := by
  unfold N
  refine S_congr fun i hi => ?_
  have := hf i hi
  unfold cr
  repeat' split
  all_goals omega
/-- no crossing to the left of q: the winding is 0, for the row's total is -/
theorem N_row {n : Nat} {x y : Nat → Int} {d : Nat → Nat} (h : Path n x y d) (r q : Int) (hf : ∀ i, i < n → q < x i + x (i+1)) : N n x y r q = 0 := by
  have e : N n x y r q = S (fun i => (fun i => if y i ≤ r then (0:Int) else 1) (i+1) - (fun i => if y i ≤ r then (0:Int) else 1) i) n := by
    unfold N
    refine S_congr fun i hi => ?_
    have := hf i hi
    have h2 := h.hy i
    have h3 : -1 ≤ sy (d i) ∧ sy (d i) ≤ 1 := by
      rcases six (h.dlt i) with e | e | e | e | e | e <;> rw [e] <;> decide
    simp only [cr]
    repeat' split
    all_goals omega
  rw [e, S_tel (fun i => if y i ≤ r then (0:Int) else 1)]
  have a := h.py 0
  simp only [Nat.zero_add] at a
  simp only [a]
  omega
/-! ### simple rings -/
structure Simple (n : Nat) (x y : Nat → Int) (d : Nat → Nat) : Prop extends Path n x y d where
  three : 3 ≤ n
  inj : ∀ i j, x i = x j → y i = y j → i % n = j % n

theorem per_mod {α : Type} {f : Nat → α} {n : Nat} (h : ∀ i, f (i+n) = f i) (i : Nat) : f (i % n) = f i := by
  have a : ∀ k j, f (j + k * n) = f j := by
    intro k
    induction k with
    | zero => intro j; simp
    | succ k ih => intro j; rw [show j + (k+1)*n = (j + k*n) + n by rw [Nat.succ_mul]; omega, h, ih]
  have b := a (i / n) (i % n)
  rw [show i % n + i / n * n = i by rw [Nat.mul_comm]; exact Nat.mod_add_div i n] at b
  exact b.symm

theorem S_one {f : Nat → Int} {n k : Nat} {c : Int} (hk : k < n) (h1 : f k = c) (h0 : ∀ i, i < n → i ≠ k → f i = 0) : S f n = c := by
  induction n with
  | zero => omega
  | succ n ih =>
    simp only [S]
    by_cases e : k = n
    · subst e
      rw [S_zero (fun i hi => h0 i (by omega) (by omega)), h1]; omega
    · rw [ih (by omega) (fun i hi => h0 i (by omega)), h0 n (by omega) (fun q => e q.symm)]; omega

variable {n : Nat} {x y : Nat → Int} {d : Nat → Nat}

/-- the signed traversals at the ring's own vertex k + 1 -/
theorem Simple.ed (h : Simple n x y d) (k j : Nat) : S (ed x y d (x (k+1)) (y (k+1)) j) n = (if d (k+1) = j then 1 else 0) - (if d k = (j+3)%6 then 1 else 0) := by
  have np := h.pos
  unfold Jd.ed
  rw [S_sub]
  have a1 : S (fun i => if x i = x (k+1) ∧ y i = y (k+1) ∧ d i = j then (1:Int) else 0) n = (if d (k+1) = j then 1 else 0) := by
    refine S_one (k := (k+1) % n) (Nat.mod_lt _ np) ?_ ?_
    · simp only [per_mod h.px, per_mod h.py, per_mod h.pd, true_and]
    · intro i hi hne
      refine if_neg fun c => hne ?_
      have := h.inj _ _ c.1 c.2.1
      rw [Nat.mod_eq_of_lt hi] at this
      exact this
  have a2 : S (fun i => if x (i+1) = x (k+1) ∧ y (i+1) = y (k+1) ∧ d i = (j+3)%6 then (1:Int) else 0) n = (if d k = (j+3)%6 then 1 else 0) := by
    refine S_one (k := k % n) (Nat.mod_lt _ np) ?_ ?_
    · have hx' : x (k % n + 1) = x (k + 1) := per_mod (f := fun i => x (i+1)) (fun i => by show x (i + n + 1) = x (i+1); rw [show i + n + 1 = (i+1) + n by omega, h.px]) k
      have hy' : y (k % n + 1) = y (k + 1) := per_mod (f := fun i => y (i+1)) (fun i => by show y (i + n + 1) = y (i+1); rw [show i + n + 1 = (i+1) + n by omega, h.py]) k
      simp only [hx', hy', per_mod h.pd, true_and]
    · intro i hi hne
      refine if_neg fun c => hne ?_
      have := h.inj _ _ c.1 c.2.1
      by_cases e : i + 1 < n
      · rw [Nat.mod_eq_of_lt e] at this
        by_cases e2 : k % n + 1 < n
        · rw [← Nat.mod_add_mod, Nat.mod_eq_of_lt e2] at this; omega
        · have e3 : k % n + 1 = n := by have := Nat.mod_lt k np; omega
          rw [← Nat.mod_add_mod, e3, Nat.mod_self] at this; omega
      · have e1 : i + 1 = n := by omega
        rw [e1, Nat.mod_self] at this
        by_cases e2 : k % n + 1 < n
        · rw [← Nat.mod_add_mod, Nat.mod_eq_of_lt e2] at this; omega
        · have := Nat.mod_lt k np; omega
  rw [a1, a2]

/-- no reversal -/
theorem Simple.norev (h : Simple n x y d) (k : Nat) : d (k+1) ≠ (d k + 3) % 6 := by
  intro e
  have a := h.hx k
  have b := h.hy k
  have a' := h.hx (k+1)
  have b' := h.hy (k+1)
  have hd := h.dlt k
  have t := h.three
  have := h.inj (k+2) k (by rw [show k + 2 = k + 1 + 1 from rfl, a', a, e]; rcases six hd with q | q | q | q | q | q <;> rw [q] <;> simp [sx] <;> omega) (by rw [show k + 2 = k + 1 + 1 from rfl, b', b, e]; rcases six hd with q | q | q | q | q | q <;> rw [q] <;> simp [sy] <;> omega)
  have c : (k + 2) % n = ((k % n) + 2) % n := by rw [Nat.mod_add_mod]
  have l := Nat.mod_lt k h.pos
  by_cases e2 : k % n + 2 < n
  · rw [c, Nat.mod_eq_of_lt e2] at this; omega
  · rw [c, Nat.mod_eq_sub_mod (by omega), Nat.mod_eq_of_lt (by omega)] at this; omega

/-- the number of the sectors from the direction D to the direction b, to the left -/
def secs (D b : Nat) : Nat := (b + 6 - D) % 6

/-- the left cell of the move k -/
def lw (n : Nat) (x y : Nat → Int) (d : Nat → Nat) (k : Nat) : Int := W n x y (x k) (y k) (d k)

/-- the windings of the six cells around the vertex k + 1 -/
theorem Simple.around (h : Simple n x y d) (k j : Nat) (hj : j < 6) :
    W n x y (x (k+1)) (y (k+1)) j = lw n x y d (k+1) - (if secs (d (k+1)) j < secs (d (k+1)) ((d k + 3) % 6) then 0 else 1) := by
  have z : ∀ j, j < 6 → W n x y (x (k+1)) (y (k+1)) j - W n x y (x (k+1)) (y (k+1)) ((j+5)%6) = (if d (k+1) = j then 1 else 0) - (if d k = (j+3)%6 then 1 else 0) := by
    intro j hj
    rw [edge h.toPath _ _ j hj, h.ed]
  have z0 := z 0 (by omega)
  have z1 := z 1 (by omega)
  have z2 := z 2 (by omega)
  have z3 := z 3 (by omega)
  have z4 := z 4 (by omega)
  have z5 := z 5 (by omega)
  have nr := h.norev k
  unfold lw
  generalize W n x y (x (k+1)) (y (k+1)) = w at *
  generalize d (k+1) = D, d k = B, h.dlt (k+1) = hD, h.dlt k = hB at *
  rcases six hD with e | e | e | e | e | e <;> subst e <;> rcases six hB with e | e | e | e | e | e <;> subst e <;> simp at nr z0 z1 z2 z3 z4 z5 <;> rcases six hj with e | e | e | e | e | e <;> subst e <;> simp [secs] <;> omega

/-- the sector j at a place is the sector j + 2 at the next place in the direction j -/
theorem W_next (n : Nat) (x y : Nat → Int) (px py : Int) (j : Nat) (hj : j < 6) : W n x y (px + sx j) (py + sy j) ((j+2)%6) = W n x y px py j := by
  unfold W
  rcases six hj with e | e | e | e | e | e <;> subst e <;> simp [sr, sq, sx, sy] <;> congr 1 <;> omega

theorem Simple.left (h : Simple n x y d) (k : Nat) : lw n x y d (k+1) = lw n x y d k := by
  have e := h.around k ((d k + 2) % 6) (Nat.mod_lt _ (by omega))
  have nr := h.norev k
  have w : W n x y (x (k+1)) (y (k+1)) ((d k + 2) % 6) = lw n x y d k := by
    rw [h.hx, h.hy, W_next n x y _ _ _ (h.dlt k)]
    rfl
  rw [w] at e
  rw [e]
  have q : secs (d (k+1)) ((d k + 2) % 6) < secs (d (k+1)) ((d k + 3) % 6) := by
    generalize d (k+1) = D, d k = B, h.dlt (k+1) = hD, h.dlt k = hB at *
    rcases six hD with e | e | e | e | e | e <;> subst e <;> rcases six hB with e | e | e | e | e | e <;> subst e <;> simp at nr <;> decide
  rw [if_pos q]
  omega
theorem Simple.left_all (h : Simple n x y d) (k : Nat) : lw n x y d k = lw n x y d 0 := by
  induction k with
  | zero => rfl
  | succ k ih => rw [h.left, ih]

theorem Simple.left_eq (h : Simple n x y d) (k : Nat) : W n x y (x k) (y k) (d k) = lw n x y d 0 := h.left_all k
theorem Simple.right_eq (h : Simple n x y d) (k : Nat) : W n x y (x k) (y k) ((d k + 5) % 6) = lw n x y d 0 - 1 := by
  -- at the vertex k = k' + 1 with k' = k + n - 1
  have t := h.three
  have a : k + n = (k + n - 1) + 1 := by omega
  have e := edge h.toPath (x k) (y k) (d k) (h.dlt k)
  have e2 := h.ed (k + n - 1) (d k)
  rw [← a, h.px, h.py, h.pd] at e2
  rw [e2, h.left_eq] at e
  have nr := h.norev (k + n - 1)
  rw [← a, h.pd] at nr
  have hB := h.dlt (k+n-1)
  have hD := h.dlt k
  rw [if_pos rfl, if_neg (by omega)] at e
  omega

/-- every winding is 0, or that to the left, or that to the right -/
theorem Simple.three_values (h : Simple n x y d) (r q : Int) : N n x y r q = 0 ∨ N n x y r q = lw n x y d 0 ∨ N n x y r q = lw n x y d 0 - 1 := by
  obtain ⟨M, hM⟩ : ∃ M : Int, ∀ i, i < n → x i + x (i+1) ≤ M := by
    clear h
    induction n with
    | zero => exact ⟨0, fun i hi => by omega⟩
    | succ n ih =>
      obtain ⟨M, hM⟩ := ih
      refine ⟨max M (x n + x (n+1)), fun i hi => ?_⟩
      by_cases e : i = n
      · subst e; omega
      · have := hM i (by omega); omega
  have main : ∀ (t : Nat) (q : Int), M - q ≤ t → (N n x y r q = 0 ∨ N n x y r q = lw n x y d 0 ∨ N n x y r q = lw n x y d 0 - 1) := by
    intro t
    induction t with
    | zero =>
      intro q hq
      exact Or.inl (N_far fun i hi => by have := hM i hi; omega)
    | succ t ih =>
      intro q hq
      by_cases c : ∃ i, i < n ∧ (x i + x (i+1) = q + 1 ∧ ((y (i+1) = y i + 1 ∧ y i = r) ∨ (y i = y (i+1) + 1 ∧ y (i+1) = r)))
      · obtain ⟨i, hi, c1, c2⟩ := c
        have a := h.left_eq i
        have b := h.right_eq i
        have h1 := h.hx i
        have h2 := h.hy i
        unfold W at a b
        rcases six (h.dlt i) with e | e | e | e | e | e <;> simp only [e] at * <;> simp [sx, sy, sq, sr] at a b h1 h2 c1 c2
        · omega
        · have e1 : y i = r := by omega
          have e2 : 2 * x i - 1 = q := by omega
          rw [e1, e2] at a
          exact Or.inr (Or.inl a)
        · have e1 : y i = r := by omega
          have e2 : 2 * x i - 2 = q := by omega
          rw [e1, e2] at a
          exact Or.inr (Or.inl a)
        · omega
        · have e1 : y i - 1 = r := by omega
          have e2 : 2 * x i - 1 = q := by omega
          rw [e1, e2] at b
          exact Or.inr (Or.inr b)
        · have e1 : y i - 1 = r := by omega
          have e2 : 2 * x i = q := by omega
          rw [e1, e2] at b
          exact Or.inr (Or.inr b)
      · have e := N_step (n := n) (x := x) (y := y) (r := r) (q := q + 1) (fun i hi k => c ⟨i, hi, k⟩)
        rw [show q + 1 - 1 = q by omega] at e
        rw [e]
        exact ih (q + 1) (by omega)
  exact main (M - q).toNat q (by omega)
/-! ### the sign, by the least vertex -/
def Least (x y : Nat → Int) (m : Nat) : Prop := ∀ i, y m < y i ∨ (y m = y i ∧ x m ≤ x i)

theorem Simple.dirs (h : Simple n x y d) (k : Nat) (hm : Least x y (k+1)) : d (k+1) < 3 ∧ 3 ≤ d k ∧ d k ≠ d (k+1) + 3 := by
  have a := hm (k+1+1)
  have b := hm k
  rw [h.hx (k+1), h.hy (k+1)] at a
  rw [h.hx k, h.hy k] at b
  have nr := h.norev k
  have hD := h.dlt (k+1)
  have hB := h.dlt k
  refine ⟨?_, ?_, by omega⟩
  · rcases six hD with e | e | e | e | e | e <;> rw [e] at a <;> simp [sx, sy] at a <;> omega
  · rcases six hB with e | e | e | e | e | e <;> rw [e] at b <;> simp [sx, sy] at b <;> omega

theorem Simple.sign (h : Simple n x y d) (k : Nat) (hm : Least x y (k+1)) : (d (k+1) + 3 < d k → lw n x y d 0 = 1) ∧ (d k < d (k+1) + 3 → lw n x y d 0 = 0) := by
  have z : W n x y (x (k+1)) (y (k+1)) 5 = 0 := by
    unfold W N
    refine S_zero fun i hi => ?_
    have a := hm i
    have b := hm (i+1)
    simp only [cr, sr, sq]
    simp
    rw [if_neg (by omega), if_neg (by omega)]
  have e := h.around k 5 (by omega)
  rw [z, h.left_all] at e
  obtain ⟨d1, d2, d3⟩ := h.dirs k hm
  have hB := h.dlt k
  unfold secs at e
  constructor
  · intro q
    rw [if_neg (by omega)] at e
    omega
  · intro q
    rw [if_pos (by omega)] at e
    omega

/-! ### the turning -/
def turn (B D : Nat) : Int := if 2 * ((D + 6 - B) % 6) ≤ 6 then (((D + 6 - B) % 6 : Nat) : Int) else (((D + 6 - B) % 6 : Nat) : Int) - 6
def T (n : Nat) (d : Nat → Nat) : Int := S (fun i => turn (d i) (d (i+1))) n

/-- crossing the ray to the right -/
def dl (vx vy wx wy : Int) : Int := (if vy = -1 ∧ wy = 0 ∧ 0 < wx then 1 else 0) - (if wy = -1 ∧ vy = 0 ∧ 0 < vx then 1 else 0)
def Gx (x : Nat → Int) (i j : Nat) : Int := x j - x i
def d1 (x y : Nat → Int) (i j : Nat) : Int := dl (x j - x i) (y j - y i) (x (j+1) - x i) (y (j+1) - y i)
def d2 (x y : Nat → Int) (i j : Nat) : Int := dl (x j - x i) (y j - y i) (x j - x (i+1)) (y j - y (i+1))

def dS (s : Nat) (vx vy : Int) : Int := if s = 0 then 0 else if s = 1 then (if vy = -1 ∧ 0 < vx then 1 else 0) else if s = 2 then (if vy = -1 ∧ 1 < vx then 1 else 0) else if s = 3 then 0 else if s = 4 then -(if vy = 0 ∧ 0 < vx then 1 else 0) else -(if vy = 0 ∧ 0 < vx then 1 else 0)
theorem dl_dS {s : Nat} (hs : s < 6) (vx vy : Int) : dl vx vy (vx + sx s) (vy + sy s) = dS s vx vy := by
  rcases six hs with e | e | e | e | e | e <;> subst e <;> simp [dl, dS, sx, sy] <;> (repeat' split) <;> omega
theorem dS_square {s t : Nat} (hs : s < 6) (ht : t < 6) (vx vy : Int) (h00 : ¬ (vx = 0 ∧ vy = 0)) (h01 : ¬ (vx + sx s = 0 ∧ vy + sy s = 0)) (h10 : ¬ (vx + sx t = 0 ∧ vy + sy t = 0)) (h11 : ¬ (vx + sx s + sx t = 0 ∧ vy + sy s + sy t = 0)) :
    dS s vx vy + dS t (vx + sx s) (vy + sy s) = dS t vx vy + dS s (vx + sx t) (vy + sy t) := by
  rcases six hs with e | e | e | e | e | e <;> subst e <;> rcases six ht with e | e | e | e | e | e <;> subst e <;> simp [sx, sy] at h00 h01 h10 h11 <;> simp [dS, sx, sy] <;> (repeat' split) <;> omega
theorem sx_opp {s : Nat} (hs : s < 6) : sx ((s+3)%6) = - sx s := by
  rcases six hs with e | e | e | e | e | e <;> subst e <;> decide
theorem sy_opp {s : Nat} (hs : s < 6) : sy ((s+3)%6) = - sy s := by
  rcases six hs with e | e | e | e | e | e <;> subst e <;> decide
theorem Path.square (h : Path n x y d) (i j : Nat) (h00 : ¬ (x j = x i ∧ y j = y i)) (h01 : ¬ (x (j+1) = x i ∧ y (j+1) = y i)) (h10 : ¬ (x j = x (i+1) ∧ y j = y (i+1))) (h11 : ¬ (x (j+1) = x (i+1) ∧ y (j+1) = y (i+1))) :
    d1 x y i j + d2 x y i (j+1) = d2 x y i j + d1 x y (i+1) j := by
  have a := h.hx i
  have b := h.hy i
  have a' := h.hx j
  have b' := h.hy j
  have hi := h.dlt i
  have hj := h.dlt j
  have hi3 : (d i + 3) % 6 < 6 := Nat.mod_lt _ (by omega)
  have ox := sx_opp hi
  have oy := sy_opp hi
  unfold d1 d2
  have e1 := dl_dS hj (x j - x i) (y j - y i)
  have e2 := dl_dS hi3 (x (j+1) - x i) (y (j+1) - y i)
  have e3 := dl_dS hi3 (x j - x i) (y j - y i)
  have e4 := dl_dS hj (x j - x (i+1)) (y j - y (i+1))
  have q := dS_square hj hi3 (x j - x i) (y j - y i) (by omega) (by omega) (by omega) (by omega)
  rw [show x j - x i + sx (d j) = x (j+1) - x i by omega, show y j - y i + sy (d j) = y (j+1) - y i by omega] at e1 q
  rw [show x (j+1) - x i + sx ((d i + 3)%6) = x (j+1) - x (i+1) by omega, show y (j+1) - y i + sy ((d i + 3)%6) = y (j+1) - y (i+1) by omega] at e2
  rw [show x j - x i + sx ((d i + 3)%6) = x j - x (i+1) by omega, show y j - y i + sy ((d i + 3)%6) = y j - y (i+1) by omega] at e3 q
  rw [show x j - x (i+1) + sx (d j) = x (j+1) - x (i+1) by omega, show y j - y (i+1) + sy (d j) = y (j+1) - y (i+1) by omega] at e4
  rw [e1, e2, e3, e4]
  exact q
/-- sum over j from a, k terms -/
def SS (a k : Nat) (f : Nat → Int) : Int := S (fun t => f (a + t)) k
theorem SS_succ (a k : Nat) (f : Nat → Int) : SS a (k+1) f = SS a k f + f (a + k) := rfl
theorem SS_front (a k : Nat) (f : Nat → Int) : SS a (k+1) f = f a + SS (a+1) k f := by
  induction k with
  | zero => simp [SS, S]
  | succ k ih =>
    rw [SS_succ, ih, SS_succ]
    rw [show a + 1 + k = a + (k+1) by omega]
    omega

theorem nz {n i j : Nat} {x y : Nat → Int} {d : Nat → Nat} (h : Simple n x y d) (hij : i < j) (hj : j ≤ n) (h0 : ¬ (i = 0 ∧ j = n)) : ¬ (x j = x i ∧ y j = y i) := by
  intro e
  have a := h.inj j i e.1 e.2
  by_cases q : j = n
  · subst q
    rw [Nat.mod_self, Nat.mod_eq_of_lt (by omega)] at a
    omega
  · rw [Nat.mod_eq_of_lt (by omega), Nat.mod_eq_of_lt (by omega)] at a
    omega

/-- a strip of squares between the rows i and i + 1, from column a, k squares -/
theorem Simple.strip (h : Simple n x y d) (i a k : Nat) (ha : i + 1 < a) (hk : a + k ≤ n) (h0 : i = 0 → a + k < n) :
    SS a k (fun j => d1 x y i j) + d2 x y i (a + k) = d2 x y i a + SS a k (fun j => d1 x y (i+1) j) := by
  induction k with
  | zero => simp [SS, S]
  | succ k ih =>
    have e := ih (by omega) (by omega)
    rw [SS_succ, SS_succ]
    have q := h.toPath.square i (a + k) (nz h (by omega) (by omega) (by omega)) (nz h (by omega) (by omega) (by omega)) (nz h (by omega) (by omega) (by omega)) (nz h (by omega) (by omega) (by omega))
    rw [show a + (k+1) = a + k + 1 by omega]
    omega

/-- the walk along the diagonal from (i, i + 1) to (i + k, i + k + 1) -/
def diag (x y : Nat → Int) (i k : Nat) : Int := SS i k (fun t => d1 x y t (t+1) + d2 x y t (t+2))

/-- along the row i to the end, then down the last column: the same as along the diagonal -/
theorem Simple.homo (h : Simple n x y d) (k i : Nat) (hi : i + k + 1 = n) (h1 : 1 ≤ i) :
    SS (i+1) k (fun j => d1 x y i j) + SS i k (fun t => d2 x y t n) = diag x y i k := by
  induction k generalizing i with
  | zero => rfl
  | succ k ih =>
    have e := ih (i+1) (by omega) (by omega)
    unfold diag at e ⊢
    rw [SS_front (i+1), SS_front i, SS_front i]
    have s := h.strip i (i+1+1) k (by omega) (by omega) (by omega)
    rw [show i + 1 + 1 + k = n by omega] at s
    simp only [show i + 1 + 1 = i + 2 from rfl] at *
    omega

theorem dl_up {vx vy wx wy : Int} (h1 : 0 ≤ vy) (h2 : 0 ≤ wy) : dl vx vy wx wy = 0 := by
  unfold dl
  rw [if_neg (by omega), if_neg (by omega)]; rfl
theorem dl_low {vx vy wx wy : Int} (h1 : vy < 0 ∨ (vy = 0 ∧ vx ≤ 0)) (h2 : wy < 0 ∨ (wy = 0 ∧ wx ≤ 0)) : dl vx vy wx wy = 0 := by
  unfold dl
  rw [if_neg (by omega), if_neg (by omega)]; rfl

theorem SS_zero {a k : Nat} {f : Nat → Int} (h : ∀ j, a ≤ j → j < a + k → f j = 0) : SS a k f = 0 := S_zero fun i hi => h (a + i) (by omega) (by omega)

/-- the whole diagonal, from the least vertex 0 -/
theorem Simple.diag_val (h : Simple n x y d) (hm : Least x y 0) : diag x y 0 (n-1) = d2 x y 0 (n-1) + d1 x y 1 (n-1) := by
  have t := h.three
  obtain ⟨k, hk⟩ : ∃ k, n = k + 3 := ⟨n - 3, by omega⟩
  have e := h.homo (n-2) 1 (by omega) (by omega)
  unfold diag at e ⊢
  rw [show n - 1 = (n - 2) + 1 by omega, SS_front 0]
  have z1 : SS 1 (n-2) (fun t => d2 x y t n) = 0 := by
    refine SS_zero fun j h1 h2 => ?_
    refine dl_low ?_ ?_
    · have a := hm j
      have hx := h.px 0
      have hy := h.py 0
      rw [Nat.zero_add] at hx hy
      omega
    · have a := hm (j+1)
      have hx := h.px 0
      have hy := h.py 0
      rw [Nat.zero_add] at hx hy
      omega
  have z0 : ∀ j, d1 x y 0 j = 0 := fun j => dl_up (by have := hm j; omega) (by have := hm (j+1); omega)
  have s := h.strip 0 2 (n-3) (by omega) (by omega) (by omega)
  rw [SS_zero (fun j _ _ => z0 j), show 2 + (n - 3) = n - 1 by omega] at s
  rw [show n - 2 = (n - 3) + 1 by omega, SS_succ (1+1), show 1 + 1 + (n - 3) = n - 2 + 1 by omega] at e
  rw [show n - 3 + 1 = n - 2 by omega] at e
  rw [z1] at e
  rw [z0]
  simp only [show (1:Nat) + 1 = 2 from rfl, show 0 + 1 = 1 from rfl, show 0 + 2 = 2 from rfl] at *
  simp only [show n - 2 + 1 = n - 1 by omega] at *
  omega

/-- one step of the diagonal is the lifted heading's passage -/
theorem diag_turn (B D : Nat) (hB : B < 6) (hD : D < 6) (hr : D ≠ (B+3)%6) : 6 * (dl (sx B) (sy B) (sx B + sx D) (sy B + sy D) + dl (sx B + sx D) (sy B + sy D) (sx D) (sy D)) = turn B D - ((D : Int) - (B : Int)) := by
  rcases six hB with e | e | e | e | e | e <;> subst e <;> rcases six hD with e | e | e | e | e | e <;> subst e <;> first | decide | (exfalso; exact hr rfl)
theorem last_turn (B D : Nat) (hD : D < 3) (hB : B < 6) (h3 : 3 ≤ B) (hr : B ≠ D + 3) : 6 * (dl (- sx B) (- sy B) (- sx B - sx D) (- sy B - sy D) + dl (- sx B - sx D) (- sy B - sy D) (- sx D) (- sy D)) + ((B : Int) - (D : Int)) + turn B D = if D + 3 < B then 6 else -6 := by
  rcases six hB with e | e | e | e | e | e <;> subst e <;> rcases (show D = 0 ∨ D = 1 ∨ D = 2 by omega) with e | e | e <;> subst e <;> first | decide | omega

theorem S_mul (c : Int) (f : Nat → Int) (n : Nat) : S (fun i => c * f i) n = c * S f n := by
  induction n with
  | zero => simp [S]
  | succ n ih => simp only [S, ih, Int.mul_add]

theorem Simple.hopf (h : Simple n x y d) (hm : Least x y 0) : T n d = if d 0 + 3 < d (n-1) then 6 else -6 := by
  have t := h.three
  have e := h.diag_val hm
  have hn : n = (n - 1) + 1 := by omega
  have q : 6 * diag x y 0 (n-1) = S (fun i => turn (d i) (d (i+1)) - ((d (i+1) : Int) - (d i : Int))) (n-1) := by
    unfold diag SS
    rw [← S_mul]
    refine S_congr fun i hi => ?_
    rw [← diag_turn (d i) (d (i+1)) (h.dlt i) (h.dlt (i+1)) (h.norev i)]
    simp only [Nat.zero_add]
    unfold d1 d2
    have a := h.hx i
    have b := h.hy i
    have a' := h.hx (i+1)
    have b' := h.hy (i+1)
    rw [show i + 2 = i + 1 + 1 from rfl, show x (i+1) - x i = sx (d i) by omega, show y (i+1) - y i = sy (d i) by omega, show x (i+1+1) - x i = sx (d i) + sx (d (i+1)) by omega, show y (i+1+1) - y i = sy (d i) + sy (d (i+1)) by omega,
      show x (i+1+1) - x (i+1) = sx (d (i+1)) by omega, show y (i+1+1) - y (i+1) = sy (d (i+1)) by omega]
  rw [S_sub, S_tel (fun i => (d i : Int))] at q
  have dn : d n = d 0 := by have := h.pd 0; rw [Nat.zero_add] at this; exact this
  have T' : T n d = S (fun i => turn (d i) (d (i+1))) (n-1) + turn (d (n-1)) (d 0) := by
    unfold T
    conv => lhs; rw [hn]
    simp only [S]
    rw [show n - 1 + 1 = n by omega, dn]
  obtain ⟨q1, q2, q3⟩ := (show Simple n x y d from h).dirs (n-1) (by
    intro i
    have := hm i
    have a := h.px 0
    have b := h.py 0
    rw [Nat.zero_add] at a b
    rw [show n - 1 + 1 = n by omega, a, b]
    exact this)
  rw [show n - 1 + 1 = n by omega, dn] at q1 q3
  have l := last_turn (d (n-1)) (d 0) q1 (h.dlt _) q2 q3
  have a := h.hx (n-1)
  have b := h.hy (n-1)
  have a0 := h.hx 0
  have b0 := h.hy 0
  have an := h.px 0
  have bn := h.py 0
  rw [show n - 1 + 1 = n by omega] at a b
  rw [Nat.zero_add] at an bn a0 b0
  have v2 : d2 x y 0 (n-1) = dl (- sx (d (n-1))) (- sy (d (n-1))) (- sx (d (n-1)) - sx (d 0)) (- sy (d (n-1)) - sy (d 0)) := by
    unfold d2
    rw [Nat.zero_add]
    congr 1 <;> omega
  have v1 : d1 x y 1 (n-1) = dl (- sx (d (n-1)) - sx (d 0)) (- sy (d (n-1)) - sy (d 0)) (- sx (d 0)) (- sy (d 0)) := by
    unfold d1
    rw [show n - 1 + 1 = n by omega]
    congr 1 <;> omega
  rw [e, v2, v1] at q
  rw [T', ← l]
  omega
/-! ### any base -/
theorem S_rot1 {f : Nat → Int} {n : Nat} (hp : ∀ i, f (i+n) = f i) : S (fun i => f (i+1)) n = S f n := by
  have e := S_tel f n
  rw [S_sub (fun i => f (i+1)) f] at e
  have := hp 0
  rw [Nat.zero_add] at this
  omega
theorem S_rot {f : Nat → Int} {n : Nat} (hp : ∀ i, f (i+n) = f i) (m : Nat) : S (fun i => f (i+m)) n = S f n := by
  induction m with
  | zero => rfl
  | succ m ih =>
    have e := S_rot1 (f := fun i => f (i+m)) (n := n) (fun i => by show f (i + n + m) = f (i+m); rw [show i + n + m = (i + m) + n by omega, hp])
    rw [← ih, ← e]
    refine S_congr fun i _ => ?_
    show f (i + (m+1)) = f (i + 1 + m)
    rw [show i + (m+1) = i + 1 + m by omega]

theorem Simple.shift (h : Simple n x y d) (m : Nat) : Simple n (fun i => x (i+m)) (fun i => y (i+m)) (fun i => d (i+m)) where
  pos := h.pos
  dlt := fun i => h.dlt _
  hx := fun i => by show x (i + 1 + m) = _; rw [show i + 1 + m = i + m + 1 by omega, h.hx]
  hy := fun i => by show y (i + 1 + m) = _; rw [show i + 1 + m = i + m + 1 by omega, h.hy]
  px := fun i => by show x (i + n + m) = _; rw [show i + n + m = i + m + n by omega, h.px]
  py := fun i => by show y (i + n + m) = _; rw [show i + n + m = i + m + n by omega, h.py]
  pd := fun i => by show d (i + n + m) = _; rw [show i + n + m = i + m + n by omega, h.pd]
  three := h.three
  inj := fun i j a b => by
    have e := h.inj (i+m) (j+m) a b
    have p := h.pos
    have e2 : (i + m + (n - m % n)) % n = (j + m + (n - m % n)) % n := by
      rw [Nat.add_mod, e, ← Nat.add_mod]
    have l := Nat.mod_lt m p
    have dm := Nat.div_add_mod m n
    have e3 : ∀ i, (i + m + (n - m % n)) % n = i % n := by
      intro i
      rw [show i + m + (n - m % n) = i + n * (m / n + 1) by rw [Nat.mul_add]; omega, Nat.add_mul_mod_self_left]
    rwa [e3, e3] at e2

theorem T_shift (h : Simple n x y d) (m : Nat) : T n (fun i => d (i+m)) = T n d := by
  unfold T
  rw [← S_rot (f := fun i => turn (d i) (d (i+1))) (fun i => by show turn (d (i+n)) (d (i+n+1)) = _; rw [show i + n + 1 = i + 1 + n by omega, h.pd, h.pd]) m]
  refine S_congr fun i _ => ?_
  show turn (d (i+m)) (d (i+1+m)) = turn (d (i+m)) (d (i+m+1))
  rw [show i + 1 + m = i + m + 1 by omega]

theorem exists_least (h : Simple n x y d) : ∃ m, Least x y m := by
  have p := h.pos
  have main : ∀ k, 1 ≤ k → ∃ m, ∀ i, i < k → (y m < y i ∨ (y m = y i ∧ x m ≤ x i)) := by
    intro k hk
    induction k with
    | zero => omega
    | succ k ih =>
      by_cases e : k = 0
      · subst e
        exact ⟨0, fun i hi => by rw [show i = 0 by omega]; omega⟩
      · obtain ⟨m, hm⟩ := ih (by omega)
        by_cases c : y m < y k ∨ (y m = y k ∧ x m ≤ x k)
        · exact ⟨m, fun i hi => by
            by_cases q : i = k
            · subst q; exact c
            · exact hm i (by omega)⟩
        · exact ⟨k, fun i hi => by
            by_cases q : i = k
            · subst q; omega
            · have := hm i (by omega); omega⟩
  obtain ⟨m, hm⟩ := main n p
  refine ⟨m, fun i => ?_⟩
  have := hm (i % n) (Nat.mod_lt _ p)
  rw [per_mod h.px, per_mod h.py] at this
  exact this

/-- THE UMLAUFSATZ with the sign of the inside -/
theorem Simple.turning (h : Simple n x y d) : (lw n x y d 0 = 1 ∧ T n d = 6) ∨ (lw n x y d 0 = 0 ∧ T n d = -6) := by
  obtain ⟨m, hm⟩ := exists_least h
  have hs := h.shift m
  have hz : Least (fun i => x (i+m)) (fun i => y (i+m)) 0 := fun i => by have := hm (i+m); simp only [Nat.zero_add]; exact this
  have e := hs.hopf hz
  rw [T_shift h] at e
  simp only [Nat.zero_add] at e
  have p := h.pos
  have hn : n - 1 + m + 1 = m + n := by omega
  have hl : Least x y (n - 1 + m + 1) := fun i => by rw [hn, h.px, h.py]; exact hm i
  obtain ⟨s1, s2⟩ := h.sign (n - 1 + m) hl
  obtain ⟨_, _, s3⟩ := h.dirs (n - 1 + m) hl
  rw [hn, h.pd] at s1 s2 s3
  by_cases c : d m + 3 < d (n - 1 + m)
  · rw [if_pos c] at e
    exact Or.inl ⟨s1 c, e⟩
  · rw [if_neg c] at e
    exact Or.inr ⟨s2 (by omega), e⟩

theorem Simple.jordan (h : Simple n x y d) : ∃ s : Int, (s = 1 ∨ s = -1) ∧ T n d = 6 * s ∧ 2 * lw n x y d 0 = 1 + s ∧ (∀ r q, N n x y r q = 0 ∨ N n x y r q = s) ∧ ∃ j, j < 6 ∧ W n x y (x 0) (y 0) j = s := by
  have v := h.three_values
  rcases h.turning with ⟨a, b⟩ | ⟨a, b⟩
  · refine ⟨1, Or.inl rfl, by omega, by omega, fun r q => ?_, d 0, h.dlt 0, ?_⟩
    · have := v r q; omega
    · rw [h.left_eq, a]
  · refine ⟨-1, Or.inr rfl, by omega, by omega, fun r q => ?_, (d 0 + 5) % 6, Nat.mod_lt _ (by omega), ?_⟩
    · have := v r q; omega
    · rw [h.right_eq, a]; rfl

/-! ### Pick -/
/-- sum over a box -/
def BX (x0 y0 : Int) (a b : Nat) (f : Int → Int → Int) : Int := S (fun i => S (fun j => f (x0 + i) (y0 + j)) b) a
theorem BX_add (x0 y0 : Int) (a b : Nat) (f g : Int → Int → Int) : BX x0 y0 a b (fun u v => f u v + g u v) = BX x0 y0 a b f + BX x0 y0 a b g := by
  unfold BX
  rw [← S_add]
  refine S_congr fun i _ => ?_
  rw [S_add]
theorem BX_congr {x0 y0 : Int} {a b : Nat} {f g : Int → Int → Int} (h : ∀ u v, x0 ≤ u → u < x0 + a → y0 ≤ v → v < y0 + b → f u v = g u v) : BX x0 y0 a b f = BX x0 y0 a b g :=
  S_congr fun i hi => S_congr fun j hj => h _ _ (by omega) (by omega) (by omega) (by omega)
theorem S_shiftZ (g : Int → Int) (x0 : Int) (a : Nat) (h0 : g (x0 - 1) = 0) (h1 : g (x0 + a - 1) = 0) : S (fun i => g (x0 + i - 1)) a = S (fun i => g (x0 + i)) a := by
  have e := S_tel (fun i => g (x0 + i - 1)) a
  rw [S_sub (fun i => g (x0 + (i+1 : Nat) - 1)) (fun i => g (x0 + i - 1)), show x0 + ((0:Nat):Int) - 1 = x0 - 1 by omega, h0, h1] at e
  have e2 : S (fun i => g (x0 + (i+1 : Nat) - 1)) a = S (fun i => g (x0 + i)) a := S_congr fun i _ => by rw [show x0 + ((i+1 : Nat) : Int) - 1 = x0 + i by omega]
  omega
theorem BX_shiftx {x0 y0 : Int} {a b : Nat} {f : Int → Int → Int} (h0 : ∀ v, f (x0 - 1) v = 0) (h1 : ∀ v, f (x0 + a - 1) v = 0) : BX x0 y0 a b (fun u v => f (u - 1) v) = BX x0 y0 a b f := by
  unfold BX
  exact S_shiftZ (fun u => S (fun j => f u (y0 + j)) b) x0 a (S_zero fun j _ => h0 _) (S_zero fun j _ => h1 _)
theorem BX_shifty {x0 y0 : Int} {a b : Nat} {f : Int → Int → Int} (h0 : ∀ u, f u (y0 - 1) = 0) (h1 : ∀ u, f u (y0 + b - 1) = 0) : BX x0 y0 a b (fun u v => f u (v - 1)) = BX x0 y0 a b f := by
  unfold BX
  refine S_congr fun i _ => ?_
  exact S_shiftZ (fun v => f (x0 + i) v) y0 b (h0 _) (h1 _)
theorem BX_mul (c : Int) (x0 y0 : Int) (a b : Nat) (f : Int → Int → Int) : BX x0 y0 a b (fun u v => c * f u v) = c * BX x0 y0 a b f := by
  unfold BX
  rw [← S_mul]
  refine S_congr fun i _ => ?_
  rw [S_mul]
theorem BX_S (x0 y0 : Int) (a b m : Nat) (f : Nat → Int → Int → Int) : BX x0 y0 a b (fun u v => S (fun k => f k u v) m) = S (fun k => BX x0 y0 a b (f k)) m := by
  induction m with
  | zero => exact S_zero fun i _ => S_zero fun j _ => rfl
  | succ m ih => simp only [S]; rw [BX_add, ih]
theorem BX_one {x0 y0 : Int} {a b : Nat} {u v c : Int} (h1 : x0 ≤ u) (h2 : u < x0 + a) (h3 : y0 ≤ v) (h4 : v < y0 + b) : BX x0 y0 a b (fun u' v' => if u = u' ∧ v = v' then c else 0) = c := by
  unfold BX
  refine S_one (k := (u - x0).toNat) (by omega) ?_ ?_
  · refine S_one (k := (v - y0).toNat) (by omega) ?_ ?_
    · exact if_pos (by omega)
    · intro j hj hne
      exact if_neg (by omega)
  · intro i hi hne
    refine S_zero fun j _ => ?_
    exact if_neg (by omega)

/-- all places of the ring lie in the box, one off its rim -/
structure InBox (n : Nat) (x y : Nat → Int) (x0 y0 : Int) (a b : Nat) : Prop where
  l : ∀ i, x0 < x i
  r : ∀ i, x i + 1 < x0 + a
  d : ∀ i, y0 < y i
  u : ∀ i, y i + 1 < y0 + b

/-- a cell with a winding lies within -/
theorem N_in (h : Path n x y d) {x0 y0 : Int} {a b : Nat} (hb : InBox n x y x0 y0 a b) {r q : Int} (hN : N n x y r q ≠ 0) : 2 * x0 + 2 ≤ q ∧ q + 4 < 2 * (x0 + a) ∧ y0 < r ∧ r + 2 < y0 + b := by
  have c1 : ∃ i, i < n ∧ x i + x (i+1) ≤ q := by
    refine Classical.byContradiction fun c => hN (N_row h r q fun i hi => ?_)
    have : ¬ (x i + x (i+1) ≤ q) := fun k => c ⟨i, hi, k⟩
    omega
  have c2 : ∃ i, i < n ∧ q < x i + x (i+1) := by
    refine Classical.byContradiction fun c => hN (N_far fun i hi => ?_)
    have : ¬ (q < x i + x (i+1)) := fun k => c ⟨i, hi, k⟩
    omega
  have c3 : ∃ i, i < n ∧ cr (x i) (y i) (x (i+1)) (y (i+1)) q r ≠ 0 := by
    refine Classical.byContradiction fun c => hN (S_zero fun i hi => ?_)
    exact Classical.byContradiction fun k => c ⟨i, hi, k⟩
  obtain ⟨i, _, e1⟩ := c1
  obtain ⟨j, _, e2⟩ := c2
  obtain ⟨k, _, e3⟩ := c3
  have := hb.l i; have := hb.l (i+1); have := hb.r j; have := hb.r (j+1)
  have := hb.d k; have := hb.d (k+1); have := hb.u k; have := hb.u (k+1)
  have e4 : (y (k+1) = y k + 1 ∧ y k = r) ∨ (y k = y (k+1) + 1 ∧ y (k+1) = r) := by
    refine Classical.byContradiction fun c => e3 ?_
    unfold cr
    rw [if_neg (by omega), if_neg (by omega)]
  omega

def cs (n : Nat) (x y : Nat → Int) (u v : Int) : Int := W n x y u v 0 + W n x y u v 1 + W n x y u v 2 + W n x y u v 3 + W n x y u v 4 + W n x y u v 5

theorem Simple.cs_on (h : Simple n x y d) (k : Nat) : cs n x y (x (k+1)) (y (k+1)) = 6 * lw n x y d 0 - 3 - turn (d k) (d (k+1)) := by
  unfold cs
  rw [h.around k 0 (by omega), h.around k 1 (by omega), h.around k 2 (by omega), h.around k 3 (by omega), h.around k 4 (by omega), h.around k 5 (by omega), h.left_all]
  have nr := h.norev k
  generalize d (k+1) = D, d k = B, h.dlt (k+1) = hD, h.dlt k = hB, lw n x y d 0 = l at *
  rcases six hD with e | e | e | e | e | e <;> subst e <;> rcases six hB with e | e | e | e | e | e <;> subst e <;> simp at nr <;> simp [secs, turn] <;> omega

theorem S_const (c : Int) (n : Nat) : S (fun _ => c) n = n * c := by
  induction n with
  | zero => simp [S]
  | succ n ih => simp only [S, ih]; rw [show ((n+1 : Nat) : Int) = (n : Int) + 1 by omega, Int.add_mul]; omega

theorem BX_cs (h : Path n x y d) {x0 y0 : Int} {a b : Nat} (hb : InBox n x y x0 y0 a b) :
    BX x0 y0 a b (cs n x y) = 3 * (BX x0 y0 a b (fun u v => N n x y v (2*u)) + BX x0 y0 a b (fun u v => N n x y v (2*u+1))) := by
  have hi := h.pos
  have h0 := hb.l 0; have h0r := hb.r 0; have h0d := hb.d 0; have h0u := hb.u 0
  have zx : ∀ u v k, (u ≤ x0 ∨ x0 + a - 1 ≤ u) → (k = 0 ∨ k = 1) → N n x y v (2*u+k) = 0 := by
    intro u v k hu hk
    refine Classical.byContradiction fun c => ?_
    have := N_in h hb c
    omega
  have zy : ∀ q v, (v ≤ y0 ∨ y0 + b - 1 ≤ v) → N n x y v q = 0 := by
    intro q v hv
    refine Classical.byContradiction fun c => ?_
    have := N_in h hb c
    omega
  have A := BX x0 y0 a b (fun u v => N n x y v (2*u))
  have e0 : BX x0 y0 a b (cs n x y) = BX x0 y0 a b (fun u v => N n x y v (2*u)) + BX x0 y0 a b (fun u v => N n x y v (2*(u-1)+1)) + BX x0 y0 a b (fun u v => N n x y v (2*(u-1))) + BX x0 y0 a b (fun u v => N n x y (v-1) (2*(u-1)+1)) + BX x0 y0 a b (fun u v => N n x y (v-1) (2*u)) + BX x0 y0 a b (fun u v => N n x y (v-1) (2*u+1)) := by
    rw [← BX_add, ← BX_add, ← BX_add, ← BX_add, ← BX_add]
    refine BX_congr fun u v _ _ _ _ => ?_
    unfold cs W
    simp only [sr, sq]
    simp
    rw [show 2 * (u-1) + 1 = 2*u - 1 by omega, show 2 * (u-1) = 2*u-2 by omega]
  have e1 : BX x0 y0 a b (fun u v => N n x y v (2*(u-1)+1)) = BX x0 y0 a b (fun u v => N n x y v (2*u+1)) := BX_shiftx (f := fun u v => N n x y v (2*u+1)) (fun v => zx _ _ _ (by omega) (by omega)) (fun v => zx _ _ _ (by omega) (by omega))
  have e2 : BX x0 y0 a b (fun u v => N n x y v (2*(u-1))) = BX x0 y0 a b (fun u v => N n x y v (2*u)) := BX_shiftx (f := fun u v => N n x y v (2*u)) (fun v => by have := zx (x0-1) v 0 (by omega) (by omega); rwa [Int.add_zero] at this) (fun v => by have := zx (x0+a-1) v 0 (by omega) (by omega); rwa [Int.add_zero] at this)
  have e4 : BX x0 y0 a b (fun u v => N n x y (v-1) (2*u)) = BX x0 y0 a b (fun u v => N n x y v (2*u)) := BX_shifty (f := fun u v => N n x y v (2*u)) (fun v => zy _ _ (by omega)) (fun v => zy _ _ (by omega))
  have e5 : BX x0 y0 a b (fun u v => N n x y (v-1) (2*u+1)) = BX x0 y0 a b (fun u v => N n x y v (2*u+1)) := BX_shifty (f := fun u v => N n x y v (2*u+1)) (fun v => zy _ _ (by omega)) (fun v => zy _ _ (by omega))
  have e3 : BX x0 y0 a b (fun u v => N n x y (v-1) (2*(u-1)+1)) = BX x0 y0 a b (fun u v => N n x y v (2*u+1)) := by
    rw [BX_shifty (f := fun u v => N n x y v (2*(u-1)+1)) (fun v => zy _ _ (by omega)) (fun v => zy _ _ (by omega)), e1]
  rw [e0, e1, e2, e3, e4, e5]
  omega

/-- is the place on the ring (by its first n) -/
def onRing (n : Nat) (x y : Nat → Int) (u v : Int) : Int := S (fun k => if x k = u ∧ y k = v then 1 else 0) n

/-- PICK -/
theorem Simple.pick (h : Simple n x y d) {x0 y0 : Int} {a b : Nat} (hb : InBox n x y x0 y0 a b) (on : Int → Int → Bool) (hon : ∀ u v, on u v = true ↔ ∃ i, i < n ∧ x i = u ∧ y i = v) {s : Int} (hs : s = 1 ∨ s = -1) (hT : T n d = 6 * s) (hl : 2 * lw n x y d 0 = 1 + s) (hN : ∀ r q, N n x y r q = 0 ∨ N n x y r q = s) :
    s * (BX x0 y0 a b (fun u v => N n x y v (2*u)) + BX x0 y0 a b (fun u v => N n x y v (2*u+1))) = 2 * BX x0 y0 a b (fun u v => if on u v = false ∧ N n x y v (2*u) ≠ 0 then 1 else 0) + n - 2 := by
  have e := BX_cs h.toPath hb
  have p := h.pos
  have e1 : BX x0 y0 a b (cs n x y) = BX x0 y0 a b (fun u v => (6 * s) * (if on u v = false ∧ N n x y v (2*u) ≠ 0 then 1 else 0) + S (fun k => if x (k+1) = u ∧ y (k+1) = v then 6 * lw n x y d 0 - 3 - turn (d k) (d (k+1)) else 0) n) := by
    refine BX_congr fun u v _ _ _ _ => ?_
    by_cases c : on u v = true
    · obtain ⟨i, hi, q1, q2⟩ := (hon u v).mp c
      have a1 := h.cs_on (i + n - 1)
      have hin : i + n - 1 + 1 = i + n := by omega
      rw [hin, h.px, h.py, q1, q2] at a1
      rw [if_neg (by rw [c]; exact fun k => Bool.noConfusion k.1), a1]
      have a2 : S (fun k => if x (k+1) = u ∧ y (k+1) = v then 6 * lw n x y d 0 - 3 - turn (d k) (d (k+1)) else 0) n = 6 * lw n x y d 0 - 3 - turn (d (i + n - 1)) (d (i + n)) := by
        refine S_one (k := (i + n - 1) % n) (Nat.mod_lt _ p) ?_ ?_
        · have hx' : x ((i + n - 1) % n + 1) = x (i + n - 1 + 1) := per_mod (f := fun i => x (i+1)) (fun i => by show x (i + n + 1) = x (i+1); rw [show i + n + 1 = (i+1) + n by omega, h.px]) _
          have hy' : y ((i + n - 1) % n + 1) = y (i + n - 1 + 1) := per_mod (f := fun i => y (i+1)) (fun i => by show y (i + n + 1) = y (i+1); rw [show i + n + 1 = (i+1) + n by omega, h.py]) _
          have hd' : d ((i + n - 1) % n + 1) = d (i + n - 1 + 1) := per_mod (f := fun i => d (i+1)) (fun i => by show d (i + n + 1) = d (i+1); rw [show i + n + 1 = (i+1) + n by omega, h.pd]) _
          rw [hx', hy', hd', per_mod h.pd, hin, h.px, h.py, if_pos ⟨q1, q2⟩]
        · intro k hk hne
          refine if_neg fun c => hne ?_
          have z := h.inj (k+1) i (by rw [c.1, q1]) (by rw [c.2, q2])
          rw [Nat.mod_eq_of_lt hi] at z
          by_cases w : i = 0
          · subst w
            rw [Nat.mod_eq_of_lt (by omega)]
            by_cases w2 : k + 1 < n
            · rw [Nat.mod_eq_of_lt w2] at z; omega
            · omega
          · rw [show i + n - 1 = (i - 1) + n by omega, Nat.add_mod_right, Nat.mod_eq_of_lt (by omega)]
            by_cases w2 : k + 1 < n
            · rw [Nat.mod_eq_of_lt w2] at z; omega
            · rw [show k + 1 = n by omega, Nat.mod_self] at z; omega
      rw [a2]
      omega
    · have c' : ∀ i, ¬ (x i = u ∧ y i = v) := fun i q => c ((hon u v).mpr ⟨i % n, Nat.mod_lt _ p, by rw [per_mod h.px]; exact q.1, by rw [per_mod h.py]; exact q.2⟩)
      rw [S_zero (f := fun k => if x (k+1) = u ∧ y (k+1) = v then 6 * lw n x y d 0 - 3 - turn (d k) (d (k+1)) else 0) (fun k _ => if_neg (c' (k+1)))]
      have o := fun j hj => off h.toPath u v (fun i _ => c' i) j hj
      unfold cs
      rw [o 1 (by omega), o 2 (by omega), o 3 (by omega), o 4 (by omega), o 5 (by omega)]
      have w0 : W n x y u v 0 = N n x y v (2*u) := rfl
      rw [w0]
      have on' : on u v = false := by simpa using c
      rcases hN v (2*u) with z | z
      · rw [if_neg (fun k => k.2 z), z]; omega
      · rw [if_pos ⟨on', by omega⟩, z]; omega
  rw [e1, BX_add, BX_mul, BX_S] at e
  have e2 : S (fun k => BX x0 y0 a b (fun u v => if x (k+1) = u ∧ y (k+1) = v then 6 * lw n x y d 0 - 3 - turn (d k) (d (k+1)) else 0)) n = S (fun k => (6 * lw n x y d 0 - 3) - turn (d k) (d (k+1))) n :=
    S_congr fun k _ => BX_one (by have := hb.l (k+1); omega) (by have := hb.r (k+1); omega) (by have := hb.d (k+1); omega) (by have := hb.u (k+1); omega)
  rw [e2, S_sub (fun _ => 6 * lw n x y d 0 - 3) (fun k => turn (d k) (d (k+1))), S_const] at e
  have e3 : S (fun k => turn (d k) (d (k+1))) n = 6 * s := hT
  rw [e3, show 6 * lw n x y d 0 - 3 = 3 * s by omega] at e
  rcases hs with q | q <;> subst q <;> omega
end Jd
set_option maxHeartbeats 4000000
namespace K53
open PySem PySem.Spec PyProof.Rows L2
/-! ### the plain law: rows of crossings as sums -/
theorem valG_cons {α β : Type} [DecidableEq α] (p : α × β) (l : List (α × β)) (c : α) : valG (p :: l) c = if p.1 = c then some p.2 else valG l c := by
  unfold valG
  rw [List.find?_cons]
  by_cases h : p.1 = c
  · simp [h]
  · simp [h]
theorem valG_app {α β : Type} [DecidableEq α] (l : List (α × β)) (a : α) (b : β) (c : α) (h : a ∉ l.map (·.1)) : valG (l ++ [(a, b)]) c = if a = c then some b else valG l c := by
  induction l with
  | nil => rw [List.nil_append, valG_cons]
  | cons p l ih =>
    have h1 : p.1 ≠ a := fun z => h (by rw [← z]; exact List.mem_cons_self)
    have h2 : a ∉ l.map (·.1) := fun z => h (List.mem_cons_of_mem _ z)
    rw [List.cons_append, valG_cons, valG_cons, ih h2]
    by_cases e : p.1 = c
    · rw [if_pos e, if_pos e, if_neg (fun z => h1 (e.trans z.symm))]
    · rw [if_neg e, if_neg e]
theorem valG_map {α β : Type} [DecidableEq α] (l : List (α × β)) (a : α) (b : β) (c : α) (h : a ∈ l.map (·.1)) : valG (l.map fun p => if p.1 = a then (p.1, b) else p) c = if a = c then some b else valG l c := by
  induction l with
  | nil => cases h
  | cons p l ih =>
    rw [List.map_cons, valG_cons, valG_cons]
    by_cases e : p.1 = a
    · rw [if_pos e]
      by_cases f : a = c
      · rw [if_pos f, if_pos (e.trans f)]
      · rw [if_neg f, if_neg (fun z => f (e.symm.trans z)), if_neg (fun z => f (e.symm.trans z))]
        by_cases m : a ∈ l.map (·.1)
        · rw [ih m, if_neg f]
        · congr 1
          have : ∀ x ∈ l, (if x.1 = a then (x.1, b) else x) = x := fun x hx => if_neg fun z => m (List.mem_map.mpr ⟨x, hx, z⟩)
          rw [List.map_congr_left this, List.map_id']
    · have m : a ∈ l.map (·.1) := by
        rcases List.mem_cons.mp h with z | z
        · exact absurd z.symm e
        · exact z
      rw [if_neg e, ih m]
      by_cases f : p.1 = c
      · rw [if_pos f, if_pos f, if_neg (fun z => e (f.trans z.symm))]
      · rw [if_neg f, if_neg f]
theorem any_key {α β : Type} [DecidableEq α] (l : List (α × β)) (a : α) : (l.any fun p => decide (p.1 = a)) = true ↔ a ∈ l.map (·.1) := by
  rw [List.any_eq_true, List.mem_map]
  exact ⟨fun ⟨p, h1, h2⟩ => ⟨p, h1, of_decide_eq_true h2⟩, fun ⟨p, h1, h2⟩ => ⟨p, h1, decide_eq_true h2⟩⟩
theorem valG_put {α β : Type} [DecidableEq α] (l : List (α × β)) (a : α) (b : β) (c : α) : valG (putG l a b) c = if a = c then some b else valG l c := by
  unfold putG
  by_cases e : a ∈ l.map (·.1)
  · rw [if_pos ((any_key l a).mpr e)]
    exact valG_map l a b c e
  · rw [if_neg fun z => e ((any_key l a).mp z)]
    exact valG_app l a b c e
theorem esum_cons (p : Int × Int) (l : Ev) (q : Int) : esum (p :: l) q = (if q < p.1 then p.2 else 0) + esum l q := by
  unfold esum
  rw [List.filter_cons]
  by_cases h : q < p.1
  · simp [h]
  · simp [h]
theorem esum_app (l : Ev) (a b q : Int) : esum (l ++ [(a, b)]) q = esum l q + if q < a then b else 0 := by
  induction l with
  | nil => rw [List.nil_append, esum_cons]; simp [esum]
  | cons p l ih => rw [List.cons_append, esum_cons, esum_cons, ih]; omega
theorem evGet_cons (p : Int × Int) (l : Ev) (z : Int) : evGet (p :: l) z = if p.1 = z then p.2 else evGet l z := by
  unfold evGet
  rw [valG_cons]
  split <;> rfl
theorem esum_map {l : Ev} (nd : (l.map (·.1)).Nodup) (z v q : Int) (m : z ∈ l.map (·.1)) : esum (l.map fun p => if p.1 = z then (p.1, v) else p) q = esum l q + if q < z then v - evGet l z else 0 := by
  induction l with
  | nil => cases m
  | cons p l ih =>
    have nd := List.nodup_cons.mp nd
    rw [List.map_cons, esum_cons, esum_cons, evGet_cons]
    by_cases e : p.1 = z
    · have : ∀ x ∈ l, (if x.1 = z then (x.1, v) else x) = x := fun x hx => if_neg fun y => nd.1 (List.mem_map.mpr ⟨x, hx, y.trans e.symm⟩)
      rw [List.map_congr_left this, List.map_id', if_pos e, if_pos e, e]
      split <;> omega
    · have m : z ∈ l.map (·.1) := by
        rcases List.mem_cons.mp m with y | y
        · exact absurd y.symm e
        · exact y
      rw [if_neg e, if_neg e, ih nd.2 m]
      omega
theorem esum_add {l : Ev} (nd : (l.map (·.1)).Nodup) (z s q : Int) : esum (evAdd l z s) q = esum l q + if q < z then s else 0 := by
  unfold evAdd putG
  by_cases e : z ∈ l.map (·.1)
  · rw [if_pos ((any_key l z).mpr e), esum_map nd _ _ _ e]
    split <;> omega
  · rw [if_neg fun y => e ((any_key l z).mp y), esum_app]
    have : evGet l z = 0 := by unfold evGet; rw [valG_none.mpr e]; rfl
    rw [this]
    split <;> omega
/-- every row's keys differ -/
def RwN (rs : List (Int × Ev)) : Prop := ∀ r, (((valG rs r).getD []).map (·.1)).Nodup
theorem rwN_add {rs : List (Int × Ev)} (h : RwN rs) (c : Cr) : RwN (rwAdd rs c) := by
  intro r
  unfold rwAdd
  rw [valG_put]
  by_cases e : c.1 = r
  · rw [if_pos e]
    exact putG_nodup (h c.1) _ _
  · rw [if_neg e]
    exact h r
theorem rnum_add {rs : List (Int × Ev)} (h : RwN rs) (c : Cr) (r q : Int) : rnum (rwAdd rs c) r q = rnum rs r q + if c.1 = r ∧ q < c.2.1 then c.2.2 else 0 := by
  unfold rnum rwAdd
  rw [valG_put]
  by_cases e : c.1 = r
  · rw [if_pos e]
    show esum (evAdd _ _ _) q = _
    rw [esum_add (h c.1), e]
    by_cases f : q < c.2.1
    · rw [if_pos f, if_pos ⟨rfl, f⟩]
    · rw [if_neg f, if_neg fun y => f y.2]
  · rw [if_neg e, if_neg fun y => e y.1, Int.add_zero]
theorem rnum_fold : ∀ (cs : List Cr) (rs : List (Int × Ev)) (r q : Int), RwN rs → rnum (cs.foldl rwAdd rs) r q = rnum rs r q + (cs.map fun c => if c.1 = r ∧ q < c.2.1 then c.2.2 else 0).sum
  | [], rs, r, q, _ => by simp
  | c :: cs, rs, r, q, h => by
    rw [List.foldl_cons, rnum_fold cs _ r q (rwN_add h c), rnum_add h, List.map_cons, List.sum_cons]
    omega
theorem rnum_rws (cs : List Cr) (r q : Int) : rnum (rws cs) r q = (cs.map fun c => if c.1 = r ∧ q < c.2.1 then c.2.2 else 0).sum := by
  unfold rws
  rw [rnum_fold cs [] r q (fun r => by simp [valG])]
  have : rnum [] r q = 0 := by simp [rnum, valG, esum]
  rw [this, Int.zero_add]
theorem sum_fm {α β : Type} (f : α → Option β) (h : β → Int) : ∀ (l : List α), ((l.filterMap f).map h).sum = (l.map fun a => ((f a).map h).getD 0).sum
  | [] => rfl
  | a :: l => by
    rw [List.filterMap_cons, List.map_cons, List.sum_cons, ← sum_fm f h l]
    cases e : f a with
    | none => simp
    | some b => simp
theorem S_range (f : Nat → Int) : ∀ n, Jd.S f n = ((List.range n).map f).sum
  | 0 => rfl
  | n + 1 => by
    rw [List.range_succ, List.map_append, List.sum_append]
    show Jd.S f n + f n = _
    rw [S_range f n]
    simp
/-! ### the ring's places by number -/
def at_ (ps : List (Int × Int)) (i : Nat) : Int × Int := (ps[i % ps.length]?).getD (0, 0)
theorem at_per (ps : List (Int × Int)) (i : Nat) : at_ ps (i + ps.length) = at_ ps i := by
  unfold at_
  rw [Nat.add_mod_right]
theorem at_get {ps : List (Int × Int)} {i : Nat} (h : i < ps.length) : ps[i]? = some (at_ ps i) := by
  unfold at_
  rw [Nat.mod_eq_of_lt h, List.getElem?_eq_getElem h]
  rfl
theorem at_mem {ps : List (Int × Int)} (h : ps ≠ []) (i : Nat) : at_ ps i ∈ ps := by
  have h0 : 0 < ps.length := List.length_pos_iff.mpr h
  have h1 := Nat.mod_lt i h0
  have h2 : at_ ps i = at_ ps (i % ps.length) := by
    unfold at_
    rw [Nat.mod_mod]
  rw [h2]
  exact List.mem_of_getElem? (at_get h1)
theorem mem_at {ps : List (Int × Int)} {p : Int × Int} (h : p ∈ ps) : ∃ i, i < ps.length ∧ at_ ps i = p := by
  obtain ⟨i, hi, e⟩ := List.mem_iff_getElem.mp h
  refine ⟨i, hi, ?_⟩
  have := at_get hi
  rw [List.getElem?_eq_getElem hi, e] at this
  exact (Option.some.inj this).symm
theorem prs_at (ps : List (Int × Int)) : prs ps = (List.range ps.length).map fun i => (at_ ps i, at_ ps (i + 1)) := by
  apply List.ext_getElem?
  intro i
  unfold prs
  rw [List.getElem?_map]
  by_cases h : i < ps.length
  · have key : (ps.drop 1 ++ ps.take 1)[i]? = some (at_ ps (i + 1)) := by
      by_cases h2 : i + 1 < ps.length
      · rw [List.getElem?_append_left (by rw [List.length_drop]; omega), List.getElem?_drop, Nat.add_comm 1 i]
        exact at_get h2
      · rw [List.getElem?_append_right (by rw [List.length_drop]; omega), List.length_drop]
        have e : i + 1 = 0 + ps.length := by omega
        have e2 : i - (ps.length - 1) = 0 := by omega
        rw [e2, e, at_per, List.getElem?_take_of_lt (by omega)]
        exact at_get (by omega)
    have k2 : (ps.zip (ps.drop 1 ++ ps.take 1))[i]? = some (at_ ps i, at_ ps (i + 1)) := List.getElem?_zip_eq_some.mpr ⟨at_get h, key⟩
    rw [List.getElem?_range h, k2]
    rfl
  · rw [List.getElem?_eq_none (by rw [List.length_zip]; omega), List.getElem?_eq_none (by rw [List.length_range]; omega)]
    rfl
end K53
set_option maxHeartbeats 4000000
namespace K53
open PySem PySem.Spec PyProof.Rows L2
/-! ### a ring of places is a path of the plain mathematics -/
def jd (g : Bool) (k : Nat) : Nat := if g then k else if k = 0 then 0 else if k = 1 then 1 else if k = 2 then 3 else 4
theorem jd_lt {g : Bool} {k : Nat} (h : k < hd g) : jd g k < 6 := by
  cases g
  · unfold jd; simp only [Bool.false_eq_true, if_false]; split <;> try omega
    split <;> try omega
    split <;> omega
  · exact h
theorem stp_jd {g : Bool} {k : Nat} (h : k < hd g) : stp g k = (Jd.sx (jd g k), Jd.sy (jd g k)) := by
  cases g
  · have h : k < 4 := h
    match k, h with
    | 0, _ => rfl
    | 1, _ => rfl
    | 2, _ => rfl
    | 3, _ => rfl
  · have h : k < 6 := h
    match k, h with
    | 0, _ => rfl
    | 1, _ => rfl
    | 2, _ => rfl
    | 3, _ => rfl
    | 4, _ => rfl
    | 5, _ => rfl
theorem stl_get {g : Bool} {p : Int × Int} (h : p ∈ stl g) : (stl g).idxOf p < hd g ∧ stp g ((stl g).idxOf p) = p := by
  have h1 : (stl g).idxOf p < (stl g).length := List.idxOf_lt_length_of_mem h
  have h2 : (stl g)[(stl g).idxOf p]? = some p := by
    rw [List.getElem?_eq_getElem h1, List.getElem_idxOf h1]
  have h3 : (stl g).length = hd g := by unfold stl; simp
  refine ⟨by omega, ?_⟩
  rw [h3] at h1
  generalize (stl g).idxOf p = i at h1 h2
  unfold stl at h2
  rw [List.getElem?_map, List.getElem?_range h1] at h2
  exact Option.some.inj h2
def way (g : Bool) (ps : List (Int × Int)) (i : Nat) : Nat := (stl g).idxOf (psub (at_ ps (i + 1)) (at_ ps i))
abbrev px (ps : List (Int × Int)) (i : Nat) : Int := (at_ ps i).1
abbrev py (ps : List (Int × Int)) (i : Nat) : Int := (at_ ps i).2
abbrev pd (g : Bool) (ps : List (Int × Int)) (i : Nat) : Nat := jd g (way g ps i)
theorem per_all {α : Type} {f : Nat → α} {n : Nat} (h0 : 0 < n) (h : ∀ i, f (i + n) = f i) {P : α → Prop} (k : ∀ i, i < n → P (f i)) (i : Nat) : P (f i) := by
  rw [← Jd.per_mod h i]
  exact k _ (Nat.mod_lt _ h0)
theorem stepIn {g : Bool} {ps : List (Int × Int)} (ne : ps ≠ []) (ok : okSt g ps) (i : Nat) : psub (at_ ps (i + 1)) (at_ ps i) ∈ stl g := by
  have h0 : 0 < ps.length := List.length_pos_iff.mpr ne
  refine per_all (f := fun i => psub (at_ ps (i + 1)) (at_ ps i)) h0 (fun i => ?_) (P := fun z => z ∈ stl g) (fun i hi => ?_) i
  · show psub (at_ ps (i + ps.length + 1)) (at_ ps (i + ps.length)) = _
    rw [show i + ps.length + 1 = i + 1 + ps.length by omega, at_per, at_per]
  · exact ok (at_ ps i, at_ ps (i + 1)) (by rw [prs_at]; exact List.mem_map.mpr ⟨i, List.mem_range.mpr hi, rfl⟩)
theorem way_is {g : Bool} {ps : List (Int × Int)} (ne : ps ≠ []) (ok : okSt g ps) (i : Nat) : way g ps i < hd g ∧ at_ ps (i + 1) = padd (at_ ps i) (stp g (way g ps i)) := by
  obtain ⟨h1, h2⟩ := stl_get (stepIn ne ok i)
  refine ⟨h1, ?_⟩
  show _ = padd _ (stp g ((stl g).idxOf _))
  rw [h2]
  apply Prod.ext
  · show _ = (at_ ps i).1 + ((at_ ps (i + 1)).1 - (at_ ps i).1)
    omega
  · show _ = (at_ ps i).2 + ((at_ ps (i + 1)).2 - (at_ ps i).2)
    omega
theorem way_per (g : Bool) (ps : List (Int × Int)) (i : Nat) : way g ps (i + ps.length) = way g ps i := by
  unfold way
  rw [show i + ps.length + 1 = i + 1 + ps.length by omega, at_per, at_per]
theorem path_of {g : Bool} {ps : List (Int × Int)} (ne : ps ≠ []) (ok : okSt g ps) : Jd.Path ps.length (px ps) (py ps) (pd g ps) where
  pos := List.length_pos_iff.mpr ne
  dlt i := jd_lt (way_is ne ok i).1
  hx i := by
    obtain ⟨h1, h2⟩ := way_is ne ok i
    show (at_ ps (i + 1)).1 = _
    rw [h2, stp_jd h1]
    rfl
  hy i := by
    obtain ⟨h1, h2⟩ := way_is ne ok i
    show (at_ ps (i + 1)).2 = _
    rw [h2, stp_jd h1]
    rfl
  px i := by show (at_ ps _).1 = _; rw [at_per]
  py i := by show (at_ ps _).2 = _; rw [at_per]
  pd i := by show jd g (way g ps _) = _; rw [way_per]
def cw1 (r q : Int) (o : Option Cr) : Int := (o.map fun c => if c.1 = r ∧ q < c.2.1 then c.2.2 else 0).getD 0
theorem cros_cr {g : Bool} {a b : Int × Int} {k : Nat} (hk : k < hd g) (e : b = padd a (stp g k)) (r q Q : Int) (hq : if g then Q = q else Q = 2 * q ∨ Q = 2 * q + 1) : cw1 r q (cros g a b) = Jd.cr a.1 a.2 b.1 b.2 Q r := by
  obtain ⟨a1, a2⟩ := a
  have A : ∀ (dx dy : Int), b = (a1 + dx, a2 + dy) → (dy = 0 ∨ dy = 1 ∨ dy = -1) → (g = false → dy ≠ 0 → dx = 0) → cw1 r q (cros g (a1, a2) b) = Jd.cr a1 a2 b.1 b.2 Q r := by
    rintro dx dy rfl hy hx
    unfold cw1 cros Jd.cr
    rcases hy with rfl | rfl | rfl
    · have e0 : a2 = a2 + 0 := by omega
      rw [if_pos e0, if_neg (by omega), if_neg (by omega)]
      rfl
    · have e1 : ¬ a2 = a2 + 1 := by omega
      have e2 : a2 < a2 + 1 := by omega
      simp only [e1, e2, if_true, if_false, Option.map_some, Option.getD_some]
      cases g
      · have := hx rfl (by omega)
        simp only [Bool.false_eq_true, if_false] at hq ⊢
        subst this
        by_cases c : a2 = r ∧ q < a1
        · rw [if_pos c, if_pos ⟨trivial, c.1, by omega⟩]
        · rw [if_neg c, if_neg (by omega), if_neg (by omega)]
      · simp only [if_true] at hq ⊢
        by_cases c : a2 = r ∧ q < 2 * a1 + (a1 + dx) - a1
        · rw [if_pos c, if_pos ⟨trivial, c.1, by omega⟩]
        · rw [if_neg c, if_neg (by omega), if_neg (by omega)]
    · have e1 : ¬ a2 = a2 + -1 := by omega
      have e2 : ¬ a2 < a2 + -1 := by omega
      simp only [e1, e2, if_false, Option.map_some, Option.getD_some]
      cases g
      · have := hx rfl (by omega)
        simp only [Bool.false_eq_true, if_false] at hq ⊢
        subst this
        by_cases c : a2 + -1 = r ∧ q < a1 + 0
        · rw [if_pos c, if_neg (by omega), if_pos (by omega)]
        · rw [if_neg c, if_neg (by omega), if_neg (by omega)]
      · simp only [if_true] at hq ⊢
        by_cases c : a2 + -1 = r ∧ q < 2 * (a1 + dx) + a1 - (a1 + dx)
        · rw [if_pos c, if_neg (by omega), if_pos (by omega)]
        · rw [if_neg c, if_neg (by omega), if_neg (by omega)]
  refine A (stp g k).1 (stp g k).2 e ?_ ?_
  · cases g
    · match k, (hk : k < 4) with
      | 0, _ => exact .inl rfl
      | 1, _ => exact .inr (.inl rfl)
      | 2, _ => exact .inl rfl
      | 3, _ => exact .inr (.inr rfl)
    · match k, (hk : k < 6) with
      | 0, _ => exact .inl rfl
      | 1, _ => exact .inr (.inl rfl)
      | 2, _ => exact .inr (.inl rfl)
      | 3, _ => exact .inl rfl
      | 4, _ => exact .inr (.inr rfl)
      | 5, _ => exact .inr (.inr rfl)
  · rintro rfl
    match k, (hk : k < 4) with
    | 0, _ => exact fun h => absurd rfl h
    | 1, _ => exact fun _ => rfl
    | 2, _ => exact fun h => absurd rfl h
    | 3, _ => exact fun _ => rfl
theorem rnum_N {g : Bool} {ps : List (Int × Int)} (ne : ps ≠ []) (ok : okSt g ps) (r q Q : Int) (hq : if g then Q = q else Q = 2 * q ∨ Q = 2 * q + 1) : rnum (orow g ps) r q = Jd.N ps.length (px ps) (py ps) r Q := by
  unfold orow crs Jd.N
  rw [rnum_rws, sum_fm, S_range]
  have : ps.zip (ps.drop 1 ++ ps.take 1) = prs ps := rfl
  rw [this, prs_at, List.map_map]
  congr 1
  refine List.map_congr_left fun i _ => ?_
  obtain ⟨h1, h2⟩ := way_is ne ok i
  exact cros_cr h1 h2 r q Q hq
end K53
set_option maxHeartbeats 4000000
namespace K53
open PySem PySem.Spec PyProof.Rows L2
/-! ### sums over lists that differ by zeros -/
theorem sum_same {α : Type} [DecidableEq α] (f : α → Int) : ∀ (l m : List α), l.Nodup → m.Nodup → (∀ x, f x ≠ 0 → (x ∈ l ↔ x ∈ m)) → (l.map f).sum = (m.map f).sum
  | [], m, _, _, h => by
    have : ∀ x ∈ m, f x = 0 := fun x hx => by
      by_cases e : f x = 0
      · exact e
      · exact absurd ((h x e).mpr hx) (by simp)
    rw [List.map_congr_left this]
    clear this h
    induction m with
    | nil => rfl
    | cons a m ih => rw [List.map_cons, List.sum_cons, ← ih (by rename_i a1 a2; exact (List.nodup_cons.mp a2).2)]; rfl
  | a :: l, m, nl, nm, h => by
    have nl := List.nodup_cons.mp nl
    by_cases e : f a = 0
    · rw [List.map_cons, List.sum_cons, e, Int.zero_add]
      refine sum_same f l m nl.2 nm fun x hx => ?_
      rw [← h x hx, List.mem_cons]
      exact ⟨.inr, fun z => z.resolve_left fun y => hx (by rw [y]; exact e)⟩
    · have ha := (h a e).mp List.mem_cons_self
      obtain ⟨m1, m2, rfl⟩ := List.append_of_mem ha
      have hp : (m1 ++ a :: m2).Perm (a :: (m1 ++ m2)) := List.perm_middle
      have nm2 := List.nodup_cons.mp (hp.nodup_iff.mp nm)
      have ih := sum_same f l (m1 ++ m2) nl.2 nm2.2 fun x hx => by
        have h1 := h x hx
        rw [hp.mem_iff, List.mem_cons, List.mem_cons] at h1
        constructor
        · intro z
          exact (h1.mp (.inr z)).resolve_left fun y => nl.1 (by rw [← y]; exact z)
        · intro z
          exact (h1.mpr (.inr z)).resolve_left fun y => nm2.1 (by rw [← y]; exact z)
      rw [List.map_cons, List.sum_cons, ih, List.map_append, List.map_append, List.sum_append, List.sum_append, List.map_cons, List.sum_cons]
      omega
theorem nodup_fm {α β : Type} {f : α → List β} : ∀ {l : List α}, l.Nodup → (∀ a ∈ l, (f a).Nodup) → (∀ a ∈ l, ∀ b ∈ l, ∀ x, x ∈ f a → x ∈ f b → a = b) → (l.flatMap f).Nodup
  | [], _, _, _ => List.nodup_nil
  | a :: l, nd, h1, h2 => by
    have nd := List.nodup_cons.mp nd
    rw [List.flatMap_cons]
    refine List.nodup_append.mpr ⟨h1 a List.mem_cons_self, nodup_fm nd.2 (fun b hb => h1 b (List.mem_cons_of_mem _ hb)) (fun b hb c hc => h2 b (List.mem_cons_of_mem _ hb) c (List.mem_cons_of_mem _ hc)), fun x hx y hy e => ?_⟩
    obtain ⟨b, hb, hy⟩ := List.mem_flatMap.mp hy
    have := h2 a List.mem_cons_self b (List.mem_cons_of_mem _ hb) x hx (by rw [e]; exact hy)
    exact nd.1 (by rw [this]; exact hb)
theorem nodup_fp {α β : Type} {f : α → Option β} : ∀ {l : List α}, l.Nodup → (∀ a ∈ l, ∀ b ∈ l, ∀ x, f a = some x → f b = some x → a = b) → (l.filterMap f).Nodup
  | [], _, _ => List.nodup_nil
  | a :: l, nd, h => by
    have nd := List.nodup_cons.mp nd
    have ih := nodup_fp nd.2 fun b hb c hc => h b (List.mem_cons_of_mem _ hb) c (List.mem_cons_of_mem _ hc)
    rw [List.filterMap_cons]
    cases e : f a with
    | none => exact ih
    | some x =>
      refine List.nodup_cons.mpr ⟨fun z => ?_, ih⟩
      obtain ⟨b, hb, eb⟩ := List.mem_filterMap.mp z
      exact nd.1 (by rw [h a List.mem_cons_self b (List.mem_cons_of_mem _ hb) x e eb]; exact hb)
theorem valG_mem {α β : Type} [DecidableEq α] : ∀ {l : List (α × β)}, (l.map (·.1)).Nodup → ∀ {a : α} {b : β}, (a, b) ∈ l → valG l a = some b
  | [], _, _, _, h => by cases h
  | p :: l, nd, a, b, h => by
    have nd := List.nodup_cons.mp nd
    rw [valG_cons]
    rcases List.mem_cons.mp h with z | z
    · rw [← z, if_pos rfl]
    · rw [if_neg fun y => nd.1 (List.mem_map.mpr ⟨(a, b), z, y.symm⟩)]
      exact valG_mem nd.2 z
/-! ### the rows' keys -/
theorem rws_nd : ∀ (cs : List Cr) (rs : List (Int × Ev)), (rs.map (·.1)).Nodup → ((cs.foldl rwAdd rs).map (·.1)).Nodup
  | [], _, h => h
  | c :: cs, rs, h => rws_nd cs _ (putG_nodup h _ _)
theorem rwN_fold : ∀ (cs : List Cr) (rs : List (Int × Ev)), RwN rs → RwN (cs.foldl rwAdd rs)
  | [], _, h => h
  | c :: cs, rs, h => rwN_fold cs _ (rwN_add h c)
theorem putG_mem {α β : Type} [DecidableEq α] {l : List (α × β)} {a : α} {b : β} {x : α × β} (h : x ∈ putG l a b) : x = (a, b) ∨ x ∈ l := by
  unfold putG at h
  split at h
  · obtain ⟨p, hp, e⟩ := List.mem_map.mp h
    by_cases z : p.1 = a
    · rw [if_pos z] at e
      left
      rw [← e, z]
    · rw [if_neg z] at e
      right
      rw [← e]
      exact hp
  · rcases List.mem_append.mp h with z | z
    · exact .inr z
    · exact .inl (List.mem_singleton.mp z)
/-- where a row's events come from -/
def RwI (A : List Cr) (rs : List (Int × Ev)) : Prop := ∀ r ∈ rs, r.2 ≠ [] ∧ ∀ z ∈ r.2.map (·.1), ∃ c ∈ A, c.1 = r.1 ∧ c.2.1 = z
theorem rwI_add {A : List Cr} {rs : List (Int × Ev)} (h : RwI A rs) {c : Cr} (hc : c ∈ A) : RwI A (rwAdd rs c) := by
  intro r hr
  rcases putG_mem hr with z | z
  · rw [z]
    refine ⟨fun y => ?_, fun z hz => ?_⟩
    · have k := putG_keys ((valG rs c.1).getD []) c.2.1 (evGet ((valG rs c.1).getD []) c.2.1 + c.2.2)
      have y : putG ((valG rs c.1).getD []) c.2.1 (evGet ((valG rs c.1).getD []) c.2.1 + c.2.2) = [] := y
      rw [y] at k
      split at k
      · next m => rw [← k] at m; cases m
      · simp at k
    · have hz : z ∈ (putG ((valG rs c.1).getD []) c.2.1 (evGet ((valG rs c.1).getD []) c.2.1 + c.2.2)).map (·.1) := hz
      rw [putG_keys] at hz
      have old : z ∈ ((valG rs c.1).getD []).map (·.1) → ∃ c' ∈ A, c'.1 = c.1 ∧ c'.2.1 = z := by
        intro m
        cases e : valG rs c.1 with
        | none => rw [e] at m; cases m
        | some ev =>
          rw [e] at m
          exact (h _ (valG_some e)).2 z m
      split at hz
      · exact old hz
      · rcases List.mem_append.mp hz with m | m
        · exact old m
        · exact ⟨c, hc, rfl, (List.mem_singleton.mp m).symm⟩
  · exact h r z
theorem rwI_fold {A : List Cr} : ∀ (cs : List Cr) (rs : List (Int × Ev)), RwI A rs → (∀ c ∈ cs, c ∈ A) → RwI A (cs.foldl rwAdd rs)
  | [], _, h, _ => h
  | c :: cs, rs, h, k => rwI_fold cs _ (rwI_add h (k c List.mem_cons_self)) fun d hd => k d (List.mem_cons_of_mem _ hd)
theorem orow_nd (g : Bool) (ps : List (Int × Int)) : ((orow g ps).map (·.1)).Nodup := rws_nd _ _ List.nodup_nil
theorem orow_rn (g : Bool) (ps : List (Int × Int)) : RwN (orow g ps) := rwN_fold _ _ fun r => by simp [valG]
theorem orow_ri (g : Bool) (ps : List (Int × Int)) : RwI (crs g ps) (orow g ps) := rwI_fold _ _ (fun _ h => nomatch h) fun _ h => h
theorem orow_val {g : Bool} {ps : List (Int × Int)} {r : Int × Ev} (h : r ∈ orow g ps) : valG (orow g ps) r.1 = some r.2 := valG_mem (orow_nd g ps) h
theorem orow_ev {g : Bool} {ps : List (Int × Int)} {r : Int × Ev} (h : r ∈ orow g ps) : (r.2.map (·.1)).Nodup := by
  have := orow_rn g ps r.1
  rw [orow_val h] at this
  exact this
theorem orow_num {g : Bool} {ps : List (Int × Int)} {r : Int × Ev} (h : r ∈ orow g ps) (q : Int) : rnum (orow g ps) r.1 q = esum r.2 q := by
  unfold rnum
  rw [orow_val h]
  rfl
/-- a crossing comes from a step -/
theorem crs_from {g : Bool} {ps : List (Int × Int)} (ne : ps ≠ []) (ok : okSt g ps) {c : Cr} (h : c ∈ crs g ps) : ∃ i, i < ps.length ∧ (if g then c.2.1 = px ps i + px ps (i + 1) else 2 * c.2.1 = px ps i + px ps (i + 1)) ∧ ((c.1 = py ps i ∧ py ps (i + 1) = c.1 + 1) ∨ (c.1 = py ps (i + 1) ∧ py ps i = c.1 + 1)) := by
  obtain ⟨z, hz, e⟩ := List.mem_filterMap.mp h
  have hz : z ∈ prs ps := hz
  rw [prs_at] at hz
  obtain ⟨i, hi, rfl⟩ := List.mem_map.mp hz
  refine ⟨i, List.mem_range.mp hi, ?_⟩
  obtain ⟨h1, h2⟩ := way_is ne ok i
  have e : cros g (at_ ps i) (at_ ps (i + 1)) = some c := e
  show (if g then c.2.1 = (at_ ps i).1 + (at_ ps (i + 1)).1 else 2 * c.2.1 = (at_ ps i).1 + (at_ ps (i + 1)).1) ∧ ((c.1 = (at_ ps i).2 ∧ (at_ ps (i + 1)).2 = c.1 + 1) ∨ (c.1 = (at_ ps (i + 1)).2 ∧ (at_ ps i).2 = c.1 + 1))
  generalize at_ ps (i + 1) = b at *
  generalize at_ ps i = a at *
  generalize way g ps i = k at *
  subst h2
  obtain ⟨a1, a2⟩ := a
  cases g
  · match k, (h1 : k < 4) with
    | 0, _ => simp [cros, stp, padd] at e
    | 1, _ =>
      have e2 : a2 < a2 + 1 := by omega
      have e3 : ¬ a2 = a2 + 1 := by omega
      simp [cros, stp, padd, e2, e3] at e
      subst e
      simp [stp, padd]
      omega
    | 2, _ => simp [cros, stp, padd] at e
    | 3, _ =>
      have e2 : ¬ a2 < a2 + -1 := by omega
      have e3 : ¬ a2 = a2 + -1 := by omega
      simp [cros, stp, padd, e2, e3] at e
      subst e
      simp [stp, padd]
      omega
  · match k, (h1 : k < 6) with
    | 0, _ => simp [cros, stp, padd] at e
    | 1, _ =>
      have e2 : a2 < a2 + 1 := by omega
      have e3 : ¬ a2 = a2 + 1 := by omega
      simp [cros, stp, padd, e2, e3] at e
      subst e
      simp [stp, padd]
      omega
    | 2, _ =>
      have e2 : a2 < a2 + 1 := by omega
      have e3 : ¬ a2 = a2 + 1 := by omega
      simp [cros, stp, padd, e2, e3] at e
      subst e
      simp [stp, padd]
      omega
    | 3, _ => simp [cros, stp, padd] at e
    | 4, _ =>
      have e2 : ¬ a2 < a2 + -1 := by omega
      have e3 : ¬ a2 = a2 + -1 := by omega
      simp [cros, stp, padd, e2, e3] at e
      subst e
      simp [stp, padd]
      omega
    | 5, _ =>
      have e2 : ¬ a2 < a2 + -1 := by omega
      have e3 : ¬ a2 = a2 + -1 := by omega
      simp [cros, stp, padd, e2, e3] at e
      subst e
      simp [stp, padd]
      omega
end K53
set_option maxHeartbeats 4000000
namespace K53
open PySem PySem.Spec PyProof.Rows L2
/-! ### a closed way stays near -/
theorem near {n : Nat} {f : Nat → Int} (h0 : 0 < n) (hp : ∀ i, f (i + n) = f i) (hs : ∀ i, -1 ≤ f (i + 1) - f i ∧ f (i + 1) - f i ≤ 1) (i j : Nat) : 2 * (f i - f j) ≤ n := by
  have run : ∀ (k i : Nat), -(k : Int) ≤ f (i + k) - f i ∧ f (i + k) - f i ≤ k := by
    intro k
    induction k with
    | zero => intro i; simp
    | succ k ih =>
      intro i
      have a := ih i
      have b := hs (i + k)
      have e : i + (k + 1) = i + k + 1 := rfl
      rw [e]
      omega
  have A : ∀ i j, i < n → j < n → 2 * (f i - f j) ≤ n := by
    intro i j hi hj
    rcases Nat.le_total i j with h | h
    · have r1 := run (j - i) i
      have r2 := run (n - (j - i)) j
      rw [show i + (j - i) = j by omega] at r1
      rw [show j + (n - (j - i)) = i + n by omega, hp] at r2
      omega
    · have r1 := run (i - j) j
      have r2 := run (n - (i - j)) i
      rw [show j + (i - j) = i by omega] at r1
      rw [show i + (n - (i - j)) = j + n by omega, hp] at r2
      omega
  rw [← Jd.per_mod hp i, ← Jd.per_mod hp j]
  exact A _ _ (Nat.mod_lt _ h0) (Nat.mod_lt _ h0)
structure RingOk (g : Bool) (ps : List (Int × Int)) : Prop where
  ne : ps ≠ []
  ok : okSt g ps
  len : ps.length ≤ 66
  org : at_ ps 0 = (0, 0)
section
variable {g : Bool} {ps : List (Int × Int)}
theorem sx_one (d : Nat) : -1 ≤ Jd.sx d ∧ Jd.sx d ≤ 1 := by
  unfold Jd.sx
  repeat' split
  all_goals omega
theorem sy_one (d : Nat) : -1 ≤ Jd.sy d ∧ Jd.sy d ≤ 1 := by
  unfold Jd.sy
  repeat' split
  all_goals omega
theorem RingOk.x (R : RingOk g ps) (i j : Nat) : px ps i - px ps j ≤ 33 := by
  have P := path_of R.ne R.ok
  have := near P.pos P.px (fun i => by rw [P.hx]; have := sx_one (pd g ps i); omega) i j
  have := R.len
  omega
theorem RingOk.y (R : RingOk g ps) (i j : Nat) : py ps i - py ps j ≤ 33 := by
  have P := path_of R.ne R.ok
  have := near P.pos P.py (fun i => by rw [P.hy]; have := sy_one (pd g ps i); omega) i j
  have := R.len
  omega
theorem RingOk.small (R : RingOk g ps) (i : Nat) : -33 ≤ px ps i ∧ px ps i ≤ 33 ∧ -33 ≤ py ps i ∧ py ps i ≤ 33 := by
  have a := R.x i 0
  have b := R.x 0 i
  have c := R.y i 0
  have d := R.y 0 i
  have e : px ps 0 = 0 := by show (at_ ps 0).1 = 0; rw [R.org]
  have f : py ps 0 = 0 := by show (at_ ps 0).2 = 0; rw [R.org]
  omega
theorem int_count {l : List Int} (nd : l.Nodup) (a : Int) (m : Nat) (h : ∀ z ∈ l, a ≤ z ∧ z < a + m) : l.length ≤ m := by
  have := nodup_le l ((List.range m).map fun (i : Nat) => a + (i : Int)) nd fun z hz => by
    have := h z hz
    exact List.mem_map.mpr ⟨(z - a).toNat, List.mem_range.mpr (by omega), by omega⟩
  simpa using this
/-- a row's key lies where the ring's places lie -/
theorem RingOk.key (R : RingOk g ps) {r : Int × Ev} (hr : r ∈ orow g ps) {z : Int} (hz : z ∈ r.2.map (·.1)) : -66 ≤ z ∧ z ≤ 66 ∧ (∃ i, r.1 = py ps i) ∧ ∃ i, r.1 + 1 = py ps i := by
  obtain ⟨c, hc, h1, h2⟩ := (orow_ri g ps r hr).2 z hz
  obtain ⟨i, hi, h3, h4⟩ := crs_from R.ne R.ok hc
  have s1 := R.small i
  have s2 := R.small (i + 1)
  refine ⟨?_, ?_, ?_, ?_⟩
  · cases g <;> simp at h3 <;> omega
  · cases g <;> simp at h3 <;> omega
  · rcases h4 with h | h
    · exact ⟨i, by rw [← h1]; exact h.1⟩
    · exact ⟨i + 1, by rw [← h1]; exact h.1⟩
  · rcases h4 with h | h
    · exact ⟨i + 1, by rw [← h1]; exact h.2.symm⟩
    · exact ⟨i, by rw [← h1]; exact h.2.symm⟩
theorem RingOk.wide (R : RingOk g ps) {r : Int × Ev} (hr : r ∈ orow g ps) {z w : Int} (hz : z ∈ r.2.map (·.1)) (hw : w ∈ r.2.map (·.1)) : z - w ≤ 66 := by
  obtain ⟨c, hc, h1, h2⟩ := (orow_ri g ps r hr).2 z hz
  obtain ⟨i, hi, h3, h4⟩ := crs_from R.ne R.ok hc
  obtain ⟨c', hc', h1', h2'⟩ := (orow_ri g ps r hr).2 w hw
  obtain ⟨j, hj, h3', h4'⟩ := crs_from R.ne R.ok hc'
  have a := R.x i j
  have b := R.x (i + 1) (j + 1)
  cases g <;> simp at h3 h3' <;> omega
theorem mxk_in {ev : Ev} (h : ev ≠ []) : mxk ev ∈ ev.map (·.1) ∧ ∀ x ∈ ev.map (·.1), x ≤ mxk ev := lmx_is (l := ev.map (·.1)) (by simpa using h)
theorem mnk_in {ev : Ev} (h : ev ≠ []) : mnk ev ∈ ev.map (·.1) ∧ ∀ x ∈ ev.map (·.1), mnk ev ≤ x := lmn_is (l := ev.map (·.1)) (by simpa using h)
theorem RingOk.rows (R : RingOk g ps) : (orow g ps).length ≤ 33 := by
  have ne2 : ps.map (·.2) ≠ [] := by simpa using R.ne
  obtain ⟨m1, m2⟩ := lmn_is ne2
  obtain ⟨p, hp, e⟩ := List.mem_map.mp m1
  obtain ⟨k, _, hk⟩ := mem_at hp
  have hk2 : py ps k = lmn (ps.map (·.2)) := by show (at_ ps k).2 = _; rw [hk]; exact e
  have := int_count (orow_nd g ps) (lmn (ps.map (·.2))) 33 fun z hz => by
    obtain ⟨r, hr, rfl⟩ := List.mem_map.mp hz
    have h1 := (orow_ri g ps r hr).1
    obtain ⟨_, _, ⟨i, hi⟩, j, hj⟩ := R.key hr (mxk_in h1).1
    have a := m2 _ (List.mem_map.mpr ⟨at_ ps i, at_mem R.ne i, rfl⟩)
    have b := R.y j k
    have hi : r.1 = (at_ ps i).2 := hi
    omega
  simpa using this
theorem RingOk.rwOk (R : RingOk g ps) : rwOk (orow g ps) := by
  refine ⟨Nat.le_trans R.rows (by decide), fun r hr => ?_⟩
  have ne := (orow_ri g ps r hr).1
  have a := (mxk_in ne).1
  have b := (mnk_in ne).1
  have c := R.wide hr a b
  have d := R.key hr a
  have e := R.key hr b
  have f := int_count (orow_ev hr) (-66) 133 fun z hz => by
    have := R.key hr hz
    omega
  rw [List.length_map] at f
  exact ⟨ne, orow_ev hr, by omega, by omega, by omega, by omega⟩
theorem RingOk.okP (R : RingOk g ps) : okP g ps := ⟨R.ok, R.rwOk, by have := R.len; omega⟩
theorem wnd_len2 (g : Bool) (m : Nat) : ∀ (rs : List (Int × Ev)), (∀ r ∈ rs, mxk r.2 - mnk r.2 ≤ m) → (wnd g rs).length ≤ rs.length * m
  | [], _ => Nat.zero_le _
  | r :: rs, h => by
    have a := wnd_len2 g m rs fun x hx => h x (List.mem_cons_of_mem _ hx)
    have b := wrowN_len g r.1 r.2 (mxk r.2 - mnk r.2).toNat
    have c := h r List.mem_cons_self
    have e : (wnd g (r :: rs)).length = (wrowN g r.1 r.2 (mxk r.2 - mnk r.2).toNat).length + (wnd g rs).length := by
      unfold wnd
      rw [List.flatMap_cons, List.length_append]
      rfl
    rw [e, List.length_cons, Nat.succ_mul]
    omega
theorem RingOk.win (R : RingOk g ps) : (owin g ps).length ≤ 4000 := by
  have := wnd_len2 g 66 (orow g ps) fun r hr => by
    have ne := (orow_ri g ps r hr).1
    exact R.wide hr (mxk_in ne).1 (mnk_in ne).1
  have a := R.rows
  have b : (orow g ps).length * 66 ≤ 33 * 66 := Nat.mul_le_mul_right _ a
  show (wnd g (orow g ps)).length ≤ _
  omega
end
end K53
set_option maxHeartbeats 4000000
namespace K53
open PySem PySem.Spec PyProof.Rows L2
section
variable {g : Bool} {ps : List (Int × Int)}
/-! ### the windings are the plain numbers -/
theorem esum_low {ev : Ev} {q : Int} (h : ∀ x ∈ ev.map (·.1), q < x) : esum ev q = (ev.map (·.2)).sum := by
  unfold esum
  congr 2
  rw [List.filter_eq_self]
  intro p hp
  exact decide_eq_true (h _ (List.mem_map.mpr ⟨p, hp, rfl⟩))
/-- the plain position that stands for q -/
def qq (g : Bool) (q : Int) : Int := if g then q else 2 * q
theorem qq_ok (g : Bool) (q : Int) : if g then qq g q = q else qq g q = 2 * q ∨ qq g q = 2 * q + 1 := by
  cases g
  · exact .inl rfl
  · rfl
theorem RingOk.num (R : RingOk g ps) (r q : Int) : rnum (orow g ps) r q = Jd.N ps.length (px ps) (py ps) r (qq g q) := rnum_N R.ne R.ok r q _ (qq_ok g q)
theorem RingOk.low (R : RingOk g ps) {r : Int × Ev} (hr : r ∈ orow g ps) {q : Int} (h : q < mnk r.2) : esum r.2 q = 0 := by
  have ne := (orow_ri g ps r hr).1
  have a := (mnk_in ne).2
  rw [esum_low fun x hx => by have := a x hx; omega, ← esum_low (q := -200) fun x hx => by have := R.key hr hx; omega, ← orow_num hr, R.num]
  refine Jd.N_row (path_of R.ne R.ok) _ _ fun i _ => ?_
  have b := R.small i
  have c := R.small (i + 1)
  unfold qq
  split <;> omega
theorem RingOk.mem (R : RingOk g ps) (c : List Int) (v : Int) : (c, v) ∈ owin g ps ↔ ∃ r q, c = cell g r q ∧ v = rnum (orow g ps) r q ∧ v ≠ 0 := by
  unfold owin wnd
  rw [List.mem_flatMap]
  constructor
  · rintro ⟨r, hr, h⟩
    unfold wrow at h
    obtain ⟨j, hj, e⟩ := List.mem_filterMap.mp h
    by_cases z : esum r.2 (mxk r.2 - 1 - j) = 0
    · rw [if_pos z] at e
      cases e
    · rw [if_neg z] at e
      cases e
      exact ⟨r.1, mxk r.2 - 1 - j, rfl, (orow_num hr _).symm, z⟩
  · rintro ⟨r, q, rfl, rfl, h⟩
    cases e : valG (orow g ps) r with
    | none =>
      refine absurd ?_ h
      unfold rnum
      rw [e]
      rfl
    | some ev =>
      have hr := valG_some e
      have ne := (orow_ri g ps _ hr).1
      have num := orow_num hr q
      have num : rnum (orow g ps) r q = esum ev q := num
      rw [num] at h ⊢
      have h1 : q < mxk ev := by
        apply Int.lt_of_not_ge
        intro z
        exact h (esum_top fun x hx => by have := (mxk_in ne).2 x hx; have z : q ≥ mxk ev := z; have this : x ≤ mxk ev := this; omega)
      have h2 : mnk ev ≤ q := by
        apply Int.le_of_not_gt
        intro z
        exact h (R.low hr z)
      refine ⟨(r, ev), hr, ?_⟩
      unfold wrow
      refine List.mem_filterMap.mpr ⟨(mxk ev - 1 - q).toNat, List.mem_range.mpr (by show _ < (mxk ev - mnk ev).toNat; omega), ?_⟩
      show (if esum ev (mxk ev - 1 - ((mxk ev - 1 - q).toNat : Nat)) = 0 then none else some (cell g r (mxk ev - 1 - ((mxk ev - 1 - q).toNat : Nat)), esum ev (mxk ev - 1 - ((mxk ev - 1 - q).toNat : Nat)))) = _
      rw [show mxk ev - 1 - ((mxk ev - 1 - q).toNat : Nat) = q by omega, if_neg h]
theorem wrow_nd (g : Bool) (r : Int) (ev : Ev) (n : Nat) : ((wrowN g r ev n).map (·.1)).Nodup := by
  induction n with
  | zero => exact List.nodup_nil
  | succ n ih =>
    rw [wrowN_succ, List.map_append]
    split
    · simpa using ih
    · refine List.nodup_append.mpr ⟨ih, by simp, fun a ha b hb e => ?_⟩
      obtain ⟨j, hj, h⟩ := wrowN_key ha
      have hb := List.mem_singleton.mp hb
      have := (cell_inj (h.symm.trans (e.trans hb))).2
      omega
theorem wnd_nd (g : Bool) : ∀ (rs : List (Int × Ev)), (rs.map (·.1)).Nodup → ((wnd g rs).map (·.1)).Nodup
  | [], _ => List.nodup_nil
  | r :: rs, h => by
    have h := List.nodup_cons.mp h
    have e : (wnd g (r :: rs)).map (·.1) = (wrowN g r.1 r.2 (mxk r.2 - mnk r.2).toNat).map (·.1) ++ (wnd g rs).map (·.1) := by
      unfold wnd
      rw [List.flatMap_cons, List.map_append]
      rfl
    rw [e]
    refine List.nodup_append.mpr ⟨wrow_nd _ _ _ _, wnd_nd g rs h.2, fun a ha b hb e => ?_⟩
    obtain ⟨j, _, h1⟩ := wrowN_key ha
    obtain ⟨r', hr', q, h2⟩ := wnd_key hb
    have := (cell_inj (h1.symm.trans (e.trans h2))).1
    have k : r.1 ∈ rs.map (·.1) := by rw [this]; exact hr'
    exact h.1 k
theorem owin_nd (g : Bool) (ps : List (Int × Int)) : ((owin g ps).map (·.1)).Nodup := wnd_nd g _ (orow_nd g ps)
theorem RingOk.val (R : RingOk g ps) (r q : Int) : (valG (owin g ps) (cell g r q)).getD 0 = rnum (orow g ps) r q := by
  by_cases h : rnum (orow g ps) r q = 0
  · rw [h, valG_none.mpr]
    · rfl
    · intro z
      obtain ⟨⟨c, v⟩, h1, h2⟩ := List.mem_map.mp z
      obtain ⟨r', q', e1, e2, e3⟩ := (R.mem c v).mp h1
      have h2 : c = cell g r q := h2
      obtain ⟨rfl, rfl⟩ := cell_inj (e1.symm.trans h2)
      exact e3 (e2.trans h)
  · rw [valG_mem (owin_nd g ps) ((R.mem (cell g r q) _).mpr ⟨r, q, rfl, rfl, h⟩)]
    rfl
theorem RingOk.pnum (R : RingOk g ps) (u v : Int) : pnum g ps (u, v) = Jd.N ps.length (px ps) (py ps) v (2 * u) := by
  unfold K53.pnum
  rw [R.num]
  congr 1
  cases g <;> rfl
theorem RingOk.off (R : RingOk g ps) (p : Int × Int) (hp : p ∉ ps) (c : List Int) (hc : c ∈ lcor g p) : (valG (owin g ps) c).getD 0 = K53.pnum g ps p := by
  obtain ⟨u, v⟩ := p
  have P := path_of R.ne R.ok
  have O : ∀ j, j < 6 → Jd.N ps.length (px ps) (py ps) (Jd.sr v j) (Jd.sq u j) = K53.pnum g ps (u, v) := fun j hj => by
    rw [R.pnum]
    exact Jd.off P u v (fun i hi z => hp (by
      have : at_ ps i = (u, v) := Prod.ext z.1 z.2
      rw [← this]
      exact at_mem R.ne i)) j hj
  have A : ∀ r q j Q, j < 6 → c = cell g r q → r = Jd.sr v j → Q = Jd.sq u j → (if g then Q = q else Q = 2 * q ∨ Q = 2 * q + 1) → (valG (owin g ps) c).getD 0 = K53.pnum g ps (u, v) := by
    rintro r q j Q hj rfl rfl rfl hq
    rw [R.val, rnum_N R.ne R.ok _ _ _ hq]
    exact O j hj
  cases g
  · simp only [lcor, Bool.false_eq_true, if_false, List.mem_cons, List.not_mem_nil, or_false] at hc
    rcases hc with h | h | h | h
    · exact A v u 0 (2 * u) (by omega) h rfl rfl (.inl rfl)
    · exact A v (u - 1) 2 (2 * u - 2) (by omega) h rfl rfl (.inl (by omega))
    · exact A (v - 1) (u - 1) 3 (2 * u - 1) (by omega) h rfl rfl (.inr (by omega))
    · exact A (v - 1) u 4 (2 * u) (by omega) h rfl rfl (.inl rfl)
  · simp only [lcor, if_true, List.mem_cons, List.not_mem_nil, or_false] at hc
    have cl : ∀ (x r k : Int), (k = 0 ∨ k = 1) → [x, r, k] = cell true r (2 * x + k) := fun x r k hk => by
      unfold cell
      rw [if_pos rfl, show (2 * x + k) / 2 = x by omega, show (2 * x + k) % 2 = k by omega]
    rcases hc with h | h | h | h | h | h
    · exact A v (2 * u + 0) 0 (2 * u) (by omega) (h.trans (cl _ _ _ (.inl rfl))) rfl rfl (by simp)
    · exact A v (2 * (u - 1) + 1) 1 (2 * u - 1) (by omega) (h.trans (cl _ _ _ (.inr rfl))) rfl rfl (by simp; omega)
    · exact A v (2 * (u - 1) + 0) 2 (2 * u - 2) (by omega) (h.trans (cl _ _ _ (.inl rfl))) rfl rfl (by simp; omega)
    · exact A (v - 1) (2 * (u - 1) + 1) 3 (2 * u - 1) (by omega) (h.trans (cl _ _ _ (.inr rfl))) rfl rfl (by simp; omega)
    · exact A (v - 1) (2 * u + 0) 4 (2 * u) (by omega) (h.trans (cl _ _ _ (.inl rfl))) rfl rfl (by simp)
    · exact A (v - 1) (2 * u + 1) 5 (2 * u + 1) (by omega) (h.trans (cl _ _ _ (.inr rfl))) rfl rfl (by simp)
end
end K53
set_option maxHeartbeats 4000000
namespace K53
open PySem PySem.Spec PyProof.Rows L2
/-! ### the box round the ring -/
theorem sum_fl {α β : Type} (k : α → List β) (f : β → Int) : ∀ (l : List α), ((l.flatMap k).map f).sum = (l.map fun a => ((k a).map f).sum).sum
  | [] => rfl
  | a :: l => by rw [List.flatMap_cons, List.map_append, List.sum_append, List.map_cons, List.sum_cons, sum_fl k f l]
def boxP {β : Type} (x0 y0 : Int) (a b : Nat) (k : Int → Int → List β) : List β := (List.range a).flatMap fun (i : Nat) => (List.range b).flatMap fun (j : Nat) => k (x0 + i) (y0 + j)
theorem boxP_sum {β : Type} (x0 y0 : Int) (a b : Nat) (k : Int → Int → List β) (f : β → Int) : ((boxP x0 y0 a b k).map f).sum = Jd.BX x0 y0 a b fun u v => ((k u v).map f).sum := by
  unfold boxP Jd.BX
  rw [sum_fl, S_range]
  congr 1
  refine List.map_congr_left fun i _ => ?_
  rw [sum_fl, S_range]
theorem boxP_mem {β : Type} {x0 y0 : Int} {a b : Nat} {k : Int → Int → List β} {z : β} : z ∈ boxP x0 y0 a b k ↔ ∃ u v, x0 ≤ u ∧ u < x0 + a ∧ y0 ≤ v ∧ v < y0 + b ∧ z ∈ k u v := by
  unfold boxP
  rw [List.mem_flatMap]
  constructor
  · rintro ⟨i, hi, h⟩
    obtain ⟨j, hj, h⟩ := List.mem_flatMap.mp h
    have hi := List.mem_range.mp hi
    have hj := List.mem_range.mp hj
    exact ⟨x0 + i, y0 + j, by omega, by omega, by omega, by omega, h⟩
  · rintro ⟨u, v, h1, h2, h3, h4, h⟩
    refine ⟨(u - x0).toNat, List.mem_range.mpr (by omega), List.mem_flatMap.mpr ⟨(v - y0).toNat, List.mem_range.mpr (by omega), ?_⟩⟩
    rw [show x0 + ((u - x0).toNat : Nat) = u by omega, show y0 + ((v - y0).toNat : Nat) = v by omega]
    exact h
theorem boxP_nd {β : Type} {x0 y0 : Int} {a b : Nat} {k : Int → Int → List β} (h1 : ∀ u v, (k u v).Nodup) (h2 : ∀ u v u' v' z, z ∈ k u v → z ∈ k u' v' → u = u' ∧ v = v') : (boxP x0 y0 a b k).Nodup := by
  refine nodup_fm List.nodup_range (fun i _ => nodup_fm List.nodup_range (fun j _ => h1 _ _) fun j _ j' _ z hz hz' => ?_) fun i _ i' _ z hz hz' => ?_
  · have := (h2 _ _ _ _ z hz hz').2
    omega
  · obtain ⟨j, _, hz⟩ := List.mem_flatMap.mp hz
    obtain ⟨j', _, hz'⟩ := List.mem_flatMap.mp hz'
    have := (h2 _ _ _ _ z hz hz').1
    omega
section
variable {g : Bool} {ps : List (Int × Int)}
theorem RingOk.box (R : RingOk g ps) : Jd.InBox ps.length (px ps) (py ps) (bx0 ps) (by0 ps) (bxn ps) (byn ps) := by
  have n1 : ps.map (·.1) ≠ [] := by simpa using R.ne
  have n2 : ps.map (·.2) ≠ [] := by simpa using R.ne
  have a1 := (lmn_is n1).2
  have a2 := (lmn_is n2).2
  have b1 := (lmx_is n1).2
  have b2 := (lmx_is n2).2
  have m1 : ∀ i, px ps i ∈ ps.map (·.1) := fun i => List.mem_map.mpr ⟨at_ ps i, at_mem R.ne i, rfl⟩
  have m2 : ∀ i, py ps i ∈ ps.map (·.2) := fun i => List.mem_map.mpr ⟨at_ ps i, at_mem R.ne i, rfl⟩
  refine ⟨fun i => ?_, fun i => ?_, fun i => ?_, fun i => ?_⟩
  · have := a1 _ (m1 i)
    unfold bx0
    omega
  · have := b1 _ (m1 i)
    have := a1 _ (m1 i)
    unfold bxn bx0
    omega
  · have := a2 _ (m2 i)
    unfold by0
    omega
  · have := b2 _ (m2 i)
    have := a2 _ (m2 i)
    unfold byn by0
    omega
theorem itot_is (g : Bool) (ps : List (Int × Int)) : itot g ps = Jd.BX (bx0 ps) (by0 ps) (bxn ps) (byn ps) (inn g ps) := by
  unfold itot Jd.BX
  rw [S_range]
  congr 1
  refine List.map_congr_left fun i _ => ?_
  rw [S_range]
theorem cnr_map (ws : List (List Int × Int)) : cnr ws = (ws.map (·.1)).filterMap cnr1 := by
  unfold cnr
  rw [List.filterMap_map]
  rfl
theorem cnr1_cell (g : Bool) (r q : Int) (p : Int × Int) : cnr1 (cell g r q) = some p ↔ p.2 = r ∧ q = (if g then 2 * p.1 else p.1) := by
  obtain ⟨u, v⟩ := p
  cases g
  · simp [cnr1, cell]
    omega
  · simp [cnr1, cell]
    omega
theorem RingOk.cnrMem (R : RingOk g ps) (p : Int × Int) : p ∈ cnr (owin g ps) ↔ K53.pnum g ps p ≠ 0 := by
  rw [cnr_map, List.mem_filterMap]
  constructor
  · rintro ⟨c, hc, e⟩
    obtain ⟨⟨c', v⟩, h1, rfl⟩ := List.mem_map.mp hc
    obtain ⟨r, q, rfl, rfl, h⟩ := (R.mem _ v).mp h1
    obtain ⟨rfl, rfl⟩ := (cnr1_cell g r q p).mp e
    exact h
  · intro h
    exact ⟨cell g p.2 (if g then 2 * p.1 else p.1), List.mem_map.mpr ⟨_, (R.mem _ _).mpr ⟨_, _, rfl, rfl, h⟩, rfl⟩, (cnr1_cell _ _ _ _).mpr ⟨rfl, rfl⟩⟩
theorem RingOk.cnrNd (R : RingOk g ps) : (cnr (owin g ps)).Nodup := by
  rw [cnr_map]
  refine nodup_fp (owin_nd g ps) fun a ha b hb p ea eb => ?_
  obtain ⟨⟨c, v⟩, h1, rfl⟩ := List.mem_map.mp ha
  obtain ⟨⟨c', v'⟩, h1', rfl⟩ := List.mem_map.mp hb
  obtain ⟨r, q, rfl, _, _⟩ := (R.mem _ v).mp h1
  obtain ⟨r', q', rfl, _, _⟩ := (R.mem _ v').mp h1'
  obtain ⟨e1, e2⟩ := (cnr1_cell g r q p).mp ea
  obtain ⟨e3, e4⟩ := (cnr1_cell g r' q' p).mp eb
  show cell g r q = cell g r' q'
  rw [← e1, ← e3, e2, e4]
theorem len_filter (p : Int × Int → Bool) : ∀ (l : List (Int × Int)), ((l.filter p).length : Int) = (l.map fun x => if p x = true then (1 : Int) else 0).sum
  | [] => rfl
  | a :: l => by
    rw [List.filter_cons, List.map_cons, List.sum_cons, ← len_filter p l]
    by_cases h : p a = true
    · rw [if_pos h, if_pos h, List.length_cons]
      omega
    · rw [if_neg h, if_neg h]
      omega
/-- a place with a number lies in the box -/
theorem RingOk.inBox (R : RingOk g ps) {u v : Int} (h : K53.pnum g ps (u, v) ≠ 0) : bx0 ps ≤ u ∧ u < bx0 ps + bxn ps ∧ by0 ps ≤ v ∧ v < by0 ps + byn ps := by
  rw [R.pnum] at h
  have := Jd.N_in (path_of R.ne R.ok) R.box h
  omega
theorem RingOk.inner (R : RingOk g ps) : oinner g ps = itot g ps := by
  unfold oinner
  rw [len_filter, itot_is]
  have e : (fun u v => inn g ps u v) = fun u v => (([(u, v)] : List (Int × Int)).map fun p => inn g ps p.1 p.2).sum := by
    funext u v
    simp
  show _ = Jd.BX (bx0 ps) (by0 ps) (bxn ps) (byn ps) (fun u v => inn g ps u v)
  rw [e, ← boxP_sum]
  have l : ((cnr (owin g ps)).map fun x => if (decide (x ∉ ps)) = true then (1 : Int) else 0) = (cnr (owin g ps)).map fun p => inn g ps p.1 p.2 := by
    refine List.map_congr_left fun p hp => ?_
    have h := (R.cnrMem p).mp hp
    unfold inn
    by_cases z : p ∉ ps
    · rw [if_pos (decide_eq_true z), if_pos ⟨z, h⟩]
    · rw [if_neg (fun y => z (of_decide_eq_true y)), if_neg fun y => z y.1]
  rw [l]
  refine sum_same _ _ _ R.cnrNd (boxP_nd (fun _ _ => by simp) fun u v u' v' z h1 h2 => ?_) fun p hp => ?_
  · have h1 := List.mem_singleton.mp h1
    have h2 := List.mem_singleton.mp h2
    rw [h1] at h2
    cases h2
    exact ⟨rfl, rfl⟩
  · have h0 : K53.pnum g ps p ≠ 0 := fun z => hp (by unfold inn; rw [if_neg fun y => y.2 z])
    refine ⟨fun _ => ?_, fun _ => (R.cnrMem p).mpr h0⟩
    have := R.inBox (u := p.1) (v := p.2) h0
    exact boxP_mem.mpr ⟨p.1, p.2, this.1, this.2.1, this.2.2.1, this.2.2.2, List.mem_singleton.mpr rfl⟩
end
end K53
set_option maxHeartbeats 4000000
namespace K53
open PySem PySem.Spec PyProof.Rows L2
/-! ### rings of anything -/
theorem cyc1 {α : Type} (f : Nat → α) (n : Nat) (hp : ∀ i, f (i + n) = f i) : ((List.range n).map f).zip (((List.range n).map f).drop 1 ++ ((List.range n).map f).take 1) = (List.range n).map fun i => (f i, f (i + 1)) := by
  apply List.ext_getElem?
  intro i
  by_cases h : i < n
  · have k1 : ((List.range n).map f)[i]? = some (f i) := by rw [List.getElem?_map, List.getElem?_range h]; rfl
    have k2 : (((List.range n).map f).drop 1 ++ ((List.range n).map f).take 1)[i]? = some (f (i + 1)) := by
      by_cases h2 : i + 1 < n
      · rw [List.getElem?_append_left (by simp; omega), List.getElem?_drop, Nat.add_comm 1 i, List.getElem?_map, List.getElem?_range h2]
        rfl
      · rw [List.getElem?_append_right (by simp; omega)]
        have e : i + 1 = 0 + n := by omega
        have e2 : i - (((List.range n).map f).drop 1).length = 0 := by simp; omega
        rw [e2, e, hp, List.getElem?_take_of_lt (by omega), List.getElem?_map, List.getElem?_range (by omega)]
        rfl
    have k3 := (List.getElem?_zip_eq_some (z := (f i, f (i + 1)))).mpr ⟨k1, k2⟩
    rw [k3, List.getElem?_map, List.getElem?_range h]
    rfl
  · rw [List.getElem?_eq_none (by simp; omega), List.getElem?_eq_none (by simp; omega)]
theorem cycp {α : Type} (f : Nat → α) (n : Nat) (hp : ∀ i, f (i + n) = f i) : prv ((List.range n).map f) = (List.range n).map fun i => (f (i + n - 1), f i) := by
  apply List.ext_getElem?
  intro i
  unfold prv
  rw [List.length_map, List.length_range]
  by_cases h : i < n
  · have k1 : ((List.range n).map f)[i]? = some (f i) := by rw [List.getElem?_map, List.getElem?_range h]; rfl
    have k2 : (((List.range n).map f).drop (n - 1) ++ ((List.range n).map f).take (n - 1))[i]? = some (f (i + n - 1)) := by
      by_cases h2 : i = 0
      · subst h2
        rw [List.getElem?_append_left (by simp; omega), List.getElem?_drop, List.getElem?_map, List.getElem?_range (by omega)]
        simp
      · rw [List.getElem?_append_right (by simp; omega)]
        have e2 : i - (((List.range n).map f).drop (n - 1)).length = i - 1 := by simp; omega
        rw [e2, List.getElem?_take_of_lt (by omega), List.getElem?_map, List.getElem?_range (by omega), show i + n - 1 = i - 1 + n by omega, hp]
        rfl
    have k3 := (List.getElem?_zip_eq_some (z := (f (i + n - 1), f i))).mpr ⟨k2, k1⟩
    rw [k3, List.getElem?_map, List.getElem?_range h]
    rfl
  · rw [List.getElem?_eq_none (by simp; omega), List.getElem?_eq_none (by simp; omega)]
theorem ps_at (ps : List (Int × Int)) : (List.range ps.length).map (at_ ps) = ps := by
  apply List.ext_getElem?
  intro i
  by_cases h : i < ps.length
  · rw [List.getElem?_map, List.getElem?_range h, at_get h]
    rfl
  · rw [List.getElem?_eq_none (by simp; omega), List.getElem?_eq_none (by omega)]
section
variable {g : Bool} {ps : List (Int × Int)}
theorem prvR_at (ps : List (Int × Int)) : K53.prv ps = (List.range ps.length).map fun i => (at_ ps (i + ps.length - 1), at_ ps i) := by
  have h := cycp (at_ ps) ps.length (at_per ps)
  rw [ps_at] at h
  exact h
theorem RingOk.prv (R : RingOk g ps) : ∀ z ∈ K53.prv ps, psub z.2 z.1 ∈ stl g := by
  intro z hz
  have h0 : 0 < ps.length := List.length_pos_iff.mpr R.ne
  rw [prvR_at] at hz
  obtain ⟨i, hi, rfl⟩ := List.mem_map.mp hz
  have := stepIn R.ne R.ok (i + ps.length - 1)
  rw [show i + ps.length - 1 + 1 = i + ps.length by omega, at_per] at this
  exact this
def tn (g : Bool) (ps : List (Int × Int)) (i : Nat) : Int := tw (hd g) (way g ps i) (way g ps (i + 1))
theorem trn_S (g : Bool) (ps : List (Int × Int)) : trn g ps = Jd.S (tn g ps) ps.length := by
  have d : dirs g ps = (List.range ps.length).map (way g ps) := by
    unfold dirs
    rw [prs_at, List.map_map]
    rfl
  unfold trn
  rw [d, cyc1 (way g ps) ps.length (way_per g ps), List.map_map, S_range]
  rfl
theorem RingOk.ltrn (R : RingOk g ps) : K53.ltrn g ps = trn g ps := by
  have h0 : 0 < ps.length := List.length_pos_iff.mpr R.ne
  have l : lways g ps = (List.range ps.length).map fun i => way g ps (i + ps.length - 1) := by
    unfold lways
    rw [prvR_at, List.map_map]
    refine List.map_congr_left fun i _ => ?_
    show (stl g).idxOf (psub (at_ ps i) (at_ ps (i + ps.length - 1))) = way g ps (i + ps.length - 1)
    unfold way
    rw [show i + ps.length - 1 + 1 = i + ps.length by omega, at_per]
  unfold K53.ltrn
  rw [l, cycp (fun i => way g ps (i + ps.length - 1)) ps.length (fun i => by
    show way g ps (i + ps.length + ps.length - 1) = _
    rw [show i + ps.length + ps.length - 1 = i + ps.length - 1 + ps.length by omega, way_per]), List.map_map, trn_S]
  have per : ∀ i, tn g ps (i + ps.length) = tn g ps i := fun i => by
    unfold tn
    rw [show i + ps.length + 1 = i + 1 + ps.length by omega, way_per, way_per]
  rw [← Jd.S_rot per (ps.length - 1 + (ps.length - 1)), S_range]
  congr 1
  refine List.map_congr_left fun i _ => ?_
  show tw (hd g) (way g ps (i + ps.length - 1 + ps.length - 1)) (way g ps (i + ps.length - 1)) = tw (hd g) (way g ps (i + (ps.length - 1 + (ps.length - 1)))) (way g ps (i + (ps.length - 1 + (ps.length - 1)) + 1))
  rw [show i + ps.length - 1 + ps.length - 1 = i + (ps.length - 1 + (ps.length - 1)) by omega, show i + (ps.length - 1 + (ps.length - 1)) + 1 = i + ps.length - 1 + ps.length by omega, way_per]
end
end K53
set_option maxHeartbeats 4000000
namespace K53
open PySem PySem.Spec PyProof.Rows L2
section
variable {g : Bool} {ps : List (Int × Int)}
/-! ### simple rings -/
def pot (k : Nat) : Int := if k = 1 ∨ k = 3 then -1 else 0
theorem turn_sq (a b : Nat) (ha : a < 4) (hb : b < 4) : 2 * Jd.turn (jd false a) (jd false b) = 3 * tw 4 a b + (pot b - pot a) := by
  have : ∀ a, a < 4 → ∀ b, b < 4 → 2 * Jd.turn (jd false a) (jd false b) = 3 * tw 4 a b + (pot b - pot a) := by decide
  exact this a ha b hb
theorem turn_tr (a b : Nat) (ha : a < 6) (hb : b < 6) : Jd.turn (jd true a) (jd true b) = tw 6 a b := by
  have : ∀ a, a < 6 → ∀ b, b < 6 → Jd.turn (jd true a) (jd true b) = tw 6 a b := by decide
  exact this a ha b hb
theorem RingOk.turn (R : RingOk g ps) : if g then Jd.T ps.length (pd g ps) = trn g ps else 2 * Jd.T ps.length (pd g ps) = 3 * trn g ps := by
  rw [trn_S]
  unfold Jd.T
  cases g
  · simp only [Bool.false_eq_true, if_false]
    have e : Jd.S (fun i => 2 * Jd.turn (pd false ps i) (pd false ps (i + 1))) ps.length = Jd.S (fun i => 3 * tn false ps i + ((fun i => pot (way false ps i)) (i + 1) - (fun i => pot (way false ps i)) i)) ps.length :=
      Jd.S_congr fun i _ => turn_sq _ _ (way_is R.ne R.ok i).1 (way_is R.ne R.ok (i + 1)).1
    rw [Jd.S_mul, Jd.S_add, Jd.S_mul, Jd.S_tel (fun i => pot (way false ps i))] at e
    have w : way false ps ps.length = way false ps 0 := by
      have := way_per false ps 0
      rwa [Nat.zero_add] at this
    simp only [w] at e
    omega
  · simp only [if_true]
    exact Jd.S_congr fun i _ => turn_tr _ _ (way_is R.ne R.ok i).1 (way_is R.ne R.ok (i + 1)).1
theorem RingOk.simple (R : RingOk g ps) (h3 : 3 ≤ ps.length) (nd : ps.Nodup) : Jd.Simple ps.length (px ps) (py ps) (pd g ps) :=
  { path_of R.ne R.ok with
    three := h3
    inj := fun i j h1 h2 => by
      have h0 : 0 < ps.length := by omega
      have e : at_ ps i = at_ ps j := Prod.ext h1 h2
      have a : at_ ps (i % ps.length) = at_ ps i := Jd.per_mod (at_per ps) i
      have b : at_ ps (j % ps.length) = at_ ps j := Jd.per_mod (at_per ps) j
      have c := at_get (ps := ps) (Nat.mod_lt i h0)
      have d := at_get (ps := ps) (Nat.mod_lt j h0)
      rw [a, e] at c
      rw [b] at d
      exact nd_ix nd c d }
/-- the area, as sums over the box -/
theorem RingOk.area (R : RingOk g ps) : (if g then oarea g ps else 2 * oarea g ps) = Jd.BX (bx0 ps) (by0 ps) (bxn ps) (byn ps) (fun u v => Jd.N ps.length (px ps) (py ps) v (2 * u)) + Jd.BX (bx0 ps) (by0 ps) (bxn ps) (byn ps) (fun u v => Jd.N ps.length (px ps) (py ps) v (2 * u + 1)) := by
  have o : oarea g ps = (((owin g ps).map (·.1)).map fun c => (valG (owin g ps) c).getD 0).sum := by
    unfold oarea
    rw [List.map_map]
    congr 1
    refine List.map_congr_left fun w hw => ?_
    show w.2 = (valG (owin g ps) w.1).getD 0
    rw [valG_mem (owin_nd g ps) (show (w.1, w.2) ∈ owin g ps from hw)]
    rfl
  have P := path_of R.ne R.ok
  have nz : ∀ r q, rnum (orow g ps) r q ≠ 0 → ∀ Q, (if g then Q = q else Q = 2 * q ∨ Q = 2 * q + 1) → 2 * bx0 ps + 2 ≤ Q ∧ Q + 4 < 2 * (bx0 ps + bxn ps) ∧ by0 ps < r ∧ r + 2 < by0 ps + byn ps := fun r q h Q hQ => by
    rw [rnum_N R.ne R.ok r q Q hQ] at h
    exact Jd.N_in P R.box h
  cases g
  · simp only [Bool.false_eq_true, if_false]
    have two : Jd.BX (bx0 ps) (by0 ps) (bxn ps) (byn ps) (fun u v => Jd.N ps.length (px ps) (py ps) v (2 * u + 1)) = Jd.BX (bx0 ps) (by0 ps) (bxn ps) (byn ps) (fun u v => Jd.N ps.length (px ps) (py ps) v (2 * u)) :=
      Jd.BX_congr fun u v _ _ _ _ => by rw [← rnum_N R.ne R.ok v u (2 * u + 1) (Or.inr rfl), ← rnum_N R.ne R.ok v u (2 * u) (Or.inl rfl)]
    rw [two]
    have e : (fun u v => Jd.N ps.length (px ps) (py ps) v (2 * u)) = fun u v => (([cell false v u] : List (List Int)).map fun c => (valG (owin false ps) c).getD 0).sum := by
      funext u v
      rw [← rnum_N R.ne R.ok v u (2 * u) (Or.inl rfl), ← R.val]
      simp
    rw [e, ← boxP_sum, o, sum_same (fun c => (valG (owin false ps) c).getD 0) _ (boxP (bx0 ps) (by0 ps) (bxn ps) (byn ps) fun u v => [cell false v u]) (owin_nd false ps) (boxP_nd (fun _ _ => by simp) fun u v u' v' z h1 h2 => ?_) fun c hc => ?_]
    · omega
    · have := cell_inj ((List.mem_singleton.mp h1).symm.trans (List.mem_singleton.mp h2))
      exact ⟨this.2, this.1⟩
    · have m : c ∈ (owin false ps).map (·.1) := by
        by_cases y : c ∈ (owin false ps).map (·.1)
        · exact y
        · exact absurd (by rw [valG_none.mpr y]; rfl) hc
      refine ⟨fun _ => ?_, fun _ => m⟩
      obtain ⟨⟨c', v'⟩, h1, rfl⟩ := List.mem_map.mp m
      obtain ⟨r, q, rfl, rfl, h⟩ := (R.mem _ v').mp h1
      have k := nz r q h (2 * q) (Or.inl rfl)
      exact boxP_mem.mpr ⟨q, r, by omega, by omega, by omega, by omega, List.mem_singleton.mpr rfl⟩
  · simp only [if_true]
    rw [← Jd.BX_add]
    have e : (fun u v => Jd.N ps.length (px ps) (py ps) v (2 * u) + Jd.N ps.length (px ps) (py ps) v (2 * u + 1)) = fun u v => (([cell true v (2 * u), cell true v (2 * u + 1)] : List (List Int)).map fun c => (valG (owin true ps) c).getD 0).sum := by
      funext u v
      rw [← rnum_N (g := true) R.ne R.ok v (2 * u) (2 * u) rfl, ← rnum_N (g := true) R.ne R.ok v (2 * u + 1) (2 * u + 1) rfl, ← R.val, ← R.val]
      simp
    rw [e, ← boxP_sum, o, sum_same (fun c => (valG (owin true ps) c).getD 0) _ (boxP (bx0 ps) (by0 ps) (bxn ps) (byn ps) fun u v => [cell true v (2 * u), cell true v (2 * u + 1)]) (owin_nd true ps) (boxP_nd (fun u v => ?_) fun u v u' v' z h1 h2 => ?_) fun c hc => ?_]
    · refine List.nodup_cons.mpr ⟨fun z => ?_, by simp⟩
      have := (cell_inj (List.mem_singleton.mp z)).2
      omega
    · have k : ∀ u v, z ∈ [cell true v (2 * u), cell true v (2 * u + 1)] → ∃ q, z = cell true v q ∧ (q = 2 * u ∨ q = 2 * u + 1) := fun u v h => by
        rcases List.mem_cons.mp h with h | h
        · exact ⟨_, h, .inl rfl⟩
        · exact ⟨_, List.mem_singleton.mp h, .inr rfl⟩
      obtain ⟨q, e1, k1⟩ := k u v h1
      obtain ⟨q', e2, k2⟩ := k u' v' h2
      have := cell_inj (e1.symm.trans e2)
      omega
    · have m : c ∈ (owin true ps).map (·.1) := by
        by_cases y : c ∈ (owin true ps).map (·.1)
        · exact y
        · exact absurd (by rw [valG_none.mpr y]; rfl) hc
      refine ⟨fun _ => ?_, fun _ => m⟩
      obtain ⟨⟨c', v'⟩, h1, rfl⟩ := List.mem_map.mp m
      obtain ⟨r, q, rfl, rfl, h⟩ := (R.mem _ v').mp h1
      have k := nz r q h q rfl
      refine boxP_mem.mpr ⟨q / 2, r, by omega, by omega, by omega, by omega, ?_⟩
      by_cases z : q % 2 = 0
      · rw [show 2 * (q / 2) = q by omega]
        exact List.mem_cons_self
      · rw [show 2 * (q / 2) + 1 = q by omega]
        exact List.mem_cons_of_mem _ (List.mem_singleton.mpr rfl)
end
end K53
set_option maxHeartbeats 4000000
namespace K53
open PySem PySem.Spec PyProof.Rows L2
section
variable {g : Bool} {ps : List (Int × Int)}
/-! ### a simple ring keeps the counting rule -/
theorem RingOk.inner2 (R : RingOk g ps) : oinner g ps = Jd.BX (bx0 ps) (by0 ps) (bxn ps) (byn ps) (fun u v => if decide ((u, v) ∈ ps) = false ∧ Jd.N ps.length (px ps) (py ps) v (2 * u) ≠ 0 then 1 else 0) := by
  rw [R.inner, itot_is]
  refine Jd.BX_congr fun u v _ _ _ _ => ?_
  unfold inn
  rw [R.pnum]
  by_cases h : (u, v) ∉ ps ∧ Jd.N ps.length (px ps) (py ps) v (2 * u) ≠ 0
  · rw [if_pos h, if_pos ⟨decide_eq_false h.1, h.2⟩]
  · rw [if_neg h, if_neg fun z => h ⟨of_decide_eq_false z.1, z.2⟩]
theorem RingOk.simF (R : RingOk g ps) (h3 : 3 ≤ ps.length) (nd : ps.Nodup) : ∃ s, SimF g ps s := by
  have Sm := R.simple h3 nd
  obtain ⟨s, sg, hT, hl, hN, j, hj, hW⟩ := Sm.jordan
  have vals : ∀ r q, rnum (orow g ps) r q = 0 ∨ rnum (orow g ps) r q = s := fun r q => by
    rw [R.num]
    exact hN r _
  have tn := R.turn
  have ar := R.area
  have pk := Sm.pick R.box (fun u v => decide ((u, v) ∈ ps)) (fun u v => by
    rw [decide_eq_true_iff]
    constructor
    · intro h
      obtain ⟨i, hi, e⟩ := mem_at h
      exact ⟨i, hi, congrArg Prod.fst e, congrArg Prod.snd e⟩
    · rintro ⟨i, hi, e1, e2⟩
      have e : at_ ps i = (u, v) := Prod.ext e1 e2
      rw [← e]
      exact at_mem R.ne i) sg hT hl hN
  rw [← R.inner2, ← ar] at pk
  refine ⟨s, sg, ?_, ?_, ?_, ?_⟩
  · intro z
    have h : rnum (orow g ps) (Jd.sr (py ps 0) j) (if g then Jd.sq (px ps 0) j else Jd.sq (px ps 0) j / 2) = s := by
      rw [rnum_N R.ne R.ok _ _ (Jd.sq (px ps 0) j) (by cases g <;> simp <;> omega)]
      exact hW
    have m := (R.mem _ _).mpr ⟨_, _, rfl, h.symm, by omega⟩
    rw [z] at m
    cases m
  · rintro ⟨c, v⟩ hw
    obtain ⟨r, q, _, e, h⟩ := (R.mem c v).mp hw
    show v = s
    have := vals r q
    omega
  · cases g
    · simp at tn
      show trn false ps = s * ((4 : Nat) : Int)
      omega
    · simp at tn
      show trn true ps = s * ((6 : Nat) : Int)
      omega
  · cases g
    · simp at pk ⊢
      rw [Int.mul_left_comm]
      exact pk
    · simp at pk ⊢
      exact pk
end
end K53
set_option maxHeartbeats 4000000
namespace K53
open PySem PySem.Spec PyProof.Rows L2
/-! ### rounds of a walk -/
theorem rot_add (g : Bool) (p q : Int × Int) : rot g (padd p q) = padd (rot g p) (rot g q) := by
  obtain ⟨a, b⟩ := p
  obtain ⟨c, d⟩ := q
  cases g
  · exact Prod.ext (by show -(b + d) = -b + -d; omega) rfl
  · exact Prod.ext (by show -(b + d) = -b + -d; omega) (by show a + c + (b + d) = a + b + (c + d); omega)
theorem rot_neg (g : Bool) (p : Int × Int) : rot g (pneg p) = pneg (rot g p) := by
  obtain ⟨a, b⟩ := p
  cases g
  · exact Prod.ext (by show -(b * -1) = -b * -1; omega) rfl
  · exact Prod.ext (by show -(b * -1) = -b * -1; omega) (by show a * -1 + b * -1 = (a + b) * -1; omega)
theorem rots_add (g : Bool) (n : Nat) (p q : Int × Int) : rots g n (padd p q) = padd (rots g n p) (rots g n q) := by
  induction n with
  | zero => rfl
  | succ n ih => rw [rots, ih, rot_add]; rfl
theorem rots_neg (g : Bool) (n : Nat) (p : Int × Int) : rots g n (pneg p) = pneg (rots g n p) := by
  induction n with
  | zero => rfl
  | succ n ih => rw [rots, ih, rot_neg]; rfl
theorem rots_stp {g : Bool} {h k : Nat} (hh : h < hd g) (hk : k < hd g) : stp g ((h + k) % hd g) = rots g h (stp g k) := by
  have A : ∀ g : Bool, (List.range (hd g)).all (fun h => (List.range (hd g)).all fun k => decide (stp g ((h + k) % hd g) = rots g h (stp g k))) = true := by
    intro g
    cases g <;> decide +kernel
  exact of_decide_eq_true (List.all_eq_true.mp (List.all_eq_true.mp (A g) h (List.mem_range.mpr hh)) k (List.mem_range.mpr hk))
structure RotR (g : Bool) (q : Int × Int) (k : Nat) (s s' : Wst) : Prop where
  p : s'.p = padd q (rots g k s.p)
  h : s'.h = (k + s.h) % hd g
  ms : s'.ms.map (·.1) = s.ms.map fun m => padd q (rots g k m.1)
  lt : s.h < hd g
theorem rotR_next {g : Bool} {p : Int × Int} {h : Nat} {s s' : Wst} (hh : h < hd g) (r : RotR g p h s s') (c : Nat) : RotR g p h (wnext g s c) (wnext g s' c) := by
  obtain ⟨r1, r2, r3, r4⟩ := r
  have mv : mvTo g s'.p s'.h c = padd p (rots g h (mvTo g s.p s.h c)) := by
    unfold mvTo
    rw [r1, r2, rots_add, padd_assoc, rots_stp hh r4]
    by_cases e : c = 70
    · rw [if_pos e, if_pos e]
    · rw [if_neg e, if_neg e, rots_neg]
  refine ⟨?_, ?_, ?_, (hd_mod g _).1⟩
  · show (if c = 70 ∨ c = 66 then _ else _) = padd p (rots g h (if c = 70 ∨ c = 66 then _ else _))
    by_cases e : c = 70 ∨ c = 66
    · rw [if_pos e, if_pos e, mv]
    · rw [if_neg e, if_neg e, r1]
  · show (((s'.h : Int) + chg c) % (hd g : Nat)).toNat = (h + (((s.h : Int) + chg c) % (hd g : Nat)).toNat) % hd g
    rw [r2]
    cases g
    · have r4 : s.h < 4 := r4
      show (((((h + s.h) % 4 : Nat) : Int) + chg c) % ((4 : Nat) : Int)).toNat = (h + (((s.h : Int) + chg c) % ((4 : Nat) : Int)).toNat) % 4
      omega
    · have r4 : s.h < 6 := r4
      show (((((h + s.h) % 6 : Nat) : Int) + chg c) % ((6 : Nat) : Int)).toNat = (h + (((s.h : Int) + chg c) % ((6 : Nat) : Int)).toNat) % 6
      omega
  · show (if c = 70 ∨ c = 66 then _ else _ : List Mv).map (·.1) = (if c = 70 ∨ c = 66 then _ else _ : List Mv).map _
    by_cases e : c = 70 ∨ c = 66
    · rw [if_pos e, if_pos e, List.map_append, List.map_append, r3, List.map_singleton, List.map_singleton, r1]
    · rw [if_neg e, if_neg e, r3]
theorem wfrom_rot (g : Bool) (p : Int × Int) {h : Nat} (hh : h < hd g) (cs : List Nat) : RotR g p h (wrun g cs) (wfrom g p h cs) := by
  have A : ∀ (cs : List Nat) (s s' : Wst), RotR g p h s s' → RotR g p h (cs.foldl (wnext g) s) (cs.foldl (wnext g) s') := by
    intro cs
    induction cs with
    | nil => exact fun _ _ r => r
    | cons c cs ih => exact fun s s' r => ih _ _ (rotR_next hh r c)
  refine A cs _ _ ⟨?_, ?_, rfl, by cases g <;> decide⟩
  · have z : ∀ n, rots g n (0, 0) = (0, 0) := by
      intro n
      induction n with
      | zero => rfl
      | succ n ih => rw [rots, ih]; cases g <;> rfl
    show p = padd p (rots g h (0, 0))
    rw [z]
    exact Prod.ext (Int.add_zero _).symm (Int.add_zero _).symm
  · show h = (h + 0) % hd g
    rw [Nat.add_zero, Nat.mod_eq_of_lt hh]
theorem rst_sof (g : Bool) (cs : List Nat) : ∀ n, rst g cs (n + 1) = sof g (wrun g cs).p (wrun g cs).h n
  | 0 => rfl
  | n + 1 => by
    have ih := rst_sof g cs n
    have r := wfrom_rot g (rst g cs (n + 1)).1 (rst_h g cs (n + 1)) cs
    show ((wfrom g (rst g cs (n + 1)).1 (rst g cs (n + 1)).2 cs).p, (wfrom g (rst g cs (n + 1)).1 (rst g cs (n + 1)).2 cs).h) = _
    rw [r.p, r.h, ih]
    rfl
theorem rbf_lpl (g : Bool) (cs : List Nat) : ∀ n, rbf g cs (n + 1) = lpl g cs n
  | 0 => by
    unfold rbf rmv rmv
    rw [List.nil_append]
    rfl
  | n + 1 => by
    have r := wfrom_rot g (rst g cs (n + 1)).1 (rst_h g cs (n + 1)) cs
    have ih := rbf_lpl g cs n
    unfold rbf at ih ⊢
    rw [rmv, List.map_append, ih, r.ms, lpl, rst_sof]
    unfold blk bef
    rw [List.map_map]
    rfl
theorem rbf_len (g : Bool) (cs : List Nat) (n : Nat) : (rbf g cs n).length = n * mvn cs := by
  unfold rbf
  rw [List.length_map, rmv_len]
theorem rbf_pre (g : Bool) (cs : List Nat) (n : Nat) : ∀ k, ∃ r, rbf g cs (n + k) = rbf g cs n ++ r
  | 0 => ⟨[], (List.append_nil _).symm⟩
  | k + 1 => by
    obtain ⟨r, e⟩ := rbf_pre g cs n k
    refine ⟨r ++ (wfrom g (rst g cs (n + k)).1 (rst g cs (n + k)).2 cs).ms.map (·.1), ?_⟩
    rw [← List.append_assoc, ← e]
    unfold rbf
    rw [show n + (k + 1) = n + k + 1 from rfl, rmv, List.map_append]
theorem lord_pos {g : Bool} {cs : List Nat} (h : lper g cs ≠ 0) : 0 < lord g cs := by
  refine Nat.pos_of_ne_zero fun z => h ?_
  unfold lper
  rw [z, Nat.mul_zero]
theorem lplaces_rbf {g : Bool} {cs : List Nat} (h : lper g cs ≠ 0) : lplaces g cs = rbf g cs (lord g cs) := by
  have p := lord_pos h
  unfold lplaces
  rw [← rbf_lpl, Nat.sub_add_cancel p]
theorem lper_len {g : Bool} {cs : List Nat} (h : lper g cs ≠ 0) : (lplaces g cs).length = lper g cs := by
  rw [lplaces_rbf h, rbf_len, lper, wrun_mvn, Nat.mul_comm]
theorem ring_take {g : Bool} {cs : List Nat} (h : lper g cs ≠ 0) (n : Nat) (hn : 6 * mvn cs < n * mvn cs) : (rbf g cs n).take (lper g cs) = lplaces g cs := by
  have h6 : 6 < n := Nat.lt_of_mul_lt_mul_right hn
  have hl := lord_le g cs
  obtain ⟨r, e⟩ := rbf_pre g cs (lord g cs) (n - lord g cs)
  rw [show lord g cs + (n - lord g cs) = n by omega] at e
  rw [e, ← lper_len h, lplaces_rbf h]
  exact List.take_left
/-! ### moves in a chain -/
def Chn (g : Bool) : Int × Int → List Mv → Int × Int → Prop
  | p, [], q => p = q
  | p, m :: ms, q => m.1 = p ∧ psub m.2.2 m.1 ∈ stl g ∧ Chn g m.2.2 ms q
theorem chn_app {g : Bool} {q r : Int × Int} {b : List Mv} (hb : Chn g q b r) : ∀ (a : List Mv) (p : Int × Int), Chn g p a q → Chn g p (a ++ b) r
  | [], p, h => by
    have h : p = q := h
    rw [h]
    exact hb
  | m :: a, p, h => ⟨h.1, h.2.1, chn_app hb a _ h.2.2⟩
theorem mv_step {g : Bool} {h : Nat} (hh : h < hd g) (p : Int × Int) (c : Nat) : psub (mvTo g p h c) p ∈ stl g := by
  have A : ∀ g : Bool, (List.range (hd g)).all (fun h => decide (stp g h ∈ stl g) && decide (pneg (stp g h) ∈ stl g)) = true := by
    intro g
    cases g <;> decide +kernel
  have a := List.all_eq_true.mp (A g) h (List.mem_range.mpr hh)
  simp only [Bool.and_eq_true, decide_eq_true_eq] at a
  have s : ∀ x, psub (padd p x) p = x := fun x => Prod.ext (by show p.1 + x.1 - p.1 = x.1; omega) (by show p.2 + x.2 - p.2 = x.2; omega)
  unfold mvTo
  rw [s]
  split
  · exact a.1
  · exact a.2
theorem chn_run {g : Bool} {p : Int × Int} : ∀ (cs : List Nat) (s : Wst), s.h < hd g → Chn g p s.ms s.p → Chn g p (cs.foldl (wnext g) s).ms (cs.foldl (wnext g) s).p
  | [], _, _, h => h
  | c :: cs, s, hh, h => by
    refine chn_run cs (wnext g s c) (hd_mod g _).1 ?_
    unfold wnext
    by_cases e : c = 70 ∨ c = 66
    · simp only [if_pos e]
      have one : Chn g s.p [(s.p, s.h, mvTo g s.p s.h c)] (mvTo g s.p s.h c) := ⟨rfl, mv_step hh s.p c, rfl⟩
      exact chn_app one _ _ h
    · simp only [if_neg e]
      exact h
theorem chn_rmv (g : Bool) (cs : List Nat) : ∀ n, Chn g (0, 0) (rmv g cs n) (rst g cs n).1
  | 0 => rfl
  | n + 1 => by
    rw [rmv]
    exact chn_app (q := (rst g cs n).1) (chn_run cs ⟨[], (rst g cs n).1, (rst g cs n).2⟩ (rst_h g cs n) rfl) _ _ (chn_rmv g cs n)
theorem chn_prs {g : Bool} : ∀ (ms : List Mv) (p q : Int × Int), Chn g p ms q → ∀ z ∈ (ms.map (·.1)).zip ((ms.map (·.1)).drop 1 ++ [q]), psub z.2 z.1 ∈ stl g
  | [], _, _, _, z, hz => by cases hz
  | [m], p, q, h, z, hz => by
    have e : m.2.2 = q := h.2.2
    have hz : z ∈ [(m.1, q)] := hz
    rw [List.mem_singleton.mp hz, ← e]
    exact h.2.1
  | m :: m' :: ms, p, q, h, z, hz => by
    have hz : z ∈ (m.1, m'.1) :: ((m' :: ms).map (·.1)).zip (((m' :: ms).map (·.1)).drop 1 ++ [q]) := hz
    rcases List.mem_cons.mp hz with k | k
    · rw [k]
      show psub m'.1 m.1 ∈ stl g
      rw [h.2.2.1]
      exact h.2.1
    · exact chn_prs (m' :: ms) _ q h.2.2 z k
theorem sof_zero : ∀ (g : Bool) (p : Int × Int) (t : Nat), t < hd g → t ≠ 0 → (sof g p t (per (hd g) t - 1)).1 = (0, 0) := by
  intro g p t ht h0
  obtain ⟨a, b⟩ := p
  have A : ∀ z : Int × Int, z.1 = 0 → z.2 = 0 → z = (0, 0) := fun z h1 h2 => Prod.ext h1 h2
  cases g
  · match t, (ht : t < 4), h0 with
    | 1, _, _ => show (sof false (a, b) 1 3).1 = (0, 0); refine A _ ?_ ?_ <;> simp [sof, padd, rots, rot, hd] <;> omega
    | 2, _, _ => show (sof false (a, b) 2 1).1 = (0, 0); refine A _ ?_ ?_ <;> simp [sof, padd, rots, rot, hd] <;> omega
    | 3, _, _ => show (sof false (a, b) 3 3).1 = (0, 0); refine A _ ?_ ?_ <;> simp [sof, padd, rots, rot, hd] <;> omega
  · match t, (ht : t < 6), h0 with
    | 1, _, _ => show (sof true (a, b) 1 5).1 = (0, 0); refine A _ ?_ ?_ <;> simp [sof, padd, rots, rot, hd] <;> omega
    | 2, _, _ => show (sof true (a, b) 2 2).1 = (0, 0); refine A _ ?_ ?_ <;> simp [sof, padd, rots, rot, hd] <;> omega
    | 3, _, _ => show (sof true (a, b) 3 1).1 = (0, 0); refine A _ ?_ ?_ <;> simp [sof, padd, rots, rot, hd] <;> omega
    | 4, _, _ => show (sof true (a, b) 4 2).1 = (0, 0); refine A _ ?_ ?_ <;> simp [sof, padd, rots, rot, hd] <;> omega
    | 5, _, _ => show (sof true (a, b) 5 5).1 = (0, 0); refine A _ ?_ ?_ <;> simp [sof, padd, rots, rot, hd] <;> omega
theorem back {g : Bool} {cs : List Nat} (h : lper g cs ≠ 0) : (rst g cs (lord g cs)).1 = (0, 0) := by
  have p := lord_pos h
  have e := rst_sof g cs (lord g cs - 1)
  rw [Nat.sub_add_cancel p] at e
  rw [e]
  unfold lord ordr at p ⊢
  by_cases t0 : (wrun g cs).h = 0
  · rw [if_pos t0] at p ⊢
    by_cases p0 : (wrun g cs).p = (0, 0)
    · rw [if_pos p0]
      exact p0
    · rw [if_neg p0] at p
      cases p
  · rw [if_neg t0]
    exact sof_zero g _ _ (wrun_h g cs) t0
theorem ring_of {g : Bool} {cs : List Nat} (C : Clo g cs) : RingOk g (lplaces g cs) := by
  have hl := lper_len C.per
  have ch := chn_rmv g cs (lord g cs)
  rw [back C.per] at ch
  have e : lplaces g cs = (rmv g cs (lord g cs)).map (·.1) := lplaces_rbf C.per
  have ne : lplaces g cs ≠ [] := fun z => C.per (by rw [← hl, z]; rfl)
  generalize rmv g cs (lord g cs) = ms at ch e
  cases ms with
  | nil => exact absurd e ne
  | cons m ms =>
    have m0 : m.1 = (0, 0) := ch.1
    refine ⟨ne, ?_, by rw [hl]; exact C.sz, ?_⟩
    · intro z hz
      have t1 : (lplaces g cs).take 1 = [(0, 0)] := by rw [e, ← m0]; rfl
      unfold prs at hz
      rw [t1, e] at hz
      exact chn_prs _ _ _ ch z hz
    · unfold at_
      rw [Nat.zero_mod, e]
      exact m0
theorem right_of (g : Bool) (cs : List Nat) (C : Clo g cs) : RightF g cs := by
  have R := ring_of C
  refine ⟨C, ring_take C.per, R.okP, Nat.le_trans R.len (by decide), R.ne, fun p hp => ?_, R.prv, R.ltrn, R.win, R.simF, R.off, R.inner⟩
  obtain ⟨i, _, e⟩ := mem_at hp
  have a := R.small i
  have a : -33 ≤ (at_ (lplaces g cs) i).1 ∧ (at_ (lplaces g cs) i).1 ≤ 33 ∧ -33 ≤ (at_ (lplaces g cs) i).2 ∧ (at_ (lplaces g cs) i).2 ≤ 33 := a
  rw [e] at a
  omega
end K53
set_option maxHeartbeats 4000000
namespace K53
open PySem PySem.Spec PyProof.Rows L2
/-! ### place and heading alone -/
abbrev Ph := (Int × Int) × Nat
def act (g : Bool) (s : Ph) (c : Nat) : Ph := (if c = 70 ∨ c = 66 then mvTo g s.1 s.2 c else s.1, (((s.2 : Int) + chg c) % (hd g : Nat)).toNat)
theorem fold_act (g : Bool) : ∀ (cs : List Nat) (s : Wst), ((cs.foldl (wnext g) s).p, (cs.foldl (wnext g) s).h) = cs.foldl (act g) (s.p, s.h)
  | [], _ => rfl
  | c :: cs, s => fold_act g cs (wnext g s c)
theorem act_lt (g : Bool) (s : Ph) (c : Nat) : (act g s c).2 < hd g := (hd_mod g _).1
theorem turn_zero {g : Bool} {h : Nat} (hh : h < hd g) : (((h : Int) + 0) % (hd g : Nat)).toNat = h := by
  cases g
  · have hh : h < 4 := hh
    show (((h : Int) + 0) % ((4 : Nat) : Int)).toNat = h
    omega
  · have hh : h < 6 := hh
    show (((h : Int) + 0) % ((6 : Nat) : Int)).toNat = h
    omega
theorem act_inv {g : Bool} {s : Ph} {c : Nat} (hc : okC c) (hs : s.2 < hd g) : act g (act g s c) (inv1 c) = s := by
  obtain ⟨p, h⟩ := s
  have hs : h < hd g := hs
  have z := turn_zero hs
  rcases hc with rfl | rfl | rfl | rfl
  · have e : act g (p, h) 70 = (padd p (stp g h), h) := Prod.ext rfl z
    rw [e]
    refine Prod.ext ?_ z
    show padd (padd p (stp g h)) (pneg (stp g h)) = p
    exact Prod.ext (by show p.1 + (stp g h).1 + (stp g h).1 * -1 = p.1; omega) (by show p.2 + (stp g h).2 + (stp g h).2 * -1 = p.2; omega)
  · have e : act g (p, h) 66 = (padd p (pneg (stp g h)), h) := Prod.ext rfl z
    rw [e]
    refine Prod.ext ?_ z
    show padd (padd p (pneg (stp g h))) (stp g h) = p
    exact Prod.ext (by show p.1 + (stp g h).1 * -1 + (stp g h).1 = p.1; omega) (by show p.2 + (stp g h).2 * -1 + (stp g h).2 = p.2; omega)
  · refine Prod.ext rfl ?_
    show ((((((h : Int) + 1) % (hd g : Nat)).toNat : Int) + -1) % (hd g : Nat)).toNat = h
    cases g
    · have hs : h < 4 := hs
      show ((((((h : Int) + 1) % ((4 : Nat) : Int)).toNat : Int) + -1) % ((4 : Nat) : Int)).toNat = h
      omega
    · have hs : h < 6 := hs
      show ((((((h : Int) + 1) % ((6 : Nat) : Int)).toNat : Int) + -1) % ((6 : Nat) : Int)).toNat = h
      omega
  · refine Prod.ext rfl ?_
    show ((((((h : Int) + -1) % (hd g : Nat)).toNat : Int) + 1) % (hd g : Nat)).toNat = h
    cases g
    · have hs : h < 4 := hs
      show ((((((h : Int) + -1) % ((4 : Nat) : Int)).toNat : Int) + 1) % ((4 : Nat) : Int)).toNat = h
      omega
    · have hs : h < 6 := hs
      show ((((((h : Int) + -1) % ((6 : Nat) : Int)).toNat : Int) + 1) % ((6 : Nat) : Int)).toNat = h
      omega
theorem undo {g : Bool} : ∀ (cs : List Nat), (∀ c ∈ cs, okC c) → ∀ s : Ph, s.2 < hd g → (cs.reverse.map inv1).foldl (act g) (cs.foldl (act g) s) = s
  | [], _, _, _ => rfl
  | c :: cs, ok, s, hs => by
    rw [List.reverse_cons, List.map_append, List.foldl_append, List.foldl_cons, undo cs (fun x hx => ok x (List.mem_cons_of_mem _ hx)) _ (act_lt g s c)]
    exact act_inv (ok c List.mem_cons_self) hs
def mu (g : Bool) (p : Int × Int) : Int × Int := if g then (p.1 + p.2, -p.2) else (p.1, -p.2)
def nh (g : Bool) (h : Nat) : Nat := (hd g - h) % hd g
theorem mu_add (g : Bool) (p q : Int × Int) : mu g (padd p q) = padd (mu g p) (mu g q) := by
  obtain ⟨a, b⟩ := p
  obtain ⟨c, d⟩ := q
  cases g
  · exact Prod.ext rfl (by show -(b + d) = -b + -d; omega)
  · exact Prod.ext (by show a + c + (b + d) = a + b + (c + d); omega) (by show -(b + d) = -b + -d; omega)
theorem mu_neg (g : Bool) (p : Int × Int) : mu g (pneg p) = pneg (mu g p) := by
  obtain ⟨a, b⟩ := p
  cases g
  · exact Prod.ext rfl (by show -(b * -1) = -b * -1; omega)
  · exact Prod.ext (by show a * -1 + b * -1 = (a + b) * -1; omega) (by show -(b * -1) = -b * -1; omega)
theorem mu_stp {g : Bool} {h : Nat} (hh : h < hd g) : stp g (nh g h) = mu g (stp g h) := by
  have A : ∀ g : Bool, (List.range (hd g)).all (fun h => decide (stp g (nh g h) = mu g (stp g h))) = true := by
    intro g
    cases g <;> decide +kernel
  exact of_decide_eq_true (List.all_eq_true.mp (A g) h (List.mem_range.mpr hh))
theorem mu_mv {g : Bool} {h : Nat} (hh : h < hd g) (p : Int × Int) (c : Nat) : mvTo g (mu g p) (nh g h) c = mu g (mvTo g p h c) := by
  unfold mvTo
  rw [mu_add, mu_stp hh]
  by_cases e : c = 70
  · rw [if_pos e, if_pos e]
  · rw [if_neg e, if_neg e, mu_neg]
theorem act_mir {g : Bool} {s : Ph} {c : Nat} (hc : okC c) (hs : s.2 < hd g) : act g (mu g s.1, nh g s.2) (mir1 c) = (mu g (act g s c).1, nh g (act g s c).2) := by
  obtain ⟨p, h⟩ := s
  have hs : h < hd g := hs
  have hq : ∀ c c', chg c' = -chg c → ((((nh g h : Nat) : Int) + chg c') % (hd g : Nat)).toNat = nh g ((((h : Int) + chg c) % (hd g : Nat)).toNat) := by
    intro c c' e
    rw [e]
    cases g
    · have hs : h < 4 := hs
      show (((((4 - h) % 4 : Nat) : Int) + -chg c) % ((4 : Nat) : Int)).toNat = (4 - (((h : Int) + chg c) % ((4 : Nat) : Int)).toNat) % 4
      omega
    · have hs : h < 6 := hs
      show (((((6 - h) % 6 : Nat) : Int) + -chg c) % ((6 : Nat) : Int)).toNat = (6 - (((h : Int) + chg c) % ((6 : Nat) : Int)).toNat) % 6
      omega
  rcases hc with rfl | rfl | rfl | rfl
  · exact Prod.ext (mu_mv hs p 70) (hq 70 70 rfl)
  · exact Prod.ext (mu_mv hs p 66) (hq 66 66 rfl)
  · exact Prod.ext rfl (hq 76 82 rfl)
  · exact Prod.ext rfl (hq 82 76 rfl)
theorem fold_mir {g : Bool} : ∀ (cs : List Nat), (∀ c ∈ cs, okC c) → ∀ s : Ph, s.2 < hd g → (cs.map mir1).foldl (act g) (mu g s.1, nh g s.2) = (mu g (cs.foldl (act g) s).1, nh g (cs.foldl (act g) s).2)
  | [], _, _, _ => rfl
  | c :: cs, ok, s, hs => by
    rw [List.map_cons, List.foldl_cons, List.foldl_cons, act_mir (ok c List.mem_cons_self) hs]
    exact fold_mir cs (fun x hx => ok x (List.mem_cons_of_mem _ hx)) _ (act_lt g s c)
theorem mvn_map {f : Nat → Nat} (hf : ∀ c, (f c = 70 ∨ f c = 66) ↔ (c = 70 ∨ c = 66)) (cs : List Nat) : mvn (cs.map f) = mvn cs := by
  unfold mvn
  induction cs with
  | nil => rfl
  | cons c cs ih =>
    rw [List.map_cons, List.filter_cons, List.filter_cons]
    by_cases h : c = 70 ∨ c = 66
    · rw [if_pos (decide_eq_true ((hf c).mpr h)), if_pos (decide_eq_true h), List.length_cons, List.length_cons, ih]
    · rw [if_neg (fun z => h ((hf c).mp (of_decide_eq_true z))), if_neg (fun z => h (of_decide_eq_true z)), ih]
theorem mvn_rev (cs : List Nat) : mvn cs.reverse = mvn cs := by
  unfold mvn
  rw [List.filter_reverse, List.length_reverse]
theorem mvn_app (as bs : List Nat) : mvn (as ++ bs) = mvn as + mvn bs := by
  unfold mvn
  rw [List.filter_append, List.length_append]
theorem inv_mv (c : Nat) : (inv1 c = 70 ∨ inv1 c = 66) ↔ (c = 70 ∨ c = 66) := by
  unfold inv1
  split
  · omega
  · split
    · omega
    · split <;> omega
theorem mir_mv (c : Nat) : (mir1 c = 70 ∨ mir1 c = 66) ↔ (c = 70 ∨ c = 66) := by
  unfold mir1
  split
  · omega
  · split
    · omega
    · split <;> omega
theorem inv_ok (c : Nat) : okC (inv1 c) := by
  unfold inv1 okC
  split
  · omega
  · split
    · omega
    · split <;> omega
theorem mir_ok (c : Nat) : okC (mir1 c) := by
  unfold mir1 okC
  split
  · omega
  · split
    · omega
    · split <;> omega
/-- commands that come back -/
structure Bck (g : Bool) (cs : List Nat) (n : Nat) : Prop where
  ok : ∀ c ∈ cs, okC c
  len : cs.length ≤ 200
  mv : mvn cs = n
  bk : cs.foldl (act g) ((0, 0), 0) = ((0, 0), 0)
theorem Bck.st {g : Bool} {cs : List Nat} {n : Nat} (B : Bck g cs n) : (wrun g cs).p = (0, 0) ∧ (wrun g cs).h = 0 := by
  have e := fold_act g cs ⟨[], (0, 0), 0⟩
  have e : ((wrun g cs).p, (wrun g cs).h) = cs.foldl (act g) ((0, 0), 0) := e
  rw [B.bk] at e
  exact ⟨congrArg Prod.fst e, congrArg Prod.snd e⟩
theorem Bck.lord {g : Bool} {cs : List Nat} {n : Nat} (B : Bck g cs n) : lord g cs = 1 := by
  unfold K53.lord ordr
  rw [if_pos B.st.2, if_pos B.st.1]
theorem Bck.clo {g : Bool} {cs : List Nat} {n : Nat} (B : Bck g cs n) (n0 : 0 < n) (n1 : n ≤ 66) : Clo g cs := by
  have e : lper g cs = n := by unfold lper; rw [B.lord, wrun_mvn, B.mv, Nat.mul_one]
  exact ⟨B.ok, B.len, by rw [B.mv]; exact n0, by omega, by omega⟩
theorem hd0 (g : Bool) : 0 < hd g := by cases g <;> decide
theorem Bck.dbl {g : Bool} {cs : List Nat} {n : Nat} (B : Bck g cs n) (h : 2 * cs.length ≤ 200) : Bck g (cs ++ cs) (2 * n) := by
  refine ⟨fun c hc => ?_, by rw [List.length_append]; omega, by rw [mvn_app, B.mv]; omega, by rw [List.foldl_append, B.bk, B.bk]⟩
  rcases List.mem_append.mp hc with z | z
  · exact B.ok c z
  · exact B.ok c z
theorem Bck.mir {g : Bool} {cs : List Nat} {n : Nat} (B : Bck g cs n) : Bck g (cs.map mir1) n := by
  refine ⟨fun c hc => ?_, by rw [List.length_map]; exact B.len, by rw [mvn_map mir_mv, B.mv], ?_⟩
  · obtain ⟨d, _, rfl⟩ := List.mem_map.mp hc
    exact mir_ok d
  · have e := fold_mir (g := g) cs B.ok ((0, 0), 0) (hd0 g)
    rw [B.bk] at e
    have z : (mu g (0, 0), nh g 0) = (((0, 0), 0) : Ph) := by cases g <;> rfl
    rw [z] at e
    exact e
theorem Bck.inv {g : Bool} {cs : List Nat} {n : Nat} (B : Bck g cs n) : Bck g (cs.reverse.map inv1) n := by
  refine ⟨fun c hc => ?_, by rw [List.length_map, List.length_reverse]; exact B.len, by rw [mvn_map inv_mv, mvn_rev, B.mv], ?_⟩
  · obtain ⟨d, _, rfl⟩ := List.mem_map.mp hc
    exact inv_ok d
  · have e := undo (g := g) cs B.ok ((0, 0), 0) (hd0 g)
    rw [B.bk] at e
    exact e
/-! ### the commands of a way -/
theorem rep76 {g : Bool} : ∀ (n : Nat) (s : Wst), s.h < hd g → (List.replicate n 76).foldl (wnext g) s = ⟨s.ms, s.p, (s.h + n) % hd g⟩
  | 0, s, h => by
    obtain ⟨a, b, c⟩ := s
    show _ = Wst.mk a b ((c + 0) % hd g)
    rw [Nat.add_zero, Nat.mod_eq_of_lt h]
    rfl
  | n + 1, s, h => by
    have h1 : (wnext g s 76).h < hd g := (hd_mod g ((s.h : Int) + chg 76)).1
    rw [List.replicate_succ, List.foldl_cons, rep76 n _ h1]
    show Wst.mk s.ms s.p (((((s.h : Int) + 1) % (hd g : Nat)).toNat + n) % hd g) = _
    congr 1
    cases g
    · show ((((s.h : Int) + 1) % ((4 : Nat) : Int)).toNat + n) % 4 = (s.h + (n + 1)) % 4
      omega
    · show ((((s.h : Int) + 1) % ((6 : Nat) : Int)).toNat + n) % 6 = (s.h + (n + 1)) % 6
      omega
theorem ctn_to {g : Bool} {h w : Nat} (hh : h < hd g) (hw : w < hd g) : (h + ctn g h w) % hd g = w := by
  unfold ctn
  cases g
  · have hh : h < 4 := hh
    have hw : w < 4 := hw
    show (h + (((w : Int) - h) % ((4 : Nat) : Int)).toNat) % 4 = w
    omega
  · have hh : h < 6 := hh
    have hw : w < 6 := hw
    show (h + (((w : Int) - h) % ((6 : Nat) : Int)).toNat) % 6 = w
    omega
theorem crun_run {g : Bool} {ws : List Nat} (lt : ∀ w ∈ ws, w < hd g) : ∀ n, n ≤ ws.length → ∃ ms, wrun g (crun g (ws.take n)).1 = ⟨ms, wsum g (ws.take n), (crun g (ws.take n)).2⟩ ∧ ms.map (·.1) = spt g ws n ∧ (crun g (ws.take n)).2 < hd g
  | 0, _ => ⟨[], rfl, rfl, hd0 g⟩
  | n + 1, hn => by
    obtain ⟨ms, h1, h2, h3⟩ := crun_run lt n (by omega)
    have hw : ws[n]? = some ws[n] := List.getElem?_eq_getElem (by omega)
    have wl := lt ws[n] (List.getElem_mem (by omega))
    generalize ws[n] = w at hw wl
    rw [take_snoc hw, crun_snoc]
    refine ⟨ms ++ [(wsum g (ws.take n), w, padd (wsum g (ws.take n)) (stp g w))], ?_, ?_, wl⟩
    · show wrun g ((crun g (ws.take n)).1 ++ List.replicate (ctn g (crun g (ws.take n)).2 w) 76 ++ [70]) = _
      rw [wrun_snoc]
      have e : wrun g ((crun g (ws.take n)).1 ++ List.replicate (ctn g (crun g (ws.take n)).2 w) 76) = ⟨ms, wsum g (ws.take n), w⟩ := by
        show List.foldl _ _ _ = _
        rw [List.foldl_append]
        have h1 : List.foldl (wnext g) ⟨[], (0, 0), 0⟩ (crun g (ws.take n)).1 = _ := h1
        rw [h1, rep76 _ _ h3]
        show Wst.mk ms _ _ = _
        rw [ctn_to h3 wl]
      rw [e]
      have z := turn_zero wl
      show Wst.mk (ms ++ [(wsum g (ws.take n), w, padd (wsum g (ws.take n)) (stp g w))]) (padd (wsum g (ws.take n)) (stp g w)) _ = Wst.mk _ (wsum g (ws.take n ++ [w])) w
      have q : wsum g (ws.take n ++ [w]) = padd (wsum g (ws.take n)) (stp g w) := by simp [wsum]
      rw [q]
      exact congrArg _ z
    · rw [List.map_append, h2]
      unfold spt
      rw [List.range_succ, List.map_append]
      rfl
theorem cmds_run {g : Bool} {ws : List Nat} (G : Grown g ws) : Bck g (cmds g ws) ws.length ∧ lplaces g (cmds g ws) = spt g ws ws.length := by
  obtain ⟨ms, h1, h2, h3⟩ := crun_run G.lt ws.length (Nat.le_refl _)
  rw [List.take_length] at h1 h3
  rw [G.close] at h1
  have e : wrun g (cmds g ws) = ⟨ms, (0, 0), 0⟩ := by
    show List.foldl _ _ ((crun g ws).1 ++ List.replicate (ctn g (crun g ws).2 0) 76) = _
    rw [List.foldl_append]
    have h1 : List.foldl (wnext g) ⟨[], (0, 0), 0⟩ (crun g ws).1 = _ := h1
    rw [h1, rep76 _ _ h3]
    show Wst.mk ms _ _ = _
    rw [ctn_to h3 (hd0 g)]
  have B : Bck g (cmds g ws) ws.length := by
    refine ⟨fun c hc => ?_, ?_, ?_, ?_⟩
    · have A : ∀ (vs : List Nat) (s : List Nat × Nat), (∀ c ∈ s.1, okC c) → ∀ c ∈ (vs.foldl (cstep g) s).1, okC c := by
        intro vs
        induction vs with
        | nil => exact fun s h => h
        | cons v vs ih =>
          intro s h
          refine ih _ fun c hc => ?_
          rcases List.mem_append.mp hc with z | z
          · rcases List.mem_append.mp z with y | y
            · exact h c y
            · rw [List.eq_of_mem_replicate y]
              exact .inr (.inr (.inl rfl))
          · rw [List.mem_singleton.mp z]
            exact .inl rfl
      rcases List.mem_append.mp hc with z | z
      · exact A ws ([], 0) (fun _ h => nomatch h) c z
      · rw [List.eq_of_mem_replicate z]
        exact .inr (.inr (.inl rfl))
    · have a := crun_len g ws
      have b := ctn_lt g (crun g ws).2 0
      have c := hd6 g
      have d := G.few
      show ((crun g ws).1 ++ List.replicate (ctn g (crun g ws).2 0) 76).length ≤ 200
      rw [List.length_append, List.length_replicate]
      omega
    · rw [← wrun_mvn g, e]
      have l : (ms.map (·.1)).length = ws.length := by rw [h2, spt_len]
      rw [List.length_map] at l
      exact l
    · have f := fold_act g (cmds g ws) ⟨[], (0, 0), 0⟩
      have f : ((wrun g (cmds g ws)).p, (wrun g (cmds g ws)).h) = (cmds g ws).foldl (act g) ((0, 0), 0) := f
      rw [← f, e]
  refine ⟨B, ?_⟩
  unfold lplaces
  rw [B.lord]
  show (wrun g (cmds g ws)).ms.map (·.1) = _
  rw [e]
  exact h2
theorem plain_law : PlainLaw := by
  refine ⟨right_of, fun g => ?_, fun g ws G => ?_⟩
  · refine cloB_ok ?_
    cases g <;> decide +kernel
  · obtain ⟨B, e⟩ := cmds_run G
    have n3 := G.three
    have n20 := G.few
    refine ⟨B.clo (by omega) (by omega), ?_, fun h => (B.dbl h).clo (by omega) (by omega), B.mir.clo (by omega) (by omega), B.inv.clo (by omega) (by omega)⟩
    rw [e]
    unfold osimple
    have l := spt_len g ws ws.length
    have d := (nodup_len (dd_nodup (spt g ws ws.length)) (dd_mem (spt g ws ws.length))).mpr G.nd
    rw [Bool.and_eq_true, decide_eq_true_eq, decide_eq_true_eq]
    omega
end K53
set_option maxHeartbeats 4000000
namespace K53
open PySem PySem.Spec PyProof.Rows L2
theorem plcs_ok {K : Fg} : ∀ {as : List Addr} {ps : List (Int × Int)}, plcs K as ps = true → ∀ H, PlR K H as ps
  | [], [], _, _ => .nil
  | [], _ :: _, h, _ => by cases h
  | _ :: _, [], h, _ => by cases h
  | a :: as, p :: ps, h, H => by
    obtain ⟨h1, h2⟩ := He.ba (show (tupAt K a (pl p) && plcs K as ps) = true from h)
    exact .cons ((tupAt_ok h1).2 H) (plcs_ok h2 H)
theorem stpB_ok {K : Fg} {k : Str} {ps : List (Int × Int)} (h : stpB K k ps = true) : ∃ (a : Addr) (ts : List Addr), PySem.W.nsIn K (He.ga K "STEPS") k = some (some (.ref a)) ∧ (∃ o, K.lookup a = some o ∧ o.cls = .type "tuple" ∧ o.dict = none) ∧ (∀ H, SqT K H a (ts.map V.ref)) ∧ ∀ H, PlR K H ts ps := by
  obtain ⟨h1, h⟩ := He.ba h
  obtain ⟨h2, h3⟩ := He.ba h
  exact ⟨_, _, He.eqO_ok h1, (tupAt_ok h2).1, (tupAt_ok h2).2, plcs_ok h3⟩
section
variable {P : Program} {w : World} {K : PySem.W.Frag} {h : Heap} {mg : Str → Option Value} {base : Heap}
abbrev SaysA (w : World) (K : PySem.W.Frag) : Prop := SaysP fcs dfs tbs w K
section
variable (X : K.In h) (G : h.Ns mainGlobals mg) (c : SaysA w K)
include X G c
theorem g_B : TxB K mg := ⟨He.free_ok X G (c.fact 43 rfl), He.free_ok X G (c.fact 44 rfl), He.free_ok X G (c.fact 45 rfl), He.free_ok X G (c.fact 46 rfl), He.free_ok X G (c.fact 47 rfl), He.free_ok X G (c.fact 48 rfl), He.free_ok X G (c.fact 49 rfl), He.free_ok X G (c.fact 50 rfl), He.free_ok X G (c.fact 51 rfl), He.free_ok X G (c.fact 52 rfl), He.free_ok X G (c.fact 53 rfl), He.free_ok X G (c.fact 54 rfl), He.free_ok X G (c.fact 55 rfl), He.free_ok X G (c.fact 56 rfl), He.free_ok X G (c.fact 57 rfl), He.free_ok X G (c.fact 58 rfl), He.free_ok X G (c.fact 59 rfl), of_decide_eq_true (c.fact 60 rfl), of_decide_eq_true (c.fact 61 rfl), of_decide_eq_true (c.fact 62 rfl), of_decide_eq_true (c.fact 63 rfl)⟩
theorem g_N : TxN K w mg (He.ga K "STEPS") := ⟨He.glo_ok X G (c.fact 39 rfl), c.tab 0 rfl, fun g => by
  cases g
  · exact stpB_ok (c.fact 121 rfl)
  · exact stpB_ok (c.fact 122 rfl)⟩
theorem g_D : TxD K w mg (He.ga K "INVERSE") (He.ga K "MIRRORED") (He.ga K "CHANGES") := ⟨⟨He.glo_ok X G (c.fact 40 rfl), c.tab 1 rfl, rowB_ok (c.fact 123 rfl)⟩, ⟨He.glo_ok X G (c.fact 41 rfl), c.tab 2 rfl, rowB_ok (c.fact 124 rfl)⟩, ⟨He.glo_ok X G (c.fact 42 rfl), c.tab 3 rfl, rowB_ok (c.fact 125 rfl)⟩⟩
theorem g_M : TxM K mg (He.ga K "Movement") := ⟨He.cls_ok (c.fact 64 rfl), insB_ok (c.fact 91 rfl), He.glo_ok X G (c.fact 35 rfl), He.noat_ok (c.fact 66 rfl), He.noat_ok (c.fact 67 rfl), He.noat_ok (c.fact 68 rfl)⟩
theorem g_W : TxW K mg (He.ga K "Walk") := ⟨He.cls_ok (c.fact 69 rfl), insB_ok (c.fact 92 rfl), He.glo_ok X G (c.fact 36 rfl), He.noat_ok (c.fact 71 rfl), He.noat_ok (c.fact 72 rfl), He.noat_ok (c.fact 73 rfl), He.noat_ok (c.fact 74 rfl), mostB_ok (c.fact 108 rfl)⟩
theorem g_L : TxL K mg (He.ga K "Loop") := ⟨He.cls_ok (c.fact 75 rfl), insB_ok (c.fact 93 rfl), He.glo_ok X G (c.fact 37 rfl), He.noat_ok (c.fact 77 rfl), He.noat_ok (c.fact 78 rfl), He.noat_ok (c.fact 79 rfl), He.noat_ok (c.fact 80 rfl), He.noat_ok (c.fact 81 rfl)⟩
theorem g_O : TxO K mg (He.ga K "Outline") := ⟨He.cls_ok (c.fact 82 rfl), He.glo_ok X G (c.fact 38 rfl), He.noat_ok (c.fact 84 rfl), He.noat_ok (c.fact 85 rfl), He.noat_ok (c.fact 86 rfl), He.noat_ok (c.fact 87 rfl), He.noat_ok (c.fact 88 rfl), He.noat_ok (c.fact 89 rfl), He.noat_ok (c.fact 90 rfl)⟩
theorem d_18 : DefT K mg 18 "is_integer" := by
  obtain ⟨fd, F⟩ := c.df 0 rfl
  exact ⟨_, fd, F, He.glo_ok X G (c.fact 0 rfl)⟩
theorem d_19 : DefT K mg 19 "is_place" := by
  obtain ⟨fd, F⟩ := c.df 1 rfl
  exact ⟨_, fd, F, He.glo_ok X G (c.fact 1 rfl)⟩
theorem d_20 : DefT K mg 20 "is_net" := by
  obtain ⟨fd, F⟩ := c.df 2 rfl
  exact ⟨_, fd, F, He.glo_ok X G (c.fact 2 rfl)⟩
theorem d_21 : DefT K mg 21 "check_net" := by
  obtain ⟨fd, F⟩ := c.df 3 rfl
  exact ⟨_, fd, F, He.glo_ok X G (c.fact 3 rfl)⟩
theorem d_22 : DefT K mg 22 "check_place" := by
  obtain ⟨fd, F⟩ := c.df 4 rfl
  exact ⟨_, fd, F, He.glo_ok X G (c.fact 4 rfl)⟩
theorem d_23 : DefT K mg 23 "check_integer" := by
  obtain ⟨fd, F⟩ := c.df 5 rfl
  exact ⟨_, fd, F, He.glo_ok X G (c.fact 5 rfl)⟩
theorem d_25 : DefT K mg 25 "heading_count" := by
  obtain ⟨fd, F⟩ := c.df 6 rfl
  exact ⟨_, fd, F, He.glo_ok X G (c.fact 6 rfl)⟩
theorem d_26 : DefT K mg 26 "step_of" := by
  obtain ⟨fd, F⟩ := c.df 7 rfl
  exact ⟨_, fd, F, He.glo_ok X G (c.fact 7 rfl)⟩
theorem d_27 : DefT K mg 27 "added" := by
  obtain ⟨fd, F⟩ := c.df 8 rfl
  exact ⟨_, fd, F, He.glo_ok X G (c.fact 8 rfl)⟩
theorem d_28 : DefT K mg 28 "scaled" := by
  obtain ⟨fd, F⟩ := c.df 9 rfl
  exact ⟨_, fd, F, He.glo_ok X G (c.fact 9 rfl)⟩
theorem d_29 : DefT K mg 29 "turned" := by
  obtain ⟨fd, F⟩ := c.df 10 rfl
  exact ⟨_, fd, F, He.glo_ok X G (c.fact 10 rfl)⟩
theorem d_44 : DefT K mg 44 "all_moves" := by
  obtain ⟨fd, F⟩ := c.df 11 rfl
  exact ⟨_, fd, F, He.glo_ok X G (c.fact 11 rfl)⟩
theorem d_46 : DefT K mg 46 "check_moving" := by
  obtain ⟨fd, F⟩ := c.df 12 rfl
  exact ⟨_, fd, F, He.glo_ok X G (c.fact 12 rfl)⟩
theorem d_51 : DefT K mg 51 "check_loop" := by
  obtain ⟨fd, F⟩ := c.df 13 rfl
  exact ⟨_, fd, F, He.glo_ok X G (c.fact 13 rfl)⟩
theorem d_52 : DefT K mg 52 "difference" := by
  obtain ⟨fd, F⟩ := c.df 14 rfl
  exact ⟨_, fd, F, He.glo_ok X G (c.fact 14 rfl)⟩
theorem d_55 : DefT K mg 55 "position" := by
  obtain ⟨fd, F⟩ := c.df 15 rfl
  exact ⟨_, fd, F, He.glo_ok X G (c.fact 15 rfl)⟩
theorem d_56 : DefT K mg 56 "cell_at" := by
  obtain ⟨fd, F⟩ := c.df 16 rfl
  exact ⟨_, fd, F, He.glo_ok X G (c.fact 16 rfl)⟩
theorem d_57 : DefT K mg 57 "crossing" := by
  obtain ⟨fd, F⟩ := c.df 17 rfl
  exact ⟨_, fd, F, He.glo_ok X G (c.fact 17 rfl)⟩
theorem d_60 : DefT K mg 60 "_law_source" := by
  obtain ⟨fd, F⟩ := c.df 18 rfl
  exact ⟨_, fd, F, He.glo_ok X G (c.fact 18 rfl)⟩
theorem d_61 : DefT K mg 61 "_law_draw" := by
  obtain ⟨fd, F⟩ := c.df 19 rfl
  exact ⟨_, fd, F, He.glo_ok X G (c.fact 19 rfl)⟩
theorem d_62 : DefT K mg 62 "_law_steps" := by
  obtain ⟨fd, F⟩ := c.df 20 rfl
  exact ⟨_, fd, F, He.glo_ok X G (c.fact 20 rfl)⟩
theorem d_65 : DefT K mg 65 "_law_signs" := by
  obtain ⟨fd, F⟩ := c.df 21 rfl
  exact ⟨_, fd, F, He.glo_ok X G (c.fact 21 rfl)⟩
theorem d_66 : DefT K mg 66 "_law_walked" := by
  obtain ⟨fd, F⟩ := c.df 22 rfl
  exact ⟨_, fd, F, He.glo_ok X G (c.fact 22 rfl)⟩
theorem d_67 : DefT K mg 67 "_law_looped" := by
  obtain ⟨fd, F⟩ := c.df 23 rfl
  exact ⟨_, fd, F, He.glo_ok X G (c.fact 23 rfl)⟩
theorem d_68 : DefT K mg 68 "_law_moving" := by
  obtain ⟨fd, F⟩ := c.df 24 rfl
  exact ⟨_, fd, F, He.glo_ok X G (c.fact 24 rfl)⟩
theorem d_69 : DefT K mg 69 "_law_closed" := by
  obtain ⟨fd, F⟩ := c.df 25 rfl
  exact ⟨_, fd, F, He.glo_ok X G (c.fact 25 rfl)⟩
theorem d_70 : DefT K mg 70 "_law_ring" := by
  obtain ⟨fd, F⟩ := c.df 26 rfl
  exact ⟨_, fd, F, He.glo_ok X G (c.fact 26 rfl)⟩
theorem d_71 : DefT K mg 71 "_law_pairs" := by
  obtain ⟨fd, F⟩ := c.df 27 rfl
  exact ⟨_, fd, F, He.glo_ok X G (c.fact 27 rfl)⟩
theorem d_75 : DefT K mg 75 "_law_corners" := by
  obtain ⟨fd, F⟩ := c.df 28 rfl
  exact ⟨_, fd, F, He.glo_ok X G (c.fact 28 rfl)⟩
theorem d_76 : DefT K mg 76 "_law_turning" := by
  obtain ⟨fd, F⟩ := c.df 29 rfl
  exact ⟨_, fd, F, He.glo_ok X G (c.fact 29 rfl)⟩
theorem d_77 : DefT K mg 77 "_law_simple_right" := by
  obtain ⟨fd, F⟩ := c.df 30 rfl
  exact ⟨_, fd, F, He.glo_ok X G (c.fact 30 rfl)⟩
theorem d_78 : DefT K mg 78 "_law_right" := by
  obtain ⟨fd, F⟩ := c.df 31 rfl
  exact ⟨_, fd, F, He.glo_ok X G (c.fact 31 rfl)⟩
theorem d_79 : DefT K mg 79 "_law_commands" := by
  obtain ⟨fd, F⟩ := c.df 32 rfl
  exact ⟨_, fd, F, He.glo_ok X G (c.fact 32 rfl)⟩
theorem d_80 : DefT K mg 80 "_law_grown" := by
  obtain ⟨fd, F⟩ := c.df 33 rfl
  exact ⟨_, fd, F, He.glo_ok X G (c.fact 33 rfl)⟩
theorem d_81 : DefT K mg 81 "law" := by
  obtain ⟨fd, F⟩ := c.df 34 rfl
  exact ⟨_, fd, F, He.glo_ok X G (c.fact 34 rfl)⟩
theorem k_M_init : MakT K mg "Movement" (He.ga K "Movement") "Movement.__init__" (icl 39 0) := by
  obtain ⟨fd, F⟩ := c.df 35 rfl
  exact ⟨_, fd, F, He.mkr_ok (c.fact 65 rfl), He.glo_ok X G (c.fact 35 rfl)⟩
theorem k_M_call : CalOT K (He.ga K "Movement") "Movement.__call__" (icl 39 6) := by
  obtain ⟨fd, F⟩ := c.df 36 rfl
  exact ⟨_, fd, F, calB_ok (c.fact 106 rfl)⟩
theorem k_M_add : MetT K (He.ga K "Movement") "__add__" "Movement.__add__" (icl 39 9) := by
  obtain ⟨fd, F⟩ := c.df 37 rfl
  exact ⟨_, fd, F, He.meth_ok (c.fact 94 rfl)⟩
theorem k_W_init : MakT K mg "Walk" (He.ga K "Walk") "Walk.__init__" (icl 45 1) := by
  obtain ⟨fd, F⟩ := c.df 38 rfl
  exact ⟨_, fd, F, He.mkr_ok (c.fact 70 rfl), He.glo_ok X G (c.fact 36 rfl)⟩
theorem k_W_len : MetT K (He.ga K "Walk") "__len__" "Walk.__len__" (icl 45 5) := by
  obtain ⟨fd, F⟩ := c.df 39 rfl
  exact ⟨_, fd, F, He.meth_ok (c.fact 95 rfl)⟩
theorem k_W_invert : MetT K (He.ga K "Walk") "__invert__" "Walk.__invert__" (icl 45 13) := by
  obtain ⟨fd, F⟩ := c.df 40 rfl
  exact ⟨_, fd, F, He.meth_ok (c.fact 96 rfl)⟩
theorem k_W_moves : MetT K (He.ga K "Walk") "moves" "Walk.moves" (icl 45 14) := by
  obtain ⟨fd, F⟩ := c.df 41 rfl
  exact ⟨_, fd, F, He.meth_ok (c.fact 97 rfl)⟩
theorem k_W_mirror : MetT K (He.ga K "Walk") "mirror" "Walk.mirror" (icl 45 17) := by
  obtain ⟨fd, F⟩ := c.df 42 rfl
  exact ⟨_, fd, F, He.meth_ok (c.fact 98 rfl)⟩
theorem k_L_init : MakT K mg "Loop" (He.ga K "Loop") "Loop.__init__" (icl 49 0) := by
  obtain ⟨fd, F⟩ := c.df 43 rfl
  exact ⟨_, fd, F, He.mkr_ok (c.fact 76 rfl), He.glo_ok X G (c.fact 37 rfl)⟩
theorem k_L_stored : MetT K (He.ga K "Loop") "stored" "Loop.stored" (icl 49 5) := by
  obtain ⟨fd, F⟩ := c.df 44 rfl
  exact ⟨_, fd, F, He.meth_ok (c.fact 99 rfl)⟩
theorem k_O_init : MakT K mg "Outline" (He.ga K "Outline") "Outline.__init__" (icl 58 0) := by
  obtain ⟨fd, F⟩ := c.df 45 rfl
  exact ⟨_, fd, F, He.mkr_ok (c.fact 83 rfl), He.glo_ok X G (c.fact 38 rfl)⟩
theorem k_O_move_pairs : MetT K (He.ga K "Outline") "move_pairs" "Outline.move_pairs" (icl 58 1) := by
  obtain ⟨fd, F⟩ := c.df 46 rfl
  exact ⟨_, fd, F, He.meth_ok (c.fact 100 rfl)⟩
theorem k_O_number_of : MetT K (He.ga K "Outline") "number_of" "Outline.number_of" (icl 58 3) := by
  obtain ⟨fd, F⟩ := c.df 47 rfl
  exact ⟨_, fd, F, He.meth_ok (c.fact 101 rfl)⟩
theorem k_O_windings : MetT K (He.ga K "Outline") "windings" "Outline.windings" (icl 58 5) := by
  obtain ⟨fd, F⟩ := c.df 48 rfl
  exact ⟨_, fd, F, He.meth_ok (c.fact 102 rfl)⟩
theorem k_O_turned_round : MetT K (He.ga K "Outline") "turned_round" "Outline.turned_round" (icl 58 9) := by
  obtain ⟨fd, F⟩ := c.df 49 rfl
  exact ⟨_, fd, F, He.meth_ok (c.fact 103 rfl)⟩
theorem k_O_corners : MetT K (He.ga K "Outline") "corners" "Outline.corners" (icl 58 12) := by
  obtain ⟨fd, F⟩ := c.df 50 rfl
  exact ⟨_, fd, F, He.meth_ok (c.fact 104 rfl)⟩
theorem k_O_around : MetT K (He.ga K "Outline") "around" "Outline.around" (icl 58 13) := by
  obtain ⟨fd, F⟩ := c.df 51 rfl
  exact ⟨_, fd, F, He.meth_ok (c.fact 105 rfl)⟩
theorem k_M_place : PrpT K (He.ga K "Movement") "place" "Movement.place" (icl 39 3) := by
  obtain ⟨fd, F⟩ := c.df 52 rfl
  exact ⟨_, _, fd, F, prpB_ok (c.fact 109 rfl)⟩
theorem k_M_turn : PrpT K (He.ga K "Movement") "turn" "Movement.turn" (icl 39 4) := by
  obtain ⟨fd, F⟩ := c.df 53 rfl
  exact ⟨_, _, fd, F, prpB_ok (c.fact 110 rfl)⟩
theorem k_M_order : PrpT K (He.ga K "Movement") "order" "Movement.order" (icl 39 5) := by
  obtain ⟨fd, F⟩ := c.df 54 rfl
  exact ⟨_, _, fd, F, prpB_ok (c.fact 111 rfl)⟩
theorem k_W_net : PrpT K (He.ga K "Walk") "net" "Walk.net" (icl 45 2) := by
  obtain ⟨fd, F⟩ := c.df 55 rfl
  exact ⟨_, _, fd, F, prpB_ok (c.fact 112 rfl)⟩
theorem k_W_commands : PrpT K (He.ga K "Walk") "commands" "Walk.commands" (icl 45 3) := by
  obtain ⟨fd, F⟩ := c.df 56 rfl
  exact ⟨_, _, fd, F, prpB_ok (c.fact 113 rfl)⟩
theorem k_W_movement : PrpT K (He.ga K "Walk") "movement" "Walk.movement" (icl 45 4) := by
  obtain ⟨fd, F⟩ := c.df 57 rfl
  exact ⟨_, _, fd, F, prpB_ok (c.fact 114 rfl)⟩
theorem k_L_walk : PrpT K (He.ga K "Loop") "walk" "Loop.walk" (icl 49 1) := by
  obtain ⟨fd, F⟩ := c.df 58 rfl
  exact ⟨_, _, fd, F, prpB_ok (c.fact 115 rfl)⟩
theorem k_L_period : PrpT K (He.ga K "Loop") "period" "Loop.period" (icl 49 3) := by
  obtain ⟨fd, F⟩ := c.df 59 rfl
  exact ⟨_, _, fd, F, prpB_ok (c.fact 116 rfl)⟩
theorem k_O_area : PrpT K (He.ga K "Outline") "area" "Outline.area" (icl 58 7) := by
  obtain ⟨fd, F⟩ := c.df 60 rfl
  exact ⟨_, _, fd, F, prpB_ok (c.fact 117 rfl)⟩
theorem k_O_turning : PrpT K (He.ga K "Outline") "turning" "Outline.turning" (icl 58 8) := by
  obtain ⟨fd, F⟩ := c.df 61 rfl
  exact ⟨_, _, fd, F, prpB_ok (c.fact 118 rfl)⟩
theorem k_O_is_simple : PrpT K (He.ga K "Outline") "is_simple" "Outline.is_simple" (icl 58 10) := by
  obtain ⟨fd, F⟩ := c.df 62 rfl
  exact ⟨_, _, fd, F, prpB_ok (c.fact 119 rfl)⟩
theorem k_O_inner : PrpT K (He.ga K "Outline") "inner" "Outline.inner" (icl 58 11) := by
  obtain ⟨fd, F⟩ := c.df 63 rfl
  exact ⟨_, _, fd, F, prpB_ok (c.fact 120 rfl)⟩
end
theorem all_ok (X : K.In h) (G : h.Ns mainGlobals mg) (c : SaysA w K) : ∃ (f : Addr) (fd : FuncData), FunT K "law" "law" (top 81) f fd ∧ mg "law" = some (.ref f) ∧ ∀ (P : Program) (base : Heap), FnOk P w K mg base CX0 14 f fd ["_law_script"] (spLaw K) := by
  obtain ⟨f, fd, FL, hL⟩ := (d_81 X G c).ex
  refine ⟨f, fd, FL, hL, fun P base => ?_⟩
  have B := g_B X G c
  have N := g_N X G c
  have D := g_D X G c
  have M := g_M X G c
  have W := g_W X G c
  have L := g_L X G c
  have O := g_O X G c
  have ii : Cal P w K mg base 1 "is_integer" spInt := c_isint B (d_18 X G c)
  have ip := c_isplace B (d_19 X G c) ii
  have inn : Cal P w K mg base 1 "is_net" spNet := c_isnet B N (d_20 X G c)
  have on := c_oknet (d_21 X G c) inn
  have op := c_okplace (d_22 X G c) ip
  have oi := c_okint (d_23 X G c) ii
  have hc : Cal P w K mg base 1 "heading_count" spCount := c_count B N (d_25 X G c)
  have so : Cal P w K mg base 1 "step_of" (spStep K) := c_step N (d_26 X G c)
  have ad : Cal P w K mg base 1 "added" (spAdded K) := c_added (d_27 X G c)
  have sc : Cal P w K mg base 1 "scaled" (spScaled K) := c_scaled (d_28 X G c)
  have tu : Cal P w K mg base 1 "turned" (spTurned K) := c_turned B (d_29 X G c)
  have mi := m_init M (k_M_init X G c) on op oi hc
  have mp : Prp P w K mg base 1 (He.ga K "Movement") "place" (spMPlace _) := m_place M (k_M_place X G c)
  have mt : Prp P w K mg base 1 (He.ga K "Movement") "turn" (spMTurn _) := m_turn M (k_M_turn X G c)
  have mo := m_order M (k_M_order X G c) hc
  have mc := m_call M (k_M_call X G c) op ad tu
  have ma := m_add B M (k_M_add X G c) ad tu mi
  have am := c_moves B D (d_44 X G c) so ad sc hc
  have wi := w_init B W D (k_W_init X G c) on am
  have wn : Prp P w K mg base 1 (He.ga K "Walk") "net" (spWNet _) := w_net W (k_W_net X G c)
  have wc : Prp P w K mg base 1 (He.ga K "Walk") "commands" (spWCom _) := w_com W (k_W_commands X G c)
  have wl : Met P w K mg base 1 (He.ga K "Walk") "__len__" (spWLen _) := w_len B W (k_W_len X G c)
  have wm := w_mov B W D (k_W_movement X G c) mi
  have wv := w_inv B W D (k_W_invert X G c) wi
  have wr := w_mir B W D (k_W_mirror X G c) wi
  have wg : GMet P w K mg base 1 (He.ga K "Walk") "moves" (spGMoves _) := w_moves W (k_W_moves X G c)
  have cm := c_moving B W (d_46 X G c) wl
  have li := l_init B M W L (k_L_init X G c) cm wg wm mo mp mc mt hc wn ma (c.fact 107 rfl)
  have lw : Prp P w K mg base 1 (He.ga K "Loop") "walk" (spLWalk _ (He.ga K "Walk")) := l_walk L (k_L_walk X G c)
  have lp : Prp P w K mg base 1 (He.ga K "Loop") "period" (spLPer _ (He.ga K "Walk")) := l_per L (k_L_period X G c)
  have ls : Met P w K mg base 1 (He.ga K "Loop") "stored" (spLStored _ (He.ga K "Walk")) := l_stored B L (k_L_stored X G c)
  have il : Cal P w K mg base 1 "check_loop" (spIsLoop (He.ga K "Loop") (He.ga K "Walk")) := c_isloop B L (d_51 X G c)
  have df : Cal P w K mg base 1 "difference" (spDiff K) := c_diff (d_52 X G c)
  have ps : Cal P w K mg base 1 "position" (spPosn K) := c_posn B (d_55 X G c)
  have ca : Cal P w K mg base 1 "cell_at" spCellAt := c_cellat (d_56 X G c)
  have cr : Cal P w K mg base 1 "crossing" (spCros K) := c_cros (d_57 X G c)
  have o1 : Met P w K mg base 1 (He.ga K "Outline") "move_pairs" (spPairs _) := o_pairs B O (k_O_move_pairs X G c)
  have o2 := o_num B O (k_O_number_of X G c) ps
  have o3 := o_wnd B O (k_O_windings X G c) ca
  have o4 := o_cor B O (k_O_corners X G c) o3
  have o5 := o_trn B N O (k_O_turned_round X G c) hc o1 df
  have oinit := o_init B O L (k_O_init X G c) il lp lw wn ls o1 cr o3 o5 o4
  have o6 : Prp P w K mg base 1 (He.ga K "Outline") "area" (spOInt _ oarea) := o_area O (k_O_area X G c)
  have o7 : Prp P w K mg base 1 (He.ga K "Outline") "turning" (spOInt _ trn) := o_turning O (k_O_turning X G c)
  have o8 : Prp P w K mg base 1 (He.ga K "Outline") "inner" (spOInt _ oinner) := o_inner O (k_O_inner X G c)
  have o9 := o_around O (k_O_around X G c) op o2
  have o10 : Prp P w K mg base 1 (He.ga K "Outline") "is_simple" (spOSimple _) := o_simple B O (k_O_is_simple X G c)
  have s1 : Cal P w K mg base 1 "_law_source" (spSrc K) := c_src B (d_60 X G c)
  have s2 : Cal P w K mg base 1 "_law_draw" spDraw := c_draw (d_61 X G c)
  have s3 : Cal P w K mg base 1 "_law_steps" spSteps := c_steps (d_62 X G c)
  have s4 := c_signs B (d_65 X G c) s2
  have s5 := c_movingS (d_68 X G c) s4
  have s6 := c_closed B (d_69 X G c) s5 wi li lp s2
  have s7 := c_walked B (d_66 X G c) s3
  have s8 := c_looped B (d_67 X G c) s7
  have s9 := c_ring B (d_70 X G c) s8 wi li lp wl
  have s10 : Cal P w K mg base 1 "_law_pairs" spPrv := c_prv B (d_71 X G c)
  have s11 := c_ltrn B (d_76 X G c) s3 s10
  have s12 : Cal P w K mg base 1 "_law_corners" (spLCor K) := c_lcor (d_75 X G c)
  have s13 := c_cmds B (d_79 X G c) s3
  have s14 := c_grown B (d_80 X G c) s3 s2 s13
  have s15 := c_simR B (d_77 X G c) s3 o7 o6 o8
  have s16 := c_right B O (d_78 X G c) s9 wi li oinit o3 o10 o7 s11 s15 s12 o9 o8
  exact law_ok plain_law B FL s1 s14 wi li oinit o10 s16 wc s6 wr wv

end
end K53
open PySem PySem.W PySem.Calls PyProof.Rows
set_option maxHeartbeats 0 in
theorem PySem.Challenge.cw_loopwalks_k53_whole_simple_outlines_holds : PySem.Challenge.rw_loopwalks_k53_whole_simple_outlines.Holds := by
  w_on; o_law
  refine HandSHeadRun.head_any (r := K53.RR) (q := view K53.RR.prog [81]) (H := K53.hookP K53.seenN K53.fcs K53.dfs K53.tbs) (ob := K53.obP K53.seenN K53.fcs K53.dfs K53.tbs) (M := 20000) (loose := K53.loosN) (d := HandSHeadRun.topDef K53.RR.prog 81) (kwd := []) (K53.obP_eq _ _ _ _)
    (by kernel_rfl) (fun s => by kernel_rfl) K53.run (by kernel_rfl) (by kernel_rfl) (by kernel_rfl) (by rfl) (by first | assumption | decide +kernel) (by decide +kernel) ⟨rfl, rfl, rfl, rfl, rfl, by decide +kernel⟩ ?hw ?hc
  case hw => w_witness2
  case hc =>
    refine L2.walk_ofE (l := PySem.Challenge.rw_loopwalks_k53_whole_simple_outlines) (n := 63) (k := 14) (x := "_law_script") (CX := L2.CX0) rfl (by decide) (by kernel_rfl) ⟨rfl, by decide, by decide⟩ ?F (fun _ _ _ _ z => z)
    intro w mg fa h Y G hmg0
    obtain ⟨K, KX, c⟩ := Y
    have hmg : mg ("law" : PySem.Str) = some (.ref fa) := by
      have e : (HandSHeadRun.topDef K53.RR.prog 81).name = ("law" : PySem.Str) := by kernel_rfl
      rw [← e]
      exact hmg0
    obtain ⟨f, fd, FL, hL, ok⟩ := K53.all_ok KX G c
    have e := hL.symm.trans hmg
    cases e
    have hb := L2.FunD.bindsA (ps := ["_law_script"]) FL fun _ _ _ _ _ _ us hl => match us, hl with | [_], _ => rfl
    exact ⟨K, fd, K53.spLaw K, KX, fun s u => hb s [u] rfl, fun H a ns _ _ hS => ⟨a, ns, rfl, hS, fun _ _ => rfl⟩, fun base _ _ => ok _ base⟩
