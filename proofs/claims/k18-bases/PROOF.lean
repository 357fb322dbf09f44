import PyProof.Rows.All
import Wide.All
import OpenK.AllK
import Wide.FinOn
import KE.KStateDown
import Lean
import HandS.ForSpec
import HandS.Defaults
import HandS.Head0
import HandS.Head1
import HandS.Head2
import HandS.Head3
import HandS.HeadEnd
import HandS.HeadHook1
import HandS.HeadHook2
import KE.KExcSuper
import HandS.ExcInit
import KE.KExcIs
import HandS.IsInst
import HandS.HeadNt
import HandS.ForMost
import HandS.Exc
import HandS.TryOnly
import HandS.TryMany
import HandS.ExcOwn
import HandS.WordsExc
import HandS.Flow
import HandS.Style
import HandS.Zip
import HandS.Wide
import HandS.RaiseOp
import HandS.Deep
import HandS.Walk
import HandS.Conv
import HandS.TupAny
import HandS.ClsMeth
import HandS.OwnEq
import HandS.Gcd
import HandS.Text
import HandS.MakeKw
import KE.GoesZip
import KE.GoesMore
import PySem.Challenge.RW_leastfetched_k18_bases_by_own_determinan
set_option Elab.async false
set_option linter.all false
set_option maxRecDepth 100000

section
set_option Elab.async false
set_option linter.all false
set_option maxRecDepth 100000
set_option maxHeartbeats 4000000
/-! Own exception classes whose __init__ is: super().__init__('text'), then self.f = f or self.f = 'text', one by one. -/
namespace FK
open PySem PySem.W PySem.Calls PyProof.Rows

/-- a family: the built-in class above -/
structure Fam (B newId initId : String) (bmB : List Value) : Prop where
  base : ExcBaseFacts B newId initId bmB
  kxs : KxsFacts B initId
  st : StoreFacts B bmB "object.__setattr__" "object"
abbrev bmV : List Value := [.type "ValueError", .type "Exception", .type "BaseException", .type "object"]
abbrev bmL : List Value := [.type "LookupError", .type "Exception", .type "BaseException", .type "object"]
abbrev bmR : List Value := [.type "RuntimeError", .type "Exception", .type "BaseException", .type "object"]
theorem famV : Fam "ValueError" "ValueError.__new__" "ValueError.__init__" bmV := ⟨F.excBase_ValueError, kxs_ValueError, F.store_ValueError⟩
theorem famL : Fam "LookupError" "LookupError.__new__" "LookupError.__init__" bmL := ⟨F.excBase_LookupError, kxs_LookupError, F.store_LookupError⟩
theorem famR : Fam "RuntimeError" "RuntimeError.__new__" "RuntimeError.__init__" bmR := ⟨F.excBase_RuntimeError, kxs_RuntimeError, F.store_RuntimeError⟩

/-- a field's value: the i-th parameter, or a text -/
inductive Src where
  | par (x : Str)
  | txt (x : Str)
  deriving DecidableEq
/-- self.f = x | self.f = 'text' -/
def fieldOf : Stmt → Option (Str × Src)
  | .Assign [.Attribute (.Name s _) f _] (.Name x _) _ => if s = "self" then some (f, .par x) else none
  | .Assign [.Attribute (.Name s _) f _] (.Constant (.str x) _ _) _ => if s = "self" then some (f, .txt x) else none
  | _ => none
/-- the statements' fields, all or none -/
def fieldsOf : List Stmt → Option (List (Str × Src))
  | [] => some []
  | st :: r => match fieldOf st, fieldsOf r with
    | some a, some l => some (a :: l)
    | _, _ => none
theorem fieldOf_cases {st : Stmt} {f : Str} {sr : Src} (h : fieldOf st = some (f, sr)) :
    (∃ x p1 p2 p3 p4, st = .Assign [.Attribute (.Name "self" p1) f p2] (.Name x p3) p4 ∧ sr = .par x) ∨
    (∃ x p1 p2 k p3 p4, st = .Assign [.Attribute (.Name "self" p1) f p2] (.Constant (.str x) k p3) p4 ∧ sr = .txt x) := by
  unfold fieldOf at h
  split at h
  · split at h
    · rename_i e
      subst e
      cases h
      exact .inl ⟨_, _, _, _, _, rfl, rfl⟩
    · cases h
  · split at h
    · rename_i e
      subst e
      cases h
      exact .inr ⟨_, _, _, _, _, _, rfl, rfl⟩
    · cases h
  · cases h

/-- what the written part says of the class at C -/
structure Cl (K : Frag) (C : Addr) (B newId : String) (bmB : List Value) : Prop where
  ini : excInitIn K C bmB newId = true
  over : excOver K C bmB = true
  sa : findIn K (.ref C) "__setattr__" = some (some (.builtin "object.__setattr__"))
  dict : hasDictIn K C = true
  subB : subIn K (.ref C) (.type B) = some true
  sup : ks_superIn K C C "__init__" = some (some (.builtin (B ++ ".__init__")))

section
variable {prog : Program} {w : World} {A : Around} {E : Value → Shared → Prop} {R : Result → Shared → Prop} {K : Frag} {C x : Addr} {B newId initId : String} {bmB : List Value} {g : Array GenState} {d : Drawn} {t : Nat} {os : OsState} {hp : Heap}

/-- an exception's record at x, its dict d -/
abbrev xo (C t0 : Addr) (d : Option Addr) : Obj := { cls := .ref C, dict := d, data := .fields #[.ref t0, .none, .none, .none, .bool false, .none] }

theorem taker_of {f : Str} (h : findIn K (.ref C) f = some none) : takerIn K C f = some none := L2.NoAttr.taker h

theorem set_first {t0 : Addr} {f : Str} {v : Value} {Q : Unit → Shared → Prop} (FM : Fam B newId initId bmB) (T : Cl K C B newId bmB) (X : K.In hp) (hx : hp.get? x = some (xo C t0 none)) (hno : findIn K (.ref C) f = some none)
    (hq : ∀ h' tk' dx, (∀ b o, b ≠ x → hp.get? b = some o → h'.get? b = some o) → hp.objs.size ≤ dx → dx ≠ x → h'.get? x = some (xo C t0 (some dx)) →
      h'.Ns1 dx (fun y => if y = f then some v else none) → Q () ⟨h', g, d, tk', os⟩) :
    wpAny (model prog w) A (setAttr (.ref x) f v) Q E ⟨hp, g, d, t, os⟩ := by
  have I : InstAt hp x (xo C t0 none) C none := ⟨hx, rfl, rfl, trivial⟩
  obtain ⟨cd, hc, hd⟩ := any_some T.dict
  have hxs : x ≠ hp.objs.size := Nat.ne_of_lt (Heap.lt_size hx)
  refine set_plain X I T.sa (osa_openX (od := none) FM.st X I T.over (taker_of hno) fun b => ?_)
  have hcls : Looks (model prog w) hp (classData C) cd := looks_clsIn X hc
  refine wpAny_bind (wpAny_pure (wpAny_bind (instanceDict_exc hx hcls hd ?_)))
  show wpAny _ _ (Builtin.ObjectAttr.storeInDict hp.objs.size (.str f t) f v) _ _ _
  refine PySem.HandSPX.store_in_new ⟨_, #[], _, (Heap.get?_update_ne _ _ _ _ hxs.symm).trans (Heap.get?_push_at rfl rfl), rfl, fun e he => absurd he (by simp), fun _ => rfl⟩ fun h' tk' hn' hs => ?_
  have hx1 : (hp.push { cls := .type "dict", data := .dict #[] }).get? x = some (xo C t0 none) := Heap.get?_push_of_some _ hx
  exact hq h' tk' hp.objs.size (fun b o hb ho => (hs.2 b (Nat.ne_of_lt (Heap.lt_size ho))).trans ((Heap.get?_update_ne _ _ _ _ hb).trans (Heap.get?_push_of_some _ ho))) (Nat.le_refl _) hxs.symm
    ((hs.2 x hxs).trans (Heap.get?_update_self _ hx1 rfl)) hn'
theorem set_next {t0 dx : Addr} {f : Str} {v : Value} {m0 : Str → Option Value} {nl : List Str} {Q : Unit → Shared → Prop} (FM : Fam B newId initId bmB) (T : Cl K C B newId bmB) (X : K.In hp) (hx : hp.get? x = some (xo C t0 (some dx))) (hns : hp.Ns1 dx m0) (hw : Within m0 nl) (hz : nl.length ≤ 900)
    (hno : findIn K (.ref C) f = some none)
    (hq : ∀ h' tk', (∀ b o, b ≠ dx → hp.get? b = some o → h'.get? b = some o) → h'.Ns1 dx (fun y => if y = f then some v else m0 y) → Q () ⟨h', g, d, tk', os⟩) :
    wpAny (model prog w) A (setAttr (.ref x) f v) Q E ⟨hp, g, d, t, os⟩ := by
  obtain ⟨oD, esD, epD, hoD, hdD, _⟩ := hns.count hw
  have I : InstAt hp x (xo C t0 (some dx)) C (some oD) := ⟨hx, rfl, rfl, hoD⟩
  obtain ⟨cd, hc, hd⟩ := any_some T.dict
  refine set_plain X I T.sa (osa_openX FM.st X I T.over (taker_of hno) fun b => ?_)
  have hcls : Looks (model prog w) hp (classData C) cd := looks_clsIn X hc
  refine wpAny_bind (wpAny_pure (wpAny_bind (wpAny_bind (wpAny_loadPart hx (wpAny_bind (hcls.here ?_))))))
  rw [hd]
  refine wpAny_pure (a := some dx) ?_
  refine PySem.OEX.store_in_old hns hw (by omega) fun h' tk' hn' hs => ?_
  exact hq h' tk' (fun b o hb ho => (hs.2 b hb).trans ho) hn'

/-! ### the stores, one behind the other -/
/-- the fields behind the statements, the last one first -/
def put (ev : Str → Option L2.V) : List (Str × Src) → List (Str × L2.V) → List (Str × L2.V)
  | [], fs => fs
  | (f, .par y) :: r, fs => put ev r ((f, (ev y).getD .non) :: fs)
  | (f, .txt c) :: r, fs => put ev r ((f, .str c) :: fs)
/-- while __init__ runs: hb the heap at its call, x the exception, d its dict so far -/
structure Cur (hb hp : Heap) (L x C : Addr) (ml : Str → Option Value) (d : Option Addr) (fs : List (Str × L2.V)) : Prop where
  keep : ∀ b o, b ≠ x → hb.get? b = some o → hp.get? b = some o
  ns : hp.Ns L ml
  obj : ∃ t0, hp.get? x = some (xo C t0 d)
  dic : match d with
    | none => fs = [] ∧ hb.objs.size ≤ hp.objs.size
    | some dx => hb.objs.size ≤ dx ∧ dx ≠ x ∧ dx ≠ L ∧ ∃ mA, hp.Ns1 dx mA ∧ ∀ f, L2.RelO (fs.lookup f) (mA f)
theorem in_but {hb hp : Heap} {x : Addr} (X : K.In hb) (hx : K.lookup x = none) (k : ∀ b o, b ≠ x → hb.get? b = some o → hp.get? b = some o) : K.In hp := fun a o e =>
  k a o (fun z => by rw [z, hx] at e; cases e) (X a o e)
theorem ns_at {h h' : Heap} {a : Addr} {m : Str → Option Value} (n : h.Ns a m) (k : ∀ o, h.get? a = some o → h'.get? a = some o) : h'.Ns a m := by
  obtain ⟨o, es, ep, e, r⟩ := n
  exact ⟨o, es, ep, k o e, r⟩
theorem ns_ne {h : Heap} {a x : Addr} {m : Str → Option Value} {C t0 : Addr} {d : Option Addr} (n : h.Ns a m) (hx : h.get? x = some (xo C t0 d)) : a ≠ x := fun z => by
  obtain ⟨o, es, ep, e, e2, r⟩ := n
  rw [z, hx] at e
  have z2 := Option.some.inj e
  subst z2
  cases e2
/-- one store -/
theorem cur_store {hb : Heap} {L : Addr} {ml : Str → Option Value} {dd : Option Addr} {fs : List (Str × L2.V)} {f : Str} {y : L2.V} {u : Value} {Q : Unit → Shared → Prop} (FM : Fam B newId initId bmB) (T : Cl K C B newId bmB)
    (X : K.In hb) (hnx : K.lookup x = none) (c : Cur hb hp L x C ml dd fs) (hz : fs.length ≤ 800) (hno : findIn K (.ref C) f = some none) (ry : L2.RelV y u)
    (hq : ∀ h' tk' dx, Cur hb h' L x C ml (some dx) ((f, y) :: fs) → Q () ⟨h', g, d, tk', os⟩) : wpAny (model prog w) A (setAttr (.ref x) f u) Q E ⟨hp, g, d, t, os⟩ := by
  obtain ⟨t0, hx⟩ := c.obj
  have X1 : K.In hp := in_but X hnx c.keep
  have nL := ns_ne c.ns hx
  have lL : L < hp.objs.size := c.ns.lt
  cases dd with
  | none =>
    obtain ⟨rfl, sz⟩ := c.dic
    refine set_first FM T X1 hx hno fun h' tk' dx k hd ne hx' hn' => hq h' tk' dx ⟨fun b o hb2 e => k b o hb2 (c.keep b o hb2 e), ns_at c.ns fun o e => k L o nL e, ⟨t0, hx'⟩, Nat.le_trans sz hd, ne, Nat.ne_of_gt (Nat.lt_of_lt_of_le lL hd), _, hn', ?_⟩
    exact L2.relO_put (fs := []) (mA := fun _ => none) ry fun g => True.intro
  | some dx =>
    obtain ⟨hd, ne, neL, mA, hn, rel⟩ := c.dic
    have hw := L2.within_of rel
    refine set_next FM T X1 hx hn hw (by rw [List.length_map]; omega) hno fun h' tk' k hn' => hq h' tk' dx ⟨fun b o hb2 e => ?_, ns_at c.ns fun o e => k L o (Ne.symm neL) e, ⟨t0, k x _ (Ne.symm ne) hx⟩, hd, ne, neL, _, hn', L2.relO_put ry rel⟩
    exact k b o (Nat.ne_of_lt (Nat.lt_of_lt_of_le (Heap.lt_size e) hd)) (c.keep b o hb2 e)
theorem run_fields {hb : Heap} {L : Addr} {ml : Str → Option Value} {ev : Str → Option L2.V} {env : Env} {Q : Flow → Shared → Prop} (FM : Fam B newId initId bmB) (T : Cl K C B newId bmB) (X : K.In hb) (hnx : K.lookup x = none)
    (hk : env.scope.kind = .function) (hL : env.locals = L) (hself : env.kindOf "self" = some .local) (hsv : ml "self" = some (.ref x)) :
    ∀ (l : List Stmt) (fl : List (Str × Src)), fieldsOf l = some fl → (∀ p ∈ fl, findIn K (.ref C) p.1 = some none) →
      (∀ p ∈ fl, ∀ y, p.2 = .par y → env.kindOf y = some .local ∧ (y == ("__debug__" : Str)) = false ∧ ∃ u v, ml y = some u ∧ ev y = some v ∧ L2.RelV v u) →
      ∀ (hp : Heap) (tk : Nat) (dd : Option Addr) (fs : List (Str × L2.V)), Cur hb hp L x C ml dd fs → fs.length + fl.length ≤ 800 →
      (∀ h' tk' d', Cur hb h' L x C ml d' (put ev fl fs) → Q .next ⟨h', g, d, tk', os⟩) → wpAny (model prog w) A (execs l env) Q E ⟨hp, g, d, tk, os⟩ := by
  intro l
  induction l with
  | nil =>
    intro fl e _ _ hp tk dd fs c _ hq
    cases e
    exact wpAny_execs_nil (hq hp tk dd c)
  | cons st r ih =>
    intro fl e hno hpar hp tk dd fs c hz hq
    unfold fieldsOf at e
    cases e1 : fieldOf st with
    | none => rw [e1] at e; cases e
    | some a =>
      cases e2 : fieldsOf r with
      | none => rw [e1, e2] at e; cases e
      | some lr =>
        rw [e1, e2] at e
        cases e
        obtain ⟨f, sr⟩ := a
        have hz1 : fs.length ≤ 800 := by omega
        have hz2 : (fs.length + 1) + lr.length ≤ 800 := by
          have : fs.length + (lr.length + 1) ≤ 800 := by simpa using hz
          omega
        have no1 := hno (f, sr) List.mem_cons_self
        have hno2 : ∀ p ∈ lr, findIn K (.ref C) p.1 = some none := fun p hp => hno p (List.mem_cons_of_mem _ hp)
        have hpar2 := fun p hp => hpar p (List.mem_cons_of_mem _ hp)
        rcases fieldOf_cases e1 with ⟨y, p1, p2, p3, p4, rfl, rfl⟩ | ⟨y, p1, p2, k, p3, p4, rfl, rfl⟩
        · obtain ⟨ky, dy, u, v, hu, hv, ruv⟩ := hpar (f, .par y) List.mem_cons_self y rfl
          refine wpAny_execs_cons (plainObj_wpAny_Assign_Attribute ?_)
          refine wpAny_Name (wpAny_loadName_local hk ky (hL ▸ c.ns) hu ?_) dy
          refine wpAny_Name (wpAny_loadName_local hk hself (hL ▸ c.ns) hsv ?_) (by decide)
          refine cur_store FM T X hnx c hz1 no1 ruv fun h' tk' dx c' => ?_
          refine ih lr e2 hno2 hpar2 h' tk' (some dx) _ c' hz2 fun h2 tk2 d2 c2 => ?_
          refine hq h2 tk2 d2 ?_
          show Cur hb h2 L x C ml d2 (put ev lr ((f, (ev y).getD .non) :: fs))
          rw [hv]
          exact c2
        · refine wpAny_execs_cons (plainObj_wpAny_Assign_Attribute ?_)
          refine Calls.Constant_str ?_
          refine wpAny_Name (wpAny_loadName_local hk hself (hL ▸ c.ns) hsv ?_) (by decide)
          refine cur_store (y := .str y) FM T X hnx c hz1 no1 ⟨_, rfl⟩ fun h' tk' dx c' => ?_
          exact ih lr e2 hno2 hpar2 h' tk' (some dx) _ c' hz2 fun h2 tk2 d2 c2 => hq h2 tk2 d2 c2

/-! ### super().__init__('text') -/
/-- super().__init__('text') -/
def superOf : Stmt → Bool
  | .Expr (.Call (.Attribute (.Call (.Name s _) [] [] _) f p) [.Constant (.str _) _ _] [] q) _ => (s = "super" && f = "__init__") && (p.endLine == q.line)
  | _ => false
theorem superOf_cases {st : Stmt} (h : superOf st = true) : ∃ p1 p2 p3 x k p4 p5 p6, st = .Expr (.Call (.Attribute (.Call (.Name "super" p1) [] [] p2) "__init__" p3) [.Constant (.str x) k p4] [] p5) p6 ∧ (p3.endLine == p5.line) = true := by
  unfold superOf at h
  split at h
  · rw [Bool.and_eq_true, Bool.and_eq_true] at h
    obtain ⟨⟨h1, h2⟩, h3⟩ := h
    have e1 := of_decide_eq_true h1
    have e2 := of_decide_eq_true h2
    subst e1 e2
    exact ⟨_, _, _, _, _, _, _, _, rfl, h3⟩
  · cases h

theorem super_call {o : Expr} {name tx : Str} {kk p4} {apos pos : Pos} {env : Env} (h : (apos.endLine == pos.line) = true) : eval (.Call (.Attribute o name apos) [.Constant (.str tx) kk p4] [] pos) env = (do
      let ov ← attributeBase o name env (eval o env)
      standAt apos.atName
      let (f, first) ← holding [ov] (getMethod ov name (do return (← importBound o env).getD true))
      callWith pos f first (backTo pos (starEach [.Constant (.str tx) kk p4] env)) []) := by
  rw [arm_eval_Call]
  have hf : methodCallForm ([Expr.Constant (.str tx) kk p4].length + ([] : List Keyword).length) (backTo pos (starEach [.Constant (.str tx) kk p4] env)) (backToKw pos (keywordEach [] env)) = true := by rfl
  unfold methodCall methodCallPos calleeOf
  rw [hf, h]
  rfl

theorem callWith_mw {M : Model} {s : Shared} {pos : Pos} {u : Addr} {i : String} {first : List Value} {args : List (Bool × Sem Value)} {Q : Value → Shared → Prop} (hplain : args.any (·.1) = false)
    (h : wpAny M A (evalArgs (.ref u) true args []) (fun ar s₁ => KxsAt i u x s₁.heap ∧ wpAny M A (call (.ref u) (first ++ ar.pos) ar.kw) Q E s₁) E s) : wpAny M A (callWith pos (.ref u) first args []) Q E s := kxs_callWith hplain h

/-- the wrapper called: the args are laid anew -/
theorem call_mw {u t0 : Addr} {rest : List Value} {Q : Value → Shared → Prop} (FM : Fam B newId initId bmB) (T : Cl K C B newId bmB) (X : K.In hp) (hx : hp.get? x = some (xo C t0 none)) (hu : hp.get? u = some (kxs_mw initId x)) (hz : rest.length ≤ sizeLine)
    (hq : ∀ h' t1, (∀ b o, b ≠ x → hp.get? b = some o → h'.get? b = some o) → h'.get? x = some (xo C t1 none) → hp.objs.size ≤ h'.objs.size → Q .none ⟨h', g, d, t, os⟩) :
    wpAny (model prog w) A (call (.ref u) rest) Q E ⟨hp, g, d, t, os⟩ := by
  obtain ⟨nm, N', qn, bs, bm, hdct, sn, sub, ab, col, dd, k0, k1, k2, k3, k5, hC, hT⟩ := excInit_of X T.ini
  refine wpAny_call (codeAny_of_tree ?_)
  show wpAny _ A.in1 (callAny (.ref u) ⟨rest, []⟩) _ _ _
  simp only [callAny]
  refine wpAny_bind (wpAny_load hu ?_)
  simp only [kxs_mw, show (Value.type "method-wrapper" == Value.type "method" || Value.type "method-wrapper" == Value.type "builtin_function_or_method" || Value.type "method-wrapper" == Value.type "method-wrapper") = true by decide, if_true]
  refine KFB.if_so (by decide) ?_
  refine wpAny_bind (check_bound_init FM.base.toExcCallFacts hC hx rfl ?_)
  refine wpAny_bind (wpAny_pure (wpAny_pure ?_))
  refine ⟨plainId_quiet FM.base.init.plain _, codeAny_builtin FM.base.initEntry ?_⟩
  refine exc_init_tree (cls := .ref C) (t0 := t0) (dv := none) (c2 := .none) (c3 := .none) (b4 := .bool false) hx hz fun h' k e1 e2 => ?_
  exact hq h' hp.objs.size k e1 (Nat.le_of_lt (Heap.lt_size e2))
end

/-- the function object of __init__ -/
structure IniFn (prog : Program) (K : Frag) (C f : Addr) (qual : Str) (st : Stmt) : Prop where
  ex : ∃ (oc : Value) (od : Option Addr) (doc pm ct : Value) (an : Option Addr) (osl : Array (Option Value)) (cda cc : Addr),
    K.lookup f = some ⟨oc, od, .func (ksFn "__init__" qual (L2.defArgs st) (L2.defBody st) (L2.defScope st) .none .none doc pm an (.ref cda) ct cc), osl⟩ ∧ codeIn K (.ref cda) qual = true ∧
    (∃ ccl cdd vs ccs file tf, K.lookup cda = some ⟨ccl, cdd, .fields vs, ccs⟩ ∧ vs[2]? = some (.str file tf) ∧ ((prog.main.file : Str) == file) = true) ∧
    (∃ cl cld csl, K.lookup cc = some ⟨cl, cld, .cell (some (.ref C)), csl⟩)
/-- what is read off the text of __init__: ps its parameters behind self -/
structure IniTx (prog : Program) (st : Stmt) (ps : List Str) (fl : List (Str × Src)) : Prop where
  head : ((L2.defArgs st).posonlyargs ++ (L2.defArgs st).args).head?.map (·.arg) = some "self"
  body : ∃ s1 r, L2.defBody st = s1 :: r ∧ superOf s1 = true ∧ fieldsOf r = some fl
  sup : (L2.defScope st).names.lookup ("super" : Str) = some .globalImplicit
  cls : (L2.defScope st).names.lookup ("__class__" : Str) = some .free
  loc : ∀ y ∈ ("self" : Str) :: ps, (L2.defScope st).names.lookup y = some .local ∧ (y == ("__debug__" : Str)) = false
  nd : (("self" : Str) :: ps).Nodup
  cells : ∀ y ∈ (L2.defScope st).names, y.2 ≠ .cell
  co : (L2.defScope st).isCoroutine = false
  gen : (L2.defScope st).isGenerator = false
  kind : (L2.defScope st).kind = .function
  pars : ∀ p ∈ fl, ∀ y, p.2 = .par y → y ∈ ps
  few : fl.length ≤ 100
  top : (prog.main.scope.names.lookup ("super" : Str)).isSome = false

section
variable {prog : Program} {w : World} {A : Around} {E : Value → Shared → Prop} {R : Result → Shared → Prop} {K : Frag} {C x fI : Addr} {B newId initId : String} {bmB : List Value} {s : Shared} {qual : Str} {st : Stmt} {ps : List Str} {fl : List (Str × Src)} {mg mb : Str → Option Value} {base : Heap}
theorem zip_fst : ∀ (ks : List Str) (us : List Value), ((ks.zip us).map (·.1)) <+: ks
  | [], us => by simp
  | k :: r, [] => by simp
  | k :: r, u :: us => by
    have := zip_fst r us
    simpa using this
theorem zip_look : ∀ {ks : List Str} {us : List Value} {i : Nat} {y : Str} {u : Value}, ks.Nodup → ks[i]? = some y → us[i]? = some u → (ks.zip us).reverse.lookup y = some u := by
  intro ks us i y u nd hy hu
  have h1 : ∀ (l : List (Str × Value)), (l.map (·.1)).Nodup → (y, u) ∈ l → l.lookup y = some u := by
    intro l
    induction l with
    | nil => intro _ h; cases h
    | cons a r ih =>
      intro n h
      obtain ⟨k, v⟩ := a
      rw [List.map_cons, List.nodup_cons] at n
      rcases List.mem_cons.mp h with h | h
      · cases h
        simp [List.lookup]
      · have ne : (y == k) = false := by
          simp only [beq_eq_false_iff_ne, ne_eq]
          exact fun z => n.1 (List.mem_map.mpr ⟨(y, u), h, z⟩)
        have e : List.lookup y ((k, v) :: r) = r.lookup y := by
          show (match y == k with | true => some v | false => r.lookup y) = r.lookup y
          rw [ne]
        rw [e]
        exact ih n.2 h
  refine h1 _ ?_ ?_
  · rw [List.map_reverse]
    refine (List.reverse_perm _).nodup_iff.mpr ?_
    have : ((ks.zip us).map (·.1)) <+: ks := by
      exact zip_fst ks us
    exact nd.sublist this.sublist
  · rw [List.mem_reverse]
    have : (ks.zip us)[i]? = some (y, u) := by
      rw [List.getElem?_zip_eq_some]
      exact ⟨hy, hu⟩
    exact List.mem_of_getElem? this
/-- what __init__ leaves of a fresh exception at x -/
structure End (h h' : Heap) (x C : Addr) (fs : List (Str × L2.V)) : Prop where
  keep : ∀ b o, b ≠ x → h.get? b = some o → h'.get? b = some o
  ex : ∃ t1 dx, h'.get? x = some (xo C t1 (some dx)) ∧ h.objs.size ≤ dx ∧ dx ≠ x ∧ ∃ mA, h'.Ns1 dx mA ∧ ∀ f, L2.RelO (fs.lookup f) (mA f)
theorem init_run (FM : Fam B newId initId bmB) (ei : initId = B ++ ".__init__") (T : Cl K C B newId bmB) (FI : IniFn prog K C fI qual st) (TX : IniTx prog st ps fl) (hne : fl ≠ [])
    (hsup : mg "super" = none) (hno : ∀ p ∈ fl, findIn K (.ref C) p.1 = some none) (hop : nsIn K cStatics "thirdparty.any" = some none)
    {t0 : Addr} {args : Args} {us : List Value} {vs : List L2.V} (hb : ∀ fd, K.lookup fI = some fd → ∀ fo, fd.data = .func fo → BindsTo s fo args ((("self" : Str) :: ps).zip (.ref x :: us))) (r : L2.Vals vs us) (hl : us.length = ps.length)
    (X : K.In s.heap) (G : s.heap.Ns mainGlobals mg) (Bt : s.heap.Ns builtinsNs mb) (hbt : mb "super" = some (.type "super"))
    (lim : s.heap.NoLimit) (hx : s.heap.get? x = some (xo C t0 none)) (hnx : K.lookup x = none) (hroom : A.depth < recursionLimit)
    (hq : ∀ h' tk, End s.heap h' x C (put (fun y => (ps.zip vs).lookup y) fl []) → R (.ok (.ret .none)) { s with heap := h', toks := tk }) :
    codeAny (model prog w) A (.call (.ref fI) args) R s := by
  obtain ⟨oc, od, doc, pm, ct, an, osl, cda, cc, lk, hcd, ⟨ccl, cdd, cvs, ccs, file, tf, lcd, hfile, hf2⟩, cl, cld, csl, lcc⟩ := FI.ex
  obtain ⟨s1, rst, hbody, hs1, hrst⟩ := TX.body
  obtain ⟨p1, p2, p3, tx, kk, p4, p5, p6, rfl, hpp⟩ := superOf_cases hs1
  have hbb := hb _ lk _ rfl
  have hxlt : x < s.heap.objs.size := Heap.lt_size hx
  refine ks_codeAny_call_defAt (fd := ksFn "__init__" qual (L2.defArgs st) (L2.defBody st) (L2.defScope st) .none .none doc pm an (.ref cda) ct cc) (body := L2.defBody st) hroom (X _ _ lk) rfl lim (codeRec_of X hcd) rfl hbb TX.cells (fun y hy => ?_) (fun h0 hns hk0 => ?_) TX.co TX.gen TX.kind
  · obtain ⟨n, v⟩ := y
    exact (TX.loc n (List.of_mem_zip hy).1).1
  have hself : ((("self" : Str) :: ps).zip (Value.ref x :: us)).reverse.lookup ("self" : Str) = some (Value.ref x) := zip_look (i := 0) TX.nd rfl rfl
  have X0 : K.In h0 := X.keeps hk0
  have hxC : x ≠ C := fun z => by
    obtain ⟨nm, N', qn, bs, bm, hdct, sn, sub, ab, col, dd, k0, k1, k2, k3, k5, hC, hT⟩ := excInit_of X T.ini
    rw [z, hC] at hx
    cases hx
  have hx0 := hk0 _ _ hx
  obtain ⟨cd, hcl, hcm⟩ : ∃ cd, clsIn K C = some cd ∧ alongIn K "__init__" ((cd.mro.dropWhile (· != .ref C)).drop 1) = some (some (.builtin initId)) := by
    have q := T.sup
    unfold ks_superIn at q
    cases e : clsIn K C with
    | none => rw [e] at q; cases q
    | some cd => rw [e] at q; exact ⟨cd, rfl, by rw [ei]; exact q⟩
  obtain ⟨oD, hD1, hD2⟩ : ∃ oD, h0.get? C = some oD ∧ oD.data = .cls cd := by
    unfold clsIn at hcl
    split at hcl
    · rename_i c d cd' sl ho
      cases hcl
      exact ⟨_, X0 _ _ ho, rfl⟩
    · cases hcl
  rw [hbody]
  refine ks_wpAt_execs_cons (ks_wpAt_Expr_any (ks_wpAt_MethodCall ?_ (super_call hpp)) (by unfold interactive; show ((L2.defScope st).kind == .module && _) = false; rw [TX.kind]; rfl))
  obtain ⟨ar, har, hear⟩ := Option.map_eq_some_iff.mp TX.head
  refine ks_wpAt_super_base (env := ksEnv qual (L2.defScope st) s.heap.objs.size fI (.ref cda) cc) TX.sup TX.cls (by decide) rfl (X0 _ _ lk) rfl har rfl (X0 _ _ lcd) rfl hfile hf2 TX.top ?_
  refine ks_loadName_global TX.kind TX.sup (loadGlobal_builtin (env := ksEnv qual (L2.defScope st) s.heap.objs.size fI (.ref cda) cc) (G.keeps hk0) hsup (Bt.keeps hk0) hbt ⟨rfl, ?_⟩)
  refine wpAny_loadName_free TX.kind TX.cls rfl ⟨_, X0 _ _ lcc, rfl⟩ ?_
  rw [hear]
  refine wpAny_loadName_local TX.kind (TX.loc "self" List.mem_cons_self).1 hns hself ?_
  refine ks_wpAny_isType_cls hD1 hD2 ⟨rfl, ?_⟩
  have hsubC : Looks (model prog w) h0 (isSubtype (.ref C) (.ref C)) true := by
    refine looks_mroIn X0 ?_
    obtain ⟨cd2, hc2, ho⟩ := any_some T.over
    unfold mroIn
    rw [hc2, Option.bind_some]
    (try dsimp only at ho)
    split at ho
    · rename_i C' bm hm
      rw [Bool.and_eq_true, beq_iff_eq] at ho
      obtain ⟨rfl, _⟩ := ho
      rw [hm]
      simp
    · cases ho
  refine ks_wpAny_call_super hD1 hD2 hx0 rfl (fun c e => by cases e) hsubC (fun h1 e1 k1 => ?_)
  have X1 : K.In h1 := X0.keeps k1
  have hx1 := k1 _ _ hx0
  have hI1 : Looks (model prog w) h1 (isInstance (.ref x) (.type B)) true := (show InstAt h1 x (xo C t0 none) C none from ⟨hx1, rfl, rfl, trivial⟩).type.andThen (looks_subIn X1 T.subB)
  refine kxs_getMethod FM.kxs e1 (looks_opaque X1 hop) (l₀ := cd.mro) (fun A Q E s k q => wpAny_bind ((looks_clsIn X1 hcl) A _ E s k (wpAny_pure q))) rfl X1 hcm hI1 hxC (by decide) ?_
  have k2 : ∀ b o, h1.get? b = some o → (h1.push (kxs_mw initId x)).get? b = some o := fun b o e => Heap.get?_push_of_some _ e
  have hu2 : (h1.push (kxs_mw initId x)).get? h1.objs.size = some (kxs_mw initId x) := Heap.get?_push_at rfl rfl
  refine callWith_mw (i := initId) (x := x) rfl (evalArgs_plain (Calls.spliced_cons ?_))
  rw [if_neg Bool.false_ne_true]
  refine Calls.Constant_str (Calls.spliced_nil ⟨hu2, ?_⟩)
  refine call_mw FM T (X1.keeps k2) (k2 _ _ hx1) hu2 (by show 1 ≤ sizeLine; decide) fun h3 t1 k3 hx3 sz3 => ?_
  refine wpAt_of_wpAny ?_
  have sz0 : s.heap.objs.size < h0.objs.size := hns.lt
  have kk : ∀ b o, b ≠ x → h0.get? b = some o → h3.get? b = some o := fun b o hb e => k3 b o hb (k2 b o (k1 b o e))
  have hLx : s.heap.objs.size ≠ x := Nat.ne_of_gt hxlt
  have c0 : Cur s.heap h3 s.heap.objs.size x C (fun y => ((("self" : Str) :: ps).zip (Value.ref x :: us)).reverse.lookup y) none [] :=
    ⟨fun b o hb e => kk b o hb (hk0 b o e), ns_at hns fun o e => kk _ o hLx e, ⟨t1, hx3⟩, rfl, by
      obtain ⟨o, es, ep, e, _⟩ := ns_at hns fun o e => kk _ o hLx e
      exact Nat.le_of_lt (Heap.lt_size e)⟩
  refine run_fields (env := ksEnv qual (L2.defScope st) s.heap.objs.size fI (.ref cda) cc) (ev := fun y => (ps.zip vs).lookup y) FM T X hnx TX.kind rfl (TX.loc "self" List.mem_cons_self).1 hself rst fl hrst hno (fun p hp y e => ?_) h3 _ none [] c0 (by have := TX.few; simp only [List.length_nil]; omega) fun h4 tk4 d4 c4 => ?_
  · have hy := TX.pars p hp y e
    obtain ⟨i, hi, hiy⟩ := List.getElem_of_mem hy
    have l1 := TX.loc y (List.mem_cons_of_mem _ hy)
    have hiu : i < us.length := by omega
    have hiv : i < vs.length := by have := r.length; omega
    have eu : us[i]? = some us[i] := List.getElem?_eq_getElem hiu
    have evv : vs[i]? = some vs[i] := List.getElem?_eq_getElem hiv
    obtain ⟨u, hu', ruv⟩ := L2.Vals.get r evv
    refine ⟨l1.1, l1.2, u, vs[i], ?_, ?_, ruv⟩
    · exact zip_look (i := i + 1) TX.nd (by simpa using (List.getElem?_eq_getElem hi).trans (congrArg some hiy)) (by simpa using hu')
    · have ndp : ps.Nodup := (List.nodup_cons.mp TX.nd).2
      have key : ∀ (ks : List Str) (ws : List L2.V) (i : Nat) (y : Str) (v : L2.V), ks.Nodup → ks[i]? = some y → ws[i]? = some v → (ks.zip ws).lookup y = some v := by
        intro ks
        induction ks with
        | nil => intro ws i y v _ h _; simp at h
        | cons k kr ih =>
          intro ws i y v n h1 h2
          cases ws with
          | nil => simp at h2
          | cons w0 wr =>
            cases i with
            | zero =>
              simp at h1 h2
              subst h1 h2
              simp [List.lookup]
            | succ j =>
              have h1' : kr[j]? = some y := by simpa using h1
              have h2' : wr[j]? = some v := by simpa using h2
              have ne : (y == k) = false := by
                simp only [beq_eq_false_iff_ne, ne_eq]
                intro z
                subst z
                exact (List.nodup_cons.mp n).1 (List.mem_of_getElem? h1')
              show (match y == k with | true => some w0 | false => (kr.zip wr).lookup y) = some v
              rw [ne]
              exact ih wr j y v (List.nodup_cons.mp n).2 h1' h2'
      exact key ps vs i y _ ndp ((List.getElem?_eq_getElem hi).trans (congrArg some hiy)) evv
  · refine hq h4 tk4 ⟨fun b o hb e => c4.keep b o hb e, ?_⟩
    cases d4 with
    | none =>
      exfalso
      have q := c4.dic.1
      cases fl with
      | nil => exact hne rfl
      | cons a l =>
        have lenp : ∀ (l : List (Str × Src)) (fs : List (Str × L2.V)), (put (fun y => (ps.zip vs).lookup y) l fs).length = l.length + fs.length := by
          intro l
          induction l with
          | nil => intro fs; simp [put]
          | cons b l ih =>
            intro fs
            obtain ⟨f, sr⟩ := b
            cases sr <;> (simp only [put, ih, List.length_cons]; omega)
        have := congrArg List.length q
        rw [lenp] at this
        simp at this
    | some dx =>
      obtain ⟨hd, ne, neL, mA, hn, rel⟩ := c4.dic
      obtain ⟨t2, e2⟩ := c4.obj
      exact ⟨t2, dx, e2, hd, ne, mA, hn, rel⟩
end
end FK
end
section
set_option Elab.async false
set_option linter.all false
set_option maxRecDepth 100000
set_option maxHeartbeats 4000000
namespace FK
open PySem PySem.W PySem.Calls PyProof.Rows

/-- how positional arguments bind to self and the parameters -/
def BindP (qual : Str) (st : Stmt) (ps : List Str) : Prop := ∀ (doc pm ct cda : Value) (an : Option Addr) (cc : Addr) (us : List Value), us.length = ps.length + 1 →
  bindArgs (ksFn "__init__" qual (L2.defArgs st) (L2.defBody st) (L2.defScope st) .none .none doc pm an cda ct cc) ⟨us, []⟩ = pure ((("self" : Str) :: ps).zip us)

/-- all that is told of one class x of the package -/
structure Flt (prog : Program) (K : Frag) (mg : Str → Option Value) (x : Str) (C : Addr) (fl : List (Str × Src)) (ps : List Str) : Prop where
  ex : ∃ (B newId initId : String) (bmB : List Value) (st : Stmt) (fI : Addr), Fam B newId initId bmB ∧ initId = B ++ ".__init__" ∧ Cl K C B newId bmB ∧ IniFn prog K C fI (x ++ ".__init__") st ∧ IniTx prog st ps fl ∧ BindP (x ++ ".__init__") st ps ∧
    findIn K (.ref C) "__init__" = some (some (.ref fI)) ∧ typeIn K (.ref fI) = some (.type "function")
  ne : fl ≠ []
  sup : mg "super" = none
  no : ∀ p ∈ fl, findIn K (.ref C) p.1 = some none
  opq : nsIn K cStatics "thirdparty.any" = some none
  kC : keepIn K (.ref C) = true
  gC : mg x = some (.ref C)
  exC : subIn K (.ref C) (.type "BaseException") = some true
  tyC : typeIn K (.ref C) = some (.type "type")
  ga : findIn K (.ref C) "__getattribute__" = some (some (.builtin "BaseException.__getattribute__"))
  gg : findIn K (.ref C) "__getattr__" = some none
  dict : hasDictIn K C = true
  clsA : findIn K (.ref C) "__class__" = some (some (.builtin "object.__class__"))
  clsG : specialIn K (.builtin "object.__class__") "__get__" = some (some (.builtin "getset_descriptor.__get__"))
  clsT : takesIn K (.builtin "object.__class__") = some true
  mrO : mroIn K C (.type "object") = some true
  db : (x == ("__debug__" : Str)) = false

/-- the fields of an error that was made of these values -/
abbrev flds (ps : List Str) (fl : List (Str × Src)) (vs : List L2.V) : List (Str × L2.V) := put (fun y => (ps.zip vs).lookup y) fl []

/-- a made error at e -/
structure Made (h h' : Heap) (e C : Addr) (fs : List (Str × L2.V)) : Prop where
  keep : ∀ b o, h.get? b = some o → h'.get? b = some o
  new : h.objs.size ≤ e
  ex : ∃ t1 d, h'.get? e = some (xo C t1 (some d)) ∧ h.objs.size ≤ d ∧ d ≠ e ∧ ∃ mA, h'.Ns1 d mA ∧ ∀ f, L2.RelO (fs.lookup f) (mA f)

section
variable {prog : Program} {w : World} {A : Around} {E : Value → Shared → Prop} {R : Result → Shared → Prop} {K : Frag} {C : Addr} {s : Shared} {x : Str} {ps : List Str} {fl : List (Str × Src)} {mg mb : Str → Option Value}
theorem made (T : Flt prog K mg x C fl ps) {us : List Value} {vs : List L2.V} (r : L2.Vals vs us) (hl : vs.length = ps.length)
    (X : K.In s.heap) (G : s.heap.Ns mainGlobals mg) (Bt : s.heap.Ns builtinsNs mb) (hbt : mb "super" = some (.type "super")) (lim : s.heap.NoLimit) (hroom : A.depth + 1 < recursionLimit) (hz : us.length ≤ sizeLine)
    (hq : ∀ h' tk e, Made s.heap h' e C (flds ps fl vs) → R (.ok (.ret (.ref e))) { s with heap := h', toks := tk }) :
    codeAny (model prog w) A (.call (.ref C) ⟨us, []⟩) R s := by
  obtain ⟨B, newId, initId, bmB, st, fI, FM, ei, TC, FI, TX, bd, hi, tI⟩ := T.ex
  obtain ⟨nm, N', qn, bs, bm, hdct, sn, sub, ab, col, dd, k0, k1, k2, k3, k5, hC, hT⟩ := excInit_of X TC.ini
  obtain ⟨hp, g, dr, tk, os⟩ := s
  have k : ∀ b o, hp.get? b = some o → ((hp.push (kdv_tup us)).push (PySem.HandSPX.excO C hp.objs.size)).get? b = some o := fun b o e => Heap.get?_push_of_some _ (Heap.get?_push_of_some _ e)
  have hget : ((hp.push (kdv_tup us)).push (PySem.HandSPX.excO C hp.objs.size)).get? (hp.objs.size + 1) = some (xo C hp.objs.size none) := by heap_get
  have hnx : K.lookup (hp.objs.size + 1) = none := by
    cases e : K.lookup (hp.objs.size + 1) with
    | none => rfl
    | some o =>
      have z : hp.get? (hp.objs.size + 1) = some o := X _ _ e
      exact absurd (Nat.lt_of_succ_lt (Heap.lt_size z)) (Nat.lt_irrefl _)
  refine PySem.HandSPX.call_own FM.base hT hC (looks_findIn X hi) (fun self => bind_fn X self tI) hz ?_
  refine init_run (s := ⟨(hp.push (kdv_tup us)).push (PySem.HandSPX.excO C hp.objs.size), g, dr, tk, os⟩) (us := us) (vs := vs) FM ei TC FI TX T.ne T.sup T.no T.opq (fun fd lk fo hfd => ?_) r (by rw [← r.length]; exact hl) (X.keeps k) (G.keeps k) (Bt.keeps k) hbt (lim.keeps k) hget hnx ?_ fun h' tk' EN => ?_
  · obtain ⟨oc, od, doc, pm, ct, an, osl, cda, cc, lk2, _⟩ := FI.ex
    rw [lk] at lk2
    cases lk2
    cases hfd
    exact BindsTo.of_eq (bd doc pm ct (.ref cda) an cc (.ref (hp.objs.size + 1) :: us) (by rw [List.length_cons, ← r.length, hl]))
  · show A.depth + 1 < recursionLimit
    exact hroom
  · obtain ⟨t1, d, e1, d1, d2, mA, n1, rel⟩ := EN.ex
    have old : ∀ b o, hp.get? b = some o → h'.get? b = some o := fun b o e => EN.keep b o (Nat.ne_of_lt (Nat.lt_succ_of_lt (Heap.lt_size e))) (k b o e)
    have z : hp.objs.size ≤ d := by
      have q := d1
      have q2 : hp.objs.size + 1 + 1 ≤ d := by
        simpa only [Heap.size_push] using q
      omega
    exact ⟨rfl, hq h' tk' (hp.objs.size + 1) ⟨old, Nat.le_succ _, t1, d, e1, z, d2, mA, n1, rel⟩⟩
end
end FK

namespace L2
open PySem PySem.Spec PyProof.Rows
section
variable {X : Cx} {x : Str} {C : Addr} {fl : List (Str × FK.Src)} {ps : List Str}
/-- C(e, ..) made to be raised -/
def tMkF (C : Addr) (ps : List Str) (fl : List (Str × FK.Src)) (ta : TA) : St → Hp → XK → Prop := fun σ H Q => ta σ H fun vs H1 => vs.length = ps.length ∧ ∀ d, H1 d = none → Q (.ref C) (some d) (upd H1 d (.xd (FK.flds ps fl vs)))
theorem mk_core {k : Nat} {pins : List (Addr × Obj)} {σ : St} {H1 : Hp} {s1 : Shared} {us : List Value} {vs : List V} {Q : Value → Shared → Prop} {E : Value → Shared → Prop} (T : FK.Flt X.prog X.K X.mg x C fl ps) (hr : Room (k + 1) X.A) (I1 : Inv X pins σ H1 s1) (r1 : Vals vs us) (hl : vs.length = ps.length) (hps : ps.length ≤ 1000)
    (hq : ∀ h' tk e, FK.Made s1.heap h' e C (FK.flds ps fl vs) → Q (.ref e) { s1 with heap := h', toks := tk }) : wpAny (model X.prog X.w) X.A (call (.ref C) us) Q E s1 := by
  obtain ⟨mb, hmb, hbt⟩ := I1.ok.mod.blt
  have hus : us.length ≤ sizeLine := by
    rw [← Paired.length r1, sizeLine_eq]
    omega
  refine wpAny_call (FK.made T r1 hl I1.kIn (I1.ok.mod.glob.keeps I1.bk) (hmb.keeps I1.bk) ((hbt "super" (by decide)).trans (by first | boot_by_name | rfl | kernel_rfl)) I1.nolimit ?_ hus fun h' tk e M => ?_)
  · have := hr.dp
    omega
  · exact hq h' tk e M
/-- it is raised: the object is let go, its dict stands as an exception's dict -/
theorem mk_raise {pins : List (Addr × Obj)} {σ : St} {H1 : Hp} {s1 : Shared} {h' : Heap} {tk : Nat} {e : Addr} {fs : List (Str × V)} {Q : XK} (T : FK.Flt X.prog X.K X.mg x C fl ps) (I1 : Inv X pins σ H1 s1) (M : FK.Made s1.heap h' e C fs) (q : ∀ d, H1 d = none → Q (.ref C) (some d) (upd H1 d (.xd fs))) :
    MkP X pins σ Q (.ref e) { s1 with heap := h', toks := tk } := by
  obtain ⟨hp, g, dr, t0, os⟩ := s1
  obtain ⟨t1, d, e1, d1, d2, mA, n1, rel⟩ := M.ex
  obtain ⟨G', g1, g2⟩ := restrict h' fun b => decide (b ≠ e)
  have gk : ∀ b, b ≠ e → G'.get? b = h'.get? b := fun b hb => g1 b (decide_eq_true hb)
  have ge : G'.get? e = none := g2 e (by simp)
  have old : ∀ b o, hp.get? b = some o → G'.get? b = some o := fun b o q => (gk b (Nat.ne_of_lt (Nat.lt_of_lt_of_le (Heap.lt_size q) M.new))).trans (M.keep b o q)
  have ob : ObjOk X.prog X.w (upd H1 d (.xd fs)) G' d (.xd fs) := ⟨_, n1.at (fun o q => (gk d d2).trans q), rel⟩
  have J : Inv X pins σ (upd H1 d (.xd fs)) ⟨G', g, dr, tk, os⟩ := I1.laid (t' := tk) old d1 ob
  refine ⟨e, _, _, ⟨G', g, dr, tk, os⟩, _, .ref C, some d, rfl, J, fun b o q => ?_, ge, e1, ⟨rfl, rfl⟩, rfl, rfl, ?_, rfl, I1.bare, raises_own T.exC T.tyC, q d (I1.hok.fresh d1)⟩
  · by_cases hb : b = e
    · have q' : G'.get? b = some o := q
      rw [hb, ge] at q'
      cases q'
    · exact (gk b hb).symm.trans q
  · rw [upd_ne (Ne.symm d2)]
    exact I1.hok.fresh M.new
theorem pmk_flt {e : Expr} {es : List Expr} {ta : TA} {p pos : Pos} {k : Nat} (T : FK.Flt X.prog X.K X.mg x C fl ps) (hr : Room (k + 1) X.A) (ha : PA X (e :: es) ta) (hps : ps.length ≤ 1000 := by decide) (hg : Gl X x := by rfl)
    (he : starEach (e :: es) X.env = (false, eval e X.env) :: starEach es X.env := by rfl) (hpl : (backTo pos (starEach es X.env)).any (·.1) = false := by rfl) :
    PMk X (.Call (.Name x p) (e :: es) [] pos) (tMkF C ps fl ta) := by
  intro pins s σ H Q I h
  refine wpAny_Call_Name_kw (ld_glob I hg T.gC ?_ T.db)
  refine PySem.W.callWith_K (h₀ := X.base) I.ok.mod.kin T.kC (thn (ha.run pos pins s σ H _ I h) fun us s1 ⟨vs, H1, I1, r1, hl, q1⟩ => ⟨I1.kIn, ?_⟩) he hpl
  exact mk_core T hr I1 r1 hl hps fun h' tk e M => mk_raise T I1 M q1
/-- raise C(e, ..) -/
def tRaiseF (C : Addr) (ps : List Str) (fl : List (Str × FK.Src)) (W : WX) (ta : TA) : TS := fun _ σ H => tMkF C ps fl ta σ H fun cls d H' => W cls d σ H'
theorem ps_raiseF {e : Expr} {es : List Expr} {ta : TA} {W : WX} {p pos pos2 : Pos} {k : Nat} (hc : X.calm = true) (T : FK.Flt X.prog X.K X.mg x C fl ps) (hr : Room (k + 1) X.A) (tk : Takes X W) (ha : PA X (e :: es) ta) (hps : ps.length ≤ 1000 := by decide) (hg : Gl X x := by rfl)
    (he : starEach (e :: es) X.env = (false, eval e X.env) :: starEach es X.env := by rfl) (hpl : (backTo pos (starEach es X.env)).any (·.1) = false := by rfl) :
    PS X (.Raise (some (.Call (.Name x p) (e :: es) [] pos)) none pos2) (tRaiseF C ps fl W ta) := ps_raise hc tk (pmk_flt T hr ha hps hg he hpl)

/-! ### errors held as values -/
/-- at a: an error of the class at C, its dict at d -/
abbrev ExV (H : Hp) (a C d : Addr) (fs : List (Str × V)) : Prop := H a = some (exo a C (some d)) ∧ H d = some (.xd fs)
theorem mk_value {pins : List (Addr × Obj)} {σ : St} {H1 : Hp} {s1 : Shared} {h' : Heap} {tk : Nat} {e : Addr} {fs : List (Str × V)} {Q : VK} (I1 : Inv X pins σ H1 s1) (M : FK.Made s1.heap h' e C fs)
    (q : ∀ a d, H1 a = none → H1 d = none → d ≠ a → Q (.ref a) (upd (upd H1 d (.xd fs)) a (exo a C (some d)))) : EP X pins σ Q (.ref e) { s1 with heap := h', toks := tk } := by
  obtain ⟨hp, g, dr, t0, os⟩ := s1
  obtain ⟨t1, d, e1, d1, d2, mA, n1, rel⟩ := M.ex
  have ob : ObjOk X.prog X.w (upd H1 d (.xd fs)) h' d (.xd fs) := ⟨_, n1, rel⟩
  have J : Inv X pins σ (upd H1 d (.xd fs)) ⟨h', g, dr, tk, os⟩ := I1.laid (t' := tk) M.keep d1 ob
  have na : H1 e = none := I1.hok.fresh M.new
  have nd : H1 d = none := I1.hok.fresh d1
  have na2 : upd H1 d (.xd fs) e = none := by rw [upd_ne (Ne.symm d2)]; exact na
  have Un1 : Un X.fs [] H1 (upd (upd H1 d (.xd fs)) e (exo e C (some d))) hp h' := {
    keep := fun b o q _ _ _ => M.keep b o q
    slot := fun b o q _ _ _ => ⟨o.slots, M.keep b o q⟩
    free := fun b o q n _ => by
      have lt := Heap.lt_size q
      rw [upd_ne (Nat.ne_of_lt (Nat.lt_of_lt_of_le lt M.new)), upd_ne (Nat.ne_of_lt (Nat.lt_of_lt_of_le lt d1))]
      exact n
    there := fun b o q _ => ⟨o, M.keep b o q⟩
    tups := fun b xs q => by rw [upd_ne (ne_of_none q na), upd_ne (ne_of_none q nd)]; exact q
    frzs := fun b o v q => by rw [upd_ne (ne_of_none q na), upd_ne (ne_of_none q nd)]; exact q
    tbls := fun b ps q => ⟨#[], by rw [upd_ne (ne_of_none q na), upd_ne (ne_of_none q nd), q]; simp⟩ }
  refine ⟨.ref e, _, I1.un (t' := tk) Un1 fun b o q => ?_, rfl, q e d na nd d2⟩
  by_cases hb : b = e
  · subst hb
    rw [upd_same] at q
    cases q
    exact exo_ok e1
  · rw [upd_ne hb] at q
    exact (J.hok b o q).stay (fun c v hc z => z) (fun c hc => by rw [upd_ne (ne_of_none hc na2)]; exact hc) (fun c xs hc => by rw [upd_ne (ne_of_none hc na2)]; exact hc)
/-- C(e, ..) as a value -/
def tMkV (C : Addr) (ps : List Str) (fl : List (Str × FK.Src)) (ta : TA) : TE := fun σ H Q => ta σ H fun vs H1 => vs.length = ps.length ∧ ∀ a d, H1 a = none → H1 d = none → d ≠ a → Q (.ref a) (upd (upd H1 d (.xd (FK.flds ps fl vs))) a (exo a C (some d)))
theorem pe_flt {e : Expr} {es : List Expr} {ta : TA} {p pos : Pos} {k : Nat} (T : FK.Flt X.prog X.K X.mg x C fl ps) (hr : Room (k + 1) X.A) (ha : PA X (e :: es) ta) (hps : ps.length ≤ 1000 := by decide) (hg : Gl X x := by rfl)
    (he : starEach (e :: es) X.env = (false, eval e X.env) :: starEach es X.env := by rfl) (hpl : (backTo pos (starEach es X.env)).any (·.1) = false := by rfl) :
    PE X (.Call (.Name x p) (e :: es) [] pos) (tMkV C ps fl ta) := by
  refine ⟨fun pins s σ H Q I h => ?_⟩
  refine wpAny_Call_Name_kw (ld_glob I hg T.gC ?_ T.db)
  refine PySem.W.callWith_K (h₀ := X.base) I.ok.mod.kin T.kC (thn (ha.run pos pins s σ H _ I h) fun us s1 ⟨vs, H1, I1, r1, hl, q1⟩ => ⟨I1.kIn, ?_⟩) he hpl
  exact mk_core T hr I1 r1 hl hps fun h' tk e M => mk_value I1 M q1
/-- e.f of an error that is held -/
def tXFld (K : PySem.W.Frag) (te : TE) (f : Str) : TE := fun σ H Q => te σ H fun x H1 => ∃ a C d fs v, x = .ref a ∧ ExV H1 a C d fs ∧ (∃ prog mg nm fl ps, FK.Flt prog K mg nm C fl ps) ∧ PySem.W.findIn K (.ref C) f = some none ∧ fs.lookup f = some v ∧ Q v H1
theorem pe_xfld {e : Expr} {te : TE} {f : Str} {pos : Pos} (he : PE X e te) (hb : attributeBase e f X.env (eval e X.env) = eval e X.env) : PE X (.Attribute e f pos) (tXFld X.K te f) := by
  refine ⟨fun pins s σ H Q I h => ?_⟩
  refine attr_of hb (thn (he.run pins s σ H _ I h) fun u s1 hh => ?_)
  obtain ⟨x, H1, I1, rx, a, C, d, fs, v, ex, ⟨ea, ed⟩, ⟨_, _, _, _, _, T⟩, hno, l, q⟩ := hh
  subst ex
  obtain rfl : u = Value.ref a := rx
  obtain ⟨t1, ho⟩ := exo_at I1.hok ea
  obtain ⟨mA, hns, hr⟩ := (show ObjOk X.prog X.w H1 s1.heap d (.xd fs) from I1.hok d _ ed)
  obtain ⟨od, hod, hl⟩ := lookIn_ns hns
  obtain ⟨u, hu, ru⟩ := RelO.some_of (v := v) (o := mA f) (by rw [← l]; exact hr f)
  have J : PySem.W.InstAt s1.heap a (FK.xo C t1 (some d)) C (some od) := ⟨ho, rfl, rfl, hod⟩
  exact PySem.HandSPX.exc_get I1.kIn J T.ga T.gg T.exC (PySem.W.findObj_own T.dict hno rfl (by rw [hl, hu])) (handed_of ru) ⟨v, H1, I1.tok _, ru, q⟩
end
end L2
end
section
set_option Elab.async false
set_option linter.all false
set_option maxRecDepth 100000
set_option maxHeartbeats 4000000
/-! The head's facts for a law over the package: defs, facts, exception classes, one Bool more. -/
namespace Hf
open PySem PySem.Spec PyProof.Rows L2 He
abbrev IniW : Type := Option (Str × Str × Arguments × FuncBody × Scope × Addr × List Str × Addr)
def iniW (K : PySem.W.Frag) (x : Str) : IniW := match K.lookup (ma K (ga K x) "__init__") with
  | some ⟨_, _, .func fd, _⟩ => some (fd.name, fd.qualname, fd.params, fd.body, fd.scope, fd.globals, fd.closure.map (·.1), fd.builtins)
  | _ => none
/-- one exception class: its name, its family (0 ValueError, 1 LookupError, 2 RuntimeError), its __init__, its parameters and fields -/
structure FltD where
  x : Str
  fam : Nat
  st : Stmt
  ps : List Str
  fl : List (Str × FK.Src)
def FltD.val (d : FltD) : IniW := some (("__init__" : Str), d.x ++ ".__init__", defArgs d.st, FuncBody.stmts (defBody d.st), defScope d.st, mainGlobals, [("__class__" : Str)], builtinsNs)
def famB : Nat → String
  | 0 => "ValueError"
  | 1 => "LookupError"
  | _ => "RuntimeError"
def famBm : Nat → List Value
  | 0 => FK.bmV
  | 1 => FK.bmL
  | _ => FK.bmR
def newB : Nat → String
  | 0 => "ValueError.__new__"
  | 1 => "LookupError.__new__"
  | _ => "RuntimeError.__new__"
def initB : Nat → String
  | 0 => "ValueError.__init__"
  | 1 => "LookupError.__init__"
  | _ => "RuntimeError.__init__"
theorem fam_ok : ∀ n : Nat, FK.Fam (famB n) (newB n) (initB n) (famBm n)
  | 0 => FK.famV
  | 1 => FK.famL
  | _ + 2 => FK.famR
theorem init_eq : ∀ n : Nat, initB n = famB n ++ ".__init__"
  | 0 => by decide
  | 1 => by decide
  | _ + 2 => by show "RuntimeError.__init__" = "RuntimeError" ++ ".__init__"; decide
/-- the closure's one cell holds the class; the code's file is the program's -/
def tieB (K : PySem.W.Frag) (file : Str) (q : Str) (C f : Addr) : Bool := match K.lookup f with
  | some ⟨_, _, .func fd, _⟩ => (match fd.defaults, fd.kwdefaults, fd.closure, fd.code with
    | .none, .none, [(_, cc)], .ref cda => PySem.W.codeIn K (.ref cda) q && ((match K.lookup cc with
      | some ⟨_, _, .cell (some (.ref D)), _⟩ => decide (D = C)
      | _ => false) && (match K.lookup cda with
      | some ⟨_, _, .fields vs, _⟩ => (match (vs[2]? : Option Value) with
        | some (.str fl _) => (file == fl)
        | _ => false)
      | _ => false))
    | _, _, _, _ => false)
  | _ => false
def FltD.ok (K : PySem.W.Frag) (file : Str) (d : FltD) : Bool :=
  let C := ga K d.x
  let f := ma K C "__init__"
  eqO (PySem.W.nsIn K mainGlobals d.x) (some (some (.ref C))) && (PySem.W.excInitIn K C (famBm d.fam) (newB d.fam) && (PySem.W.excOver K C (famBm d.fam) && (eqO (PySem.W.findIn K (.ref C) "__setattr__") (some (some (.builtin "object.__setattr__"))) &&
  (PySem.W.hasDictIn K C && (decide (PySem.W.subIn K (.ref C) (.type (famB d.fam)) = some true) && (eqO (PySem.W.ks_superIn K C C "__init__") (some (some (.builtin (initB d.fam)))) && ((d.fl.all fun p => eqO (PySem.W.findIn K (.ref C) p.1) (some none)) &&
  (eqO (PySem.W.nsIn K cStatics "thirdparty.any") (some none) && (PySem.W.keepIn K (.ref C) && (decide (PySem.W.subIn K (.ref C) (.type "BaseException") = some true) && (decide (PySem.W.typeIn K (.ref C) = some (.type "type")) &&
  (eqO (PySem.W.findIn K (.ref C) "__getattribute__") (some (some (.builtin "BaseException.__getattribute__"))) && (eqO (PySem.W.findIn K (.ref C) "__getattr__") (some none) && (eqO (PySem.W.findIn K (.ref C) "__class__") (some (some (.builtin "object.__class__"))) &&
  (eqO (PySem.W.specialIn K (.builtin "object.__class__") "__get__") (some (some (.builtin "getset_descriptor.__get__"))) && (decide (PySem.W.takesIn K (.builtin "object.__class__") = some true) && (decide (PySem.W.mroIn K C (.type "object") = some true) &&
  (eqO (PySem.W.findIn K (.ref C) "__init__") (some (some (.ref f))) && (decide (PySem.W.typeIn K (.ref f) = some (.type "function")) && (eqO (PySem.W.nsIn K mainGlobals "super") (some none) && tieB K file (d.x ++ ".__init__") C f))))))))))))))))))))
/-- what of the text is asked, beside -/
structure FltT (prog : Program) (d : FltD) : Prop where
  tx : FK.IniTx prog d.st d.ps d.fl
  bd : FK.BindP (d.x ++ ".__init__") d.st d.ps
  ne : d.fl ≠ []
  db : (d.x == ("__debug__" : Str)) = false
theorem tie_ok {K : PySem.W.Frag} {prog : Program} {C f : Addr} {q : Str} {st : Stmt} {x : Str} (h : tieB K prog.main.file q C f = true) (hf : f = ma K (ga K x) "__init__")
    (hw : iniW K x = (some (("__init__" : Str), q, defArgs st, FuncBody.stmts (defBody st), defScope st, mainGlobals, [("__class__" : Str)], builtinsNs) : IniW)) : FK.IniFn prog K C f q st := by
  subst hf
  unfold tieB at h
  unfold iniW at hw
  cases e : K.lookup (ma K (ga K x) "__init__") with
  | none =>
    rw [e] at h
    cases h
  | some o =>
    obtain ⟨oc, od, dt, osl⟩ := o
    rw [e] at h hw
    cases dt with
    | func fd =>
      obtain ⟨n1, n2, n3, n4, n5, n6, n7, n8, n9, n10, n11, n12, n13, n14, n15⟩ := fd
      have e2 : (some (n1, n2, n3, n4, n5, n6, n7.map (·.1), n15) : IniW) = some (("__init__" : Str), q, defArgs st, FuncBody.stmts (defBody st), defScope st, mainGlobals, [("__class__" : Str)], builtinsNs) := hw
      simp only [Option.some.injEq, Prod.mk.injEq] at e2
      obtain ⟨h1, h2, h3, h4, h5, h6, h7, h8⟩ := e2
      subst h1 h2 h3 h4 h5 h6 h8
      dsimp only at h
      split at h
      · rename_i nm cc cda
        have hn : nm = ("__class__" : Str) := by simpa using h7
        subst hn
        obtain ⟨c1, c2⟩ := ba h
        obtain ⟨c3, c4⟩ := ba c2
        split at c3
        · rename_i k1 k2 D k3 ek
          have eD : D = C := of_decide_eq_true c3
          subst eD
          split at c4
          · rename_i v1 v2 vs v3 ev
            split at c4
            · rename_i fl tk efl
              exact ⟨oc, od, n10, n11, n14, n12, osl, cda, cc, e, c1, ⟨_, _, vs, _, fl, tk, ev, efl, c4⟩, ⟨_, _, _, ek⟩⟩
            · cases c4
          · cases c4
        · cases c3
      · cases h
    | _ => cases h
theorem flt_ok {K : PySem.W.Frag} {prog : Program} {mg : Str → Option Value} {h : Heap} {d : FltD} (X : K.In h) (G : h.Ns mainGlobals mg) (c : d.ok K prog.main.file = true) (w : iniW K d.x = d.val) (t : FltT prog d) : FK.Flt prog K mg d.x (ga K d.x) d.fl d.ps := by
  unfold FltD.ok at c
  simp only [Bool.and_eq_true] at c
  obtain ⟨c1, c2, c3, c4, c5, c6, c7, c8, c9, c10, c11, c12, c13, c14, c15, c16, c17, c18, c19, c20, c21, c22⟩ := c
  refine ⟨⟨famB d.fam, newB d.fam, initB d.fam, famBm d.fam, d.st, ma K (ga K d.x) "__init__", fam_ok d.fam, init_eq d.fam, ⟨c2, c3, eqO_ok c4, c5, of_decide_eq_true c6, ?_⟩, tie_ok c22 rfl w, t.tx, t.bd, eqO_ok c19, of_decide_eq_true c20⟩,
    t.ne, PySem.W.mg_none_of X G (eqO_ok c21), fun p hp => eqO_ok (List.all_eq_true.mp c8 p hp), eqO_ok c9, c10, PySem.W.mg_of X G (eqO_ok c1), of_decide_eq_true c11, of_decide_eq_true c12, eqO_ok c13, eqO_ok c14, c5, eqO_ok c15, eqO_ok c16, of_decide_eq_true c17, of_decide_eq_true c18, t.db⟩
  rw [← init_eq]
  exact eqO_ok c7
/-! ### static methods -/
def fnWa (K : PySem.W.Frag) (f : Addr) : FnW := match K.lookup f with
  | some ⟨_, _, .func fd, _⟩ => some (fd.name, fd.qualname, fd.params, fd.body, fd.scope, fd.globals, fd.closure, fd.builtins)
  | _ => none
/-- the static method m of the class x: its def (d.at_ is not looked at) -/
structure SDef where
  x : Str
  m : Str
  d : DefD
def SDef.ad (K : PySem.W.Frag) (s : SDef) : Addr := He5.wf K (ga K s.x) "staticmethod" s.m
def SDef.ok (K : PySem.W.Frag) (s : SDef) : Bool := He5.wrapB K (ga K s.x) "staticmethod" "staticmethod.__get__" s.m && (PySem.W.readsIn K (ga K s.x) (.type "type") &&
  (eqO (PySem.W.specialIn K (.ref (ga K s.x)) "__getattribute__") (some (some (.builtin "type.__getattribute__"))) && (PySem.W.keepIn K (.ref (s.ad K)) && (match K.lookup (s.ad K) with
  | some ⟨_, _, .func fd, _⟩ => PySem.W.codeIn K fd.code s.d.qual && (dflB K fd.defaults (s.d.dvs K) && kwdB K fd.kwdefaults (s.d.kws K))
  | _ => false))))
theorem SDef.funD {K : PySem.W.Frag} {s : SDef} (e : fnWa K (s.ad K) = s.d.val) (c : s.ok K = true) : ∃ fd, FunD K s.d.name s.d.qual s.d.params s.d.body s.d.scope (s.d.dvs K) (s.d.kws K) (s.ad K) fd := by
  obtain ⟨c1, c⟩ := ba c
  obtain ⟨c3, c⟩ := ba c
  obtain ⟨c5, c⟩ := ba c
  obtain ⟨kp, c2⟩ := ba c
  clear c c1 c3 c5
  unfold fnWa at e
  generalize hf : s.ad K = f at e kp c2
  cases q : K.lookup f with
  | none =>
    rw [q] at c2
    cases c2
  | some o =>
    obtain ⟨oc, od, dt, osl⟩ := o
    rw [q] at c2 e
    cases dt with
    | func fd =>
      obtain ⟨n1, n2, n3, n4, n5, n6, n7, n8, n9, n10, n11, n12, n13, n14, n15⟩ := fd
      have e2 : (some (n1, n2, n3, n4, n5, n6, n7, n15) : FnW) = some (s.d.name, s.d.qual, s.d.params, .stmts s.d.body, s.d.scope, mainGlobals, [], builtinsNs) := e
      simp only [Option.some.injEq, Prod.mk.injEq] at e2
      obtain ⟨h1, h2, h3, h4, h5, h6, h7, h8⟩ := e2
      subst h1 h2 h3 h4 h5 h6 h7 h8
      have c3 : (PySem.W.codeIn K n13 s.d.qual && (dflB K n8 (s.d.dvs K) && kwdB K n9 (s.d.kws K))) = true := c2
      obtain ⟨k1, k2⟩ := ba c3
      obtain ⟨k3, k4⟩ := ba k2
      exact ⟨_, ⟨oc, od, n8, n9, n10, n11, n12, n13, n14, osl, rfl, q, k1, dflB_ok k3, kwdB_ok k4⟩, kp⟩
    | _ => cases c2
/-! ### the Hook -/
abbrev AlF : Type := Bool × List FnW × List IniW × List FnW
/-- what is looked at: facts, defs, exception classes, a Bool of one's own -/
structure Ask where
  file : Str
  fa : List Fa
  fn : List DefD
  fx : List FltD
  xt : PySem.W.Frag → Bool
  fs : List SDef := []
def Ask.obs (a : Ask) (K : PySem.W.Frag) : AlF := ((a.fa.all fun f => f.ok K) && ((a.fn.all fun d => d.ok K) && ((a.fx.all fun d => d.ok K a.file) && (a.xt K && a.fs.all fun d => d.ok K))), a.fn.map (fun d => fnW K d.at_), a.fx.map (fun d => iniW K d.x), a.fs.map fun d => fnWa K (d.ad K))
def Ask.val (a : Ask) : AlF := (true, a.fn.map DefD.val, a.fx.map FltD.val, a.fs.map fun d => d.d.val)
def Says (a : Ask) (K : PySem.W.Frag) : Prop := a.obs K = a.val
def asF (g : Addr → Option Obj) (n : Nat) : List Addr := cStatics :: asD g n
def Ask.obsG (n : Nat) (a : Ask) (g : Addr → Option Obj) : AlF := a.obs (frG g (asF g n))
def hookF (n : Nat) (a : Ask) : PySem.W.Hook where
  α := AlF
  obs := fun s => a.obsG n s.heap.get?
  val := fun _ => a.val
  says := fun _ h => ∃ K : PySem.W.Frag, K.In h ∧ Says a K
  of := fun _ _ e => ⟨_, frG_in, e⟩
  keeps := fun _ _ _ ⟨K, hK, c⟩ k => ⟨K, PySem.W.Frag.In.keeps hK k, c⟩
theorem obsG_eq {n : Nat} {a : Ask} {g : Addr → Option Obj} {s : Shared} (h : ∀ b, g b = s.heap.get? b) : a.obsG n g = (hookF n a).obs s := by
  have e : g = s.heap.get? := funext h
  rw [e] <;> rfl
section
variable {a : Ask} {K : PySem.W.Frag}
theorem Says.all (c : Says a K) : (a.fa.all fun f => f.ok K) = true ∧ (a.fn.all fun d => d.ok K) = true ∧ (a.fx.all fun d => d.ok K a.file) = true ∧ a.xt K = true := by
  have c1 := ba (show ((a.fa.all fun f => f.ok K) && ((a.fn.all fun d => d.ok K) && ((a.fx.all fun d => d.ok K a.file) && (a.xt K && a.fs.all fun d => d.ok K)))) = true from congrArg (fun z : AlF => z.1) c)
  have c2 := ba c1.2
  have c3 := ba c2.2
  exact ⟨c1.1, c2.1, c3.1, (ba c3.2).1⟩
theorem Says.sts (c : Says a K) : (a.fs.all fun d => d.ok K) = true := by
  have c1 := ba (show ((a.fa.all fun f => f.ok K) && ((a.fn.all fun d => d.ok K) && ((a.fx.all fun d => d.ok K a.file) && (a.xt K && a.fs.all fun d => d.ok K)))) = true from congrArg (fun z : AlF => z.1) c)
  exact (ba (ba (ba c1.2).2).2).2
theorem Says.sdef (c : Says a K) (i : Nat) {d : SDef} (h : a.fs[i]? = some d := by rfl) : ∃ fd, FunD K d.d.name d.d.qual d.d.params d.d.body d.d.scope (d.d.dvs K) (d.d.kws K) (d.ad K) fd := by
  have e : (a.fs.map fun d => fnWa K (d.ad K)) = a.fs.map fun d => d.d.val := congrArg (fun z : AlF => z.2.2.2) c
  have e2 : (a.fs.map fun d => fnWa K (d.ad K))[i]? = (a.fs.map fun d => d.d.val)[i]? := by rw [e]
  rw [List.getElem?_map, List.getElem?_map, h] at e2
  exact SDef.funD (Option.some.inj e2) (List.all_eq_true.mp c.sts d (List.mem_of_getElem? h))
theorem Says.sok (c : Says a K) (i : Nat) {d : SDef} (h : a.fs[i]? = some d := by rfl) : d.ok K = true := List.all_eq_true.mp c.sts d (List.mem_of_getElem? h)
theorem Says.fact (c : Says a K) (i : Nat) {f : Fa} (h : a.fa[i]? = some f := by rfl) : f.ok K = true := List.all_eq_true.mp c.all.1 f (List.mem_of_getElem? h)
theorem Says.glo {h : Heap} {mg : Str → Option Value} (c : Says a K) (X : K.In h) (G : h.Ns mainGlobals mg) {x : Str} (m : Fa.glo x ∈ a.fa) : mg x = some (.ref (ga K x)) := glo_ok X G (List.all_eq_true.mp c.all.1 _ m)
theorem Says.free {h : Heap} {mg : Str → Option Value} (c : Says a K) (X : K.In h) (G : h.Ns mainGlobals mg) {x : Str} (m : Fa.free x ∈ a.fa) : mg x = none := free_ok X G (List.all_eq_true.mp c.all.1 _ m)
theorem Says.def_ (c : Says a K) (i : Nat) {d : DefD} (h : a.fn[i]? = some d := by rfl) : ∃ fd, FunD K d.name d.qual d.params d.body d.scope (d.dvs K) (d.kws K) (fAd K d.at_) fd := by
  have e : a.fn.map (fun d => fnW K d.at_) = a.fn.map DefD.val := congrArg (fun z : AlF => z.2.1) c
  have e2 : (a.fn.map fun d => fnW K d.at_)[i]? = (a.fn.map DefD.val)[i]? := by rw [e]
  rw [List.getElem?_map, List.getElem?_map, h] at e2
  exact DefD.funD (Option.some.inj e2) (List.all_eq_true.mp c.all.2.1 d (List.mem_of_getElem? h))
theorem Says.flt {prog : Program} {h : Heap} {mg : Str → Option Value} (c : Says a K) (X : K.In h) (G : h.Ns mainGlobals mg) (ef : a.file = prog.main.file) (i : Nat) {d : FltD} (hd : a.fx[i]? = some d) (t : FltT prog d) : FK.Flt prog K mg d.x (ga K d.x) d.fl d.ps := by
  have e : a.fx.map (fun d => iniW K d.x) = a.fx.map FltD.val := congrArg (fun z : AlF => z.2.2.1) c
  have e2 : (a.fx.map fun d => iniW K d.x)[i]? = (a.fx.map FltD.val)[i]? := by rw [e]
  rw [List.getElem?_map, List.getElem?_map, hd] at e2
  exact flt_ok X G (ef ▸ List.all_eq_true.mp c.all.2.2.1 d (List.mem_of_getElem? hd)) (Option.some.inj e2) t
end
end Hf
end
section
namespace C
open PySem PySem.Spec PyProof.Rows L2 RZ
def wholeB (K : PySem.W.Frag) : Bool := He.eqO (PySem.W.findIn K (.ref (He.ga K "Whole")) "__class__") (some (some (.builtin "object.__class__"))) && (He.eqO (PySem.W.specialIn K (.builtin "object.__class__") "__get__") (some (some (.builtin "getset_descriptor.__get__"))) && (decide (PySem.W.takesIn K (.builtin "object.__class__") = some true) && (decide (PySem.W.mroIn K (He.ga K "Whole") (.type "object") = some true) && He.eqO (PySem.W.nsIn K mainGlobals "gcd") (some (some (.builtin "math.gcd"))))))

end C
end
section
set_option maxHeartbeats 0
namespace D
open PySem PySem.Spec PyProof.Rows L2
def topS (i : Nat) : Stmt := PySem.Challenge.pw_leastfetched_k18_bases_by_own_determinan.main.body.getD i (.Pass ⟨0, 0, 0, 0⟩)
abbrev s_law_bag : Stmt := topS 32
abbrev s_law_draw : Stmt := topS 33
abbrev s_law_of : Stmt := topS 34
abbrev s_law_steps : Stmt := topS 39
abbrev s_law_sum : Stmt := topS 38
abbrev s_determinant : Stmt := topS 17
abbrev s_is_basis : Stmt := topS 30
abbrev s_law_some : Stmt := topS 35
abbrev s_law_int : Stmt := topS 36
abbrev s_law_like : Stmt := topS 37
abbrev s_primitive_row : Stmt := topS 3
abbrev s_first_with : Stmt := topS 9
abbrev s_led_row : Stmt := topS 5
abbrev s_struck : Stmt := topS 8
abbrev s_echelon : Stmt := topS 10
abbrev s_integer_text : Stmt := topS 25
abbrev s_row_text : Stmt := topS 26
abbrev s_rows_text : Stmt := topS 27
abbrev s_Whole_init : Stmt := inClass (topS 29) 0
abbrev s_unit_rows : Stmt := topS 6
abbrev s_Whole_everything : Stmt := inClass (topS 29) 2
abbrev s_Whole_eq : Stmt := inClass (topS 29) 3
abbrev s_law_basis_so : Stmt := topS 41
abbrev s_law_bent : Stmt := topS 40
abbrev s_law : Stmt := topS 42
end D
namespace D
open PySem PySem.Spec PyProof.Rows L2
def d_law_bag : He.DefD := ⟨("_law_bag", none), "_law_bag", "_law_bag", defArgs s_law_bag, defBody s_law_bag, defScope s_law_bag, [], []⟩
def d_law_draw : He.DefD := ⟨("_law_draw", none), "_law_draw", "_law_draw", defArgs s_law_draw, defBody s_law_draw, defScope s_law_draw, [], []⟩
def d_law_of : He.DefD := ⟨("_law_of", none), "_law_of", "_law_of", defArgs s_law_of, defBody s_law_of, defScope s_law_of, [], []⟩
def d_law_steps : He.DefD := ⟨("_law_steps", none), "_law_steps", "_law_steps", defArgs s_law_steps, defBody s_law_steps, defScope s_law_steps, [], []⟩
def d_law_sum : He.DefD := ⟨("_law_sum", none), "_law_sum", "_law_sum", defArgs s_law_sum, defBody s_law_sum, defScope s_law_sum, [], []⟩
def d_determinant : He.DefD := ⟨("determinant", none), "determinant", "determinant", defArgs s_determinant, defBody s_determinant, defScope s_determinant, [], []⟩
def d_is_basis : He.DefD := ⟨("is_basis", none), "is_basis", "is_basis", defArgs s_is_basis, defBody s_is_basis, defScope s_is_basis, [], []⟩
def d_law_some : He.DefD := ⟨("_law_some", none), "_law_some", "_law_some", defArgs s_law_some, defBody s_law_some, defScope s_law_some, [], []⟩
def d_law_int : He.DefD := ⟨("_law_int", none), "_law_int", "_law_int", defArgs s_law_int, defBody s_law_int, defScope s_law_int, [], []⟩
def d_law_like : He.DefD := ⟨("_law_like", none), "_law_like", "_law_like", defArgs s_law_like, defBody s_law_like, defScope s_law_like, [], []⟩
def d_primitive_row : He.DefD := ⟨("primitive_row", none), "primitive_row", "primitive_row", defArgs s_primitive_row, defBody s_primitive_row, defScope s_primitive_row, [], []⟩
def d_first_with : He.DefD := ⟨("first_with", none), "first_with", "first_with", defArgs s_first_with, defBody s_first_with, defScope s_first_with, [], []⟩
def d_led_row : He.DefD := ⟨("led_row", none), "led_row", "led_row", defArgs s_led_row, defBody s_led_row, defScope s_led_row, [], []⟩
def d_struck : He.DefD := ⟨("struck", none), "struck", "struck", defArgs s_struck, defBody s_struck, defScope s_struck, [], []⟩
def d_echelon : He.DefD := ⟨("echelon", none), "echelon", "echelon", defArgs s_echelon, defBody s_echelon, defScope s_echelon, [], []⟩
def d_integer_text : He.DefD := ⟨("integer_text", none), "integer_text", "integer_text", defArgs s_integer_text, defBody s_integer_text, defScope s_integer_text, [], []⟩
def d_row_text : He.DefD := ⟨("row_text", none), "row_text", "row_text", defArgs s_row_text, defBody s_row_text, defScope s_row_text, [], []⟩
def d_rows_text : He.DefD := ⟨("rows_text", none), "rows_text", "rows_text", defArgs s_rows_text, defBody s_rows_text, defScope s_rows_text, [], []⟩
def d_Whole_init : He.DefD := ⟨("Whole", some "__init__"), "__init__", "Whole.__init__", defArgs s_Whole_init, defBody s_Whole_init, defScope s_Whole_init, [], []⟩
def d_unit_rows : He.DefD := ⟨("unit_rows", none), "unit_rows", "unit_rows", defArgs s_unit_rows, defBody s_unit_rows, defScope s_unit_rows, [], []⟩
def d_Whole_everything : He.DefD := ⟨("Whole", some "everything"), "everything", "Whole.everything", defArgs s_Whole_everything, defBody s_Whole_everything, defScope s_Whole_everything, [], []⟩
def d_Whole_eq : He.DefD := ⟨("Whole", some "__eq__"), "__eq__", "Whole.__eq__", defArgs s_Whole_eq, defBody s_Whole_eq, defScope s_Whole_eq, [], []⟩
def d_law_basis_so : He.DefD := ⟨("_law_basis_so", none), "_law_basis_so", "_law_basis_so", defArgs s_law_basis_so, defBody s_law_basis_so, defScope s_law_basis_so, [], []⟩
def d_law_bent : He.DefD := ⟨("_law_bent", none), "_law_bent", "_law_bent", defArgs s_law_bent, defBody s_law_bent, defScope s_law_bent, [], []⟩
def d_law : He.DefD := ⟨("law", none), "law", "law", defArgs s_law, defBody s_law, defScope s_law, [], []⟩
def fn : List He.DefD := [d_law_bag, d_law_draw, d_law_of, d_law_steps, d_law_sum, d_determinant, d_is_basis, d_law_some, d_law_int, d_law_like, d_primitive_row, d_first_with, d_led_row, d_struck, d_echelon, d_integer_text, d_row_text, d_rows_text, d_Whole_init, d_unit_rows, d_Whole_eq, d_law_basis_so, d_law_bent, d_law]
def fs : List Hf.SDef := [⟨"Whole", "everything", d_Whole_everything⟩]
def fx : List Hf.FltD := []
def fa : List He.Fa := ([.glo "law", .glo "_law_bag", .glo "_law_draw", .glo "_law_of", .glo "_law_steps", .glo "_law_sum", .glo "determinant", .glo "is_basis", .glo "_law_some", .glo "_law_int", .glo "_law_like", .glo "primitive_row", .glo "first_with", .glo "led_row", .glo "struck", .glo "echelon", .glo "integer_text", .glo "row_text", .glo "rows_text", .glo "unit_rows", .glo "_law_basis_so", .glo "_law_bent", .glo "Whole", .free "int", .free "list", .free "len", .free "range", .free "tuple", .free "zip", .free "enumerate"] : List He.Fa) ++ ([.free "abs", .free "any", .free "min", .free "isinstance", .free "bool", .free "str", .free "all", .int "LIMIT" 1000000000000000000000000000000000000000000000000000000000000, .mkr "Whole", .cls "Whole", .meth "Whole" "__eq__", .noat "Whole" "deep", .noat "Whole" "_told", .noat "Whole" "text"] : List He.Fa)
def ask : Hf.Ask := ⟨PySem.Challenge.pw_leastfetched_k18_bases_by_own_determinan.main.file, fa, fn, fx, C.wholeB, fs⟩
abbrev R : PySem.W.OpenRow := PySem.W.OpenLaw.row PySem.Challenge.rw_leastfetched_k18_bases_by_own_determinan
abbrev hk : PySem.W.Hook := Hf.hookF 6 ask
def ob (s : PySem.W.SharedT) : Hf.AlF := Hf.Ask.obsG 6 ask (HandSHeadRun.getT s)
theorem ob_eq (s : PySem.W.SharedT) : ob s = hk.obs s.abs := Hf.obsG_eq (HandSHeadRun.getT_eq s)
def loose : List PySem.Str := (["gcd", "lcm", "_wall", "primitive_row", "lead_place", "led_row", "unit_rows", "struck", "first_with", "echelon", "lead_multiple", "lies_in", "NestError", "InvalidRows", "determinant", "one_solution", "solved", "solutions", "meet_rows", "LIMIT", "integer_text", "row_text", "rows_text", "Whole", "is_basis", "_law_bag", "_law_draw", "_law_of", "_law_some", "_law_int"] : List PySem.Str) ++ (["_law_like", "_law_sum", "_law_steps", "_law_bent", "_law_basis_so"] : List PySem.Str)
theorem run (w : World) : HandSHeadRun.RunEqI R (PySem.W.view R.prog [0, 42]) hk ob 20000 loose w := by
  unfold HandSHeadRun.RunEqI
  kernel_rfl
end D
end
section
set_option Elab.async false
set_option linter.all false
set_option maxRecDepth 100000
set_option maxHeartbeats 4000000
namespace FK
open PySem PySem.W PySem.Calls PyProof.Rows
section
variable {M : Model} {A : Around} {E : Value → Shared → Prop} {h : Heap} {g : Array GenState} {d : Drawn} {t : Nat} {os : OsState}
variable {nm q : Str} {C N : Addr} {bs bm bmB : List Value} {hdct : Bool} {sn : List Str} {sub : List Value} {ab : Bool} {col : Option Bool} {dd : Option Addr} {k0 k1 k2 k3 k5 : Option Value} {B newId initId : String} {kw : List (Str × Value)}
theorem new_checked (FM : ExcBaseFacts B newId initId bmB) (hT : ∀ X : String, bm.contains (.type X) = bmB.contains (.type X)) {rest : List Value} {Q : Unit → Shared → Prop}
    (hC : h.get? C = some (excClassObj nm q C N bs bm hdct sn sub ab col dd k0 k1 k2 k3 k5 newId)) (hq : Q () ⟨h, g, d, t, os⟩) : wpAny M A (checkBuiltinCall newId ⟨.ref C :: rest, kw⟩) Q E ⟨h, g, d, t, os⟩ := by
  have hin : (Value.ref C :: bm).contains (.type B) = true := by rw [List.contains_cons, hT, FM.hasB, Bool.or_true]
  have nostar := FM.noStar
  simp only [checkBuiltinCall, FM.newKind, FM.newSplit, FM.newRow]
  repeat (first | refine wpAny_loadPart_at hC ?_ | (refine wpAny_isSubtype_exc hC ?_; rw [hin]) | refine wpAny_staticBase_exc hC ?_ | refine wpAny_madeBy_exc hC ?_ | simp only [bne_self_eq_false, Bool.false_eq_true, if_false] | wp_step)
  exact hq
theorem typeCall_checked {M : Model} {rest : List Value} {Q : Unit → Shared → Prop} (hC : h.get? C = some (excClassObj nm q C N bs bm hdct sn sub ab col dd k0 k1 k2 k3 k5 newId)) (hq : Q () ⟨h, g, d, t, os⟩) :
    wpAny M A (checkBuiltinCall "type.__call__" ⟨.ref C :: rest, kw⟩) Q E ⟨h, g, d, t, os⟩ := by
  have f3 := tc_sub
  have ty : (⟨h, g, d, t, os⟩ : Shared).TypeIs (.ref C) "type" := ⟨_, hC, rfl⟩
  simp only [checkBuiltinCall, tc_kind, tc_split]
  repeat (any_goals (first | assumption | with_reducible refine wpAny_loadPart_at hC ?_ | with_reducible refine wpAny_onRaise ?_ | with_reducible refine wpAny_map ?_ | wp_step))
end
section
variable {prog : Program} {w : World} {A : Around} {E : Value → Shared → Prop} {R : Result → Shared → Prop} {h : Heap} {g : Array GenState} {d : Drawn} {t : Nat} {os : OsState}
variable {nm q : Str} {C N : Addr} {bs bm bmB : List Value} {hdct : Bool} {sn : List Str} {sub : List Value} {ab : Bool} {col : Option Bool} {dd : Option Addr} {k0 k1 k2 k3 k5 : Option Value} {B newId initId : String} {kw : List (Str × Value)}
theorem new_laid (FM : ExcBaseFacts B newId initId bmB) (hT : ∀ X : String, bm.contains (.type X) = bmB.contains (.type X)) {rest : List Value}
    (hC : h.get? C = some (excClassObj nm q C N bs bm hdct sn sub ab col dd k0 k1 k2 k3 k5 newId))
    (hq : R (.ok (.ret (.ref (h.objs.size + 1)))) ⟨(h.push (kdv_tup rest)).push (xo C h.objs.size none), g, d, t, os⟩) (hrest : rest.length ≤ sizeLine) :
    codeAny (model prog w) A (.builtin newId ⟨.ref C :: rest, kw⟩) R ⟨h, g, d, t, os⟩ := by
  have fin := FM.ends
  have cB : (Value.ref C :: bm).contains (.type B) = true := by rw [List.contains_cons, hT, FM.hasB, Bool.or_true]
  have cA : (Value.ref C :: bm).contains (.type "AttributeError") = false := by rw [List.contains_cons, hT, FM.noAttr]; rfl
  have cN : (Value.ref C :: bm).contains (.type "NameError") = false := by rw [List.contains_cons, hT, FM.noName]; rfl
  refine codeAny_builtinAt FM.entry ?_
  unfold Builtin.«BaseException.__new__»
  refine PySem.wpAt_bind ?_
  show PySem.wpAt _ _ _ (stack >>= _) _ _ _
  refine PySem.wpAt_bind (PySem.wpAt_stack fun p below => PySem.wpAt_of_wpAny ?_)
  wp_walk
  refine PySem.wpAt_of_wpAny ?_
  rw [FM.owner]
  repeat (first | with_reducible refine wpAny_madeHere_exc FM.canon hC ?_ | with_reducible refine wpAny_loadPart_at hC ?_ | (with_reducible refine wpAny_isSubtype_exc hC ?_; first | rw [cB] | rw [cA] | rw [cN]) | wp_step)
  show R _ _
  rw [Heap.size_push]
  exact hq
theorem typeCall_run (FM : ExcBaseFacts B newId initId bmB) (hT : ∀ X : String, bm.contains (.type X) = bmB.contains (.type X)) {rest : List Value} {fI : Addr} {Q : Fin → Shared → Prop}
    (hC : h.get? C = some (excClassObj nm q C N bs bm hdct sn sub ab col dd k0 k1 k2 k3 k5 newId))
    (hi : Looks (model prog w) h (typeLookup (.ref C) "__init__") (some (.ref fI))) (hb : ∀ self, Looks (model prog w) h (bindSpecial (.ref fI) self) (.ref fI, [self])) (hrest : rest.length ≤ sizeLine)
    (hq : codeAny (model prog w) A (.call (.ref fI) ⟨.ref (h.objs.size + 1) :: rest, kw⟩)
      (fun r s' => match r with | .ok (.ret v) => v = .none ∧ Q (.done (.ret (.ref (h.objs.size + 1)))) s' | .ok _ => False | .error e => E e s')
      ⟨(h.push (kdv_tup rest)).push (xo C h.objs.size none), g, d, t, os⟩) :
    wpAny (model prog w) A (Builtin.«type.__call__» ⟨.ref C :: rest, kw⟩) Q E ⟨h, g, d, t, os⟩ := by
  repeat (first | with_reducible refine wpAny_loadPart_at hC ?_ | with_reducible refine wpAny_madeBy_exc hC ?_ | wp_step)
  refine codeAny_call_builtin_code (Code.quiet_builtin _ FM.quiet) (new_checked FM hT hC ?_)
  refine new_laid FM hT hC ?_ hrest
  show wpAny _ _ _ _ _ _
  have k : ∀ b o, h.get? b = some o → ((h.push (kdv_tup rest)).push (xo C h.objs.size none)).get? b = some o := fun b o e => Heap.get?_push_of_some _ (Heap.get?_push_of_some _ e)
  have C1 := k _ _ hC
  have e1 : ((h.push (kdv_tup rest)).push (xo C h.objs.size none)).get? (h.objs.size + 1) = some (xo C h.objs.size none) := by heap_get
  have cC : (Value.ref C :: bm).contains (.ref C) = true := by simp
  have i1 := hi.keeps k
  have b1 := (hb (.ref (h.objs.size + 1))).keeps k
  unfold isInstance
  repeat (first | with_reducible refine wpAny_loadPart_at e1 ?_ | (with_reducible refine wpAny_isSubtype_exc C1 ?_; rw [cC]) | wp_step)
  show wpAny _ _ (typeLookup (.ref C) _) _ _ _
  refine i1.at ?_
  refine wpAny_holding (wpAny_bind (b1.at ?_))
  refine wpAny_bind (wpAny_call (codeAny_mono hq fun r s' z => ?_))
  rcases r with e | (v | _ | _ | _) <;> first | exact z | exact z.elim | skip
  obtain ⟨rfl, z⟩ := z
  first
    | exact wpAny_pure (wpAny_pure z)
    | (wp_walk; exact z)
theorem call_ownK (FM : ExcBaseFacts B newId initId bmB) (hT : ∀ X : String, bm.contains (.type X) = bmB.contains (.type X)) {rest : List Value} {fI : Addr}
    (hC : h.get? C = some (excClassObj nm q C N bs bm hdct sn sub ab col dd k0 k1 k2 k3 k5 newId))
    (hi : Looks (model prog w) h (typeLookup (.ref C) "__init__") (some (.ref fI))) (hb : ∀ self, Looks (model prog w) h (bindSpecial (.ref fI) self) (.ref fI, [self])) (hrest : rest.length ≤ sizeLine)
    (hq : codeAny (model prog w) (A.under (.builtin "type.__call__" ⟨.ref C :: rest, kw⟩)) (.call (.ref fI) ⟨.ref (h.objs.size + 1) :: rest, kw⟩) (InitBack (h.objs.size + 1) R)
      ⟨(h.push (kdv_tup rest)).push (xo C h.objs.size none), g, d, t, os⟩) :
    codeAny (model prog w) A (.call (.ref C) ⟨rest, kw⟩) R ⟨h, g, d, t, os⟩ := by
  have f1 := tc_lookup
  have f2 := tc_bind (.ref C)
  have ty : (⟨h, g, d, t, os⟩ : Shared).TypeIs (.ref C) "type" := ⟨_, hC, rfl⟩
  refine codeAny_of_tree ?_
  show wpAny _ _ (callAny (.ref C) _) _ _ _
  repeat (any_goals (first | assumption | with_reducible refine wpAny_loadPart_at hC ?_ | wp_step))
  refine ⟨rfl, ?_⟩
  refine codeAny_call_builtin_at (Code.quiet_builtin _ (by decide +kernel)) entry_typeCall (typeCall_checked hC (typeCall_run FM hT hC hi hb hrest ?_))
  refine codeAny_mono hq fun r s' z => ?_
  rcases r with e | (v | _ | _ | _) <;> exact z
end
/-- how keywords bind: ks in their order at the call, the parameters' values are the i-th of them -/
def BindK (qual : Str) (st : Stmt) (ps ks : List Str) (g : {α : Type} → List α → List α) : Prop := ∀ (doc pm ct cda : Value) (an : Option Addr) (cc : Addr) (self : Value) (us : List Value), us.length = ks.length →
  bindArgs (ksFn "__init__" qual (L2.defArgs st) (L2.defBody st) (L2.defScope st) .none .none doc pm an cda ct cc) ⟨[self], ks.zip us⟩ = pure ((("self" : Str) :: ps).zip (self :: g us))
section
variable {prog : Program} {w : World} {A : Around} {E : Value → Shared → Prop} {R : Result → Shared → Prop} {K : Frag} {C : Addr} {s : Shared} {x : Str} {ps ks : List Str} {fl : List (Str × Src)} {mg mb : Str → Option Value} {gg : {α : Type} → List α → List α}
/-- the same as a Flt, and how these keywords bind -/
structure FltK (prog : Program) (K : Frag) (mg : Str → Option Value) (x : Str) (C : Addr) (fl : List (Str × Src)) (ps ks : List Str) (gg : {α : Type} → List α → List α) : Prop where
  ex : ∃ (B newId initId : String) (bmB : List Value) (st : Stmt) (fI : Addr), Fam B newId initId bmB ∧ initId = B ++ ".__init__" ∧ Cl K C B newId bmB ∧ IniFn prog K C fI (x ++ ".__init__") st ∧ IniTx prog st ps fl ∧ BindK (x ++ ".__init__") st ps ks gg ∧
    findIn K (.ref C) "__init__" = some (some (.ref fI)) ∧ typeIn K (.ref fI) = some (.type "function")
  T : Flt prog K mg x C fl ps
  rel : ∀ (vs : List L2.V) (us : List Value), L2.Vals vs us → L2.Vals (gg vs) (gg us)
  len : ∀ vs : List L2.V, vs.length = ks.length → (gg vs).length = ps.length
theorem madeK (T : FltK prog K mg x C fl ps ks gg) {us : List Value} {vs : List L2.V} (r : L2.Vals vs us) (hl : vs.length = ks.length)
    (X : K.In s.heap) (G : s.heap.Ns mainGlobals mg) (Bt : s.heap.Ns builtinsNs mb) (hbt : mb "super" = some (.type "super")) (lim : s.heap.NoLimit) (hroom : A.depth + 1 < recursionLimit)
    (hq : ∀ h' tk e, Made s.heap h' e C (flds ps fl (gg vs)) → R (.ok (.ret (.ref e))) { s with heap := h', toks := tk }) :
    codeAny (model prog w) A (.call (.ref C) ⟨[], ks.zip us⟩) R s := by
  obtain ⟨B, newId, initId, bmB, st, fI, FM, ei, TC, FI, TX, bd, hi, tI⟩ := T.ex
  obtain ⟨nm, N', qn, bs, bm, hdct, sn, sub, ab, col, dd, k0, k1, k2, k3, k5, hC, hT⟩ := excInit_of X TC.ini
  obtain ⟨hp, g, dr, tk, os⟩ := s
  have k : ∀ b o, hp.get? b = some o → ((hp.push (kdv_tup [])).push (xo C hp.objs.size none)).get? b = some o := fun b o e => Heap.get?_push_of_some _ (Heap.get?_push_of_some _ e)
  have hget : ((hp.push (kdv_tup [])).push (xo C hp.objs.size none)).get? (hp.objs.size + 1) = some (xo C hp.objs.size none) := by heap_get
  have hnx : K.lookup (hp.objs.size + 1) = none := by
    cases e : K.lookup (hp.objs.size + 1) with
    | none => rfl
    | some o =>
      have z : hp.get? (hp.objs.size + 1) = some o := X _ _ e
      exact absurd (Nat.lt_of_succ_lt (Heap.lt_size z)) (Nat.lt_irrefl _)
  have r2 := T.rel vs us r
  have l2 := T.len vs hl
  have lu : us.length = ks.length := by rw [← r.length]; exact hl
  refine call_ownK FM.base hT hC (looks_findIn X hi) (fun self => bind_fn X self tI) (Nat.zero_le _) ?_
  refine init_run (s := ⟨(hp.push (kdv_tup [])).push (xo C hp.objs.size none), g, dr, tk, os⟩) (us := gg us) (vs := gg vs) FM ei TC FI TX T.T.ne T.T.sup T.T.no T.T.opq (fun fd lk fo hfd => ?_) r2 (by rw [← r2.length]; exact l2) (X.keeps k) (G.keeps k) (Bt.keeps k) hbt (lim.keeps k) hget hnx ?_ fun h' tk' EN => ?_
  · obtain ⟨oc, od, doc, pm, ct, an, osl, cda, cc, lk2, _⟩ := FI.ex
    rw [lk] at lk2
    cases lk2
    cases hfd
    exact BindsTo.of_eq (bd doc pm ct (.ref cda) an cc (.ref (hp.objs.size + 1)) us lu)
  · show A.depth + 1 < recursionLimit
    exact hroom
  · obtain ⟨t1, d, e1, d1, d2, mA, n1, rel⟩ := EN.ex
    have old : ∀ b o, hp.get? b = some o → h'.get? b = some o := fun b o e => EN.keep b o (Nat.ne_of_lt (Nat.lt_succ_of_lt (Heap.lt_size e))) (k b o e)
    have z : hp.objs.size ≤ d := by
      have q2 : hp.objs.size + 1 + 1 ≤ d := by simpa only [Heap.size_push] using d1
      omega
    exact ⟨rfl, hq h' tk' (hp.objs.size + 1) ⟨old, Nat.le_succ _, t1, d, e1, z, d2, mA, n1, rel⟩⟩
end
end FK
namespace L2
open PySem PySem.Spec PyProof.Rows
section
variable {X : Cx} {x : Str} {C : Addr} {fl : List (Str × FK.Src)} {ps ks : List Str} {gg : {α : Type} → List α → List α}
/-- C(k = e, ..) as a value -/
def tMkVK (C : Addr) (ps ks : List Str) (gg : {α : Type} → List α → List α) (fl : List (Str × FK.Src)) (tk : TA) : TE := fun σ H Q => tk σ H fun vs H1 => vs.length = ks.length ∧ ∀ a d, H1 a = none → H1 d = none → d ≠ a → Q (.ref a) (upd (upd H1 d (.xd (FK.flds ps fl (gg vs)))) a (exo a C (some d)))
theorem pe_fltK {kws : List Keyword} {tk : TA} {p pos : Pos} {k : Nat} (T : FK.FltK X.prog X.K X.mg x C fl ps ks gg) (hr : Room (k + 1) X.A) (hkw : PK X kws tk) (hall : (backToKw pos (keywordEach kws X.env)).all (·.1.isSome) = true := by rfl)
    (hks : (backToKw pos (keywordEach kws X.env)).filterMap (·.1) = ks := by rfl) (hg : Gl X x := by rfl) (hne : kws ≠ [] := by decide)
    (hpl : ((backTo pos (starEach [] X.env)).any (·.1) || (backToKw pos (keywordEach kws X.env)).any (·.1.isNone)) = false := by rfl) :
    PE X (.Call (.Name x p) [] kws pos) (tMkVK C ps ks gg fl tk) := by
  refine ⟨fun pins s σ H Q I h => ?_⟩
  refine wpAny_Call_Name_kw (ld_glob I hg T.T.gC ?_ T.T.db)
  refine PySem.W.callWith_KW0 (h₀ := X.base) I.ok.mod.kin T.T.kC hall (thn (hkw.run pos pins s σ H _ I h) fun us s1 ⟨vs, H1, I1, r1, hl, q1⟩ => ⟨I1.kIn, ?_⟩) hpl
  rw [hks]
  obtain ⟨mb, hmb, hbt⟩ := I1.ok.mod.blt
  refine wpAny_call (FK.madeK T r1 hl I1.kIn (I1.ok.mod.glob.keeps I1.bk) (hmb.keeps I1.bk) ((hbt "super" (by decide)).trans (by first | boot_by_name | rfl | kernel_rfl)) I1.nolimit ?_ fun h' tk e M => ?_)
  · have := hr.dp
    omega
  · exact mk_value I1 M q1
end
/-! ### isinstance of an error -/
/-- isinstance(e, c), e an error that is held -/
def rIsiX (K : PySem.W.Frag) : List V → Hp → VK → Prop := fun xs H Q => ∃ (a C d : Addr) (fs : List (Str × V)) (c : V) (u : Value) (b : Bool), xs = [.ref a, c] ∧ ExV H a C d fs ∧ (∃ prog mg nm fl ps, FK.Flt prog K mg nm C fl ps) ∧ ClsV c u ∧ PySem.W.kitOne K (.ref C) u = some b ∧ Q (.bl b) H
theorem call_isiX {X : Cx} : CallR X (.builtin "isinstance") (rIsiX X.K) := by
  intro pins s σ H xs us Q I r h
  obtain ⟨a, C, d, fs, c, u, b, rfl, ⟨ea, ed⟩, ⟨_, _, _, _, _, T⟩, k, e, q⟩ := h
  obtain ⟨u1, u2, rfl, r1, r2⟩ := vals2 r
  have e2 := k.eq r2
  subst e2
  obtain rfl : u1 = Value.ref a := r1
  obtain ⟨t1, ho⟩ := exo_at I.hok ea
  obtain ⟨mA, hns, hr⟩ := (show ObjOk X.prog X.w H s.heap d (.xd fs) from I.hok d _ ed)
  obtain ⟨od, hod, hl⟩ := lookIn_ns hns
  have J : PySem.W.InstAt s.heap a (FK.xo C t1 (some d)) C (some od) := ⟨ho, rfl, rfl, hod⟩
  have hcl : (PySem.W.clsIn X.K C).isSome = true := by
    obtain ⟨cd, hc, _⟩ := PySem.W.any_some T.dict
    rw [hc] <;> rfl
  exact PySem.W.kia_one (PySem.W.kitx_exc hcl T.ga T.gg T.exC T.clsA T.clsG T.clsT T.mrO) I.kIn J e (fun z => nomatch z) fun tk => ⟨.bl b, H, I.tok tk, rfl, q⟩
def rIsiU (K : PySem.W.Frag) : List V → Hp → VK → Prop := fun xs H Q => rIsi K xs H Q ∨ rIsiX K xs H Q
theorem c_isi {X : Cx} : CallR X (.builtin "isinstance") (rIsiU X.K) := CallR.or call_isi call_isiX
end L2
end
section
set_option Elab.async false
set_option linter.all false
set_option maxRecDepth 100000
set_option maxHeartbeats 4000000
/-! Rules of the layer joined by their operands' kinds; readings opened one step at a time. -/
namespace U
open PySem PySem.Spec PyProof.Rows L2 RZ

/-! ### one def called by name -/
/-- a def: its promise sp (level k), where its name stands, how it binds -/
structure Fd (P : Program) (w : World) (K : PySem.W.Frag) (mg : Str → Option Value) (base : Heap) (CX : CXT) (x : Str) (k : Nat) (ps : List Str) (sp : Sp) : Prop where
  ex : ∃ (f : Addr) (fd : FuncData), FnOk P w K mg base CX k f fd ps sp ∧ mg x = some (.ref f) ∧ PySem.W.keepIn K (.ref f) = true ∧ Binds K fd ps []
  nd : (x == ("__debug__" : Str)) = false
theorem Fd.mono {P : Program} {w : World} {K : PySem.W.Frag} {mg : Str → Option Value} {base : Heap} {CX : CXT} {x : Str} {j k : Nat} {ps : List Str} {sp : Sp} (D : Fd P w K mg base CX x j ps sp) (h : j ≤ k) : Fd P w K mg base CX x k ps sp := by
  obtain ⟨f, fd, F, a, b, c⟩ := D.ex
  exact ⟨⟨f, fd, F.mono h, a, b, c⟩, D.nd⟩
theorem fd_of {P : Program} {w : World} {K : PySem.W.Frag} {mg : Str → Option Value} {base : Heap} {CX : CXT} {x : Str} {k : Nat} {ps : List Str} {sp : Sp} {st : Stmt} {f : Addr} {fd : FuncData}
    (F : FunD K x x (defArgs st) (defBody st) (defScope st) [] [] f fd) (ok : FnOk P w K mg base CX k f fd ps sp) (g : mg x = some (.ref f))
    (h : ∀ (kV doc pm : Value) (an : Option Addr) (cdv ct : Value) (us : List Value), us.length = ps.length → bindArgs (PySem.W.fnOf x x (defArgs st) (defBody st) (defScope st) .none kV doc pm an cdv ct) ⟨us, []⟩ = pure (ps.zip us)) (nd : (x == ("__debug__" : Str)) = false := by decide) :
    Fd P w K mg base CX x k ps sp := ⟨⟨f, fd, ok, g, F.kp, FunD.bindsN F h⟩, nd⟩
section
variable {X : Cx} {x : Str} {p pos : Pos} {e : Expr} {es : List Expr} {t : TA} {k : Nat} {ps : List Str} {sp : Sp}
theorem pe_fd (D : Fd X.prog X.w X.K X.mg X.base CX0 x k ps sp) (hr : Room k X.A) (ha : PA X (e :: es) t) (hg : Gl X x := by rfl)
    (he : starEach (e :: es) X.env = (false, eval e X.env) :: starEach es X.env := by rfl) (hpl : (backTo pos (starEach es X.env)).any (·.1) = false := by rfl) :
    PE X (.Call (.Name x p) (e :: es) [] pos) (tCall sp [] E0 t) := by
  obtain ⟨f, fd, F, m, kp, b⟩ := D.ex
  exact pe_call F hr hg m kp b .nil pass0 ha D.nd he hpl
theorem pe_fd0 (D : Fd X.prog X.w X.K X.mg X.base CX0 x k ps sp) (hr : Room k X.A) (hg : Gl X x := by rfl) : PE X (.Call (.Name x p) [] [] pos) (tCall sp [] E0 tNil) := by
  obtain ⟨f, fd, F, m, kp, b⟩ := D.ex
  exact pe_call0 F hr hg m kp b .nil pass0 D.nd
end

/-! ### operators by their operands' kinds -/
def rAddS : R2 := fun x y H Q => ∃ i j, x = .str i ∧ y = .str j ∧ i.length + j.length ≤ sizeLine ∧ Q (.str (i ++ j)) H
def rAddI : R2 := rI0 fun i j => .int (i + j)
def rSubI : R2 := rI0 fun i j => .int (i - j)
def rAddU (K : PySem.W.Frag) : R2 := fun x y H Q => rAddI x y H Q ∨ (rAddS x y H Q ∨ (rCat x y H Q ∨ rCatT K x y H Q))
def rMulU : R2 := fun x y H Q => rI CMul (fun i j => .int (i * j)) x y H Q ∨ (rI CMulW (fun i j => .int (i * j)) x y H Q ∨ rRep x y H Q)
def rDivU : R2 := fun x y H Q => rI CDivW (fun i j => .int (i / j)) x y H Q ∨ rI CDivN (fun i j => .int (i.fdiv j)) x y H Q
def rModU : R2 := fun x y H Q => rI (fun _ j => 0 < j) (fun i j => .int (i % j)) x y H Q ∨ rI (fun _ j => j ≠ 0) (fun i j => .int (i.fmod j)) x y H Q
def rPowU : R2 := rI CPow fun i j => .int (i ^ j.toNat)
def rEqU (K : PySem.W.Frag) : R2 := fun x y H Q => rEq x y H Q ∨ rEqD K x y H Q
def rNeU (K : PySem.W.Frag) : R2 := fun x y H Q => rNe x y H Q ∨ rNeD K x y H Q
def rLtI : R2 := rI0 fun i j => .bl (decide (i < j))
def rLeI : R2 := rI0 fun i j => .bl (decide (i ≤ j))
def rGtI : R2 := rI0 fun i j => .bl (decide (j < i))
def rGeI : R2 := rI0 fun i j => .bl (decide (j ≤ i))
def rInStr : R2 := fun x y H Q => ∃ i j, x = .str i ∧ y = .str j ∧ Q (.bl (!(Builtin.Str.occurrences j i 0 j.length 1).isEmpty)) H
def rNInStr : R2 := fun x y H Q => ∃ i j, x = .str i ∧ y = .str j ∧ Q (.bl (!(!(Builtin.Str.occurrences j i 0 j.length 1).isEmpty))) H
def rInU (K : PySem.W.Frag) : R2 := fun x y H Q => rIn K false x y H Q ∨ (rInStr x y H Q ∨ rInD K x y H Q)
def rNInU (K : PySem.W.Frag) : R2 := fun x y H Q => rIn K true x y H Q ∨ (rNInStr x y H Q ∨ rNotInD K x y H Q)
def rIsN : R2 := fun x y H Q => y = .non ∧ Q (.bl (decide (x = .non))) H
def rNotN : R2 := fun x y H Q => y = .non ∧ Q (.bl (!decide (x = .non))) H
def rNegI : V → Hp → VK → Prop := rU fun i => .int (-i)
section
variable {X : Cx}
theorem o_add : OpR X (binaryOp .Add) (rAddU X.K) := OpR.or op_add (OpR.or op_add_str (OpR.or op_cat op_catT))
theorem o_sub : OpR X (binaryOp .Sub) rSubI := op_sub
theorem o_mul : OpR X (binaryOp .Mult) rMulU := OpR.or op_mul (OpR.or op_mulW op_rep)
theorem o_div : OpR X (binaryOp .FloorDiv) rDivU := OpR.or op_fdivW op_fdivN
theorem o_mod : OpR X (binaryOp .Mod) rModU := OpR.or op_mod op_modN
theorem o_pow : OpR X (binaryOp .Pow) rPowU := op_pow
theorem o_eq (hu : X.A.units + 64 < cLine) : OpR X (compareOp .Eq) (rEqU X.K) := OpR.or op_eq (op_eqD hu)
theorem o_ne (hu : X.A.units + 64 < cLine) : OpR X (compareOp .NotEq) (rNeU X.K) := OpR.or op_ne (op_neD hu)
theorem o_lt : OpR X (compareOp .Lt) rLtI := op_lt
theorem o_le : OpR X (compareOp .LtE) rLeI := op_le
theorem o_gt : OpR X (compareOp .Gt) rGtI := op_gt
theorem o_ge : OpR X (compareOp .GtE) rGeI := op_ge
theorem o_in (hu : X.A.units + 65 < cLine) : OpR X (compareOp .In) (rInU X.K) := OpR.or op_in_seq (OpR.or op_in_str (op_inD hu))
theorem o_nin (hu : X.A.units + 65 < cLine) : OpR X (compareOp .NotIn) (rNInU X.K) := OpR.or op_notIn_seq (OpR.or op_notIn_str (op_notInD hu))
theorem o_is : OpR X (compareOp .Is) rIsN := op_isN
theorem o_isnot : OpR X (compareOp .IsNot) rNotN := op_notN
theorem o_neg : UnR X (unaryOp .USub) rNegI := un_neg
end
def rSlU (K : PySem.W.Frag) : V → Option Int → Option Int → Hp → VK → Prop := fun x lo hi H Q => rSlL K x lo hi H Q ∨ (rSlS x lo hi H Q ∨ rSlA K x lo hi H Q)
theorem o_sl {X : Cx} : SlR X (rSlU X.K) := SlR.or sl_list (SlR.or sl_str sl_tupA)
def rLenU (K : PySem.W.Frag) : List V → Hp → VK → Prop := fun xs H Q => ∃ x n, xs = [x] ∧ LenV K x H n ∧ Q (.int n) H
def rAbs : List V → Hp → VK → Prop := fun xs H Q => ∃ i, xs = [.int i] ∧ Q (.int (if i < 0 then -i else i)) H
def rMin2 : List V → Hp → VK → Prop := fun xs H Q => ∃ i j, xs = [.int i, .int j] ∧ Q (.int (if j < i then j else i)) H
def rMax2 : List V → Hp → VK → Prop := fun xs H Q => ∃ i j, xs = [.int i, .int j] ∧ Q (.int (if j > i then j else i)) H
def rInt1 : List V → Hp → VK → Prop := fun xs H Q => (∃ i, xs = [.int i] ∧ Q (.int i) H) ∨ ∃ k, xs = [.bl k] ∧ Q (.int (if k then 1 else 0)) H
def rListOf (K : PySem.W.Frag) : List V → Hp → VK → Prop := fun xs H Q => ∃ p ys, xs = [.ref p] ∧ (SqL K H p ys ∨ SqT K H p ys) ∧ ∀ l, H l = none → Q (.ref l) (upd H l (.lst ys))
def rTupOf (K : PySem.W.Frag) : List V → Hp → VK → Prop := fun xs H Q => ∃ p ys, xs = [.ref p] ∧ ((SqL K H p ys ∧ ∀ l, H l = none → Q (.ref l) (upd H l (.tup ys))) ∨ (SqT K H p ys ∧ Q (.ref p) H))
section
variable {X : Cx}
theorem c_len : CallR X (.builtin "len") (rLenU X.K) := call_len
theorem c_abs : CallR X (.builtin "abs") rAbs := call_abs
theorem c_min2 (hc : X.calm = true) : CallR X (.builtin "min") rMin2 := call_min2 hc
theorem c_max2 (hc : X.calm = true) : CallR X (.builtin "max") rMax2 := call_max2 hc
theorem c_int1 : CallR X (.type "int") rInt1 := call_int1
theorem c_list : CallR X (.type "list") (rListOf X.K) := call_list_of
theorem c_tuple : CallR X (.type "tuple") (rTupOf X.K) := call_tuple_of
end

/-! ### readings opened -/
section
variable {K : PySem.W.Frag} {σ σ' : L2.St} {H : Hp} {Q : VK} {D : Ends} {ta tb te to tc : TE} {tt tu : TT} {ta' t tk : TA} {r r' : R2} {i j : Nat} {v w x y : V} {sp : Sp} {E : XK} {s u : TS} {g : TG} {gs : TGs} {vs : List V} {Qb : Bool → Hp → Prop} {Qs : List V → Hp → Prop} {Qσ : L2.St → Hp → Prop} {R : It → Hp → Prop}
theorem v_var (h : σ[i]? = some (some v)) (q : Q v H) : tVar i σ H Q := ⟨v, h, q⟩
theorem v_c (q : Q v H) : tC v σ H Q := q
theorem v_op (q : ta σ H fun x H1 => tb σ H1 fun y H2 => r x y H2 Q) : tOp r ta tb σ H Q := q
theorem v_un {r : V → Hp → VK → Prop} (q : ta σ H fun x H1 => r x H1 Q) : tUn r ta σ H Q := q
theorem v_cb {r : List V → Hp → VK → Prop} (q : t σ H fun vs H1 => r vs H1 Q) : tCB r t σ H Q := q
theorem v_nil (q : Qs [] H) : tNil σ H Qs := q
theorem v_cons (q : ta σ H fun x H1 => t σ H1 fun xs H2 => Qs (x :: xs) H2) : tCons ta t σ H Qs := q
theorem v_if (q : tt σ H fun c H1 => if c = true then ta σ H1 Q else tb σ H1 Q) : tIf tt ta tb σ H Q := q
theorem v_test (q : ta σ H fun x H1 => ∃ k, x = .bl k ∧ Qb k H1) : tTest ta σ H Qb := q
theorem v_b (q : ta σ H fun x H1 => ∃ k, x = .bl k ∧ Qb k H1) : tB ta σ H Qb := q
theorem v_bl {b : Bool} {P : Bool → Prop} (q : P b) : ∃ k, V.bl b = .bl k ∧ P k := ⟨b, rfl, q⟩
theorem v_and (q : tt σ H fun c H1 => if c = true then tu σ H1 Qb else Qb false H1) : tAnd tt tu σ H Qb := q
theorem v_or (q : tt σ H fun c H1 => if c = true then Qb true H1 else tu σ H1 Qb) : tOr tt tu σ H Qb := q
theorem v_not (q : tt σ H fun c H1 => Qb (!c) H1) : tNot tt σ H Qb := q
theorem v_andV (q : ta σ H fun x H1 => ∃ c, x = .bl c ∧ if c = true then tb σ H1 Q else Q (.bl false) H1) : tAndV ta tb σ H Q := q
theorem v_orV (q : ta σ H fun x H1 => ∃ c, x = .bl c ∧ if c = true then Q (.bl true) H1 else tb σ H1 Q) : tOrV ta tb σ H Q := q
theorem v_notV (q : ta σ H fun x H1 => ∃ c, x = .bl c ∧ Q (.bl (!c)) H1) : tNotV ta σ H Q := q
theorem v_tup (q : t σ H fun xs H1 => xs.length ≤ sizeLine ∧ ∀ p, H1 p = none → Q (.ref p) (upd H1 p (.tup xs))) : tTup t σ H Q := q
theorem v_lst (q : t σ H fun xs H1 => xs.length ≤ sizeLine ∧ ∀ p, H1 p = none → Q (.ref p) (upd H1 p (.lst xs))) : tLst t σ H Q := q
theorem v_call (q : t σ H fun vs H1 => sp vs H1 Q E) : tCall sp [] E t σ H Q := by
  have e : (fun vs H1 => sp (vs ++ []) H1 Q E) = fun vs H1 => sp vs H1 Q E := by
    funext vs H1
    rw [List.append_nil]
  show t σ H fun vs H1 => sp (vs ++ []) H1 Q E
  rw [e]
  exact q
theorem v_sl {r : V → Option Int → Option Int → Hp → VK → Prop} {tl th : TO} (q : te σ H fun x H1 => tl σ H1 fun l H2 => th σ H2 fun u H3 => r x l u H3 Q) : tSl r te tl th σ H Q := q
theorem v_nopart {Qo : Option Int → Hp → Prop} (q : Qo none H) : tNoPart σ H Qo := q
theorem v_part {Qo : Option Int → Hp → Prop} (q : te σ H fun x H1 => ∃ i, x = .int i ∧ Qo (some i) H1) : tPart te σ H Qo := q
theorem v_xi {n : Int} {P : Int → Prop} (q : P n) : ∃ k, V.int n = .int k ∧ P k := ⟨n, rfl, q⟩
/-! statements -/
theorem v_next (q : D.nx σ H) : tNext D σ H := q
theorem v_seq (q : s { D with nx := u D } σ H) : tSeq s u D σ H := q
theorem v_drop (q : te σ H fun _ H1 => D.nx σ H1) : tDrop te D σ H := q
theorem v_ret (q : te σ H D.rt) : tRet te D σ H := q
theorem v_retn (q : D.rt .non H) : tRetN D σ H := q
theorem v_ifs (q : tt σ H fun b H1 => if b = true then s D σ H1 else u D σ H1) : tIfS tt s u D σ H := q
theorem v_asg (q : te σ H fun x H1 => g x σ H1 D.nx) : tAsg te g D σ H := q
theorem v_name (q : Qσ (σ.set i (some v)) H) : gName i v σ H Qσ := q
theorem v_par (q : t σ H fun vs H1 => ∃ v w, vs = [v, w] ∧ D.nx ((σ.set i (some v)).set j (some w)) H1) : tPar i j t D σ H := q
theorem v_x2 {P : V → V → Prop} (q : P v w) : ∃ a b, [v, w] = [a, b] ∧ P a b := ⟨v, w, rfl, q⟩
theorem v_sub {ts : TSet} (q : ta σ H fun o H1 => tb σ H1 fun i H2 => ts o i v H2 fun H3 => Qσ σ H3) : gSub ta tb ts v σ H Qσ := q
theorem v_gtup {a : Addr} {n : Nat} (h : SqT K H a vs) (l : vs.length = n) (q : gs vs σ H Qσ) : gTup K n gs (.ref a) σ H Qσ := ⟨a, vs, rfl, h, l, q⟩
theorem v_gcons (q : g v σ H fun σ' H' => gs vs σ' H' Qσ) : gCons g gs (v :: vs) σ H Qσ := ⟨v, vs, rfl, q⟩
theorem v_gnil (q : Qσ σ H) : gNil [] σ H Qσ := ⟨rfl, q⟩
/-! operators at their kinds -/
theorem v_i0 {f : Int → Int → V} {a b : Int} (q : Q (f a b) H) : rI0 f (.int a) (.int b) H Q := ⟨a, b, rfl, rfl, q⟩
theorem v_i {C : Int → Int → Prop} {f : Int → Int → V} {a b : Int} (c : C a b) (q : Q (f a b) H) : rI C f (.int a) (.int b) H Q := ⟨a, b, rfl, rfl, c, q⟩
theorem v_addi {a b : Int} (q : Q (.int (a + b)) H) : rAddU K (.int a) (.int b) H Q := .inl (v_i0 q)
theorem v_adds {a b : Str} (l : a.length + b.length ≤ sizeLine) (q : Q (.str (a ++ b)) H) : rAddU K (.str a) (.str b) H Q := .inr (.inl ⟨a, b, rfl, rfl, l, q⟩)
theorem v_addl {a b : Addr} {xs ys : List V} (ha : H a = some (.lst xs)) (hb : H b = some (.lst ys)) (l : xs.length + ys.length ≤ sizeLine) (q : ∀ p, H p = none → Q (.ref p) (upd H p (.lst (xs ++ ys)))) : rAddU K (.ref a) (.ref b) H Q :=
  .inr (.inr (.inl ⟨a, b, xs, ys, rfl, rfl, ha, hb, l, q⟩))
theorem v_subi {a b : Int} (q : Q (.int (a - b)) H) : rSubI (.int a) (.int b) H Q := v_i0 q
theorem v_muli {a b : Int} (c : CMul a b) (q : Q (.int (a * b)) H) : rMulU (.int a) (.int b) H Q := .inl (v_i c q)
theorem v_mulw {a b : Int} (c : CMulW a b) (q : Q (.int (a * b)) H) : rMulU (.int a) (.int b) H Q := .inr (.inl (v_i c q))
theorem v_divi {a b : Int} (c : CDivW a b) (q : Q (.int (a / b)) H) : rDivU (.int a) (.int b) H Q := .inl (v_i c q)
theorem v_modi {a b : Int} (c : 0 < b) (q : Q (.int (a % b)) H) : rModU (.int a) (.int b) H Q := .inl (v_i (C := fun _ j => 0 < j) c q)
theorem v_pow {a b : Int} (c : CPow a b) (q : Q (.int (a ^ b.toNat)) H) : rPowU (.int a) (.int b) H Q := v_i c q
theorem v_neg {a : Int} (q : Q (.int (-a)) H) : rNegI (.int a) H Q := ⟨a, rfl, q⟩
theorem v_eqi {a b : Int} (q : Q (.bl (decide (a = b))) H) : rEqU K (.int a) (.int b) H Q := .inl ⟨rfl, by rw [show decide (V.int a = V.int b) = decide (a = b) from by rw [decide_eq_decide]; exact ⟨fun z => V.int.inj z, fun z => by rw [z]⟩]; exact q⟩
theorem v_eqs {a b : Str} (q : Q (.bl (decide (a = b))) H) : rEqU K (.str a) (.str b) H Q := .inl ⟨rfl, by rw [show decide (V.str a = V.str b) = decide (a = b) from by rw [decide_eq_decide]; exact ⟨fun z => V.str.inj z, fun z => by rw [z]⟩]; exact q⟩
theorem v_eqb {a b : Bool} (q : Q (.bl (decide (a = b))) H) : rEqU K (.bl a) (.bl b) H Q := .inl ⟨rfl, by rw [show decide (V.bl a = V.bl b) = decide (a = b) from by rw [decide_eq_decide]; exact ⟨fun z => V.bl.inj z, fun z => by rw [z]⟩]; exact q⟩
theorem v_eqd {d e : PyData} (hd : Dp K H x d) (he : Dp K H y e) (sd : SeqAt.shaped d = true) (se : SeqAt.shaped e = true) (q : Q (.bl (PyData.eqv d e)) H) : rEqU K x y H Q := .inr ⟨d, e, hd, he, sd, se, q⟩
theorem v_nei {a b : Int} (q : Q (.bl (!decide (a = b))) H) : rNeU K (.int a) (.int b) H Q := .inl ⟨rfl, by rw [show decide (V.int a = V.int b) = decide (a = b) from by rw [decide_eq_decide]; exact ⟨fun z => V.int.inj z, fun z => by rw [z]⟩]; exact q⟩
theorem v_nes {a b : Str} (q : Q (.bl (!decide (a = b))) H) : rNeU K (.str a) (.str b) H Q := .inl ⟨rfl, by rw [show decide (V.str a = V.str b) = decide (a = b) from by rw [decide_eq_decide]; exact ⟨fun z => V.str.inj z, fun z => by rw [z]⟩]; exact q⟩
theorem v_lti {a b : Int} (q : Q (.bl (decide (a < b))) H) : rLtI (.int a) (.int b) H Q := v_i0 q
theorem v_lei {a b : Int} (q : Q (.bl (decide (a ≤ b))) H) : rLeI (.int a) (.int b) H Q := v_i0 q
theorem v_gti {a b : Int} (q : Q (.bl (decide (b < a))) H) : rGtI (.int a) (.int b) H Q := v_i0 q
theorem v_gei {a b : Int} (q : Q (.bl (decide (b ≤ a))) H) : rGeI (.int a) (.int b) H Q := v_i0 q
theorem v_isn (q : Q (.bl (decide (x = .non))) H) : rIsN x .non H Q := ⟨rfl, q⟩
theorem v_notn (q : Q (.bl (!decide (x = .non))) H) : rNotN x .non H Q := ⟨rfl, q⟩
theorem v_inl {p : Addr} {xs : List V} (h : SqL K H p xs) (fx : flatV x = true) (fs : xs.all flatV = true) (q : Q (.bl (inV x xs)) H) : rInU K x (.ref p) H Q := .inl ⟨p, xs, rfl, .inl h, fx, fs, q⟩
theorem v_ixl {p : Addr} {xs : List V} {n : Int} (h : SqL K H p xs) (ha : atI xs n = some v) (q : Q v H) : rIx K (.ref p) (.int n) H Q := .inl ⟨p, xs, n, v, rfl, rfl, h, ha, q⟩
theorem v_ixt {p : Addr} {xs : List V} {n : Int} (h : SqT K H p xs) (ha : atI xs n = some v) (q : Q v H) : rIx K (.ref p) (.int n) H Q := .inr (.inl ⟨p, xs, n, v, rfl, rfl, h, ha, q⟩)
theorem v_setl {p : Addr} {xs : List V} {n : Int} {k : Nat} {Qh : Hp → Prop} (h : H p = some (.lst xs)) (hk : ixN xs.length n = some k) (q : Qh (upd H p (.lst (xs.set k v)))) : rSetL (.ref p) (.int n) v H Qh := ⟨p, xs, n, k, rfl, rfl, h, hk, q⟩
theorem v_lenl {p : Addr} {xs : List V} (h : SqL K H p xs) (q : Q (.int xs.length) H) : rLenU K [.ref p] H Q := ⟨_, _, rfl, .inl ⟨xs, h, rfl⟩, q⟩
theorem v_lent {p : Addr} {xs : List V} (h : SqT K H p xs) (q : Q (.int xs.length) H) : rLenU K [.ref p] H Q := ⟨_, _, rfl, .inr ⟨xs, h, rfl⟩, q⟩
theorem v_lens {z : Str} (h : z.length ≤ sizeLine) (q : Q (.int z.length) H) : rLenU K [.str z] H Q := ⟨_, _, rfl, ⟨h, rfl⟩, q⟩
theorem v_abs {a : Int} (q : Q (.int (if a < 0 then -a else a)) H) : rAbs [.int a] H Q := ⟨a, rfl, q⟩
theorem v_min2 {a b : Int} (q : Q (.int (if b < a then b else a)) H) : rMin2 [.int a, .int b] H Q := ⟨a, b, rfl, q⟩
theorem v_max2 {a b : Int} (q : Q (.int (if b > a then b else a)) H) : rMax2 [.int a, .int b] H Q := ⟨a, b, rfl, q⟩
theorem v_int {a : Int} (q : Q (.int a) H) : rInt1 [.int a] H Q := .inl ⟨a, rfl, q⟩
theorem v_list {p : Addr} {xs : List V} (h : SqL K H p xs) (q : ∀ l, H l = none → Q (.ref l) (upd H l (.lst xs))) : rListOf K [.ref p] H Q := ⟨p, xs, rfl, .inl h, q⟩
theorem v_listt {p : Addr} {xs : List V} (h : SqT K H p xs) (q : ∀ l, H l = none → Q (.ref l) (upd H l (.lst xs))) : rListOf K [.ref p] H Q := ⟨p, xs, rfl, .inr h, q⟩
theorem v_tuple {p : Addr} {xs : List V} (h : SqL K H p xs) (q : ∀ l, H l = none → Q (.ref l) (upd H l (.tup xs))) : rTupOf K [.ref p] H Q := ⟨p, xs, rfl, .inl ⟨h, q⟩⟩
theorem v_sll {p : Addr} {xs : List V} {lo hi : Option Int} (h : SqL K H p xs) (q : ∀ l, H l = none → Q (.ref l) (upd H l (.lst (cutV xs lo hi)))) : rSlU K (.ref p) lo hi H Q := .inl ⟨p, xs, rfl, h, q⟩
theorem v_bm {T : String} {r : V → List V → Hp → VK → Prop} (q : to σ H fun x H1 => tyV K T x H1 ∧ t σ H1 fun xs H2 => r x xs H2 Q) : tBM K T r to t σ H Q := q
theorem v_bm0 {T : String} {r : V → List V → Hp → VK → Prop} (q : to σ H fun x H1 => tyV K T x H1 ∧ r x [] H1 Q) : tBM0 K T r to σ H Q := q
theorem ty_list {p : Addr} {xs : List V} (h : SqL K H p xs) : tyV K "list" (.ref p) H := .inl ⟨rfl, xs, h⟩
theorem ty_str {z : Str} : tyV K "str" (.str z) H := rfl
theorem v_append {p : Addr} {xs : List V} (h : H p = some (.lst xs)) (l : xs.length < sizeLine) (q : Q .non (upd H p (.lst (xs ++ [x])))) : rAppend (.ref p) [x] H Q := ⟨p, xs, x, rfl, rfl, h, l, q⟩
/-! walked things -/
theorem v_ilist {p : Addr} {xs : List V} (h : SqL K H p xs) (q : R (Itl K p) H) (hx : ta σ H = fun Q => Q (.ref p) H) : iList K ta σ H R := by
  show ta σ H fun x H1 => ∃ a, x = .ref a ∧ (∃ xs, SqL K H1 a xs) ∧ R (Itl K a) H1
  rw [hx]
  exact ⟨p, rfl, ⟨xs, h⟩, q⟩
/-! ints as scalars -/
theorem two64 {n : Int} (h0 : -18446744073709551616 < n) (h1 : n < 18446744073709551616) : -(2 ^ 64) < n ∧ n < 2 ^ 64 := by
  have e : (2 : Int) ^ 64 = 18446744073709551616 := by decide
  rw [e]
  exact ⟨h0, h1⟩
theorem cmul_l {a b : Int} (h0 : -18446744073709551616 < a) (h1 : a < 18446744073709551616) : CMul a b := .inl (two64 h0 h1)
theorem cmul_r {a b : Int} (h0 : -18446744073709551616 < b) (h1 : b < 18446744073709551616) : CMul a b := .inr (two64 h0 h1)
theorem cdiv_small {a b : Int} (h0 : 0 < b) (h1 : b < 1267650600228229401496703205376) : CDivW a b := by
  refine wide_div (b := 100) h0 ?_ (by decide) (by decide)
  have e : (2 : Nat) ^ 100 = 1267650600228229401496703205376 := by decide
  rw [e]
  omega
end
/-! ### loops and comprehensions: what is walked, then the turns -/
/-- something that is walked already -/
abbrev iIs (J : It) : TI := fun _ H R => R J H
/-- what comes behind the walked thing -/
def ilK (K : PySem.W.Frag) (R : It → Hp → Prop) : VK := fun x H1 => ∃ a, x = .ref a ∧ (∃ xs, SqL K H1 a xs) ∧ R (Itl K a) H1
def itK (K : PySem.W.Frag) (R : It → Hp → Prop) : VK := fun x H1 => ∃ a, x = .ref a ∧ (∃ xs, SqT K H1 a xs) ∧ R (Itt K a) H1
def irK (R : It → Hp → Prop) : List V → Hp → Prop := fun vs H1 => ∃ j : Int, vs = [.int j] ∧ -(2 ^ 62) ≤ j ∧ j < 2 ^ 62 ∧ R (Itr 0 j.toNat) H1
def izK (K : PySem.W.Frag) (R : It → Hp → Prop) : List V → Hp → Prop := fun vs H1 => ∃ a b xs ys, vs = [.ref a, .ref b] ∧ ((SqL K H1 a xs ∧ SqL K H1 b ys ∧ R (Itz K a b) H1) ∨ (SqT K H1 a xs ∧ SqT K H1 b ys ∧ R (ItzT K a b) H1))
/-- a for over J; a comprehension over J -/
def forI (J : It) (g : TG) (tb : TS) : TS := fun D σ H => tFor (iIs J) g tb D σ H
def lcI (J : It) (g : TG) (tt : TT) (te : TE) (vs : List Nat) : TE := fun σ H Q => tLc (iIs J) g tt te vs σ H Q
section
variable {K : PySem.W.Frag} {σ : L2.St} {H : Hp} {Q : VK} {D : Ends} {ta te : TE} {tt : TT} {t : TA} {tb : TS} {g : TG} {wi : TI} {vs : List Nat} {R : It → Hp → Prop} {J : It} {n : Nat} {G : Hp → Prop} {Y : Nat → Hp → V → Hp → Prop} {a b : Addr} {xs ys : List V}
theorem v_for (q : wi σ H fun J H1 => forI J g tb D σ H1) : tFor wi g tb D σ H := q
theorem v_lc (q : wi σ H fun J H1 => lcI J g tt te vs σ H1 Q) : tLc wi g tt te vs σ H Q := q
theorem v_il (q : ta σ H (ilK K R)) : iList K ta σ H R := q
theorem v_ilr (h : SqL K H a xs) (q : R (Itl K a) H) : ilK K R (.ref a) H := ⟨a, rfl, ⟨xs, h⟩, q⟩
theorem v_it (q : ta σ H (itK K R)) : iTup K ta σ H R := q
theorem v_itr (h : SqT K H a xs) (q : R (Itt K a) H) : itK K R (.ref a) H := ⟨a, rfl, ⟨xs, h⟩, q⟩
theorem v_ir (q : t σ H (irK R)) : iRng1 t σ H R := q
theorem v_irr {j : Int} (h : -4611686018427387904 ≤ j ∧ j < 4611686018427387904) (q : R (Itr 0 j.toNat) H) : irK R [.int j] H := by
  have e : (2 : Int) ^ 62 = 4611686018427387904 := by decide
  exact ⟨j, rfl, by rw [e]; exact h.1, by rw [e]; exact h.2, q⟩
theorem v_iz (q : t σ H (izK K R)) : iZipA K t σ H R := q
theorem v_izl (ha : SqL K H a xs) (hb : SqL K H b ys) (q : R (Itz K a b) H) : izK K R [.ref a, .ref b] H := ⟨a, b, xs, ys, rfl, .inl ⟨ha, hb, q⟩⟩
theorem v_izt (ha : SqT K H a xs) (hb : SqT K H b ys) (q : R (ItzT K a b) H) : izK K R [.ref a, .ref b] H := ⟨a, b, xs, ys, rfl, .inr ⟨ha, hb, q⟩⟩
theorem for_w (w : Walk J n G Y) (Pv : Nat → L2.St → Hp → Prop) (h0 : Pv 0 σ H) (hG : ∀ i σ H, i ≤ n → Pv i σ H → G H)
    (hs : ∀ i x σ H H', i < n → Pv i σ H → Y i H x H' → g x σ H' fun σ2 H2 => tb { D with nx := Pv (i + 1), ct := Pv (i + 1), bk := D.nx } σ2 H2) (hd : ∀ σ H, Pv n σ H → D.nx σ H) : forI J g tb D σ H := for_it w Pv h0 hG hs hd
theorem for_l (Pv : Nat → L2.St → Hp → Prop) (h0 : Pv 0 σ H) (hG : ∀ i σ H, i ≤ xs.length → Pv i σ H → SqL K H a xs)
    (hs : ∀ i x σ H, xs[i]? = some x → Pv i σ H → g x σ H fun σ2 H2 => tb { D with nx := Pv (i + 1), ct := Pv (i + 1), bk := D.nx } σ2 H2) (hd : ∀ σ H, Pv xs.length σ H → D.nx σ H) : forI (Itl K a) g tb D σ H :=
  for_w walk_list Pv h0 hG (fun i x σ H H' hi p ⟨e, q⟩ => by subst e; exact hs i x σ H' q p) hd
theorem for_r {lo : Int} (Pv : Nat → L2.St → Hp → Prop) (h0 : Pv 0 σ H)
    (hs : ∀ i σ H, i < n → Pv i σ H → g (.int (lo + i)) σ H fun σ2 H2 => tb { D with nx := Pv (i + 1), ct := Pv (i + 1), bk := D.nx } σ2 H2) (hd : ∀ σ H, Pv n σ H → D.nx σ H) : forI (Itr lo n) g tb D σ H :=
  for_w walk_range Pv h0 (fun _ _ _ _ _ => trivial) (fun i x σ H H' hi p ⟨e, q⟩ => by subst e q; exact hs i σ H' hi p) hd
theorem lc_w (w : Walk J n G Y) (Pv : Addr → Nat → Hp → Prop) (h0 : ∀ D, H D = none → Pv D 0 (upd H D (.lst []))) (hG : ∀ D i H, i ≤ n → Pv D i H → G H)
    (hs : ∀ D i x H1 H', H D = none → i < n → Pv D i H1 → Y i H1 x H' → g x (wipe σ vs) H' fun σ2 H2 => wipe σ2 vs = wipe σ vs ∧ tt σ2 H2 fun b H3 =>
      if b = true then te σ2 H3 fun y H4 => ∃ acc, H4 D = some (.lst acc) ∧ acc.length < sizeLine ∧ Pv D (i + 1) (upd H4 D (.lst (acc ++ [y]))) else Pv D (i + 1) H3) (hd : ∀ D H1, H D = none → Pv D n H1 → Q (.ref D) H1) :
    lcI J g tt te vs σ H Q := fun D hD => lc_it w (Pv D) (h0 D hD) (hG D) (fun i x H1 H' => hs D i x H1 H' hD) fun H1 => hd D H1 hD
end
/-! ### truth -/
def tTruth (K : PySem.W.Frag) (ta : TE) : TT := fun σ H Q => ta σ H fun x H' => ∃ k, TruV K x H' k ∧ Q k H'
theorem p_truth {X : Cx} {a : Expr} {ta : TE} (ha : PE X a ta) (he : ∀ whole, isTrue a X.env whole = (do let v ← whole; standAt a.pos; holding [v] (truthy v))) : PT X a (tTruth X.K ta) := pt_truth ha he
section
variable {K : PySem.W.Frag} {σ : L2.St} {H : Hp} {Qb : Bool → Hp → Prop} {ta : TE}
theorem v_truth (q : ta σ H fun x H' => ∃ k, TruV K x H' k ∧ Qb k H') : tTruth K ta σ H Qb := q
theorem v_trub {b : Bool} (q : Qb b H) : ∃ k, TruV K (.bl b) H k ∧ Qb k H := ⟨b, rfl, q⟩
theorem v_trul {p : Addr} {xs : List V} (h : SqL K H p xs) (q : Qb (!xs.isEmpty) H) : ∃ k, TruV K (.ref p) H k ∧ Qb k H := ⟨_, .inl ⟨xs, h, rfl⟩, q⟩
end
/-! ### ways that meet again -/
/-- s, then r, with a word between them -/
def tMid (s r : TS) : TS := fun D σ H => ∃ W : L2.St → Hp → Prop, s { D with nx := W } σ H ∧ ∀ σ' H', W σ' H' → r D σ' H'
theorem pss_mid {X : Cx} {st : Stmt} {rest : List Stmt} {s r : TS} (h1 : PS X st s) (h2 : PSs X rest r) : PSs X (st :: rest) (tMid s r) := by
  refine ⟨fun pins sh σ H D I ⟨W, hs, hr⟩ => wpAny_execs_cons (thn (h1.run pins sh σ H _ I hs) fun f s1 q => ?_)⟩
  cases f with
  | next =>
    obtain ⟨σ', H', J, w⟩ := q
    exact h2.run pins s1 σ' H' D J (hr σ' H' w)
  | _ => exact q
theorem v_mid {s r : TS} {D : Ends} {σ : L2.St} {H : Hp} (W : L2.St → Hp → Prop) (h1 : s { D with nx := W } σ H) (h2 : ∀ σ' H', W σ' H' → r D σ' H') : tMid s r D σ H := ⟨W, h1, h2⟩
/-! ### what stands at an address -/
theorem h_ne {H : Hp} {a b : Addr} {o u : HO} (h : b ≠ a) (q : H b = some u) : upd H a o b = some u := by rw [upd_ne h]; exact q
theorem ne_new {H : Hp} {a b : Addr} {o : HO} (h : H b = some o) (n : H a = none) : b ≠ a := ne_of_none h n
theorem ne_new' {H : Hp} {a b : Addr} {o : HO} (h : H b = some o) (n : H a = none) : a ≠ b := Ne.symm (ne_of_none h n)
theorem n_new {H : Hp} {a b : Addr} {o : HO} (h : b ≠ a) (q : H b = none) : upd H a o b = none := by rw [upd_ne h]; exact q
theorem upd_none {H : Hp} {a b : Addr} {o : HO} (h : upd H a o b = none) : b ≠ a ∧ H b = none := by
  by_cases e : b = a
  · subst e
    rw [upd_same] at h
    cases h
  · rw [upd_ne e] at h
    exact ⟨e, h⟩
/-! ### heaps without some addresses -/
/-- H without the addresses S -/
def wo (S : List Addr) (H : Hp) : Hp := fun a => if a ∈ S then none else H a
theorem wo_in {S : List Addr} {H : Hp} {a : Addr} (h : a ∈ S) : wo S H a = none := if_pos h
theorem wo_out {S : List Addr} {H : Hp} {a : Addr} (h : a ∉ S) : wo S H a = H a := if_neg h
theorem wo_get {S : List Addr} {H : Hp} {a : Addr} {o : HO} (h : wo S H a = some o) : a ∉ S ∧ H a = some o := by
  by_cases ha : a ∈ S
  · rw [wo_in ha] at h
    cases h
  · rw [wo_out ha] at h
    exact ⟨ha, h⟩
theorem wo_le {S : List Addr} {H : Hp} : Same (wo S H) H := fun a o h => (wo_get h).2
theorem wo_sub {S T : List Addr} {H : Hp} (h : ∀ a, a ∈ T → a ∈ S) : Same (wo S H) (wo T H) := fun a o e => by
  obtain ⟨h1, h2⟩ := wo_get e
  rw [wo_out fun z => h1 (h a z)]
  exact h2
theorem wo_same {S : List Addr} {H H' : Hp} (h : ∀ a, a ∉ S → ∀ o, H a = some o → H' a = some o) : Same (wo S H) (wo S H') := fun a o e => by
  obtain ⟨h1, h2⟩ := wo_get e
  rw [wo_out h1]
  exact h a h1 o h2
theorem wo_upd {S : List Addr} {H : Hp} {a : Addr} {o : HO} (h : a ∈ S) : Same (wo S H) (wo S (upd H a o)) := wo_same fun b hb u e => by
  have ne : b ≠ a := fun z => by
    subst z
    exact hb h
  rw [upd_ne ne]
  exact e
theorem wo_new {S : List Addr} {H : Hp} {a : Addr} {o : HO} (h : H a = none) : Same (wo S H) (wo S (upd H a o)) := wo_same fun b hb u e => by
  rw [upd_ne (ne_of_none e h)]
  exact e
theorem wo_mono {S : List Addr} {H H' : Hp} (h : Same H H') : Same (wo S H) (wo S H') := wo_same fun a _ o e => h a o e
theorem same_new {H : Hp} {a : Addr} {o : HO} (h : H a = none) : Same H (upd H a o) := fun b u e => by
  rw [upd_ne (ne_of_none e h)]
  exact e
theorem same_sql {K : PySem.W.Frag} {H H' : Hp} {a : Addr} {xs : List V} (e : Same H H') (h : SqL K H a xs) : SqL K H' a xs := e.seq h
theorem same_sqt {K : PySem.W.Frag} {H H' : Hp} {a : Addr} {xs : List V} (e : Same H H') (h : SqT K H a xs) : SqT K H' a xs := by
  rcases h with (h | ⟨o, h⟩) | h
  · exact .inl (.inl (e _ _ h))
  · exact .inl (.inr ⟨o, e _ _ h⟩)
  · exact .inr h
mutual
theorem same_dp {K : PySem.W.Frag} {H H' : Hp} (e : Same H H') : ∀ {v : V} {d : PyData}, Dp K H v d → Dp K H' v d
  | _, _, .non => .non
  | _, _, .bl b => .bl b
  | _, _, .int i => .int i
  | _, _, .str x => .str x
  | _, _, .lst h r => .lst (same_sql e h) (same_dps e r)
  | _, _, .tup h r => .tup (same_sqt e h) (same_dps e r)
theorem same_dps {K : PySem.W.Frag} {H H' : Hp} (e : Same H H') : ∀ {vs : List V} {ds : List PyData}, DpAll K H vs ds → DpAll K H' vs ds
  | _, _, .nil => .nil
  | _, _, .cons h r => .cons (same_dp e h) (same_dps e r)
end
/-! ### a promise by what is asked and what is given -/
/-- g: what the caller names besides the arguments -/
def spOf {G : Type} (pre : G → List V → Hp → Prop) (post : G → Hp → V → Hp → Prop) : Sp := fun vs H Q _ => ∃ g, pre g vs H ∧ ∀ v H', post g H v H' → Q v H'
end U
end
section
set_option Elab.async false
set_option linter.all false
set_option maxRecDepth 100000
set_option maxHeartbeats 4000000
namespace L2
open PySem PySem.Spec PyProof.Rows
section
variable {X : Cx} {x : Str} {C : Addr} {ps : List Str} {fl : List (Str × FK.Src)}
/-- C(): no parameter -/
theorem pe_flt0 {p pos : Pos} {k : Nat} (T : FK.Flt X.prog X.K X.mg x C fl ps) (hr : Room (k + 1) X.A) (hps : ps = [] := by rfl) (hg : Gl X x := by rfl) :
    PE X (.Call (.Name x p) [] [] pos) (tMkV C ps fl tNil) := by
  refine ⟨fun pins s σ H Q I h => ?_⟩
  obtain ⟨hl, q1⟩ : ([] : List V).length = ps.length ∧ ∀ a d, H a = none → H d = none → d ≠ a → Q (.ref a) (upd (upd H d (.xd (FK.flds ps fl []))) a (exo a C (some d))) := h
  refine wpAny_Call_Name_kw (ld_glob I hg T.gC ?_ T.db)
  refine PySem.W.callWith_K0 I.kIn T.kC ?_
  exact mk_core T hr I .nil hl (by rw [hps]; decide) fun h' tk e M => mk_value I M q1
end
end L2
namespace FK
open PySem
def parsB (fl : List (Str × Src)) (ps : List Str) : Bool := fl.all fun p => match p.2 with
  | .par y => decide (y ∈ ps)
  | _ => true
theorem pars_of {fl : List (Str × Src)} {ps : List Str} (h : parsB fl ps = true) : ∀ p ∈ fl, ∀ y, p.2 = .par y → y ∈ ps := fun p hp y e => by
  have q := List.all_eq_true.mp h p hp
  rw [e] at q
  exact of_decide_eq_true q
end FK
namespace Hf
open PySem PySem.Spec PyProof.Rows L2 He
theorem fltK_ok {K : PySem.W.Frag} {prog : Program} {mg : Str → Option Value} {h : Heap} {d : FltD} {ks : List Str} {gg : {α : Type} → List α → List α} (X : K.In h) (G : h.Ns mainGlobals mg) (c : d.ok K prog.main.file = true) (w : iniW K d.x = d.val) (t : FltT prog d)
    (bk : FK.BindK (d.x ++ ".__init__") d.st d.ps ks gg) (rel : ∀ (vs : List L2.V) (us : List Value), L2.Vals vs us → L2.Vals (gg vs) (gg us)) (len : ∀ vs : List L2.V, vs.length = ks.length → (gg vs).length = d.ps.length) : FK.FltK prog K mg d.x (ga K d.x) d.fl d.ps ks gg := by
  have T := flt_ok X G c w t
  unfold FltD.ok at c
  simp only [Bool.and_eq_true] at c
  obtain ⟨c1, c2, c3, c4, c5, c6, c7, c8, c9, c10, c11, c12, c13, c14, c15, c16, c17, c18, c19, c20, c21, c22⟩ := c
  refine ⟨⟨famB d.fam, newB d.fam, initB d.fam, famBm d.fam, d.st, ma K (ga K d.x) "__init__", fam_ok d.fam, init_eq d.fam, ⟨c2, c3, eqO_ok c4, c5, of_decide_eq_true c6, ?_⟩, tie_ok c22 rfl w, t.tx, bk, eqO_ok c19, of_decide_eq_true c20⟩, T, rel, len⟩
  rw [← init_eq]
  exact eqO_ok c7
section
variable {a : Ask} {K : PySem.W.Frag}
theorem Says.fltK {prog : Program} {h : Heap} {mg : Str → Option Value} (c : Says a K) (X : K.In h) (G : h.Ns mainGlobals mg) (ef : a.file = prog.main.file) (i : Nat) {d : FltD} {ks : List Str} {gg : {α : Type} → List α → List α} (hd : a.fx[i]? = some d) (t : FltT prog d)
    (bk : FK.BindK (d.x ++ ".__init__") d.st d.ps ks gg) (rel : ∀ (vs : List L2.V) (us : List Value), L2.Vals vs us → L2.Vals (gg vs) (gg us)) (len : ∀ vs : List L2.V, vs.length = ks.length → (gg vs).length = d.ps.length) : FK.FltK prog K mg d.x (ga K d.x) d.fl d.ps ks gg := by
  have e : a.fx.map (fun d => iniW K d.x) = a.fx.map FltD.val := congrArg (fun z : AlF => z.2.2.1) c
  have e2 : (a.fx.map fun d => iniW K d.x)[i]? = (a.fx.map FltD.val)[i]? := by rw [e]
  rw [List.getElem?_map, List.getElem?_map, hd] at e2
  exact fltK_ok X G (ef ▸ List.all_eq_true.mp c.all.2.2.1 d (List.mem_of_getElem? hd)) (Option.some.inj e2) t bk rel len
end
/-- isinstance by class, told of the frag: (class, asked, told) -/
def kitsOk (K : PySem.W.Frag) (xs : List Str) (ys : List (Value × (Str → Bool))) : Bool := xs.all fun x => ys.all fun y => decide (PySem.W.kitOne K (.ref (ga K x)) y.1 = some (y.2 x))
theorem kits_ok {K : PySem.W.Frag} {xs : List Str} {ys : List (Value × (Str → Bool))} (h : kitsOk K xs ys = true) {x : Str} {y : Value × (Str → Bool)} (hx : x ∈ xs) (hy : y ∈ ys) : PySem.W.kitOne K (.ref (ga K x)) y.1 = some (y.2 x) :=
  of_decide_eq_true (List.all_eq_true.mp (List.all_eq_true.mp h x hx) y hy)
end Hf
end
section
set_option Elab.async false
set_option linter.all false
set_option maxRecDepth 100000
set_option maxHeartbeats 4000000
/-! Own classes: methods, static methods, new instances, by name; what is never reached. -/
namespace U
open PySem PySem.Spec PyProof.Rows L2 RZ
/-! ### never reached -/
def tBotS : TS := fun _ _ _ => False
def tBotE : TE := fun _ _ _ => False
theorem ps_bot {X : Cx} {st : Stmt} : PS X st tBotS := ⟨fun _ _ _ _ _ _ h => h.elim⟩
theorem pss_bot {X : Cx} {st : List Stmt} : PSs X st tBotS := ⟨fun _ _ _ _ _ _ h => h.elim⟩
theorem pe_bot {X : Cx} {e : Expr} : PE X e tBotE := ⟨fun _ _ _ _ _ _ h => h.elim⟩
theorem pe_or {X : Cx} {e : Expr} {ta tb : TE} (a : PE X e ta) (b : PE X e tb) : PE X e (fun σ H Q => ta σ H Q ∨ tb σ H Q) := ⟨fun pins s σ H Q I h => h.elim (a.run pins s σ H Q I) (b.run pins s σ H Q I)⟩
/-! ### static methods -/
structure SMet (K : PySem.W.Frag) (C : Addr) (m : Str) (f : Addr) : Prop where
  rd : PySem.W.readsIn K C (.type "type") = true
  ga : PySem.W.specialIn K (.ref C) "__getattribute__" = some (some (.builtin "type.__getattribute__"))
  at_ : ∃ p, PySem.W.findCls K (.ref C) (.type "type") m = some (.get (.builtin "staticmethod.__get__") (.ref p) .none (.ref C)) ∧ ∃ rest, PySem.W.recIn K p "staticmethod" = some (.ref f :: rest)
section
variable {X : Cx} {pins : List (Addr × Obj)} {σ : L2.St} {H : Hp} {s : Shared} {C f : Addr} {m : Str} {A : Around} {E : Value → Shared → Prop}
theorem getmethsm_ok {pl : Sem Bool} {Q : Value × List Value → Shared → Prop} (I : Inv X pins σ H s) (k : SMet X.K C m f) (h : ∀ s', Inv X pins σ H s' → Q (.ref f, []) s') : wpAny (model X.prog X.w) A (getMethod (.ref C) m pl) Q E s := by
  obtain ⟨p, k1, rest, k2⟩ := k.at_
  refine PySem.W.method_cls I.kIn k.ga (PySem.W.cls_bind I.kIn k.rd k1 (wpAny_call (PySem.W.sm_get (s := { s with toks := s.toks + 1 }) I.kIn k2 (PySem.W.handed_on rfl ?_))))
  exact h _ (I.tok _)
end
/-! ### a method, a new instance, a static method, by what they promise -/
structure Md (P : Program) (w : World) (K : PySem.W.Frag) (mg : Str → Option Value) (base : Heap) (C : Addr) (m : Str) (k : Nat) (ps : List Str) (sp : Sp) : Prop where
  ex : ∃ (f : Addr) (fd : FuncData), FnOk P w K mg base CX0 k f fd ps sp ∧ Cls K C ∧ Meth K C m f ∧ Binds K fd ps []
structure Nd (P : Program) (w : World) (K : PySem.W.Frag) (mg : Str → Option Value) (base : Heap) (x : Str) (C : Addr) (k : Nat) (ps : List Str) (sp : Sp) : Prop where
  ex : ∃ (f : Addr) (fd : FuncData), FnOk P w K mg base CX0 k f fd ps sp ∧ mg x = some (.ref C) ∧ Mk K C f ∧ Binds K fd ps []
  nd : (x == ("__debug__" : Str)) = false
structure Sd (P : Program) (w : World) (K : PySem.W.Frag) (mg : Str → Option Value) (base : Heap) (C : Addr) (m : Str) (k : Nat) (ps : List Str) (sp : Sp) : Prop where
  ex : ∃ (f : Addr) (fd : FuncData), FnOk P w K mg base CX0 k f fd ps sp ∧ SMet K C m f ∧ PySem.W.keepIn K (.ref f) = true ∧ Binds K fd ps []
/-- o.m(e, ..): a method of the class at C -/
def tMd (C : Addr) (m : Str) (sp : Sp) (ta : TE) (t : TA) : TE := tMeth C m sp [] E0 ta t
def tNd (C : Addr) (sp : Sp) (t : TA) : TE := tMake C sp [] E0 t
def tSd (C : Addr) (sp : Sp) (ta : TE) (t : TA) : TE := fun σ H Q => ta σ H fun x H1 => x = .ref C ∧ t σ H1 fun vs H2 => sp vs H2 Q E0
section
variable {X : Cx} {x m : Str} {p pos apos : Pos} {e o : Expr} {es : List Expr} {t : TA} {ta : TE} {k : Nat} {ps : List Str} {sp : Sp} {C : Addr}
theorem pe_md {pl : Sem Bool} (D : Md X.prog X.w X.K X.mg X.base C m k ps sp) (hr : Room k X.A) (he : PE X o ta) (ha : PA X (e :: es) t)
    (hst : starEach (e :: es) X.env = (false, eval e X.env) :: starEach es X.env := by rfl) (hpl : (backTo pos (starEach es X.env)).any (·.1) = false := by rfl)
    (ht : eval (.Call (.Attribute o m apos) (e :: es) [] pos) X.env = (do
      let ov ← eval o X.env
      standAt apos.atName
      let (f, first) ← holding [ov] (getMethod ov m pl)
      callWith pos f first (backTo pos (starEach (e :: es) X.env)) (backToKw pos (keywordEach [] X.env))) := by rfl) :
    PE X (.Call (.Attribute o m apos) (e :: es) [] pos) (tMd C m sp ta t) := by
  obtain ⟨f, fd, F, c, hm, b⟩ := D.ex
  exact pe_meth (pl := pl) he c hm F hr b .nil pass0 ha hst hpl ht
theorem pe_md0 {pl : Sem Bool} (D : Md X.prog X.w X.K X.mg X.base C m k ps sp) (hr : Room k X.A) (he : PE X o ta)
    (ht : eval (.Call (.Attribute o m apos) [] [] pos) X.env = (do
      let ov ← eval o X.env
      standAt apos.atName
      let (f, first) ← holding [ov] (getMethod ov m pl)
      callWith pos f first (backTo pos (starEach [] X.env)) (backToKw pos (keywordEach [] X.env))) := by rfl) :
    PE X (.Call (.Attribute o m apos) [] [] pos) (tMeth C m sp [] E0 ta tNil) := by
  obtain ⟨f, fd, F, c, hm, b⟩ := D.ex
  exact pe_meth0 (pl := pl) he c hm F hr b .nil pass0 ht
theorem pe_nd (D : Nd X.prog X.w X.K X.mg X.base x C k ps sp) (hr : Room (k + 1) X.A) (ha : PA X (e :: es) t) (hg : Gl X x := by rfl)
    (he : starEach (e :: es) X.env = (false, eval e X.env) :: starEach es X.env := by rfl) (hpl : (backTo pos (starEach es X.env)).any (·.1) = false := by rfl) :
    PE X (.Call (.Name x p) (e :: es) [] pos) (tNd C sp t) := by
  obtain ⟨f, fd, F, hm, M, b⟩ := D.ex
  exact pe_make M F hr hg hm b .nil pass0 ha D.nd he hpl
theorem pe_sd {pl : Sem Bool} (D : Sd X.prog X.w X.K X.mg X.base C m k ps sp) (hr : Room k X.A) (he : PE X o ta) (ha : PA X (e :: es) t)
    (hst : starEach (e :: es) X.env = (false, eval e X.env) :: starEach es X.env := by rfl) (hpl : (backTo pos (starEach es X.env)).any (·.1) = false := by rfl)
    (ht : eval (.Call (.Attribute o m apos) (e :: es) [] pos) X.env = (do
      let ov ← eval o X.env
      standAt apos.atName
      let (f, first) ← holding [ov] (getMethod ov m pl)
      callWith pos f first (backTo pos (starEach (e :: es) X.env)) (backToKw pos (keywordEach [] X.env))) := by rfl) :
    PE X (.Call (.Attribute o m apos) (e :: es) [] pos) (tSd C sp ta t) := by
  obtain ⟨f, fd, F, sm, kp, b⟩ := D.ex
  refine ⟨fun pins s σ H Q I h => ?_⟩
  refine PySem.W.methodCall_KW (pl := pl) (thn (he.run pins s σ H _ I h) fun u s1 ⟨x, H1, I1, rx, ex, q⟩ => ?_) ht
  subst ex
  obtain rfl : u = Value.ref C := rx
  refine getmethsm_ok I1 sm fun s2 I2 => ?_
  refine PySem.W.callWith_K (h₀ := X.base) (first := []) I2.ok.mod.kin kp (thn (ha.run pos pins s2 σ H1 _ I2 q) fun us s3 ⟨vs, H2, I3, rv, q2⟩ => ⟨I3.kIn, ?_⟩) hst hpl
  exact run_fn F hr b .nil pass0 I3 rv (by rw [List.append_nil]; exact q2)
/-- f(k = e, ..) alone by keywords -/
structure Kd (P : Program) (w : World) (K : PySem.W.Frag) (mg : Str → Option Value) (base : Heap) (x : Str) (k : Nat) (ps ks : List Str) (gV : List V → List V → List V) (sp : Sp) : Prop where
  ex : ∃ (f : Addr) (fd : FuncData) (g : List Value → List Value → List Value), FnOk P w K mg base CX0 k f fd ps sp ∧ mg x = some (.ref f) ∧ PySem.W.keepIn K (.ref f) = true ∧ KBinds K fd ps ks g gV
  nd : (x == ("__debug__" : Str)) = false
variable {ks : List Str} {gV : List V → List V → List V} {kws : List Keyword} {tk : TA}
theorem pe_kd0 (D : Kd X.prog X.w X.K X.mg X.base x k ps ks gV sp) (hr : Room k X.A) (hkw : PK X kws tk) (hall : (backToKw pos (keywordEach kws X.env)).all (·.1.isSome) = true := by rfl) (hks : (backToKw pos (keywordEach kws X.env)).filterMap (·.1) = ks := by rfl)
    (hg : Gl X x := by rfl) (hpl : ((backTo pos (starEach [] X.env)).any (·.1) || (backToKw pos (keywordEach kws X.env)).any (·.1.isNone)) = false := by rfl) :
    PE X (.Call (.Name x p) [] kws pos) (tCallK sp gV E0 tNil tk) := by
  obtain ⟨f, fd, g, F, m, kp, b⟩ := D.ex
  refine ⟨fun pins s σ H Q I h => ?_⟩
  refine wpAny_Call_Name_kw (ld_glob I hg m ?_ D.nd)
  refine PySem.W.callWith_KW0 (h₀ := X.base) I.ok.mod.kin kp hall (thn (hkw.run pos pins s σ H _ I h) fun ws s2 ⟨zs, H2, I2, rz, q2⟩ => ⟨I2.kIn, ?_⟩) hpl
  rw [hks]
  exact run_fnk (us := []) (vs := []) F hr b pass0 I2 .nil rz q2
end
/-! ### fields -/
/-- o.f: an own instance's, a held error's -/
def tFldU (K : PySem.W.Frag) (ta : TE) (f : Str) : TE := tFld K ta f
section
variable {K : PySem.W.Frag} {σ : L2.St} {H : Hp} {Q : VK} {D : Ends} {ta tv : TE} {t : TA} {f m : Str} {a C dx : Addr} {fs : List (Str × V)} {v : V} {sp : Sp}
theorem v_fldo (q : ta σ H fun x H1 => ∃ a C dx fs v, x = .ref a ∧ H1 a = some (.ins C dx fs) ∧ Cls K C ∧ NoAttr K C f ∧ fs.lookup f = some v ∧ Q v H1) : tFld K ta f σ H Q := q
theorem v_sfld (q : tv σ H fun y H1 => ta σ H1 fun x H2 => ∃ a C dx fs, x = .ref a ∧ H2 a = some (.ins C dx fs) ∧ Cls K C ∧ NoAttr K C f ∧ fs.length < 1000 ∧ D.nx σ (upd H2 a (.ins C dx (putF f y fs)))) : sFld K ta tv f D σ H := q
theorem v_nd (q : t σ H fun vs H1 => ∀ x dx, H1 x = none → H1 dx = none → dx ≠ x → sp (.ref x :: vs) (upd (upd H1 dx (.own x)) x (.ins C dx [])) (fun v H2 => v = .non ∧ Q (.ref x) H2) E0) : tNd C sp t σ H Q := by
  show t σ H fun vs H1 => ∀ x dx, H1 x = none → H1 dx = none → dx ≠ x → sp (.ref x :: (vs ++ [])) (upd (upd H1 dx (.own x)) x (.ins C dx [])) (fun v H2 => v = .non ∧ Q (.ref x) H2) E0
  simp only [List.append_nil]
  exact q
theorem v_sd (q : ta σ H fun x H1 => x = .ref C ∧ t σ H1 fun vs H2 => sp vs H2 Q E0) : tSd C sp ta t σ H Q := q
end
end U
namespace U
open PySem PySem.Spec PyProof.Rows L2 RZ
/-! ### more of numbers and lists -/
/-- // by any divisor but 0, below 2 ^ 9000 -/
def CDivV (_ j : Int) : Prop := j ≠ 0 ∧ j.natAbs.log2 < 9000
def rDivV : R2 := rI CDivV fun i j => .int (i.fdiv j)
theorem o_divv {X : Cx} : OpR X (binaryOp .FloorDiv) rDivV := opI fun _ _ _ _ _ _ _ hc q => floordiv_int hc.1 q (.inl (PyProof.noPylong_of_log2 hc.2))
theorem v_divv {H : Hp} {Q : VK} {a b : Int} (c : b ≠ 0) (l : b.natAbs.log2 < 9000) (q : Q (.int (a.fdiv b)) H) : rDivV (.int a) (.int b) H Q := ⟨a, b, rfl, rfl, ⟨c, l⟩, q⟩
theorem truth_ints {prog : Program} {w : World} {A : Around} {ns : List Int} {its : List Value} (e : IntsAre its ns) :
    TruthOf prog w A (fun i v => its.toArray[i]? = some v) (fun i => (ns.getD i 0) != 0) := fun i v s Q E hv hq => by
  have hv' : its[i]? = some v := by simpa using hv
  have key : ∀ {its : List Value} {ns : List Int} (i : Nat), IntsAre its ns → its[i]? = some v → ∃ n t, ns[i]? = some n ∧ v = .int n t := by
    intro its ns i e
    induction e generalizing i with
    | nil => intro h; simp at h
    | cons n t r ih =>
      intro h
      cases i with
      | zero =>
        simp at h
        exact ⟨_, _, rfl, h.symm⟩
      | succ i => exact ih i (by simpa using h)
  obtain ⟨n, t, hn, rfl⟩ := key i e hv'
  have hg : ns.getD i 0 = n := by rw [List.getD_eq_getElem?_getD, hn] <;> rfl
  have hq' : Q ((ns.getD i 0) != 0) s := hq
  rw [hg] at hq'
  exact truthy_int hq'
theorem any_rangeI : ∀ ns : List Int, (List.range ns.length).any (fun i => (ns.getD i 0) != 0) = ns.any fun n => n != 0
  | [] => rfl
  | b :: bs => by
    rw [List.length_cons, List.range_succ_eq_map, List.any_cons, List.any_map, List.any_cons, ← any_rangeI bs]
    all_goals rfl
/-- any(xs) of a list of whole numbers -/
def rAnyI (K : PySem.W.Frag) : List V → Hp → VK → Prop := fun vs H Q => ∃ (a : Addr) (ns : List Int), vs = [V.ref a] ∧ SqL K H a (ns.map V.int) ∧ Q (.bl (ns.any fun n => n != 0)) H
theorem cr_anyI {X : Cx} (hc : X.calm = true) : CallR X (.builtin "any") (rAnyI X.K) := by
  intro pins s σ H vs us Q I r h
  obtain ⟨a, ns, rfl, hs, q⟩ := h
  obtain ⟨its, rv, hl, _⟩ := I.list hs
  rw [Vals.ref1 r]
  have hb := rv.ints
  refine call_any_walk (iter_any hl.isList fun s₂ e2 st hne => ?_)
  subst e2
  refine ⟨_, _, _, _, _, _, _, rfl, Walks.list (A := X.A.in1) (I.ok.hd hc) _ a hne its.toArray, st, truth_ints hb, fun h' tk hk => ?_⟩
  refine ⟨.bl _, H, I.kept fun b o eo => hk b o (fun hmem => ?_) (Heap.get?_push_of_some _ eo), ?_, q⟩
  · rcases List.mem_cons.mp hmem with e1 | hmem
    · exact absurd (e1 ▸ Heap.lt_size eo) (Nat.lt_irrefl _)
    · cases hmem
  · show Value.bool _ = Value.bool _
    rw [← any_rangeI, List.size_toArray, ← rv.length, List.length_map]
def rAnyU (K : PySem.W.Frag) : List V → Hp → VK → Prop := fun vs H Q => rAny K vs H Q ∨ rAnyI K vs H Q
theorem c_any {X : Cx} (hc : X.calm = true) : CallR X (.builtin "any") (rAnyU X.K) := CallR.or (cr_any hc) (cr_anyI hc)
def rStr : List V → Hp → VK → Prop := fun xs H Q => ∃ i, xs = [.int i] ∧ i.natAbs.log2 < 1920 ∧ Q (.str (toString i)) H
theorem c_str {X : Cx} : CallR X (.type "str") rStr := call_str_int
def rJoin (K : PySem.W.Frag) : V → V → Hp → VK → Prop := fun x y H Q => ∃ a p, ∃ ys : List Str, x = .str a ∧ y = .ref p ∧ (SqL K H p (ys.map V.str) ∨ SqT K H p (ys.map V.str)) ∧
      (ys.map (·.length)).sum + ys.length * a.length ≤ 16777216 ∧ Q (.str (Txt.join a ys)) H
end U
namespace U
open PySem PySem.Spec PyProof.Rows L2 RZ
/-- a global that is a whole number -/
theorem pe_globI {X : Cx} {x : Str} {p : Pos} {i : Int} (h : ∃ t, X.mg x = some (.int i t)) (hg : Gl X x := by rfl) (hd : (x == ("__debug__" : Str)) = false := by decide) : PE X (.Name x p) (tC (.int i)) := by
  obtain ⟨t, h⟩ := h
  exact pe_glob hg h ⟨t, rfl⟩ hd
/-- == of instances with an own __eq__ -/
theorem o_eqo {X : Cx} {C : Addr} {k : Nat} {ps : List Str} {R : Addr → Addr → Hp → Prop} (D : Md X.prog X.w X.K X.mg X.base C "__eq__" k ps (spEq R)) (hr : Room k X.A) : OpR X (compareOp .Eq) (rEqG (DIns C R)) := by
  obtain ⟨f, fd, F, c, hm, b⟩ := D.ex
  exact op_eqG (rcG_ins F hm.at_ hm.fn b pass0) hr
end U
namespace U
open PySem PySem.Spec PyProof.Rows L2 RZ
theorem smet_of {K : PySem.W.Frag} {d : Hf.SDef} (c : d.ok K = true) : SMet K (He.ga K d.x) d.m (d.ad K) ∧ PySem.W.keepIn K (.ref (d.ad K)) = true := by
  obtain ⟨c1, c⟩ := He.ba c
  obtain ⟨c2, c⟩ := He.ba c
  obtain ⟨c3, c⟩ := He.ba c
  obtain ⟨c4, _⟩ := He.ba c
  obtain ⟨k1, k2⟩ := He5.wrapB_ok c1
  exact ⟨⟨c2, He.eqO_ok c3, _, k1, k2⟩, c4⟩
theorem kd_of {P : Program} {w : World} {K : PySem.W.Frag} {mg : Str → Option Value} {base : Heap} {x : Str} {k : Nat} {ps ks : List Str} {sp : Sp} {st : Stmt} {f : Addr} {fd : FuncData} {gg : {α : Type} → List α → List α → List α}
    (F : FunD K x x (defArgs st) (defBody st) (defScope st) [] [] f fd) (ok : FnOk P w K mg base CX0 k f fd ps sp) (g : mg x = some (.ref f))
    (rel : ∀ {vs : List V} {us : List Value} {zs : List V} {ws : List Value}, Vals vs us → Vals zs ws → Vals (gg vs zs) (gg us ws))
    (h : ∀ (kV doc pm : Value) (an : Option Addr) (cdv ct : Value) (us ws : List Value), (gg us ws).length = ps.length → bindArgs (PySem.W.fnOf x x (defArgs st) (defBody st) (defScope st) .none kV doc pm an cdv ct) ⟨us, ks.zip ws⟩ = pure (ps.zip (gg us ws))) (nd : (x == ("__debug__" : Str)) = false := by decide) :
    Kd P w K mg base x k ps ks gg sp := by
  refine ⟨⟨f, fd, gg, ok, g, F.kp, ?_⟩, nd⟩
  obtain ⟨oc, od, dV, kV, doc, pm, an, cdv, ct, osl, rfl, lk, hcd, hD, hK⟩ := F.ex
  rcases hD with ⟨_, rfl⟩ | ⟨e, _⟩
  · exact ⟨fun s us ws _ hl => .of_eq (h kV doc pm an cdv ct us ws hl), rel⟩
  · exact absurd rfl e
end U
end
section
set_option Elab.async false
set_option linter.all false
set_option maxRecDepth 100000
set_option maxHeartbeats 4000000
/-! zip of a list and a tuple, either way. -/
namespace ZM
open PySem PySem.Spec PyProof.Rows L2 RZ
/-- a tuple (true), a list (false) -/
def SqB (K : PySem.W.Frag) : Bool → Hp → Addr → List V → Prop
  | true => fun H a xs => SqT K H a xs
  | false => fun H a xs => SqL K H a xs
def ItB : Bool → Heap → Addr → Addr → Nat → Prop
  | true => fun h it l i => h.IsTupleIter it l i
  | false => fun h it l i => h.IsListIter it l i
def IsB : Bool → Heap → Addr → Array Value → Prop
  | true => fun h l its => h.IsTuple l its
  | false => fun h l its => h.IsList l its
def obB : Bool → Addr → Obj
  | true => fun l => { cls := .type "tuple_iterator", data := .fields #[.ref l, .int 0 0] }
  | false => fun l => { cls := .type "list_iterator", data := .fields #[.ref l, .int 0 0] }
section
variable {P : Program} {w : World} {X : Cx} {pins : List (Addr × Obj)} {σ : L2.St} {H : Hp} {s : Shared} {t t1 t2 : Bool} {a b : Addr} {xs ys : List V}
theorem invB (I : Inv X pins σ H s) (h : SqB X.K t H a xs) : ∃ its : List Value, Vals xs its ∧ IsB t s.heap a its.toArray := by
  cases t
  · obtain ⟨its, rv, p, _⟩ := I.list h
    exact ⟨its, rv, p.isList⟩
  · obtain ⟨its, rv, p, _⟩ := I.tuple h
    exact ⟨its, rv, p⟩
theorem injB (I : Inv X pins σ H s) (h : SqB X.K t H a xs) (k : SqB X.K t H a ys) : ys = xs := by
  cases t
  · exact I.list_inj k h
  · exact I.tuple_inj k h
theorem drawsB {A : Around} (hh : A.handled = none) (it l : Addr) (ne : l ≠ it) (its : Array Value) : Draws P w A it [it, l] its.size (fun i v => its[i]? = some v) (fun i h => ItB t h it l i ∧ IsB t h l its) := by
  cases t
  · exact Draws.list hh it l ne its
  · exact Draws.tuple hh it l ne its
theorem beginsB (l : Addr) (its : Array Value) : Begins (.ref l) (obB t l) (fun h => IsB t h l its) := by
  cases t
  · exact begins_list l its
  · exact begins_tuple l its
theorem itB_of {h : Heap} {it l : Addr} (e : h.get? it = some (obB t l)) : ItB t h it l 0 := by
  cases t
  · exact ⟨_, e, rfl, rfl⟩
  · exact ⟨_, e, rfl, rfl⟩
theorem itB_obj {h : Heap} {it l : Addr} {i : Nat} (e : ItB t h it l i) : ∃ o, h.get? it = some o ∧ ∀ v, o.data ≠ .cell v := by
  cases t
  · obtain ⟨o, e1, _, d1⟩ := e
    exact ⟨o, e1, fun v q => by rw [d1] at q; cases q⟩
  · obtain ⟨o, e1, _, d1⟩ := e
    exact ⟨o, e1, fun v q => by rw [d1] at q; cases q⟩
theorem itB_at {h h' : Heap} {it l : Addr} {i : Nat} (e : ItB t h it l i) (k : ∀ o, h.get? it = some o → h'.get? it = some o) : ItB t h' it l i := by
  cases t
  · exact Heap.IsListIter.at e k
  · exact Heap.IsTupleIter.at e k
theorem isB_lt {h : Heap} {l : Addr} {its : Array Value} (e : IsB t h l its) : l < h.objs.size := by
  cases t
  · obtain ⟨o, e1, _⟩ := e
    exact Heap.lt_size e1
  · obtain ⟨o, e1, _⟩ := e
    exact Heap.lt_size e1
end
/-- the two sequences as they stand at each turn, the items in new pairs -/
def ItzM (K : PySem.W.Frag) (t1 t2 : Bool) (a b : Addr) : It :=
  ⟨fun i H => ∃ xs ys x y, SqB K t1 H a xs ∧ SqB K t2 H b ys ∧ xs[i]? = some x ∧ ys[i]? = some y,
    fun i H v H' => ∃ T x y, v = .ref T ∧ H T = none ∧ H' = upd H T (.tup [x, y]) ∧ (∀ l, SqB K t1 H a l → l[i]? = some x) ∧ (∀ l, SqB K t2 H b l → l[i]? = some y),
    fun i H => ∃ xs ys, SqB K t1 H a xs ∧ SqB K t2 H b ys ∧ i ≤ xs.length ∧ i ≤ ys.length ∧ (xs.length = i ∨ ys.length = i)⟩
structure Apart (z TI TO i1 i2 a b : Addr) : Prop where
  S : ZipSep2 z TI TO i1 i2 [i1, a] [i2, b]
  a1 : a ≠ i1
  b2 : b ≠ i2
theorem apart_nat : ∀ {n a b : Nat}, a < n → b < n → (n + 2 ≠ n + 4 ∧ n + 3 ≠ n + 4 ∧ n + 2 ≠ n + 3 ∧ n + 2 ≠ n ∧ n + 2 ≠ n + 1) ∧ (n + 4 ≠ n ∧ n + 4 ≠ a ∧ n + 3 ≠ n ∧ n + 3 ≠ a ∧ n + 4 ≠ n + 1 ∧ n + 4 ≠ b ∧ n + 3 ≠ n + 1 ∧ n + 3 ≠ b) ∧ (n ≠ n + 1 ∧ n ≠ b ∧ n + 1 ≠ n ∧ n + 1 ≠ a) ∧ a ≠ n ∧ b ≠ n + 1 := by omega
theorem apart_of {n a b : Addr} (ha : a < n) (hb : b < n) : Apart (n + 4) (n + 2) (n + 3) n (n + 1) a b := by
  obtain ⟨⟨p1, p2, p3, p4, p5⟩, ⟨q1, q2, q3, q4, q5, q6, q7, q8⟩, ⟨r1, r2, r3, r4⟩, u1, u2⟩ := apart_nat (n := n) (a := a) (b := b) ha hb
  have two : ∀ {x y z : Addr}, x ≠ y → x ≠ z → x ∉ [y, z] := fun h1 h2 q => by
    rcases List.mem_cons.mp q with e | e
    · exact h1 e
    · exact h2 (List.mem_singleton.mp e)
  exact ⟨⟨p1, p2, p3, p4, by simp, two q1 q2, two q3 q4, p5, by simp, two q5 q6, two q7 q8, two r1 r2, two r3 r4⟩, u1, u2⟩
theorem turn_zipM {P : Program} {w : World} {K : PySem.W.Frag} {elts : List Expr} {kk : Nat} {tpos : Pos} {t1 t2 : Bool} {a b z TI TO i1 i2 : Addr} (D : Apart z TI TO i1 i2 a b) :
    Turn P w K (.Tuple elts kk tpos) (ItzM K t1 t2 a b) [z, TI, TO, i1, i2] z (fun i h => IsZip h z TI TO .none ∧ (IsTupOf2 h TI (.ref i1) (.ref i2) ∧ ((∃ x y, IsTupOf2 h TO x y) ∧ (ItB t1 h i1 a i ∧ ItB t2 h i2 b i)))) where
  mem := by simp
  obj := fun i h st c hc => by
    obtain ⟨k1, k2, ⟨x, y, k3⟩, k4, k5⟩ := st
    have five : c = z ∨ c = TI ∨ c = TO ∨ c = i1 ∨ c = i2 := by simpa using hc
    rcases five with e | e | e | e | e <;> subst e
    · exact ⟨_, k1, fun v q => nomatch q⟩
    · exact ⟨_, k2, fun v q => nomatch q⟩
    · exact ⟨_, k3, fun v q => nomatch q⟩
    · exact itB_obj k4
    · exact itB_obj k5
  keep := fun i h h' st k => by
    obtain ⟨k1, k2, ⟨x, y, k3⟩, k4, k5⟩ := st
    exact ⟨k z (by simp) _ k1, k TI (by simp) _ k2, ⟨x, y, k TO (by simp) _ k3⟩, itB_at k4 fun o e => k i1 (by simp) o e, itB_at k5 fun o e => k i2 (by simp) o e⟩
  item := by
    intro X eP ew eK hc i pins s σ H E I fr st go
    subst eP ew eK
    obtain ⟨k1, k2, ⟨x0, y0, k3⟩, k4, k5⟩ := st
    obtain ⟨xs, ys, x, y, qa, qb, hx, hy⟩ := go
    obtain ⟨us, ru, pa⟩ := invB I qa
    obtain ⟨vs, rv, pb⟩ := invB I qb
    obtain ⟨u, hu, rxu⟩ := ru.get hx
    obtain ⟨v, hv, ryv⟩ := rv.get hy
    have li : i < us.length := (List.getElem?_eq_some_iff.mp hu).1
    have lj : i < vs.length := (List.getElem?_eq_some_iff.mp hv).1
    have hn : X.A.in1.handled = none := I.ok.hd hc
    have zl : z < s.heap.objs.size := Heap.lt_size k1
    refine wpAny_pyNext_zipD2_item D.S (drawsB hn i1 a D.a1 us.toArray) (drawsB hn i2 b D.b2 vs.toArray) k1 k2 k3 ⟨k4, pa⟩ ⟨k5, pb⟩ (by simpa using li) (by simpa using lj) ?_
    intro c1 c2 h' tk e1 e2 z' TO' st1 st2 new' size' keep'
    have f1 : c1 = u := by
      have q : us[i]? = some c1 := by simpa using e1
      rw [hu] at q
      exact (Option.some.inj q).symm
    have f2 : c2 = v := by
      have q : vs[i]? = some c2 := by simpa using e2
      rw [hv] at q
      exact (Option.some.inj q).symm
    subst f1 f2
    refine ⟨_, rfl, wpAny_letOwnedTupleGo_zip (s := { s with heap := h', toks := tk }) z' fun h'' z'' sb => ?_⟩
    have tup' : h''.get? s.heap.objs.size = some { cls := .type "tuple", data := .seq #[c1, c2] } := (sb.2 _ (Nat.ne_of_gt zl)).trans new'
    have ok : ObjOk X.prog X.w (upd H s.heap.objs.size (.tup [x, y])) h'' s.heap.objs.size (.tup [x, y]) := ⟨by show 2 ≤ sizeLine; decide, [c1, c2], .cons rxu (.cons ryv .nil), ⟨_, tup', rfl, _, rfl⟩⟩
    have J : Inv X pins σ (upd H s.heap.objs.size (.tup [x, y])) { s with heap := h'', toks := tk } := by
      refine I.turnedNew (t' := tk) (ch := [z, TI, TO, i1, i2]) (fun c o hb q => ?_) fr (Nat.le_refl _) ok
      have ne : ∀ d, d ∈ [z, TI, TO, i1, i2] → c ≠ d := fun d hd e => hb (e ▸ hd)
      exact (sb.2 c (ne z (by simp))).trans (keep' c o (ne z (by simp)) (ne TO (by simp)) (ne i1 (by simp)) (ne i2 (by simp)) q)
    have TIz : h''.get? TI = some { cls := .type "tuple", data := .seq #[.ref i1, .ref i2] } := (sb.2 _ D.S.TIz).trans (keep' _ _ D.S.TIz D.S.TITO D.S.TIi1 D.S.TIi2 k2)
    refine ⟨.ref s.heap.objs.size, _, J, rfl, ⟨_, x, y, rfl, I.hok.fresh (Nat.le_refl _), rfl, fun l hl => by rw [injB I qa hl]; exact hx, fun l hl => by rw [injB I qb hl]; exact hy⟩, ⟨z'', TIz, ⟨c1, c2, (sb.2 _ D.S.TOz).trans TO'⟩, itB_at st1.1 fun o q => (sb.2 _ D.S.zi1.symm).trans q, itB_at st2.1 fun o q => (sb.2 _ D.S.zi2.symm).trans q⟩, fun c hcm => ?_⟩
    have lt : c < s.heap.objs.size := by
      have five : c = z ∨ c = TI ∨ c = TO ∨ c = i1 ∨ c = i2 := by simpa using hcm
      rcases five with e | e | e | e | e <;> subst e
      · exact zl
      · exact Heap.lt_size k2
      · exact Heap.lt_size k3
      · exact Heap.lt_size (itB_obj k4).choose_spec.1
      · exact Heap.lt_size (itB_obj k5).choose_spec.1
    rw [upd_ne (Nat.ne_of_lt lt)]
    exact (fr c hcm).1
  done := by
    intro X eP ew eK hc i pins s σ H E I fr st go
    subst eP ew eK
    obtain ⟨k1, k2, ⟨x0, y0, k3⟩, k4, k5⟩ := st
    obtain ⟨xs, ys, qa, qb, l1, l2, le⟩ := go
    obtain ⟨us, ru, pa⟩ := invB I qa
    obtain ⟨vs, rv, pb⟩ := invB I qb
    have e1 := ru.length
    have e2 := rv.length
    have hn : X.A.in1.handled = none := I.ok.hd hc
    refine wpAny_pyNext_zipD2_end D.S (drawsB hn i1 a D.a1 us.toArray) (drawsB hn i2 b D.b2 vs.toArray) k1 k2 k3 ⟨k4, pa⟩ ⟨k5, pb⟩ (by simp; omega) (by simp; omega) (by simp; omega) fun h' tk keep' => ⟨rfl, ?_⟩
    refine I.turnedL (t' := tk) (ch := [z, TI, TO, i1, i2]) (fun c o hb q => ?_) fr
    have ne : ∀ d, d ∈ [z, TI, TO, i1, i2] → c ≠ d := fun d hd e => hb (e ▸ hd)
    exact keep' c o (ne z (by simp)) (ne TO (by simp)) (ne i1 (by simp)) (ne i2 (by simp)) q
  self := fun A i s Q E st h => wpAny_pyIter_zip st.1 h
/-- zip(x, y): each a list or a tuple -/
def iZipU (K : PySem.W.Frag) (ta : TA) : TI := fun σ H R => ta σ H fun vs H1 => ∃ a b t1 t2 xs ys, vs = [.ref a, .ref b] ∧ SqB K t1 H1 a xs ∧ SqB K t2 H1 b ys ∧ R (ItzM K t1 t2 a b) H1
theorem pi_zipU {X : Cx} {e e2 : Expr} {ta : TA} {p pos tpos : Pos} {elts : List Expr} {kk : Nat} (hg : Gl X "zip") (hm : X.mg "zip" = none) (ha : PA X [e, e2] ta)
    (hs : starEach [e, e2] X.env = (false, eval e X.env) :: starEach [e2] X.env := by rfl) (hpl : (backTo pos (starEach [e2] X.env)).any (·.1) = false := by rfl) : PI X (.Tuple elts kk tpos) (.Call (.Name "zip" p) [e, e2] [] pos) (iZipU X.K ta) := by
  refine ⟨fun pins s σ H R I h => Call_ (ld_blt I hg hm PyProof.Rows.boot_zip (PyProof.Rows.callWith_type1 (thn (ha.run pos pins s σ H _ I h) fun us s1 ⟨vs, H1, I1, r1, q1⟩ => ?_) hs hpl))⟩
  obtain ⟨a, b, t1, t2, xs, ys, rfl, qa, qb, q⟩ := q1
  obtain ⟨w1, w2, rfl, c1, c2⟩ := vals2 r1
  obtain rfl : w1 = Value.ref a := c1
  obtain rfl : w2 = Value.ref b := c2
  obtain ⟨us, ru, pa⟩ := invB I1 qa
  obtain ⟨vs, rv, pb⟩ := invB I1 qb
  have fresh : ∀ c, c ∈ [s1.heap.objs.size + 4, s1.heap.objs.size + 2, s1.heap.objs.size + 3, s1.heap.objs.size, s1.heap.objs.size + 1] → FpOk X pins H1 c := fun c hcm => by
    have le : s1.heap.objs.size ≤ c := by
      simp only [List.mem_cons, List.not_mem_nil, or_false] at hcm
      rcases hcm with e | e | e | e | e <;> subst e <;> first | exact Nat.le_refl _ | exact Nat.le_add_right _ _
    exact I1.fpOk le (I1.hok.fresh le)
  refine zip_begins2 (beginsB (t := t1) a us.toArray) (beginsB (t := t2) b vs.toArray) pa pb fun h' kz kTI kTO g1 g2 size' keep' => wpAny_pyIter_zip kz ?_
  have J : Inv X pins σ H1 { s1 with heap := h' } := I1.kept (t' := s1.toks) keep'
  exact ⟨_, _, _, _, H1, rfl, J, turn_zipM (apart_of (isB_lt pa) (isB_lt pb)), ⟨kz, kTI, ⟨_, _, kTO⟩, itB_of g1, itB_of g2⟩, fresh, q⟩
theorem walk_zipM {K : PySem.W.Frag} {t1 t2 : Bool} {a b : Addr} {xs ys : List V} {n : Nat} (hn : n = xs.length) (hm : n = ys.length) : Walk (ItzM K t1 t2 a b) n (fun H => SqB K t1 H a xs ∧ SqB K t2 H b ys) (YPair (fun i => xs[i]?) (fun i => ys[i]?)) := by
  subst hn
  refine ⟨fun i _ hi q => ⟨xs, ys, xs[i], ys[i]'(by omega), q.1, q.2, by simp, by simp⟩, fun _ q => ⟨xs, ys, q.1, q.2, by omega, by omega, by omega⟩, fun i H v H' _ q y => ?_⟩
  obtain ⟨T, x, z, h1, h2, h3, h4, h5⟩ := y
  exact ⟨T, x, z, h1, h2, h3, h4 xs q.1, h5 ys q.2⟩
/-- a sequence of either kind, walked -/
def ItsB (K : PySem.W.Frag) : Bool → Addr → It
  | true => fun a => Itt K a
  | false => fun a => Itl K a
def iSq (K : PySem.W.Frag) (ta : TE) : TI := fun σ H R => ta σ H fun x H1 => ∃ a t xs, x = .ref a ∧ SqB K t H1 a xs ∧ R (ItsB K t a) H1
theorem pi_sq {X : Cx} {tg e : Expr} {ta : TE} (he : PE X e ta) : PI X tg e (iSq X.K ta) := by
  refine ⟨fun pins s σ H R I h => thn (he.run pins s σ H _ I h) fun v s1 ⟨x, H1, I1, rx, a, t, xs, ex, hs, q⟩ => ?_⟩
  subst ex
  obtain rfl : v = Value.ref a := rx
  have fresh : ∀ c, c ∈ [s1.heap.objs.size] → FpOk X pins H1 c := fun c hc => by
    rw [List.mem_singleton.mp hc]
    exact I1.fpOk (Nat.le_refl _) (I1.hok.fresh (Nat.le_refl _))
  cases t
  · obtain ⟨us, ru, pl, _⟩ := I1.list hs
    exact wpAny_pyIter_list pl.isList ⟨_, [s1.heap.objs.size], _, _, H1, rfl, I1.kept (t' := s1.toks) (fun _ _ z => Heap.get?_push_of_some _ z), turn_list a _, ⟨_, Heap.get?_push_size _ rfl, rfl, rfl⟩, fresh, q⟩
  · obtain ⟨us, ru, pl, _⟩ := I1.tuple hs
    exact wpAny_pyIter_tuple (items := us.toArray) pl ⟨_, [s1.heap.objs.size], _, _, H1, rfl, I1.kept (t' := s1.toks) (fun _ _ z => Heap.get?_push_of_some _ z), turn_tuple a _, ⟨_, Heap.get?_push_size _ rfl, rfl, rfl⟩, fresh, q⟩
theorem walk_sq {K : PySem.W.Frag} {t : Bool} {a : Addr} {xs : List V} : Walk (ItsB K t a) xs.length (fun H => SqB K t H a xs) (YAt xs) := by
  cases t
  · exact walk_list
  · exact walk_tup
section
variable {K : PySem.W.Frag} {σ : L2.St} {H H' : Hp} {Q : VK} {D : Ends} {ta : TE} {t : TA} {g : TG} {tb : TS} {a b : Addr} {xs ys : List V} {k k2 : Bool} {R : It → Hp → Prop} {v : V}
theorem same_sqb (e : Same H H') (h : SqB K k H a xs) : SqB K k H' a xs := by
  cases k
  · exact U.same_sql e h
  · exact U.same_sqt e h
def sqK (K : PySem.W.Frag) (R : It → Hp → Prop) : VK := fun x H1 => ∃ a t xs, x = .ref a ∧ SqB K t H1 a xs ∧ R (ItsB K t a) H1
def zuK (K : PySem.W.Frag) (R : It → Hp → Prop) : List V → Hp → Prop := fun vs H1 => ∃ a b t1 t2 xs ys, vs = [.ref a, .ref b] ∧ SqB K t1 H1 a xs ∧ SqB K t2 H1 b ys ∧ R (ItzM K t1 t2 a b) H1
theorem v_sq (q : ta σ H (sqK K R)) : iSq K ta σ H R := q
theorem v_sqr (h : SqB K k H a xs) (q : R (ItsB K k a) H) : sqK K R (.ref a) H := ⟨a, k, xs, rfl, h, q⟩
theorem v_zu (q : t σ H (zuK K R)) : iZipU K t σ H R := q
theorem v_zur (ha : SqB K k H a xs) (hb : SqB K k2 H b ys) (q : R (ItzM K k k2 a b) H) : zuK K R [.ref a, .ref b] H := ⟨a, b, k, k2, xs, ys, rfl, ha, hb, q⟩
theorem v_lenb (h : SqB K k H a xs) (q : Q (.int xs.length) H) : U.rLenU K [.ref a] H Q := by
  cases k
  · exact U.v_lenl h q
  · exact U.v_lent h q
theorem v_ixb {n : Int} (h : SqB K k H a xs) (e : atI xs n = some v) (q : Q v H) : rIx K (.ref a) (.int n) H Q := by
  cases k
  · exact U.v_ixl h e q
  · exact U.v_ixt h e q
theorem v_listb (h : SqB K k H a xs) (q : ∀ l, H l = none → Q (.ref l) (upd H l (.lst xs))) : U.rListOf K [.ref a] H Q := by
  cases k
  · exact U.v_list h q
  · exact U.v_listt h q
theorem v_tupb (h : SqB K k H a xs) (q : ∀ l H', Same H H' → SqT K H' l xs → (H l = none ∧ H' = upd H l (.tup xs) ∨ l = a ∧ H' = H) → Q (.ref l) H') : U.rTupOf K [.ref a] H Q := by
  cases k
  · exact U.v_tuple h fun l hl => q l _ (U.same_new hl) (.inl (.inl upd_same)) (.inl ⟨hl, rfl⟩)
  · exact ⟨a, xs, rfl, .inr ⟨h, q a H (Same.refl H) h (.inr ⟨rfl, rfl⟩)⟩⟩
theorem for_sq (Pv : Nat → L2.St → Hp → Prop) (h0 : Pv 0 σ H) (hG : ∀ i σ H, i ≤ xs.length → Pv i σ H → SqB K k H a xs)
    (hs : ∀ i x σ H, xs[i]? = some x → Pv i σ H → g x σ H fun σ2 H2 => tb { D with nx := Pv (i + 1), ct := Pv (i + 1), bk := D.nx } σ2 H2) (hd : ∀ σ H, Pv xs.length σ H → D.nx σ H) : U.forI (ItsB K k a) g tb D σ H :=
  U.for_w walk_sq Pv h0 hG (fun i x σ H H' hi p ⟨e, q⟩ => by subst e; exact hs i x σ H' q p) hd
theorem sqb_lst (h : H a = some (.lst xs)) : SqB K false H a xs := SqL.of h
theorem sqb_tup (h : H a = some (.tup xs)) : SqB K true H a xs := .inl (.inl h)
end
section
variable {σ : L2.St} {H : Hp} {Q : VK} {r r' : R2} {ta tb tc : TE} {to te : TE} {D : Ends} {t : TA} {i j l : Nat} {v w x : V}
theorem v_chain (q : ta σ H fun x H1 => tb σ H1 fun y H2 => r x y H2 fun z H3 => ∃ k, z = .bl k ∧ (if k = true then tc σ H3 fun w' H4 => r' y w' H4 Q else Q (.bl false) H3)) : tChain r r' ta tb tc σ H Q := q
theorem v_m1 {r : V → List V → Hp → VK → Prop} (q : to σ H fun x H1 => (∃ a, x = .str a) ∧ te σ H1 fun y H2 => r x [y] H2 Q) : tM1 r to te σ H Q := q
theorem v_par3 (q : t σ H fun vs H1 => ∃ u v w, vs = [u, v, w] ∧ D.nx (((σ.set i (some u)).set j (some v)).set l (some w)) H1) : tPar3 i j l t D σ H := q
theorem v_x3 {P : V → V → V → Prop} (q : P v w x) : ∃ a b c, [v, w, x] = [a, b, c] ∧ P a b c := ⟨v, w, x, rfl, q⟩
end
def rJoinL (K : PySem.W.Frag) : V → List V → Hp → VK → Prop := fun x xs H Q => ∃ a p, ∃ ys : List Str, x = .str a ∧ xs = [.ref p] ∧ (SqL K H p (ys.map V.str) ∨ SqT K H p (ys.map V.str)) ∧ (ys.map (·.length)).sum + ys.length * a.length ≤ 16777216 ∧ Q (.str (Txt.join a ys)) H
end ZM
end
section
set_option maxHeartbeats 4000000
namespace C
open PySem PySem.Spec PyProof.Rows L2 RZ U ZM
local macro_rules | `(tactic| walk_at "vc1") => `(tactic| first
  | (with_reducible refine v_seq ?_) | (with_reducible refine v_asg ?_) | ((with_reducible refine' v_var ?vch ?_); (case vch => exact rfl)) | (with_reducible refine v_c ?_) | (with_reducible refine v_op ?_)
  | (with_reducible refine v_cons ?_) | (with_reducible refine v_nil ?_) | (with_reducible refine v_name ?_) | (with_reducible refine v_cb ?_) | (with_reducible refine v_test ?_) | (with_reducible refine v_b ?_)
  | (with_reducible refine v_bl ?_) | (with_reducible refine v_ifs ?_) | (with_reducible refine v_if ?_) | (with_reducible refine v_ret ?_) | (with_reducible refine v_next ?_) | (with_reducible refine v_drop ?_)
  | (with_reducible refine v_and ?_) | (with_reducible refine v_or ?_) | (with_reducible refine v_not ?_) | (with_reducible refine v_andV ?_) | (with_reducible refine v_orV ?_) | (with_reducible refine v_notV ?_)
  | (with_reducible refine v_sub ?_) | (with_reducible refine v_un ?_) | (with_reducible refine v_tup ?_) | (with_reducible refine v_lst ?_) | (with_reducible refine v_call ?_) | (with_reducible refine v_sl ?_) | (with_reducible refine v_nopart ?_)
  | (with_reducible refine v_part ?_) | (with_reducible refine v_xi ?_) | (with_reducible refine v_par ?_) | (with_reducible refine v_x2 ?_) | (with_reducible refine v_bm ?_) | (with_reducible refine v_bm0 ?_) | (with_reducible refine v_retn ?_) | (with_reducible refine v_truth ?_)
  | (with_reducible refine v_addi ?_) | (with_reducible refine v_subi ?_) | (with_reducible refine v_lti ?_) | (with_reducible refine v_lei ?_) | (with_reducible refine v_gti ?_) | (with_reducible refine v_gei ?_) | (with_reducible refine v_eqi ?_) | (with_reducible refine v_eqs ?_) | (with_reducible refine v_nei ?_) | (with_reducible refine v_nes ?_)
  | (with_reducible refine v_int ?_) | (with_reducible refine v_neg ?_) | (with_reducible refine v_isn ?_) | (with_reducible refine v_notn ?_) | (with_reducible refine v_abs ?_) | (with_reducible refine v_min2 ?_) | (with_reducible refine v_max2 ?_) | (with_reducible refine v_gnil ?_) | (with_reducible refine v_gcons ?_)
  | (with_reducible refine v_for ?_) | (with_reducible refine v_lc ?_) | (with_reducible refine v_il ?_) | (with_reducible refine v_it ?_) | (with_reducible refine v_ir ?_) | (with_reducible refine v_iz ?_)
  | ((with_reducible refine' v_ilr ?vch ?_); (case vch => walk_at "sql")) | ((with_reducible refine' v_sll ?vch ?_); (case vch => walk_at "sql")) | ((with_reducible refine' v_list ?vch ?_); (case vch => walk_at "sql"))
  | ((with_reducible refine' v_muli ?vcm ?_); (case vcm => first | exact cmul_r (by decide) (by decide) | exact cmul_l (by decide) (by decide)))
  | ((with_reducible refine' v_modi ?vcm ?_); (case vcm => first | decide | assumption))
  | ((with_reducible refine' v_divi ?vcm ?_); (case vcm => first | exact cdiv_small (by decide) (by decide) | assumption))
  | ((with_reducible refine' v_pow ?vcm ?_); (case vcm => exact ⟨by decide, by decide, by decide⟩))
  | ((with_reducible refine' v_ixl ?vch ?vci ?_); (case vch => walk_at "sql"); (case vci => exact rfl))
  | ((with_reducible refine' v_setl ?vch ?vci ?_); (case vch => walk_at "hat"); (case vci => exact rfl))
  | ((with_reducible refine' v_lenl ?vch ?_); (case vch => walk_at "sql")))
local macro_rules | `(tactic| walk_at "hat") => `(tactic| first | assumption | exact upd_same | ((with_reducible refine' h_ne ?vcn ?vcq); (case vcq => walk_at "hat"); (case vcn => walk_at "ne")))
local macro_rules | `(tactic| walk_at "ne") => `(tactic| first | assumption | exact Ne.symm (by assumption) | exact ne_new (by assumption) (by assumption) | exact ne_new' (by assumption) (by assumption))
local macro_rules | `(tactic| walk_at "sql") => `(tactic| first | assumption | exact SqL.of (by walk_at "hat"))
local macro_rules | `(tactic| walk_at "vc") => `(tactic| repeat (walk_at "vc1"))
local macro_rules | `(tactic| walk_at "vc1") => `(tactic| first | (with_reducible refine v_sq ?_) | (with_reducible refine v_zu ?_) | (with_reducible refine v_fldo ?_) | (with_reducible refine v_sfld ?_) | (with_reducible refine v_nd ?_) | (with_reducible refine v_sd ?_) | (with_reducible refine v_yes ?_) | (with_reducible refine v_chain ?_) | (with_reducible refine v_par3 ?_) | (with_reducible refine v_x3 ?_))

section

/-- the bag at b: its cells, the next one's place, the rest of a great one, the mixed number, the draws -/
structure BagAt (K : PySem.W.Frag) (H : Hp) (b c : Addr) (p r m n : Int) (xs : List Int) : Prop where
  at_ : H b = some (.lst [.ref c, .int p, .int r, .int m, .int n])
  cells : SqL K (wo [b] H) c (xs.map V.int)
  p0 : 0 ≤ p
  r0 : 0 ≤ r
  m0 : 0 ≤ m
  m1 : m < 2147483647
/-- g: where the cells stand, which they are -/
def Bag (K : PySem.W.Frag) (H : Hp) (b : Addr) (g : Addr × List Int) : Prop := ∃ p r m n, BagAt K H b g.1 p r m n g.2
abbrev Kp (b : Addr) (H H' : Hp) : Prop := Same (wo [b] H) (wo [b] H')
theorem BagAt.put {K : PySem.W.Frag} {H : Hp} {b c : Addr} {p r m n : Int} {xs : List Int} {p' r' m' n' : Int} (B : BagAt K H b c p r m n xs) (p0 : 0 ≤ p') (r0 : 0 ≤ r') (m0 : 0 ≤ m') (m1 : m' < 2147483647) :
    BagAt K (upd H b (.lst [.ref c, .int p', .int r', .int m', .int n'])) b c p' r' m' n' xs :=
  ⟨upd_same, same_sql (wo_upd (by simp)) B.cells, p0, r0, m0, m1⟩
theorem kp_upd {b : Addr} {H H' : Hp} {o : HO} (k : Kp b H H') : Kp b H (upd H' b o) := k.trans (wo_upd (by simp))
theorem atI_in {xs : List Int} {i : Int} (h0 : 0 ≤ i) (h1 : i < xs.length) : ∃ z, atI (xs.map V.int) i = some (.int z) := by
  have hl : i.toNat < xs.length := by omega
  refine ⟨xs[i.toNat], ?_⟩
  unfold atI ixN
  rw [if_pos h0, if_pos (by rw [List.length_map]; exact h1), Option.bind_some, List.getElem?_map, List.getElem?_eq_getElem hl]
  rfl

theorem kp_get {b a : Addr} {H H' : Hp} {o : HO} (k : Kp b H H') (ne : a ≠ b) (h : H a = some o) : H' a = some o := by
  have q := k a o (by rw [wo_out (by simpa using ne)]; exact h)
  exact (wo_get q).2
theorem kp_trans {b : Addr} {H H1 H2 : Hp} (a : Kp b H H1) (c : Kp b H1 H2) : Kp b H H2 := a.trans c
theorem kp_same {b : Addr} {H H' : Hp} (h : Same H H') : Kp b H H' := wo_mono h
theorem kp_new {b a : Addr} {H H' : Hp} {o : HO} (k : Kp b H H') (h : H' a = none) : Kp b H (upd H' a o) := k.trans (wo_new h)
/-- a write to what H did not know -/
theorem kp_mut {b a : Addr} {H H' : Hp} {o : HO} (k : Kp b H H') (h : H a = none) : Kp b H (upd H' a o) := wo_same fun x hx u e => by
  rw [upd_ne (ne_of_none e h)]
  exact kp_get k (by simpa using hx) e
theorem Bag.ne {K : PySem.W.Frag} {H : Hp} {b : Addr} {g : Addr × List Int} (B : Bag K H b g) {a : Addr} (h : H a = none) : a ≠ b := fun z => by
  obtain ⟨p, r, m, n, B⟩ := B
  rw [z, B.at_] at h
  cases h
theorem Bag.get {K : PySem.W.Frag} {H : Hp} {b : Addr} {g : Addr × List Int} (B : Bag K H b g) : ∃ o, H b = some o := by
  obtain ⟨p, r, m, n, B⟩ := B
  exact ⟨_, B.at_⟩
theorem Bag.cells {K : PySem.W.Frag} {H : Hp} {b : Addr} {g : Addr × List Int} (B : Bag K H b g) : SqL K (wo [b] H) g.1 (g.2.map V.int) := by
  obtain ⟨p, r, m, n, B⟩ := B
  exact B.cells
/-- the bag elsewhere: as it was at b, its cells by an elder heap -/
theorem Bag.move {K : PySem.W.Frag} {H0 H H' : Hp} {b : Addr} {g : Addr × List Int} (B : Bag K H b g) (hc : SqL K (wo [b] H0) g.1 (g.2.map V.int)) (k : Kp b H0 H') (e : H' b = H b) : Bag K H' b g := by
  obtain ⟨p, r, m, n, B⟩ := B
  exact ⟨p, r, m, n, e.trans B.at_, same_sql k hc, B.p0, B.r0, B.m0, B.m1⟩
theorem Bag.new {K : PySem.W.Frag} {H : Hp} {b a : Addr} {g : Addr × List Int} {o : HO} (B : Bag K H b g) (h : H a = none) : Bag K (upd H a o) b g :=
  B.move B.cells (wo_new h) (upd_ne (Ne.symm (B.ne h)))
/-- a write to a place that an elder heap (with the bag's cells) does not know -/
theorem Bag.mut {K : PySem.W.Frag} {H0 H : Hp} {b a : Addr} {g : Addr × List Int} {o : HO} (B : Bag K H b g) (hc : SqL K (wo [b] H0) g.1 (g.2.map V.int)) (k : Kp b H0 H) (h : H0 a = none) (ne : a ≠ b) : Bag K (upd H a o) b g :=
  B.move hc (kp_mut k h) (upd_ne (Ne.symm ne))
theorem size_small2 {n : Nat} (h : n ≤ 1000000000) : (n : Int) < 1267650600228229401496703205376 := by omega

end
section

/-! ### data: kinds, depth, likeness -/
def tyD : PyData → String
  | .none => "NoneType"
  | .bool _ => "bool"
  | .int _ => "int"
  | .str _ => "str"
  | .list _ => "list"
  | .tuple _ => "tuple"
  | .dict _ => "dict"
theorem sql_ty {K : PySem.W.Frag} {H : Hp} {a : Addr} {xs : List V} (h : SqL K H a xs) : TyX K H (.ref a) (.type "list") := by
  rcases h with (h | ⟨o, h⟩) | ⟨o, its, n, h1, h2, _⟩
  · exact .base (.lst h)
  · exact .base (.frz h)
  · exact .kList h1 h2
theorem sqt_ty {K : PySem.W.Frag} {H : Hp} {a : Addr} {xs : List V} (h : SqT K H a xs) : TyX K H (.ref a) (.type "tuple") := by
  rcases h with (h | ⟨o, h⟩) | ⟨o, its, n, h1, h2, _⟩
  · exact .base (.tup h)
  · exact .fTuple h
  · exact .kTuple h1 h2
theorem dp_ty {K : PySem.W.Frag} {H : Hp} {v : V} {d : PyData} (h : Dp K H v d) : TyX K H v (.type (tyD d)) := by
  cases h with
  | non => exact .base .non
  | bl b => exact .base (.bl b)
  | int i => exact .base (.int i)
  | str x => exact .base (.str x)
  | lst h _ => exact sql_ty h
  | tup h _ => exact sqt_ty h
theorem v_isi {K : PySem.W.Frag} {H : Hp} {Q : VK} {x : V} {d : PyData} {T : String} {b : Bool} (h : Dp K H x d) (hk : kitB (tyD d) T = some b) (q : Q (.bl b) H) : rIsiU K [x, .ty T] H Q :=
  .inl ⟨x, .ty T, _, .type T, b, rfl, .ty T, dp_ty h, kit_ty hk, q⟩
def isInt : PyData → Bool
  | .int _ => true
  | _ => false
def isBool : PyData → Bool
  | .bool _ => true
  | _ => false
def isStr : PyData → Bool
  | .str _ => true
  | _ => false
def isList : PyData → Bool
  | .list _ => true
  | _ => false
def isTuple : PyData → Bool
  | .tuple _ => true
  | _ => false
theorem kit_int (d : PyData) : kitB (tyD d) "int" = some (isInt d || isBool d) := by
  cases d
  · exact (show kitB "NoneType" "int" = some false by decide +kernel)
  · exact (show kitB "bool" "int" = some true by decide +kernel)
  · exact (show kitB "int" "int" = some true by decide +kernel)
  · exact (show kitB "str" "int" = some false by decide +kernel)
  · exact (show kitB "list" "int" = some false by decide +kernel)
  · exact (show kitB "tuple" "int" = some false by decide +kernel)
  · exact (show kitB "dict" "int" = some false by decide +kernel)
theorem kit_bool (d : PyData) : kitB (tyD d) "bool" = some (isBool d) := by
  cases d
  · exact (show kitB "NoneType" "bool" = some false by decide +kernel)
  · exact (show kitB "bool" "bool" = some true by decide +kernel)
  · exact (show kitB "int" "bool" = some false by decide +kernel)
  · exact (show kitB "str" "bool" = some false by decide +kernel)
  · exact (show kitB "list" "bool" = some false by decide +kernel)
  · exact (show kitB "tuple" "bool" = some false by decide +kernel)
  · exact (show kitB "dict" "bool" = some false by decide +kernel)
theorem kit_str (d : PyData) : kitB (tyD d) "str" = some (isStr d) := by
  cases d
  · exact (show kitB "NoneType" "str" = some false by decide +kernel)
  · exact (show kitB "bool" "str" = some false by decide +kernel)
  · exact (show kitB "int" "str" = some false by decide +kernel)
  · exact (show kitB "str" "str" = some true by decide +kernel)
  · exact (show kitB "list" "str" = some false by decide +kernel)
  · exact (show kitB "tuple" "str" = some false by decide +kernel)
  · exact (show kitB "dict" "str" = some false by decide +kernel)
theorem kit_list (d : PyData) : kitB (tyD d) "list" = some (isList d) := by
  cases d
  · exact (show kitB "NoneType" "list" = some false by decide +kernel)
  · exact (show kitB "bool" "list" = some false by decide +kernel)
  · exact (show kitB "int" "list" = some false by decide +kernel)
  · exact (show kitB "str" "list" = some false by decide +kernel)
  · exact (show kitB "list" "list" = some true by decide +kernel)
  · exact (show kitB "tuple" "list" = some false by decide +kernel)
  · exact (show kitB "dict" "list" = some false by decide +kernel)
theorem kit_tuple (d : PyData) : kitB (tyD d) "tuple" = some (isTuple d) := by
  cases d
  · exact (show kitB "NoneType" "tuple" = some false by decide +kernel)
  · exact (show kitB "bool" "tuple" = some false by decide +kernel)
  · exact (show kitB "int" "tuple" = some false by decide +kernel)
  · exact (show kitB "str" "tuple" = some false by decide +kernel)
  · exact (show kitB "list" "tuple" = some false by decide +kernel)
  · exact (show kitB "tuple" "tuple" = some true by decide +kernel)
  · exact (show kitB "dict" "tuple" = some false by decide +kernel)
mutual
def dep : PyData → Nat
  | .list xs => depAll xs + 1
  | .tuple xs => depAll xs + 1
  | _ => 0
def depAll : List PyData → Nat
  | [] => 0
  | d :: r => max (dep d) (depAll r)
end
theorem dep_mem {d : PyData} : ∀ {xs : List PyData}, d ∈ xs → dep d ≤ depAll xs
  | a :: r, h => by
    show dep d ≤ max (dep a) (depAll r)
    rcases List.mem_cons.mp h with h | h
    · subst h
      omega
    · have := dep_mem h
      omega
mutual
/-- the same value, of the same kinds -/
def like : PyData → PyData → Bool
  | .none, .none => true
  | .bool a, .bool b => a == b
  | .int a, .int b => a == b
  | .str a, .str b => a == b
  | .list xs, .list ys => likeAll xs ys
  | .tuple xs, .tuple ys => likeAll xs ys
  | _, _ => false
def likeAll : List PyData → List PyData → Bool
  | [], [] => true
  | x :: xs, y :: ys => like x y && likeAll xs ys
  | _, _ => false
end
mutual
def dictFree : PyData → Bool
  | .list xs => dictFreeAll xs
  | .tuple xs => dictFreeAll xs
  | .dict _ => false
  | _ => true
def dictFreeAll : List PyData → Bool
  | [] => true
  | d :: r => dictFree d && dictFreeAll r
end
mutual
theorem like_refl : ∀ d : PyData, (∀ kvs, d ≠ .dict kvs) → dictFree d = true → like d d = true
  | .none, _, _ => rfl
  | .bool a, _, _ => by simp [like]
  | .int a, _, _ => by simp [like]
  | .str a, _, _ => by simp [like]
  | .list xs, _, h => likeAll_refl xs h
  | .tuple xs, _, h => likeAll_refl xs h
  | .dict kvs, h, _ => absurd rfl (h kvs)
theorem likeAll_refl : ∀ xs : List PyData, dictFreeAll xs = true → likeAll xs xs = true
  | [], _ => rfl
  | d :: r, h => by
    have h2 : (dictFree d && dictFreeAll r) = true := h
    rw [Bool.and_eq_true] at h2
    show (like d d && likeAll r r) = true
    rw [like_refl d (fun kvs e => by rw [e] at h2; exact absurd h2.1 (by simp [dictFree])) h2.1, likeAll_refl r h2.2]
    rfl
end
mutual
theorem dp_free {K : PySem.W.Frag} {H : Hp} : ∀ {v : V} {d : PyData}, Dp K H v d → dictFree d = true
  | _, _, .non => rfl
  | _, _, .bl _ => rfl
  | _, _, .int _ => rfl
  | _, _, .str _ => rfl
  | _, _, .lst _ r => dps_free r
  | _, _, .tup _ r => dps_free r
theorem dps_free {K : PySem.W.Frag} {H : Hp} : ∀ {vs : List V} {ds : List PyData}, DpAll K H vs ds → dictFreeAll ds = true
  | _, _, .nil => rfl
  | _, _, .cons h r => by
    show (dictFree _ && dictFreeAll _) = true
    rw [dp_free h, dps_free r]
    rfl
end
theorem like_self {K : PySem.W.Frag} {H : Hp} {v : V} {d : PyData} (h : Dp K H v d) : like d d = true := like_refl d (fun kvs e => by subst e; cases h) (dp_free h)
theorem dps_get {K : PySem.W.Frag} {H : Hp} : ∀ {vs : List V} {ds : List PyData} {i : Nat} {v : V}, DpAll K H vs ds → vs[i]? = some v → ∃ d, ds[i]? = some d ∧ Dp K H v d
  | _, _, i, v, .nil, h => by simp at h
  | _, _, 0, v, .cons h r, e => by
    simp at e
    subst e
    exact ⟨_, rfl, h⟩
  | _, _, i + 1, v, .cons h r, e => by
    obtain ⟨d, h1, h2⟩ := dps_get (i := i) r (by simpa using e)
    exact ⟨d, by simpa using h1, h2⟩
theorem dps_len {K : PySem.W.Frag} {H : Hp} : ∀ {vs : List V} {ds : List PyData}, DpAll K H vs ds → vs.length = ds.length
  | _, _, .nil => rfl
  | _, _, .cons _ r => congrArg Nat.succ (dps_len r)
theorem likeAll_zip : ∀ (xs ys : List PyData), likeAll xs ys = (decide (xs.length = ys.length) && (List.zipWith like xs ys).all id)
  | [], [] => rfl
  | [], _ :: _ => rfl
  | _ :: _, [] => rfl
  | x :: xs, y :: ys => by
    show (like x y && likeAll xs ys) = _
    rw [likeAll_zip xs ys]
    simp only [List.length_cons, List.zipWith_cons_cons, List.all_cons, id_eq, Nat.add_right_cancel_iff]
    cases like x y <;> simp
theorem walk_zipT {K : PySem.W.Frag} {a b : Addr} {xs ys : List V} {n : Nat} (hn : n = min xs.length ys.length) : Walk (ItzT K a b) n (fun H => SqT K H a xs ∧ SqT K H b ys) (YPair (fun i => xs[i]?) (fun i => ys[i]?)) := by
  subst hn
  refine ⟨fun i _ hi q => ?_, fun _ q => ⟨xs, ys, q.1, q.2, by omega⟩, fun i H v H' _ q y => ?_⟩
  · have h1 : i < xs.length := by omega
    have h2 : i < ys.length := by omega
    exact ⟨xs, ys, xs[i], ys[i], q.1, q.2, by simp [h1], by simp [h2]⟩
  · obtain ⟨T, x, z, h1, h2, h3, h4, h5⟩ := y
    exact ⟨T, x, z, h1, h2, h3, h4 xs q.1, h5 ys q.2⟩

/-- at most n deep, no sequence too long -/
def fit : Nat → PyData → Prop
  | 0, _ => False
  | n + 1, .list xs => xs.length ≤ 1000000 ∧ ∀ d, d ∈ xs → fit n d
  | n + 1, .tuple xs => xs.length ≤ 1000000 ∧ ∀ d, d ∈ xs → fit n d
  | _ + 1, _ => True
theorem fit_up : ∀ {n : Nat} {d : PyData}, fit n d → fit (n + 1) d
  | 0, _, h => h.elim
  | n + 1, .none, _ => trivial
  | n + 1, .bool _, _ => trivial
  | n + 1, .int _, _ => trivial
  | n + 1, .str _, _ => trivial
  | n + 1, .dict _, _ => trivial
  | n + 1, .list xs, h => ⟨h.1, fun d hd => fit_up (h.2 d hd)⟩
  | n + 1, .tuple xs, h => ⟨h.1, fun d hd => fit_up (h.2 d hd)⟩
theorem fit_mono {n m : Nat} {d : PyData} (h : n ≤ m) (f : fit n d) : fit m d := by
  obtain ⟨k, rfl⟩ := Nat.le.dest h
  induction k with
  | zero => exact f
  | succ k ih => exact fit_up (ih (Nat.le_add_right _ _))
theorem same_mut {H H' : Hp} {a : Addr} {o : HO} (e : Same H H') (h : H a = none) : Same H (upd H' a o) := fun b u q => by
  rw [upd_ne (ne_of_none q h)]
  exact e b u q
theorem sqt_of {K : PySem.W.Frag} {H : Hp} {a : Addr} {xs : List V} (h : H a = some (.tup xs)) : SqT K H a xs := .inl (.inl h)
theorem v_yes {σ : L2.St} {H : Hp} {Qb : Bool → Hp → Prop} (q : Qb true H) : tYes σ H Qb := q
theorem take_succ_get {α : Type} {xs : List α} {i : Nat} {x : α} (h : xs[i]? = some x) : xs.take (i + 1) = xs.take i ++ [x] := by
  rw [List.take_add_one, h]
  rfl
theorem iT {c A B : Prop} [Decidable c] (h : c) (q : A) : if c then A else B := by
  rw [if_pos h]
  exact q
theorem iF {c A B : Prop} [Decidable c] (h : ¬c) (q : B) : if c then A else B := by
  rw [if_neg h]
  exact q
theorem nt {b : Bool} (h : b = false) : ¬b = true := by rw [h]; decide

end
section
abbrev N_law_int : List Str := ["v"]
def t_law_int (K : PySem.W.Frag) : TS :=
  (tRet (tAndV (tCB (rIsiU K) (tCons (tVar 0) (tCons (tC (.ty "int")) tNil))) (tNotV (tCB (rIsiU K) (tCons (tVar 0) (tCons (tC (.ty "bool")) tNil))))))
def sp_law_int (K : PySem.W.Frag) : Sp := fun vs H Q _ => ∃ x d, vs = [x] ∧ Dp K H x d ∧ Q (.bl (isInt d)) H
theorem pure_law_int {K : PySem.W.Frag} (vs : List V) (H : Hp) (Q : VK) (E : XK) (h : sp_law_int K vs H Q E) : t_law_int K { nx := fun _ H' => Q .non H', rt := Q } (start N_law_int vs) H := by
  obtain ⟨x, d, rfl, h, k⟩ := h
  show t_law_int K _ [some x] H
  unfold t_law_int
  walk_at "vc"
  refine v_isi h (kit_int d) ⟨_, rfl, ?_⟩
  have e : isInt d = ((isInt d || isBool d) && !isBool d) := by cases d <;> rfl
  refine ite2 (fun c => ?_) (fun c => ?_)
  · walk_at "vc"
    refine v_isi h (kit_bool d) ⟨_, rfl, ?_⟩
    rw [e, c] at k
    exact k
  · rw [e, Bool.eq_false_iff.mpr c] at k
    exact k

end
section

def sp_law_like (K : PySem.W.Frag) (n : Nat) : Sp := fun vs H Q _ => ∃ x y d e, vs = [x, y] ∧ Dp K H x d ∧ Dp K H y e ∧ fit n e ∧ ∀ H', Same H H' → Q (.bl (like d e)) H'
abbrev N_law_like : List Str := ["told", "due", "x", "y"]
def t_law_like (K : PySem.W.Frag) (n : Nat) : TS :=
  (tSeq (tIfS (tTest (tOp rIsN (tVar 1) (tC .non))) (tRet (tOp rIsN (tVar 0) (tC .non))) tNext)
    (tSeq (tIfS (tB (tCB (rIsiU K) (tCons (tVar 1) (tCons (tC (.ty "bool")) tNil)))) (tRet (tAndV (tCB (rIsiU K) (tCons (tVar 0) (tCons (tC (.ty "bool")) tNil))) (tOp (rEqU K) (tVar 0) (tVar 1)))) tNext)
    (tSeq (tIfS (tB (tCall (sp_law_int K) [] E0 (tCons (tVar 1) tNil))) (tRet (tAndV (tCall (sp_law_int K) [] E0 (tCons (tVar 0) tNil)) (tOp (rEqU K) (tVar 0) (tVar 1)))) tNext)
    (tSeq (tIfS (tB (tCB (rIsiU K) (tCons (tVar 1) (tCons (tC (.ty "str")) tNil)))) (tRet (tAndV (tCB (rIsiU K) (tCons (tVar 0) (tCons (tC (.ty "str")) tNil))) (tOp (rEqU K) (tVar 0) (tVar 1)))) tNext)
    (tSeq (tIfS (tOr (tAnd (tB (tCB (rIsiU K) (tCons (tVar 1) (tCons (tC (.ty "list")) tNil)))) (tNot (tB (tCB (rIsiU K) (tCons (tVar 0) (tCons (tC (.ty "list")) tNil)))))) (tAnd (tB (tCB (rIsiU K) (tCons (tVar 1) (tCons (tC (.ty "tuple")) tNil)))) (tNot (tB (tCB (rIsiU K) (tCons (tVar 0) (tCons (tC (.ty "tuple")) tNil))))))) (tRet (tC (.bl false))) tNext)
    (tRet (tAndV (tOp (rEqU K) (tCB (rLenU K) (tCons (tVar 0) tNil)) (tCB (rLenU K) (tCons (tVar 1) tNil))) (tCB (rAll K) (tCons (tLc (iZipA K (tCons (tVar 0) (tCons (tVar 1) tNil))) (gTup K 2 (gCons (gName 2) (gCons (gName 3) gNil))) tYes (tCall (sp_law_like K n) [] E0 (tCons (tVar 2) (tCons (tVar 3) tNil))) [2, 3]) tNil)))))))))
theorem no_law_like {K : PySem.W.Frag} {vs : List V} {H : Hp} {Q : VK} {E : XK} (h : sp_law_like K 0 vs H Q E) : False := by
  obtain ⟨_, _, _, _, _, _, _, h, _⟩ := h
  exact h
theorem like_lc {K : PySem.W.Frag} {n m : Nat} {J : It} {G : Hp → Prop} {xs ys : List V} {ds es : List PyData} {H : Hp} {a b : V} {Q : VK} (w : Walk J m G (YPair (fun i => xs[i]?) (fun i => ys[i]?))) (hG : ∀ H', Same H H' → G H') (hx : DpAll K H xs ds) (hy : DpAll K H ys es)
    (hm : m = ds.length) (hm2 : es.length = ds.length) (hl : ds.length ≤ 1000000) (hn : ∀ e, e ∈ es → fit n e) (k : ∀ l H', Same H H' → H' l = some (.lst ((List.zipWith like ds es).map V.bl)) → Q (.ref l) H') :
    lcI J (gTup K 2 (gCons (gName 2) (gCons (gName 3) gNil))) tYes (tCall (sp_law_like K n) [] E0 (tCons (tVar 2) (tCons (tVar 3) tNil))) [2, 3] [some a, some b, none, none] H Q := by
  refine lc_w w (fun D i H' => Same H H' ∧ H D = none ∧ H' D = some (.lst (((List.zipWith like ds es).take i).map V.bl))) (fun D hD => ⟨same_new hD, hD, upd_same⟩) (fun D i H' _ h => hG H' h.1) ?_ ?_
  · rintro D i x H1 H' hD hi ⟨s1, _, h2⟩ ⟨T, u, v, rfl, hT, rfl, hu, hv⟩
    obtain ⟨d, hd, du⟩ := dps_get hx hu
    obtain ⟨e, he, dv⟩ := dps_get hy hv
    have nTD := ne_new' h2 hT
    refine v_gtup (sqt_of upd_same) rfl ?_
    walk_at "vc"
    refine ⟨rfl, v_yes ?_⟩
    refine iT rfl ?_
    walk_at "vc"
    have s2 : Same H (upd H1 T (.tup [u, v])) := s1.trans (same_new hT)
    refine ⟨u, v, d, e, rfl, same_dp s2 du, same_dp s2 dv, hn e (List.mem_of_getElem? he), fun H4 s4 => ?_⟩
    have h4 := s4 _ _ (h_ne (Ne.symm nTD) h2)
    refine ⟨_, h4, ?_, same_mut (s2.trans s4) hD, hD, ?_⟩
    · rw [sizeLine_eq]
      simp
      omega
    · rw [upd_same, take_succ_get (x := like d e) (by rw [List.getElem?_zipWith, hd, he]), List.map_append]
      rfl
  · rintro D H1 hD ⟨s1, _, h2⟩
    refine k D H1 s1 ?_
    rw [h2, List.take_of_length_le (by rw [List.length_zipWith]; omega)]
theorem pure_law_like {K : PySem.W.Frag} (n : Nat) (vs : List V) (H : Hp) (Q : VK) (E : XK) (h : sp_law_like K (n + 1) vs H Q E) : t_law_like K n { nx := fun _ H' => Q .non H', rt := Q } (start N_law_like vs) H := by
  obtain ⟨x, y, d, e, rfl, hd, he, hn, k⟩ := h
  show t_law_like K n _ [some x, some y, none, none] H
  have k0 := k H (Same.refl H)
  unfold t_law_like
  walk_at "vc"
  cases he with
  | non =>
    refine iT (by decide) ?_
    walk_at "vc"
    show Q _ _
    cases hd <;> exact k0
  | bl b =>
    refine iF (by simp) ?_
    walk_at "vc"
    refine v_isi (.bl b) (kit_bool _) ⟨_, rfl, ?_⟩
    refine iT rfl ?_
    walk_at "vc"
    refine v_isi hd (kit_bool _) ⟨_, rfl, ?_⟩
    refine ite2 (fun c => ?_) (fun c => ?_)
    · cases hd <;> first | cases c | skip
      walk_at "vc"
      exact v_eqb k0
    · have z : like d (.bool b) = isBool d := by cases d <;> first | rfl | exact absurd rfl c
      rw [z, Bool.eq_false_iff.mpr c] at k0
      exact k0
  | int i =>
    refine iF (by simp) ?_
    walk_at "vc"
    refine v_isi (.int i) (kit_bool _) ⟨_, rfl, ?_⟩
    refine iF (nt rfl) ?_
    walk_at "vc"
    refine ⟨_, _, rfl, .int i, _, rfl, ?_⟩
    refine iT rfl ?_
    walk_at "vc"
    refine ⟨_, _, rfl, hd, _, rfl, ?_⟩
    refine ite2 (fun c => ?_) (fun c => ?_)
    · cases hd <;> first | cases c | skip
      walk_at "vc"
      exact k0
    · have z : like d (.int i) = isInt d := by cases d <;> first | rfl | exact absurd rfl c
      rw [z, Bool.eq_false_iff.mpr c] at k0
      exact k0
  | str z =>
    refine iF (by simp) ?_
    walk_at "vc"
    refine v_isi (.str z) (kit_bool _) ⟨_, rfl, ?_⟩
    refine iF (nt rfl) ?_
    walk_at "vc"
    refine ⟨_, _, rfl, .str z, _, rfl, ?_⟩
    refine iF (nt rfl) ?_
    walk_at "vc"
    refine v_isi (.str z) (kit_str _) ⟨_, rfl, ?_⟩
    refine iT rfl ?_
    walk_at "vc"
    refine v_isi hd (kit_str _) ⟨_, rfl, ?_⟩
    refine ite2 (fun c => ?_) (fun c => ?_)
    · cases hd <;> first | cases c | skip
      walk_at "vc"
      exact k0
    · have z : like d (.str z) = isStr d := by cases d <;> first | rfl | exact absurd rfl c
      rw [z, Bool.eq_false_iff.mpr c] at k0
      exact k0
  | lst hs ha =>
    rename_i q ys es
    have he := Dp.lst hs ha
    refine iF (by simp) ?_
    walk_at "vc"
    refine v_isi he (kit_bool _) ⟨_, rfl, ?_⟩
    refine iF (nt rfl) ?_
    walk_at "vc"
    refine ⟨_, _, rfl, he, _, rfl, ?_⟩
    refine iF (nt rfl) ?_
    walk_at "vc"
    refine v_isi he (kit_str _) ⟨_, rfl, ?_⟩
    refine iF (nt rfl) ?_
    walk_at "vc"
    refine v_isi he (kit_list _) ⟨_, rfl, ?_⟩
    refine iT rfl ?_
    walk_at "vc"
    refine v_isi hd (kit_list _) ⟨_, rfl, ?_⟩
    refine ite2 (fun c => ?_) (fun c => ?_)
    · walk_at "vc"
      have z : like d (.list es) = isList d := by cases d <;> first | rfl | cases c
      rw [z, show isList d = false from by simpa using c] at k0
      exact k0
    · walk_at "vc"
      refine v_isi he (kit_tuple _) ⟨_, rfl, ?_⟩
      refine iF (nt rfl) ?_
      walk_at "vc"
      refine iF (nt rfl) ?_
      cases hd <;> first | exact absurd rfl c | skip
      rename_i p xs ds hx hp
      have lx := dps_len hp
      have ly := dps_len ha
      walk_at "vc"
      have kz := likeAll_zip ds es
      refine ite2 (fun c2 => ?_) (fun c2 => ?_)
      · have c3 : xs.length = ys.length := by have := of_decide_eq_true c2; omega
        rw [decide_eq_true (by omega), Bool.true_and] at kz
        walk_at "vc"
        refine v_izl hx hs ?_
        refine like_lc (walk_zip rfl) (fun H' e => ⟨same_sql e hx, same_sql e hs⟩) hp ha (by omega) (by omega) (by have := hn.1; omega) hn.2 fun l H' e hl => ?_
        walk_at "vc"
        refine ⟨l, _, rfl, SqL.of hl, ?_⟩
        have k1 := k H' e
        rw [show like (.list ds) (.list es) = likeAll ds es from rfl, kz] at k1
        exact k1
      · rw [decide_eq_false (by intro c3; exact c2 (by simp; omega)), Bool.false_and] at kz
        rw [show like (.list ds) (.list es) = likeAll ds es from rfl, kz] at k0
        exact k0
  | tup hs ha =>
    rename_i q ys es
    have he := Dp.tup hs ha
    refine iF (by simp) ?_
    walk_at "vc"
    refine v_isi he (kit_bool _) ⟨_, rfl, ?_⟩
    refine iF (nt rfl) ?_
    walk_at "vc"
    refine ⟨_, _, rfl, he, _, rfl, ?_⟩
    refine iF (nt rfl) ?_
    walk_at "vc"
    refine v_isi he (kit_str _) ⟨_, rfl, ?_⟩
    refine iF (nt rfl) ?_
    walk_at "vc"
    refine v_isi he (kit_list _) ⟨_, rfl, ?_⟩
    refine iF (nt rfl) ?_
    refine iF (nt rfl) ?_
    walk_at "vc"
    refine v_isi he (kit_tuple _) ⟨_, rfl, ?_⟩
    refine iT rfl ?_
    walk_at "vc"
    refine v_isi hd (kit_tuple _) ⟨_, rfl, ?_⟩
    refine ite2 (fun c => ?_) (fun c => ?_)
    · walk_at "vc"
      have z : like d (.tuple es) = isTuple d := by cases d <;> first | rfl | cases c
      rw [z, show isTuple d = false from by simpa using c] at k0
      exact k0
    · walk_at "vc"
      cases hd <;> first | exact absurd rfl c | skip
      rename_i p xs ds hx hp
      have lx := dps_len hp
      have ly := dps_len ha
      walk_at "vc"
      refine v_lent hx ?_
      walk_at "vc"
      refine v_lent hs ?_
      walk_at "vc"
      have kz := likeAll_zip ds es
      refine ite2 (fun c2 => ?_) (fun c2 => ?_)
      · have c3 : xs.length = ys.length := by have := of_decide_eq_true c2; omega
        rw [decide_eq_true (by omega), Bool.true_and] at kz
        walk_at "vc"
        refine v_izt hx hs ?_
        refine like_lc (walk_zipT rfl) (fun H' e => ⟨same_sqt e hx, same_sqt e hs⟩) hp ha (by omega) (by omega) (by have := hn.1; omega) hn.2 fun l H' e hl => ?_
        walk_at "vc"
        refine ⟨l, _, rfl, SqL.of hl, ?_⟩
        have k1 := k H' e
        rw [show like (.tuple ds) (.tuple es) = likeAll ds es from rfl, kz] at k1
        exact k1
      · rw [decide_eq_false (by intro c3; exact c2 (by simp; omega)), Bool.false_and] at kz
        rw [show like (.tuple ds) (.tuple es) = likeAll ds es from rfl, kz] at k0
        exact k0

end
section
abbrev N_law_draw : List Str := ["bag", "size", "item", "digit", "mix"]
def t_law_draw (K : PySem.W.Frag) : TS :=
  (tSeq (tIfS (tTest (tOp rLtI (tVar 1) (tC (.int 2)))) (tRet (tC (.int 0))) tNext)
    (tSeq (tAsg (tOp (rAddU K) (tOp (rIx K) (tVar 0) (tC (.int 4))) (tC (.int 1))) (gSub (tVar 0) (tC (.int 4)) rSetL))
    (tMid (tIfS (tAnd (tTest (tOp (rEqU K) (tOp (rIx K) (tVar 0) (tC (.int 2))) (tC (.int 0)))) (tTest (tOp rLtI (tOp (rIx K) (tVar 0) (tC (.int 1))) (tCB (rLenU K) (tCons (tOp (rIx K) (tVar 0) (tC (.int 0))) tNil))))) (tSeq (tAsg (tCB rInt1 (tCons (tOp (rIx K) (tOp (rIx K) (tVar 0) (tC (.int 0))) (tOp (rIx K) (tVar 0) (tC (.int 1)))) tNil)) (gName 2))
    (tSeq (tAsg (tOp (rAddU K) (tOp (rIx K) (tVar 0) (tC (.int 1))) (tC (.int 1))) (gSub (tVar 0) (tC (.int 1)) rSetL))
    (tIfS (tTest (tOp rGeI (tVar 2) (tOp rPowU (tC (.int 10)) (tC (.int 18))))) (tAsg (tVar 2) (gSub (tVar 0) (tC (.int 2)) rSetL)) (tAsg (tOp rModU (tCB rInt1 (tCons (tOp (rAddU K) (tOp (rAddU K) (tOp rMulU (tOp (rIx K) (tVar 0) (tC (.int 3))) (tC (.int 50021))) (tOp rMulU (tOp rModU (tCB rInt1 (tCons (tVar 2) tNil)) (tC (.int 2147483563))) (tC (.int 30013)))) (tC (.int 223))) tNil)) (tC (.int 2147483647))) (gSub (tVar 0) (tC (.int 3)) rSetL))))) tNext)
    (tSeq (tIfS (tTest (tOp rGtI (tOp (rIx K) (tVar 0) (tC (.int 2))) (tC (.int 0)))) (tSeq (tAsg (tOp rModU (tCB rInt1 (tCons (tOp (rIx K) (tVar 0) (tC (.int 2))) tNil)) (tVar 1)) (gName 3))
    (tSeq (tAsg (tOp rDivU (tCB rInt1 (tCons (tOp (rIx K) (tVar 0) (tC (.int 2))) tNil)) (tVar 1)) (gSub (tVar 0) (tC (.int 2)) rSetL))
    (tRet (tVar 3)))) tNext)
    (tSeq (tAsg (tCB rInt1 (tCons (tOp (rIx K) (tVar 0) (tC (.int 3))) tNil)) (gName 4))
    (tSeq (tAsg (tOp rModU (tCB rInt1 (tCons (tOp (rAddU K) (tOp (rAddU K) (tOp (rAddU K) (tOp rPowU (tVar 4) (tC (.int 3))) (tOp rMulU (tVar 4) (tC (.int 49999)))) (tOp rMulU (tOp (rIx K) (tVar 0) (tC (.int 4))) (tC (.int 1299721)))) (tC (.int 70001))) tNil)) (tC (.int 2147483647))) (gSub (tVar 0) (tC (.int 3)) rSetL))
    (tRet (tOp rModU (tCB rInt1 (tCons (tOp (rAddU K) (tOp rDivU (tOp (rIx K) (tVar 0) (tC (.int 3))) (tC (.int 103))) (tOp rMulU (tOp rModU (tCB rInt1 (tCons (tOp (rIx K) (tVar 0) (tC (.int 3))) tNil)) (tC (.int 7901))) (tC (.int 71)))) tNil)) (tVar 1)))))))))
def sp_law_draw (K : PySem.W.Frag) : Sp := fun vs H Q _ => ∃ b n g, vs = [.ref b, .int n] ∧ Bag K H b g ∧ n < 1267650600228229401496703205376 ∧ ∀ d H', 0 ≤ d → (d < n ∨ d = 0) → Bag K H' b g → Kp b H H' → Q (.int d) H'
theorem pure_law_draw {K : PySem.W.Frag} (vs : List V) (H : Hp) (Q : VK) (E : XK) (h : sp_law_draw K vs H Q E) : t_law_draw K { nx := fun _ H' => Q .non H', rt := Q } (start N_law_draw vs) H := by
  obtain ⟨b, z, ⟨c, xs⟩, rfl, ⟨p, r, m, n, B⟩, hz, k⟩ := h
  simp only at B
  have hb2 := B.at_
  show t_law_draw K _ [some (.ref b), some (.int z), none, none, none] H
  unfold t_law_draw
  walk_at "vc"
  refine ite2 (fun h0 => ?_) (fun h0 => ?_)
  · walk_at "vc"
    exact k 0 H (by decide) (.inr rfl) ⟨p, r, m, n, B⟩ (Same.refl _)
  have hz2 : 2 ≤ z := by simpa using h0
  have hz0 : 0 < z := by omega
  have hdz : CDivW (0 : Int) z := cdiv_small hz0 hz
  walk_at "vc"
  refine v_mid (fun σ' H' => ∃ x p' r' m', σ' = [some (.ref b), some (.int z), x, none, none] ∧ BagAt K H' b c p' r' m' (n + 1) xs ∧ Kp b H H') ?_ ?_
  · have B1 := B.put (n' := n + 1) B.p0 B.r0 B.m0 B.m1
    have K1 : Kp b H (upd H b (.lst [.ref c, .int p, .int r, .int m, .int (n + 1)])) := wo_upd (by simp)
    generalize hH : upd H b (HO.lst ([V.ref c, V.int p, V.int r, V.int m, V.int n].set (Int.toNat 4) (V.int (n + 1)))) = H1
    have B2 : BagAt K H1 b c p r m (n + 1) xs := hH ▸ B1
    have K2 : Kp b H H1 := hH ▸ K1
    have hb3 := B2.at_
    have hc3 : SqL K H1 c (xs.map V.int) := same_sql wo_le B2.cells
    clear hH B1 K1
    walk_at "vc"
    refine ite2 (fun h1 => ?_) (fun h1 => ?_)
    · walk_at "vc"
      refine ite2 (fun h2 => ?_) (fun h2 => ?_)
      · walk_at "vc"
        obtain ⟨it, hit⟩ := atI_in B2.p0 (by simpa using h2)
        refine v_ixl hc3 hit ?_
        walk_at "vc"
        refine ite2 (fun h3 => ?_) (fun h3 => ?_)
        · walk_at "vc"
          have h4 : (10 : Int) ^ (18 : Int).toNat ≤ it := of_decide_eq_true h3
          have h5 : (0 : Int) ≤ it := Int.le_trans (by decide) h4
          refine ⟨some (.int it), p + 1, it, m, rfl, ?_, kp_upd (kp_upd K2)⟩
          exact (B2.put (by have := B2.p0; omega) B2.r0 B2.m0 B2.m1).put (by have := B2.p0; omega) h5 B2.m0 B2.m1
        · walk_at "vc"
          refine ⟨some (.int it), p + 1, r, (m * 50021 + it % 2147483563 * 30013 + 223) % 2147483647, rfl, ?_, kp_upd (kp_upd K2)⟩
          exact (B2.put (by have := B2.p0; omega) B2.r0 B2.m0 B2.m1).put (by have := B2.p0; omega) B2.r0 (Int.emod_nonneg _ (by decide)) (Int.emod_lt_of_pos _ (by decide))
      · walk_at "vc"
        exact ⟨none, p, r, m, rfl, B2, K2⟩
    · walk_at "vc"
      refine ite2 (fun h2 => absurd h2 (by decide)) (fun h2 => ?_)
      walk_at "vc"
      exact ⟨none, p, r, m, rfl, B2, K2⟩
  · rintro σ' H1 ⟨x, p', r', m', rfl, B2, K2⟩
    have hb3 := B2.at_
    walk_at "vc"
    refine ite2 (fun h1 => ?_) (fun h1 => ?_)
    · walk_at "vc"
      refine k (r' % z) _ (Int.emod_nonneg _ (by omega)) (.inl (Int.emod_lt_of_pos _ hz0)) ⟨p', r' / z, m', n + 1, B2.put B2.p0 (Int.ediv_nonneg B2.r0 (by omega)) B2.m0 B2.m1⟩ (kp_upd K2)
    · walk_at "vc"
      have hm0 := B2.m0
      have hm1 := B2.m1
      refine v_pow ⟨by decide, by decide, by omega⟩ ?_
      walk_at "vc"
      exact k _ _ (Int.emod_nonneg _ (by omega)) (.inl (Int.emod_lt_of_pos _ hz0)) ⟨p', r', _, n + 1, B2.put B2.p0 B2.r0 (Int.emod_nonneg _ (by decide)) (Int.emod_lt_of_pos _ (by decide))⟩ (kp_upd K2)

end
section
abbrev N_law_some : List Str := ["bag", "things", "amount", "left", "drawn", "k"]
def t_law_some (K : PySem.W.Frag) : TS :=
  (tSeq (tPar 3 4 (tCons (tCB (rListOf K) (tCons (tVar 1) tNil)) (tCons (tLst tNil) tNil)))
    (tSeq (tFor (iRng1 (tCons (tCB rMin2 (tCons (tVar 2) (tCons (tCB (rLenU K) (tCons (tVar 1) tNil)) tNil))) tNil)) (gName 5)
    (tDrop (tBM K "list" rAppend (tVar 4) (tCons (tBM K "list" rPopAt (tVar 3) (tCons (tCall (sp_law_draw K) [] E0 (tCons (tVar 0) (tCons (tCB (rLenU K) (tCons (tVar 3) tNil)) tNil))) tNil)) tNil))))
    (tRet (tVar 4))))
theorem seqIndex_nat {d : Int} {n : Nat} (h0 : 0 ≤ d) (h1 : d < n) : seqIndex? d n = some d.toNat := by
  exact PySem.seqIndex_of h0 h1
theorem erase_perm {α : Type} : ∀ (l : List α) (k : Nat) (h : k < l.length), (l[k] :: l.eraseIdx k).Perm l
  | a :: r, 0, _ => List.Perm.refl _
  | a :: r, k + 1, h => by
    have h' : k < r.length := by simpa using h
    have ih := erase_perm r k h'
    show (r[k] :: a :: r.eraseIdx k).Perm (a :: r)
    exact (List.Perm.swap a r[k] _).trans (ih.cons a)
theorem perm_take {α : Type} {ys rest xs : List α} {k : Nat} {y : α} (h : rest[k]? = some y) (p : (ys ++ rest).Perm xs) : (ys ++ [y] ++ rest.eraseIdx k).Perm xs := by
  have hk : k < rest.length := (List.getElem?_eq_some_iff.mp h).1
  have e : rest[k] = y := (List.getElem?_eq_some_iff.mp h).2
  have q : (y :: rest.eraseIdx k).Perm rest := by
    rw [← e]
    exact erase_perm rest k hk
  rw [List.append_assoc]
  exact ((List.Perm.refl ys).append q).trans p
def sp_law_some (K : PySem.W.Frag) : Sp := fun vs H Q _ => ∃ b t n g xs, vs = [.ref b, .ref t, .int n] ∧ Bag K H b g ∧ (SqL K (wo [b] H) t xs ∨ SqT K (wo [b] H) t xs) ∧ xs.length ≤ 1000000 ∧ -1000000 ≤ n ∧ n ≤ 1000000 ∧
  ∀ q H' ys rest, H q = none → H' q = some (.lst ys) → Bag K H' b g → Kp b H H' → (ys ++ rest).Perm xs → (ys.length : Int) = max 0 (min n xs.length) → Q (.ref q) H'
theorem pure_law_some {K : PySem.W.Frag} (vs : List V) (H : Hp) (Q : VK) (E : XK) (h : sp_law_some K vs H Q E) : t_law_some K { nx := fun _ H' => Q .non H', rt := Q } (start N_law_some vs) H := by
  obtain ⟨b, t, n, g, xs, rfl, B, hs, hl, hn0, hn1, k⟩ := h
  show t_law_some K _ [some (.ref b), some (.ref t), some (.int n), none, none, none] H
  unfold t_law_some
  walk_at "vc"
  have lst : ∀ {R : VK}, (∀ l, H l = none → R (.ref l) (upd H l (.lst xs))) → rListOf K [.ref t] H R := fun q => hs.elim (fun h => v_list (same_sql wo_le h) q) (fun h => v_listt (same_sqt wo_le h) q)
  have ln : ∀ {H' : Hp} {R : VK}, Same (wo [b] H) H' → R (.int xs.length) H' → rLenU K [.ref t] H' R := fun e q => hs.elim (fun h => v_lenl (same_sql e h) q) (fun h => v_lent (same_sqt e h) q)
  refine lst fun p hp => ?_
  walk_at "vc"
  refine ⟨Nat.zero_le _, fun q hq => ?_⟩
  have hq2 := upd_none hq
  have npb := B.ne hp
  have nqb := B.ne hq2.2
  have B1 := (B.new (o := .lst xs) hp).new (o := .lst []) hq
  have K1 : Kp b H (upd (upd H p (.lst xs)) q (.lst [])) := kp_new (kp_new (Same.refl _) hp) hq
  have hc := B.cells
  walk_at "vc"
  refine ln (K1.trans wo_le) ?_
  walk_at "vc"
  refine v_irr ?rg ?_
  case rg => constructor <;> split <;> omega
  refine for_r (fun i σ H' => ∃ x ys rest, σ = [some (.ref b), some (.ref t), some (.int n), some (.ref p), some (.ref q), x] ∧ H' p = some (.lst rest) ∧ H' q = some (.lst ys) ∧ ys.length = i ∧ (ys ++ rest).Perm xs ∧ Bag K H' b g ∧ Kp b H H')
    ⟨none, [], xs, rfl, h_ne (Ne.symm hq2.1) upd_same, upd_same, rfl, List.Perm.refl _, B1, K1⟩ ?_ ?_
  · rintro i σ H' hi ⟨x, ys, rest, rfl, h1, h2, h3, h4, h5, h6⟩
    have hlen := h4.length_eq
    rw [List.length_append] at hlen
    walk_at "vc"
    refine ⟨ty_list (SqL.of h2), ?_⟩
    walk_at "vc"
    refine ⟨ty_list (SqL.of h1), ?_⟩
    walk_at "vc"
    refine ⟨b, _, g, rfl, h5, size_small2 (by omega), fun d H2 d0 d1 B2 K2 => ?_⟩
    have hpos : (i : Int) < xs.length := by
      have : i < (if (xs.length : Int) < n then (xs.length : Int) else n).toNat := hi
      split at this <;> omega
    have d2 : d < rest.length := by omega
    have g1 := kp_get K2 npb h1
    have g2 := kp_get K2 nqb h2
    have hy : rest[d.toNat]? = some rest[d.toNat] := List.getElem?_eq_getElem (by omega)
    walk_at "vc"
    have p63 : (2 : Int) ^ 63 = 9223372036854775808 := by decide
    refine ⟨p, rest, d, d.toNat, _, rfl, rfl, g1, by rw [p63]; omega, by rw [p63]; omega, seqIndex_nat d0 d2, hy, ?_⟩
    walk_at "vc"
    have g3 : upd H2 p (.lst (rest.eraseIdx d.toNat)) q = some (.lst ys) := h_ne (Ne.symm (fun z => hq2.1 z.symm)) g2
    refine v_append g3 (by rw [sizeLine_eq]; omega) ?_
    walk_at "vc"
    have K3 : Kp b H (upd H2 p (.lst (rest.eraseIdx d.toNat))) := kp_mut (h6.trans K2) hp
    refine ⟨some (.int (0 + i)), ys ++ [rest[d.toNat]], rest.eraseIdx d.toNat, rfl, h_ne (fun z => hq2.1 z.symm) upd_same, upd_same, by simp [h3], perm_take hy h4, ?_, kp_mut K3 hq2.2⟩
    exact (B2.mut hc (h6.trans K2) hp npb).mut hc K3 hq2.2 nqb
  · rintro σ H' ⟨x, ys, rest, rfl, h1, h2, h3, h4, h5, h6⟩
    walk_at "vc"
    refine k q H' ys rest hq2.2 h2 h5 h6 h4 ?_
    rw [h3]
    split <;> omega

end
section
abbrev N_law_of : List Str := ["bag", "things"]
def t_law_of (K : PySem.W.Frag) : TS :=
  (tRet (tOp (rIx K) (tVar 1) (tCall (sp_law_draw K) [] E0 (tCons (tVar 0) (tCons (tCB (rLenU K) (tCons (tVar 1) tNil)) tNil)))))
theorem atI_of {xs : List V} {i : Int} (h0 : 0 ≤ i) (h1 : i < xs.length) : ∃ y, atI xs i = some y ∧ xs[i.toNat]? = some y := by
  have hl : i.toNat < xs.length := by omega
  refine ⟨xs[i.toNat], ?_, List.getElem?_eq_getElem hl⟩
  unfold atI ixN
  rw [if_pos h0, if_pos h1, Option.bind_some, List.getElem?_eq_getElem hl]
theorem size_small {n : Nat} (h : n ≤ sizeLine) : (n : Int) < 1267650600228229401496703205376 := by
  rw [sizeLine_eq] at h
  omega
def sp_law_of (K : PySem.W.Frag) : Sp := fun vs H Q _ => ∃ b x g, vs = [.ref b, x] ∧ Bag K H b g ∧
  ((∃ t xs, x = .ref t ∧ (SqL K (wo [b] H) t xs ∨ SqT K (wo [b] H) t xs) ∧ 0 < xs.length ∧ xs.length ≤ sizeLine ∧ ∀ (i : Nat) y H', xs[i]? = some y → Bag K H' b g → Kp b H H' → Q y H') ∨
   ∃ z : Str, x = .str z ∧ 0 < z.length ∧ z.length ≤ sizeLine ∧ ∀ (i : Nat) c H', z.cps.toList[i]? = some c → Bag K H' b g → Kp b H H' → Q (.str ⟨#[c]⟩) H')
theorem pure_law_of {K : PySem.W.Frag} (vs : List V) (H : Hp) (Q : VK) (E : XK) (h : sp_law_of K vs H Q E) : t_law_of K { nx := fun _ H' => Q .non H', rt := Q } (start N_law_of vs) H := by
  obtain ⟨b, x, g, rfl, B, h⟩ := h
  show t_law_of K _ [some (.ref b), some x] H
  unfold t_law_of
  walk_at "vc"
  rcases h with ⟨t, xs, rfl, hs, h0, h1, k⟩ | ⟨z, rfl, h0, h1, k⟩
  · have hb : ∀ {P : Prop}, (SqL K H t xs → P) → (SqT K H t xs → P) → P := fun a b => hs.elim (fun h => a (same_sql wo_le h)) (fun h => b (same_sqt wo_le h))
    have ln : ∀ {Q : VK}, Q (.int xs.length) H → rLenU K [.ref t] H Q := fun q => hb (fun h => v_lenl h q) fun h => v_lent h q
    refine ln ?_
    walk_at "vc"
    refine ⟨b, _, g, rfl, B, size_small h1, fun d H' d0 d1 B' KP => ?_⟩
    have d2 : d < xs.length := by omega
    obtain ⟨y, hy, hy2⟩ := atI_of d0 d2
    rcases hs with hs | hs
    · exact v_ixl (same_sql (KP.trans wo_le) hs) hy (k _ y H' hy2 B' KP)
    · exact v_ixt (same_sqt (KP.trans wo_le) hs) hy (k _ y H' hy2 B' KP)
  · refine v_lens h1 ?_
    walk_at "vc"
    refine ⟨b, _, g, rfl, B, size_small h1, fun d H' d0 d1 B' KP => ?_⟩
    have d2 : d < z.length := by omega
    have hl : d.toNat < z.cps.toList.length := by
      have : z.cps.toList.length = z.length := by simp [Str.length]
      omega
    have e : z.cps.toList[d.toNat]? = some z.cps.toList[d.toNat] := List.getElem?_eq_getElem hl
    refine .inr (.inr ⟨z, d, z.cps.toList[d.toNat], rfl, rfl, h1, ?_, k _ _ H' e B' KP⟩)
    unfold atI ixN
    have hz : z.cps.toList.length = z.length := by simp [Str.length]
    rw [if_pos d0, if_pos (by rw [hz]; exact d2), Option.bind_some, e]

end
section

/-! ### what is new in a heap -/
/-- what H' has and H has not -/
def nw (H H' : Hp) : Hp := fun a => match H a with
  | none => H' a
  | some _ => none
def Em : Hp := fun _ => none
theorem nw_em {H : Hp} : nw Em H = H := rfl
theorem nw_get {H H' : Hp} {a : Addr} {o : HO} (h : nw H H' a = some o) : H a = none ∧ H' a = some o := by
  unfold nw at h
  cases e : H a with
  | none => rw [e] at h; exact ⟨rfl, h⟩
  | some u => rw [e] at h; cases h
theorem nw_at {H H' : Hp} {a : Addr} (h : H a = none) : nw H H' a = H' a := by
  unfold nw
  rw [h]
theorem nw_le {H H' : Hp} : Same (nw H H') H' := fun a o h => (nw_get h).2
/-- the known places do not go -/
def Gr (H H' : Hp) : Prop := ∀ a, H' a = none → H a = none
theorem Gr.refl {H : Hp} : Gr H H := fun _ h => h
theorem Gr.trans {A B C : Hp} (h : Gr A B) (k : Gr B C) : Gr A C := fun a e => h a (k a e)
theorem gr_em {H : Hp} : Gr Em H := fun _ _ => rfl
theorem gr_upd {H : Hp} {a : Addr} {o : HO} : Gr H (upd H a o) := fun b h => by
  by_cases e : b = a
  · subst e
    rw [upd_same] at h
    cases h
  · rwa [upd_ne e] at h
theorem gr_same {H H' : Hp} (h : Same H H') : Gr H H' := fun a e => by
  cases q : H a with
  | none => rfl
  | some o => rw [h a o q] at e; cases e
theorem gr_kp {b : Addr} {H H' : Hp} (h : Kp b H H') (hb : H' b ≠ none) : Gr H H' := fun a e => by
  cases q : H a with
  | none => rfl
  | some o =>
    by_cases z : a = b
    · subst z
      exact absurd e hb
    · rw [kp_get h z q] at e
      cases e
theorem Bag.some {K : PySem.W.Frag} {H : Hp} {b : Addr} {g : Addr × List Int} (B : Bag K H b g) : H b ≠ none := by
  obtain ⟨o, h⟩ := B.get
  rw [h]
  exact fun z => nomatch z
theorem ne_some {H : Hp} {a : Addr} {o : HO} (h : H a = some o) : H a ≠ none := by
  rw [h]
  exact fun z => nomatch z
theorem ne_up {H H' : Hp} {a : Addr} (h : Gr H H') (e : H a ≠ none) : H' a ≠ none := fun z => e (h a z)
/-- the new of H1 to H2 stands in the new of H0 to H3, without S -/
theorem nw_into {S : List Addr} {H0 H1 H2 : Hp} (g : Gr H0 H1) (hs : ∀ a, a ∈ S → H1 a ≠ none) : Same (nw H1 H2) (wo S (nw H0 H2)) := fun a o h => by
  obtain ⟨h1, h2⟩ := nw_get h
  rw [wo_out fun z => hs a z h1, nw_at (g a h1)]
  exact h2
theorem nw_step {S : List Addr} {b : Addr} {H0 H1 H2 : Hp} (k : Kp b H1 H2) (hb : b ∈ S ∨ H0 b ≠ none) : Same (wo S (nw H0 H1)) (wo S (nw H0 H2)) := wo_same fun a ha o h => by
  obtain ⟨h1, h2⟩ := nw_get h
  have ne : a ≠ b := fun z => by
    subst z
    exact hb.elim ha fun q => q h1
  rw [nw_at h1]
  exact kp_get k ne h2
theorem nw_stepW {b : Addr} {H0 H1 H2 : Hp} (k : Kp b H1 H2) (hb : H0 b ≠ none) : Same (nw H0 H1) (nw H0 H2) := fun a o h => by
  obtain ⟨h1, h2⟩ := nw_get h
  have ne : a ≠ b := fun z => by
    subst z
    exact hb h1
  rw [nw_at h1]
  exact kp_get k ne h2
theorem nw_upd {S : List Addr} {H0 H1 : Hp} {a : Addr} {o : HO} (h : a ∈ S) : Same (wo S (nw H0 H1)) (wo S (nw H0 (upd H1 a o))) := wo_same fun x hx u e => by
  obtain ⟨h1, h2⟩ := nw_get e
  have ne : x ≠ a := fun z => by
    subst z
    exact hx h
  rw [nw_at h1, upd_ne ne]
  exact h2
theorem same_sub {S T : List Addr} {H : Hp} (h : ∀ a, a ∈ T → a ∈ S) : Same (wo S H) (wo T H) := wo_sub h
theorem kp_new1 {b a : Addr} {H : Hp} {o : HO} (h : H a = none) : Kp b H (upd H a o) := kp_new (Same.refl _) h
/-- the bag in a greater heap -/
theorem Bag.same {K : PySem.W.Frag} {H H' : Hp} {b : Addr} {g : Addr × List Int} (B : Bag K H b g) (e : Same H H') : Bag K H' b g := by
  obtain ⟨o, h⟩ := B.get
  exact B.move B.cells (kp_same e) (by rw [e _ _ h, h])
/-- a comprehension over range(n), its item drawn from the bag at b: El tells of the items -/
theorem lc_bag {K : PySem.W.Frag} {El : Nat → V → Hp → Prop} {H0 H : Hp} {b : Addr} {g : Addr × List Int} {n v : Nat} {te : TE} {σ : L2.St} {Q : VK} (mono : ∀ i x A B, Same A B → El i x A → El i x B) (B : Bag K H b g) (g0 : Gr H0 H) (hn : n ≤ 1000000)
    (hs : ∀ D i H1, i < n → H D = none → H1 D ≠ none → Bag K H1 b g → Kp b H H1 → ∀ R : VK, (∀ y H2, El i y (wo [b, D] (nw H0 H2)) → Bag K H2 b g → Kp b H1 H2 → R y H2) → te ((wipe σ [v]).set v (some (.int (0 + (i : Nat))))) H1 R)
    (hw : ∀ x : V, wipe ((wipe σ [v]).set v (some x)) [v] = wipe σ [v])
    (hd : ∀ D H' vs, H D = none → Bag K H' b g → Kp b H H' → H' D = some (.lst vs) → vs.length = n → (∀ i x, vs[i]? = some x → El i x (wo [b, D] (nw H0 H'))) → Q (.ref D) H') :
    lcI (Itr 0 n) (gName v) tYes te [v] σ H Q := by
  have hc := B.cells
  refine lc_w walk_range (fun D i H1 => H D = none ∧ Bag K H1 b g ∧ Kp b H H1 ∧ ∃ vs, H1 D = some (.lst vs) ∧ vs.length = i ∧ ∀ i x, vs[i]? = some x → El i x (wo [b, D] (nw H0 H1))) (fun D hD => ⟨hD, B.new hD, kp_new1 hD, ([] : List V), upd_same, rfl, fun i x h => by simp at h⟩) (fun _ _ _ _ _ => trivial) ?_ ?_
  · rintro D i x H1 H' hD hi ⟨_, B1, K1, vs, h1, h2, h3⟩ ⟨rfl, rfl⟩
    refine v_name ⟨hw _, v_yes (iT rfl ?_)⟩
    refine hs D i H' hi hD (ne_some h1) B1 K1 _ fun y H2 e1 B2 K2 => ?_
    have nDb := B.ne hD
    have h4 := kp_get K2 nDb h1
    refine ⟨vs, h4, by rw [sizeLine_eq]; omega, hD, B2.mut hc (K1.trans K2) hD nDb, kp_mut (K1.trans K2) hD, vs ++ [y], upd_same, by simp [h2], fun j z hj => ?_⟩
    have up : Same (wo [b, D] (nw H0 H2)) (wo [b, D] (nw H0 (upd H2 D (.lst (vs ++ [y]))))) := nw_upd (by simp)
    rw [List.getElem?_append] at hj
    split at hj
    · exact mono _ _ _ _ ((nw_step K2 (.inl (by simp))).trans up) (h3 j z hj)
    · rename_i hlt
      have e : j = i := by
        by_cases q : j - vs.length = 0
        · omega
        · rw [List.getElem?_eq_none (by simp; omega)] at hj
          cases hj
      subst e
      have ez : z = y := by simpa [h2] using hj.symm
      subst ez
      exact mono _ _ _ _ up e1
  · rintro D H1 hD ⟨_, B1, K1, vs, h1, h2, h3⟩
    exact hd D H1 vs hD B1 K1 h1 h2 h3
theorem str_of {ys : List Str} {i : Nat} {y : V} (h : (ys.map V.str)[i]? = some y) : ∃ s, y = .str s := by
  rw [List.getElem?_map] at h
  cases e : ys[i]? with
  | none => rw [e] at h; cases h
  | some s =>
    rw [e] at h
    exact ⟨s, (Option.some.inj h).symm⟩
/-- items one by one -/
theorem dps_of {K : PySem.W.Frag} {H : Hp} {P : PyData → Prop} : ∀ {vs : List V}, (∀ (i : Nat) (x : V), vs[i]? = some x → ∃ d, Dp K H x d ∧ P d) → ∃ ds, DpAll K H vs ds ∧ ∀ d, d ∈ ds → P d
  | [], _ => ⟨[], .nil, fun _ h => nomatch h⟩
  | v :: r, h => by
    obtain ⟨d, hd, p⟩ := h 0 v rfl
    obtain ⟨ds, hs, ps⟩ := dps_of (vs := r) fun i x e => h (i + 1) x (by simpa using e)
    refine ⟨d :: ds, .cons hd hs, fun e he => ?_⟩
    rcases List.mem_cons.mp he with z | z
    · subst z; exact p
    · exact ps e z
theorem upd_upd {H : Hp} {a : Addr} {o u : HO} : upd (upd H a o) a u = upd H a u := by
  funext x
  by_cases e : x = a
  · subst e
    rw [upd_same, upd_same]
  · rw [upd_ne e, upd_ne e, upd_ne e]
/-- a comprehension over range(n) whose items touch no heap -/
theorem lc_fn {H : Hp} {n v : Nat} {te : TE} {σ : L2.St} {Q : VK} (f : Nat → V) (hn : n ≤ 1000000) (hs : ∀ (i : Nat) (H1 : Hp) (R : VK), i < n → R (f i) H1 → te ((wipe σ [v]).set v (some (.int (0 + (i : Nat))))) H1 R)
    (hw : ∀ x : V, wipe ((wipe σ [v]).set v (some x)) [v] = wipe σ [v]) (hd : ∀ D, H D = none → Q (.ref D) (upd H D (.lst ((List.range n).map f)))) : lcI (Itr 0 n) (gName v) tYes te [v] σ H Q := by
  refine lc_w walk_range (fun D i H1 => H1 = upd H D (.lst ((List.range i).map f))) (fun D hD => rfl) (fun _ _ _ _ _ => trivial) ?_ ?_
  · rintro D i x H1 H' hD hi rfl ⟨rfl, rfl⟩
    refine v_name ⟨hw _, v_yes (iT rfl ?_)⟩
    refine hs i _ _ hi ⟨_, upd_same, by rw [sizeLine_eq]; simp; omega, ?_⟩
    rw [upd_upd, List.range_succ, List.map_append]
    rfl
  · rintro D H1 hD rfl
    exact hd D hD
theorem dps_bl {K : PySem.W.Frag} {H : Hp} : ∀ {bs : List Bool}, DpAll K H (bs.map V.bl) (bs.map PyData.bool)
  | [] => .nil
  | b :: r => .cons (.bl b) dps_bl
theorem like_true {K : PySem.W.Frag} {n : Nat} {H : Hp} {x y : V} {d : PyData} {Q : VK} {E : XK} (hx : Dp K H x d) (hy : Dp K H y d) (f : fit n d) (q : ∀ H', Same H H' → Q (.bl true) H') : sp_law_like K n [x, y] H Q E :=
  ⟨x, y, d, d, rfl, hx, hy, f, by rw [like_self hx]; exact q⟩
theorem like_bls {K : PySem.W.Frag} {n : Nat} {H : Hp} {x y : Addr} {bs : List Bool} {Q : VK} {E : XK} (hx : SqL K H x (bs.map V.bl)) (hy : SqL K H y (bs.map V.bl)) (l : bs.length ≤ 1000000) (q : ∀ H', Same H H' → Q (.bl true) H') : sp_law_like K (n + 2) [.ref x, .ref y] H Q E :=
  like_true (.lst hx dps_bl) (.lst hy dps_bl) ⟨by rw [List.length_map]; exact l, fun d hd => by
    obtain ⟨b, _, rfl⟩ := List.mem_map.mp hd
    trivial⟩ q
theorem dps_take {K : PySem.W.Frag} {H : Hp} : ∀ {vs : List V} {ds : List PyData} (n : Nat), DpAll K H vs ds → DpAll K H (vs.take n) (ds.take n)
  | _, _, 0, _ => .nil
  | _, _, _ + 1, .nil => .nil
  | _, _, n + 1, .cons h r => .cons h (dps_take n r)
theorem atI_nat {xs : List V} {i : Nat} {x : V} (h : xs[i]? = some x) : atI xs (i : Int) = some x := by
  have hl : i < xs.length := (List.getElem?_eq_some_iff.mp h).1
  unfold atI ixN
  rw [if_pos (by omega), if_pos (by omega), Option.bind_some]
  exact h
theorem v_lrg {ta : TE} {σ : L2.St} {H : Hp} {Q : VK} (q : ta σ H fun x H1 => ∃ n : Nat, x = .int n ∧ n ≤ 1000000 ∧ ∀ q, H1 q = none → Q (.ref q) (upd H1 q (.lst ((List.range n).map fun i => .int (i : Nat))))) (m : ∀ (H : Hp) (P P' : VK), (∀ y H2, P y H2 → P' y H2) → ta σ H P → ta σ H P') : tLstRg (tRg1 ta) σ H Q := by
  refine m _ _ _ ?_ q
  rintro y H2 ⟨n, rfl, hn, h⟩
  refine ⟨n, rfl, RgOk.of_le (by omega) (by omega) (by omega) (by omega), fun p hp => ?_⟩
  have e : rgV 0 (n : Int) = (List.range n).map fun i => V.int (i : Nat) := by
    unfold rgV
    rw [show ((n : Int) - 0).toNat = n by omega]
    refine List.map_congr_left fun i _ => ?_
    rw [Int.zero_add]
  rw [e]
  exact h p hp
theorem v_lrgc {n : Nat} {σ : L2.St} {H : Hp} {Q : VK} (hn : n ≤ 1000000) (q : ∀ q, H q = none → Q (.ref q) (upd H q (.lst ((List.range n).map fun i => .int (i : Nat))))) : tLstRg (tRg1 (tC (.int (n : Nat)))) σ H Q :=
  v_lrg ⟨n, rfl, hn, q⟩ fun _ _ _ h q => h _ _ q
theorem wo_at {S : List Addr} {H : Hp} {a : Addr} {o : HO} (h : H a = some o) (hs : a ∉ S) : wo S H a = some o := by rw [wo_out hs]; exact h
theorem not_two {H : Hp} {a b c : Addr} (ha : H a = none) (hb : H b ≠ none) (hc : H c ≠ none) : a ∉ [b, c] := fun z => by
  rcases List.mem_cons.mp z with e | e
  · subst e; exact hb ha
  · rw [List.mem_singleton.mp e] at ha
    exact hc ha

end
section

/-! ### rows of whole numbers, lists of rows -/
def RowAt (K : PySem.W.Frag) (H : Hp) (v : V) (r : List Int) : Prop := ∃ a t, v = .ref a ∧ SqB K t H a (r.map V.int)
def RowsAt (K : PySem.W.Frag) (H : Hp) (xs : List V) (M : List (List Int)) : Prop := xs.length = M.length ∧ ∀ (i : Nat) x, xs[i]? = some x → ∃ r, M[i]? = some r ∧ RowAt K H x r
def MatAt (K : PySem.W.Frag) (H : Hp) (v : V) (M : List (List Int)) : Prop := ∃ a t xs, v = .ref a ∧ SqB K t H a xs ∧ RowsAt K H xs M
section
variable {K : PySem.W.Frag} {H H' : Hp} {v x : V} {r : List Int} {M : List (List Int)} {xs ys : List V}
theorem row_same (e : Same H H') (h : RowAt K H v r) : RowAt K H' v r := by
  obtain ⟨a, t, rfl, h⟩ := h
  exact ⟨a, t, rfl, same_sqb e h⟩
theorem rows_same (e : Same H H') (h : RowsAt K H xs M) : RowsAt K H' xs M := ⟨h.1, fun i x hx => by
  obtain ⟨r, h1, h2⟩ := h.2 i x hx
  exact ⟨r, h1, row_same e h2⟩⟩
theorem mat_same (e : Same H H') (h : MatAt K H v M) : MatAt K H' v M := by
  obtain ⟨a, t, xs, rfl, h1, h2⟩ := h
  exact ⟨a, t, xs, rfl, same_sqb e h1, rows_same e h2⟩
theorem rows_nil : RowsAt K H [] [] := ⟨rfl, fun i x h => by simp at h⟩
theorem rows_app {ys : List V} {N : List (List Int)} (h : RowsAt K H xs M) (k : RowsAt K H ys N) : RowsAt K H (xs ++ ys) (M ++ N) := ⟨by rw [List.length_append, List.length_append, h.1, k.1], fun i x hx => by
  rw [List.getElem?_append] at hx
  rw [List.getElem?_append, ← h.1]
  split at hx
  · rename_i hl
    rw [if_pos hl]
    exact h.2 i x hx
  · rename_i hl
    rw [if_neg hl]
    exact k.2 _ x hx⟩
theorem rows_one (h : RowAt K H x r) : RowsAt K H [x] [r] := ⟨rfl, fun i y hy => by
  cases i with
  | zero =>
    simp at hy
    subst hy
    exact ⟨r, rfl, h⟩
  | succ i => simp at hy⟩
theorem rows_cut {n m : Nat} (h : RowsAt K H xs M) : RowsAt K H ((xs.drop n).take m) ((M.drop n).take m) := ⟨by simp [h.1], fun i x hx => by
  have hm : i < m := by
    have q := (List.getElem?_eq_some_iff.mp hx).1
    simp at q
    omega
  rw [List.getElem?_take_of_lt hm, List.getElem?_drop] at hx
  rw [List.getElem?_take_of_lt hm, List.getElem?_drop]
  exact h.2 _ x hx⟩
theorem rows_get (h : RowsAt K H xs M) {i : Nat} (hx : xs[i]? = some x) (hr : M[i]? = some r) : RowAt K H x r := by
  obtain ⟨r', h1, h2⟩ := h.2 i x hx
  rw [hr] at h1
  cases h1
  exact h2
theorem rows_ex (h : RowsAt K H xs M) {i : Nat} (hr : M[i]? = some r) : ∃ x, xs[i]? = some x ∧ RowAt K H x r := by
  have hl : i < xs.length := by rw [h.1]; exact (List.getElem?_eq_some_iff.mp hr).1
  exact ⟨xs[i], List.getElem?_eq_getElem hl, rows_get h (List.getElem?_eq_getElem hl) hr⟩
theorem at_int {r : List Int} {i : Nat} {n : Int} (h : r[i]? = some n) : atI (r.map V.int) (i : Int) = some (.int n) := atI_nat (by rw [List.getElem?_map, h]; rfl)
theorem int_of {r : List Int} {i : Nat} {x : V} (h : (r.map V.int)[i]? = some x) : ∃ n, r[i]? = some n ∧ x = .int n := by
  rw [List.getElem?_map] at h
  cases e : r[i]? with
  | none => rw [e] at h; cases h
  | some n =>
    rw [e] at h
    exact ⟨n, rfl, (Option.some.inj h).symm⟩
end
/-- what stands beside S stands in H -/
abbrev Kn (S : List Addr) (H : Hp) : Prop := ∀ a, a ∈ S → H a ≠ none
theorem kn_same {S : List Addr} {H H' : Hp} (k : Kn S H) (e : Same H H') : Kn S H' := fun a ha z => k a ha (gr_same e a z)
theorem kn_new {S : List Addr} {H : Hp} {a : Addr} (k : Kn S H) (h : H a = none) : a ∉ S := fun z => k a z h
theorem kn_nil {H : Hp} : Kn [] H := fun a h => nomatch h
theorem wo_start {S : List Addr} {H : Hp} {D : Addr} {o : HO} (hD : H D = none) : Same (wo S H) (wo (D :: S) (upd H D o)) := fun a u q => by
  obtain ⟨h1, h2⟩ := wo_get q
  have ne : a ≠ D := ne_of_none h2 hD
  rw [wo_out (by simp [ne, h1]), upd_ne ne]
  exact h2
/-- a comprehension: what is told of the items so far (P), in the heap without the new list and S -/
theorem lc_acc {J : It} {n : Nat} {G : Hp → Prop} {Y : Nat → Hp → V → Hp → Prop} {H : Hp} {σ : L2.St} {g : TG} {tt : TT} {te : TE} {vs : List Nat} {Q : VK} (w : Walk J n G Y) (S : List Addr) (hS : Kn S H) (P : Nat → List V → Hp → Prop) (mono : ∀ i acc A B, Same A B → P i acc A → P i acc B)
    (hn : n ≤ 1000000) (hG : ∀ H', Same H H' → G H') (p0 : P 0 [] (wo S H))
    (hs : ∀ D i x H1 H2 acc, i < n → H D = none → H1 D ≠ none → Same H H1 → Y i H1 x H2 → P i acc (wo (D :: S) H1) → Kn (D :: S) H1 → ∀ (R : VK) (R0 : Hp → Prop), (∀ y H4, P (i + 1) (acc ++ [y]) (wo (D :: S) H4) → Same H1 H4 → R y H4) → (∀ H3, P (i + 1) acc (wo (D :: S) H3) → Same H1 H3 → R0 H3) →
      g x (wipe σ vs) H2 fun σ2 H' => wipe σ2 vs = wipe σ vs ∧ tt σ2 H' fun b H3 => if b = true then te σ2 H3 R else R0 H3)
    (hd : ∀ D H' acc, H D = none → Same H H' → H' D = some (.lst acc) → acc.length ≤ n → P n acc (wo (D :: S) H') → Q (.ref D) H') : lcI J g tt te vs σ H Q := by
  have up : ∀ (D : Addr) (X : Hp) (o : HO), Same (wo (D :: S) X) (wo (D :: S) (upd X D o)) := fun D X o => wo_upd (by simp)
  refine lc_w w (fun D i H1 => H D = none ∧ Same H H1 ∧ ∃ acc, H1 D = some (.lst acc) ∧ acc.length ≤ i ∧ P i acc (wo (D :: S) H1)) (fun D hD => ⟨hD, same_new hD, [], upd_same, Nat.le_refl _, ?_⟩) (fun D i H1 _ h => hG H1 h.2.1) ?_ ?_
  · exact mono _ _ _ _ (wo_start hD) p0
  · rintro D i x H1 H' hD hi ⟨_, s1, acc, h1, h2, p⟩ y
    refine hs D i x H1 H' acc hi hD (ne_some h1) s1 y p (fun a ha => ?_) _ _ (fun z H4 p4 s4 => ?_) (fun H3 p3 s3 => ?_)
    · rcases List.mem_cons.mp ha with e | e
      · subst e; exact ne_some h1
      · exact kn_same hS s1 a e
    · refine ⟨acc, s4 _ _ h1, by rw [sizeLine_eq]; omega, hD, same_mut (s1.trans s4) hD, acc ++ [z], upd_same, by simp; omega, mono _ _ _ _ (up D H4 _) p4⟩
    · exact ⟨hD, s1.trans s3, acc, s3 _ _ h1, by omega, p3⟩
  · rintro D H1 hD ⟨_, s1, acc, h1, h2, p⟩
    exact hd D H1 acc hD s1 h1 h2 p
theorem cut_to {xs : List V} {k : Nat} (h : k ≤ xs.length) : cutV xs none (some (k : Int)) = xs.take k := by
  unfold cutV
  have e1 : HT.sIx xs.length 0 none = 0 := rfl
  have e2 : HT.sIx xs.length xs.length (some (k : Int)) = k := by
    rw [HT.sIx_nat]
    omega
  rw [e1, e2]
  simp
theorem cut_from {xs : List V} {k : Nat} (h : k ≤ xs.length) : cutV xs (some (k : Int)) none = xs.drop k := by
  unfold cutV
  have e1 : HT.sIx xs.length xs.length none = xs.length := rfl
  have e2 : HT.sIx xs.length 0 (some (k : Int)) = k := by
    rw [HT.sIx_nat]
    omega
  rw [e1, e2, List.take_of_length_le (by simp)]

end
section
abbrev N_primitive_row : List Str := ["row", "shared", "number"]
def t_primitive_row (K : PySem.W.Frag) : TS :=
  (tSeq (tAsg (tC (.int 0)) (gName 1))
    (tSeq (tFor (iSq K (tVar 0)) (gName 2)
    (tAsg (tCB rGcd (tCons (tVar 1) (tCons (tVar 2) tNil))) (gName 1)))
    (tSeq (tIfS (tTest (tOp rLeI (tVar 1) (tC (.int 1)))) (tRet (tVar 0)) tNext)
    (tRet (tLc (iSq K (tVar 0)) (gName 2) tYes (tOp rDivU (tVar 2) (tVar 1)) [2])))))
/-- the divisor of all -/
def gall (l : List Int) : Nat := l.foldl (fun g x => Nat.gcd g x.natAbs) 0
def prim (r : List Int) : List Int := if gall r ≤ 1 then r else r.map (· / (gall r : Int))
theorem gall_snoc (l : List Int) (x : Int) : gall (l ++ [x]) = Nat.gcd (gall l) x.natAbs := by
  unfold gall
  rw [List.foldl_append]
  rfl
theorem foldg_dvd : ∀ (l : List Int) (g : Nat), l.foldl (fun g x => Nat.gcd g x.natAbs) g ∣ g ∧ ∀ x, x ∈ l → l.foldl (fun g x => Nat.gcd g x.natAbs) g ∣ x.natAbs
  | [], g => ⟨Nat.dvd_refl _, fun _ h => nomatch h⟩
  | a :: l, g => by
    obtain ⟨h1, h2⟩ := foldg_dvd l (Nat.gcd g a.natAbs)
    refine ⟨Nat.dvd_trans h1 (Nat.gcd_dvd_left _ _), fun x hx => ?_⟩
    rcases List.mem_cons.mp hx with e | e
    · subst e
      exact Nat.dvd_trans h1 (Nat.gcd_dvd_right _ _)
    · exact h2 x e
theorem gall_dvd {l : List Int} {x : Int} (h : x ∈ l) : gall l ∣ x.natAbs := (foldg_dvd l 0).2 x h
theorem gall_zero : ∀ {l : List Int}, (∀ x, x ∈ l → x = 0) → gall l = 0 := by
  intro l
  have : ∀ (l : List Int) (g : Nat), (∀ x, x ∈ l → x = 0) → l.foldl (fun g x => Nat.gcd g x.natAbs) g = g := by
    intro l
    induction l with
    | nil => intro g _; rfl
    | cons a l ih =>
      intro g h
      show l.foldl _ (Nat.gcd g a.natAbs) = g
      rw [ih _ fun x hx => h x (List.mem_cons_of_mem _ hx), h a (List.mem_cons_self ..)]
      simp
  exact this l 0
/-- entries below 2 ^ b -/
def Bd (b : Nat) (r : List Int) : Prop := ∀ x, x ∈ r → x.natAbs < 2 ^ b
theorem gall_bd {b : Nat} {r : List Int} (h : Bd b r) (g : 1 < gall r) : gall r < 2 ^ b := by
  by_cases z : ∃ x, x ∈ r ∧ x ≠ 0
  · obtain ⟨x, hx, hne⟩ := z
    exact Nat.lt_of_le_of_lt (Nat.le_of_dvd (by omega) (gall_dvd hx)) (h x hx)
  · rw [gall_zero fun x hx => Classical.byContradiction fun q => z ⟨x, hx, q⟩] at g
    omega
theorem prim_bd {b : Nat} {r : List Int} (h : Bd b r) : Bd b (prim r) := by
  unfold prim
  split
  · exact h
  · intro x hx
    obtain ⟨y, hy, rfl⟩ := List.mem_map.mp hx
    have := h y hy
    have q : (y / (gall r : Int)).natAbs ≤ y.natAbs := Int.natAbs_ediv_le_natAbs y _
    omega
theorem prim_len (r : List Int) : (prim r).length = r.length := by
  unfold prim
  split
  · rfl
  · rw [List.length_map]
def sp_primitive_row (K : PySem.W.Frag) : Sp := fun vs H Q _ => ∃ v r S, vs = [v] ∧ Kn S H ∧ RowAt K (wo S H) v r ∧ r.length ≤ 1000000 ∧ Bd 8000 r ∧ ∀ w H', RowAt K (wo S H') w (prim r) → Same H H' → Q w H'
theorem pure_primitive_row {K : PySem.W.Frag} (vs : List V) (H : Hp) (Q : VK) (E : XK) (h : sp_primitive_row K vs H Q E) : t_primitive_row K { nx := fun _ H' => Q .non H', rt := Q } (start N_primitive_row vs) H := by
  obtain ⟨v, r, S, rfl, hS, ⟨a, t, rfl, ha⟩, hl, hb, q⟩ := h
  have hr : SqB K t H a (r.map V.int) := same_sqb wo_le ha
  show t_primitive_row K _ [some (.ref a), none, none] H
  unfold t_primitive_row
  walk_at "vc"
  refine v_sqr hr ?_
  refine for_sq (k := t) (xs := r.map V.int) (fun i σ X => X = H ∧ ∃ z, σ = [some (.ref a), some (.int (gall (r.take i))), z]) ⟨rfl, _, rfl⟩ (fun i σ X _ ⟨e, _⟩ => e ▸ hr) ?_ ?_
  · rintro i x σ X hx ⟨rfl, z, rfl⟩
    obtain ⟨n, hn, rfl⟩ := int_of hx
    walk_at "vc"
    refine ⟨_, _, rfl, ?_⟩
    walk_at "vc"
    refine ⟨rfl, some (.int n), ?_⟩
    rw [take_succ_get hn, gall_snoc]
    rfl
  · rintro σ X ⟨rfl, z, rfl⟩
    rw [List.length_map, List.take_length]
    walk_at "vc"
    refine ite2 (fun c => ?_) (fun c => ?_)
    · walk_at "vc"
      refine q _ _ ?_ (Same.refl _)
      have c2 : gall r ≤ 1 := by have := of_decide_eq_true c; omega
      unfold prim
      rw [if_pos c2]
      exact ⟨a, t, rfl, ha⟩
    · have c2 : ¬gall r ≤ 1 := by
        intro z
        exact c (decide_eq_true (by omega))
      walk_at "vc"
      refine v_sqr hr ?_
      refine lc_acc walk_sq S hS (fun i acc _ => acc = ((r.take i).map (· / (gall r : Int))).map V.int) (fun _ _ _ _ _ h => h) (by rw [List.length_map]; exact hl) (fun H' e => same_sqb e hr) rfl ?_ ?_
      · rintro D i x H1 H2 acc hi hD hD1 s1 ⟨rfl, hx⟩ rfl kn R R0 hR _
        obtain ⟨n, hn, rfl⟩ := int_of hx
        walk_at "vc"
        refine ⟨rfl, v_yes (iT rfl ?_)⟩
        walk_at "vc"
        refine v_divi ⟨by omega, ?_⟩ (hR _ _ ?_ (Same.refl _))
        · have := gall_bd hb (by omega)
          rw [Int.natAbs_natCast]
          exact Nat.lt_of_lt_of_le (PySem.Flt.log2_lt_of (by decide) this) (by decide)
        · rw [take_succ_get hn, List.map_append, List.map_append]
          rfl
      · rintro D H' acc hD s1 hl2 _ rfl
        refine q _ _ ⟨D, false, rfl, ?_⟩ s1
        unfold prim
        rw [if_neg c2]
        rw [List.length_map, List.take_length] at hl2
        exact sqb_lst (wo_at hl2 (kn_new hS hD))

end
section
abbrev N_led_row : List Str := ["row", "place", "number"]
def t_led_row (K : PySem.W.Frag) : TS :=
  (tSeq (tIfS (tTest (tOp rGtI (tOp (rIx K) (tVar 0) (tVar 1)) (tC (.int 0)))) (tRet (tVar 0)) tNext)
    (tRet (tLc (iSq K (tVar 0)) (gName 2) tYes (tUn rNegI (tVar 2)) [2])))
abbrev N_struck : List Str := ["row", "lead", "place", "own", "head", "number", "other"]
def t_struck (K : PySem.W.Frag) : TS :=
  (tSeq (tAsg (tOp (rIx K) (tVar 0) (tVar 2)) (gName 3))
    (tSeq (tIfS (tTest (tOp (rEqU K) (tVar 3) (tC (.int 0)))) (tRet (tVar 0)) tNext)
    (tSeq (tAsg (tOp (rIx K) (tVar 1) (tVar 2)) (gName 4))
    (tRet (tCall (sp_primitive_row K) [] E0 (tCons (tLc (iZipU K (tCons (tVar 0) (tCons (tVar 1) tNil))) (gTup K 2 (gCons (gName 5) (gCons (gName 6) gNil))) tYes (tOp rSubI (tOp rMulU (tVar 4) (tVar 5)) (tOp rMulU (tVar 3) (tVar 6))) [5, 6]) tNil))))))
/-- turned round where its number at p is not above 0 -/
def led (r : List Int) (p : Nat) : List Int := if 0 < r.getD p 0 then r else r.map (- ·)
def comb (h o : Int) (r l : List Int) : List Int := List.zipWith (fun n m => h * n - o * m) r l
def strk (r l : List Int) (p : Nat) : List Int := if r.getD p 0 = 0 then r else prim (comb (l.getD p 0) (r.getD p 0) r l)
theorem getD_of {r : List Int} {p : Nat} (h : p < r.length) : r[p]? = some (r.getD p 0) := by
  rw [List.getD_eq_getElem?_getD, List.getElem?_eq_getElem h]
  rfl
theorem led_len (r : List Int) (p : Nat) : (led r p).length = r.length := by
  unfold led
  split
  · rfl
  · rw [List.length_map]
theorem led_bd {b : Nat} {r : List Int} {p : Nat} (h : Bd b r) : Bd b (led r p) := by
  unfold led
  split
  · exact h
  · intro x hx
    obtain ⟨y, hy, rfl⟩ := List.mem_map.mp hx
    rw [Int.natAbs_neg]
    exact h y hy
theorem comb_len {h o : Int} {r l : List Int} (e : r.length = l.length) : (comb h o r l).length = r.length := by
  unfold comb
  rw [List.length_zipWith]
  omega
theorem two_pow_add {a b : Nat} : 2 ^ a * 2 ^ b + 2 ^ a * 2 ^ b = 2 ^ (a + b + 1) := by
  rw [Nat.pow_succ, Nat.pow_add]
  omega
theorem comb_bd {a b : Nat} {h o : Int} {r l : List Int} (hh : h.natAbs < 2 ^ a) (ho : o.natAbs < 2 ^ b) (hr : Bd b r) (hl : Bd a l) : Bd (a + b + 1) (comb h o r l) := by
  intro x hx
  obtain ⟨i, hi⟩ := List.getElem?_of_mem hx
  unfold comb at hi
  rw [List.getElem?_zipWith] at hi
  cases e1 : r[i]? with
  | none => rw [e1] at hi; cases hi
  | some n =>
    cases e2 : l[i]? with
    | none => rw [e1, e2] at hi; cases hi
    | some m =>
      rw [e1, e2] at hi
      have ex : h * n - o * m = x := Option.some.inj hi
      have q1 := hr n (List.mem_of_getElem? e1)
      have q2 := hl m (List.mem_of_getElem? e2)
      have p1 : (h * n).natAbs < 2 ^ (a + b) := wide_lt hh q1
      have p2 : (o * m).natAbs < 2 ^ (b + a) := wide_lt ho q2
      rw [← ex, ← two_pow_add, ← Nat.pow_add]
      rw [Nat.add_comm b a] at p2
      omega
theorem strk_len {r l : List Int} {p : Nat} (e : r.length = l.length) : (strk r l p).length = r.length := by
  unfold strk
  split
  · rfl
  · rw [prim_len, comb_len e]
theorem getD_bd {b : Nat} {r : List Int} {p : Nat} (h : Bd b r) : (r.getD p 0).natAbs < 2 ^ b := by
  rw [List.getD_eq_getElem?_getD]
  cases e : r[p]? with
  | none => exact Nat.two_pow_pos b
  | some n => exact h n (List.mem_of_getElem? e)
theorem Bd.mono {a b : Nat} {r : List Int} (h : Bd a r) (e : a ≤ b) : Bd b r := fun x hx => Nat.lt_of_lt_of_le (h x hx) (Nat.pow_le_pow_right (by decide) e)
theorem strk_bd {b : Nat} {r l : List Int} {p : Nat} (hr : Bd b r) (hl : Bd b l) : Bd (2 * b + 1) (strk r l p) := by
  unfold strk
  split
  · exact hr.mono (by omega)
  · exact (prim_bd (comb_bd (getD_bd hl) (getD_bd hr) hr hl)).mono (by omega)
def sp_led_row (K : PySem.W.Frag) : Sp := fun vs H Q _ => ∃ v r p S, vs = [v, .int (p : Nat)] ∧ Kn S H ∧ RowAt K (wo S H) v r ∧ p < r.length ∧ r.length ≤ 1000000 ∧ ∀ w H', RowAt K (wo S H') w (led r p) → Same H H' → Q w H'
theorem pure_led_row {K : PySem.W.Frag} (vs : List V) (H : Hp) (Q : VK) (E : XK) (h : sp_led_row K vs H Q E) : t_led_row K { nx := fun _ H' => Q .non H', rt := Q } (start N_led_row vs) H := by
  obtain ⟨v, r, p, S, rfl, hS, ⟨a, t, rfl, ha⟩, hp, hl, q⟩ := h
  have hr : SqB K t H a (r.map V.int) := same_sqb wo_le ha
  show t_led_row K _ [some (.ref a), some (.int p), none] H
  unfold t_led_row
  walk_at "vc"
  refine v_ixb hr (at_int (getD_of hp)) ?_
  walk_at "vc"
  refine ite2 (fun c => ?_) (fun c => ?_)
  · walk_at "vc"
    refine q _ _ ?_ (Same.refl _)
    unfold led
    rw [if_pos (of_decide_eq_true c)]
    exact ⟨a, t, rfl, ha⟩
  · have c2 : ¬0 < r.getD p 0 := fun z => c (decide_eq_true z)
    walk_at "vc"
    refine v_sqr hr ?_
    refine lc_acc walk_sq S hS (fun i acc _ => acc = ((r.take i).map (- ·)).map V.int) (fun _ _ _ _ _ h => h) (by rw [List.length_map]; exact hl) (fun H' e => same_sqb e hr) rfl ?_ ?_
    · rintro D i x H1 H2 acc hi hD hD1 s1 ⟨rfl, hx⟩ rfl kn R R0 hR _
      obtain ⟨n, hn, rfl⟩ := int_of hx
      walk_at "vc"
      refine ⟨rfl, v_yes (iT rfl ?_)⟩
      walk_at "vc"
      refine hR _ _ ?_ (Same.refl _)
      rw [take_succ_get hn, List.map_append, List.map_append]
      rfl
    · rintro D H' acc hD s1 hl2 _ rfl
      refine q _ _ ⟨D, false, rfl, ?_⟩ s1
      unfold led
      rw [if_neg c2]
      rw [List.length_map, List.take_length] at hl2
      exact sqb_lst (wo_at hl2 (kn_new hS hD))
def sp_struck (K : PySem.W.Frag) : Sp := fun vs H Q _ => ∃ v u r l p b S, vs = [v, u, .int (p : Nat)] ∧ Kn S H ∧ RowAt K (wo S H) v r ∧ RowAt K (wo S H) u l ∧ r.length = l.length ∧ p < r.length ∧ r.length ≤ 1000000 ∧ Bd b r ∧ Bd b l ∧ b ≤ 3000 ∧ ∀ w H', RowAt K (wo S H') w (strk r l p) → Same H H' → Q w H'
theorem pure_struck {K : PySem.W.Frag} (vs : List V) (H : Hp) (Q : VK) (E : XK) (h : sp_struck K vs H Q E) : t_struck K { nx := fun _ H' => Q .non H', rt := Q } (start N_struck vs) H := by
  obtain ⟨v, u, r, l, p, b, S, rfl, hS, ⟨a, t, rfl, ha⟩, ⟨c, t2, rfl, hc⟩, el, hp, hl, br, bl, hb, q⟩ := h
  have hr : SqB K t H a (r.map V.int) := same_sqb wo_le ha
  have hc' : SqB K t2 H c (l.map V.int) := same_sqb wo_le hc
  show t_struck K _ [some (.ref a), some (.ref c), some (.int p), none, none, none, none] H
  unfold t_struck
  walk_at "vc"
  refine v_ixb hr (at_int (getD_of hp)) ?_
  walk_at "vc"
  refine ite2 (fun z => ?_) (fun z => ?_)
  · walk_at "vc"
    refine q _ _ ?_ (Same.refl _)
    unfold strk
    rw [if_pos (of_decide_eq_true z)]
    exact ⟨a, t, rfl, ha⟩
  · have z2 : ¬r.getD p 0 = 0 := fun y => z (decide_eq_true y)
    walk_at "vc"
    refine v_ixb hc' (at_int (getD_of (by omega))) ?_
    walk_at "vc"
    refine v_zur hr hc' ?_
    have cm : ∀ {x y : Int} {n m : Int}, x.natAbs < 2 ^ b → y.natAbs < 2 ^ b → CMulW x y := fun h1 h2 => by
      refine wide_mul (a := b + 1) (b := b + 1) (Nat.lt_of_lt_of_le h1 (Nat.pow_le_pow_right (by decide) (by omega))) (Nat.lt_of_lt_of_le h2 (Nat.pow_le_pow_right (by decide) (by omega))) (by omega) (by omega) (by omega)
    refine lc_acc (walk_zipM (xs := r.map V.int) (ys := l.map V.int) rfl (by rw [List.length_map, List.length_map, el])) S hS (fun i acc _ => acc = ((comb (l.getD p 0) (r.getD p 0) r l).take i).map V.int) (fun _ _ _ _ _ h => h) (by rw [List.length_map]; exact hl) (fun H' e => ⟨same_sqb e hr, same_sqb e hc'⟩) rfl ?_ ?_
    · rintro D i x H1 H2 acc hi hD hD1 s1 ⟨T, x1, x2, rfl, hT, rfl, e1, e2⟩ rfl kn R R0 hR _
      obtain ⟨n, hn, rfl⟩ := int_of e1
      obtain ⟨m, hm, rfl⟩ := int_of e2
      refine v_gtup (sqt_of upd_same) rfl ?_
      walk_at "vc"
      refine ⟨rfl, v_yes (iT rfl ?_)⟩
      walk_at "vc"
      refine v_mulw (cm (n := 0) (m := 0) (getD_bd bl) (br n (List.mem_of_getElem? hn))) ?_
      walk_at "vc"
      refine v_mulw (cm (n := 0) (m := 0) (getD_bd br) (bl m (List.mem_of_getElem? hm))) ?_
      walk_at "vc"
      refine hR _ _ ?_ (same_new hT)
      have g : (comb (l.getD p 0) (r.getD p 0) r l)[i]? = some (l.getD p 0 * n - r.getD p 0 * m) := by
        unfold comb
        rw [List.getElem?_zipWith, hn, hm]
      rw [take_succ_get g, List.map_append]
      rfl
    · rintro D H' acc hD s1 hl2 _ rfl
      rw [List.length_map, ← comb_len (h := l.getD p 0) (o := r.getD p 0) el, List.take_length] at hl2
      walk_at "vc"
      refine ⟨_, comb (l.getD p 0) (r.getD p 0) r l, S, rfl, kn_same hS s1, ⟨D, false, rfl, sqb_lst (wo_at hl2 (kn_new hS hD))⟩, by rw [comb_len el]; exact hl, (comb_bd (getD_bd bl) (getD_bd br) br bl).mono (by omega), fun w H'' hw s2 => q w H'' ?_ (s1.trans s2)⟩
      unfold strk
      rw [if_neg z2]
      exact hw

end
section
abbrev N_first_with : List Str := ["rows", "place", "at", "row"]
def t_first_with (K : PySem.W.Frag) : TS :=
  (tSeq (tFor (iEnum K (tCons (tVar 0) tNil)) (gTup K 2 (gCons (gName 2) (gCons (gName 3) gNil)))
    (tIfS (tTest (tOp (rNeU K) (tOp (rIx K) (tVar 3) (tVar 1)) (tC (.int 0)))) (tRet (tVar 2)) tNext))
    (tRet (tUn rNegI (tC (.int 1)))))
abbrev N_unit_rows : List Str := ["deep", "at", "place"]
def t_unit_rows (K : PySem.W.Frag) : TS :=
  (tRet (tLc (iRng1 (tCons (tVar 0) tNil)) (gName 1) tYes (tCB (rTupOf K) (tCons (tLc (iRng1 (tCons (tVar 0) tNil)) (gName 2) tYes (tIf (tTest (tOp (rEqU K) (tVar 2) (tVar 1))) (tC (.int 1)) (tC (.int 0))) [2]) tNil)) [1]))
def sp_first_with (K : PySem.W.Frag) : Sp := fun vs H Q _ => ∃ a xs M p d, vs = [.ref a, .int (p : Nat)] ∧ SqL K H a xs ∧ RowsAt K H xs M ∧ p < d ∧ (∀ r, r ∈ M → r.length = d) ∧ M.length ≤ 1000000 ∧ ∀ H', Same H H' →
  (∀ k r, M[k]? = some r → r.getD p 0 ≠ 0 → (∀ r', r' ∈ M.take k → r'.getD p 0 = 0) → Q (.int (k : Nat)) H') ∧ ((∀ r, r ∈ M → r.getD p 0 = 0) → Q (.int (-1)) H')
theorem pure_first_with {K : PySem.W.Frag} (vs : List V) (H : Hp) (Q : VK) (E : XK) (h : sp_first_with K vs H Q E) : t_first_with K { nx := fun _ H' => Q .non H', rt := Q } (start N_first_with vs) H := by
  obtain ⟨a, xs, M, p, d, rfl, ha, hM, hp, hd, hl, q⟩ := h
  show t_first_with K _ [some (.ref a), some (.int p), none, none] H
  unfold t_first_with
  refine v_seq (v_for ?_)
  show tCons (tVar 0) tNil _ H _
  walk_at "vc"
  refine ⟨a, xs, rfl, ha, ?_⟩
  refine for_w walk_enum (fun i σ X => Same H X ∧ (∃ y z, σ = [some (.ref a), some (.int p), y, z]) ∧ ∀ r, r ∈ M.take i → r.getD p 0 = 0) ⟨Same.refl _, ⟨_, _, rfl⟩, fun r h => by simp at h⟩ (fun i σ X _ h => same_sql h.1 ha) ?_ ?_
  · rintro i x σ X X' hi ⟨s1, ⟨y, z, rfl⟩, hz⟩ ⟨T, e1, e2, rfl, hT, rfl, h1, h2⟩
    have h1' : V.int (i : Nat) = e1 := Option.some.inj h1
    subst h1'
    have h2' : xs[i]? = some e2 := h2
    obtain ⟨r, hr, b, t, rfl, hb⟩ := hM.2 i _ h2'
    have s2 : Same H (upd X T (.tup [.int (i : Nat), .ref b])) := s1.trans (same_new hT)
    refine v_gtup (sqt_of upd_same) rfl ?_
    walk_at "vc"
    refine v_ixb (same_sqb s2 hb) (at_int (getD_of (by rw [hd r (List.mem_of_getElem? hr)]; exact hp))) ?_
    walk_at "vc"
    refine ite2 (fun c => ?_) (fun c => ?_)
    · walk_at "vc"
      exact (q _ s2).1 i r hr (by simpa using c) hz
    · walk_at "vc"
      refine ⟨s2, ⟨_, _, rfl⟩, fun r' h' => ?_⟩
      rw [take_succ_get hr] at h'
      rcases List.mem_append.mp h' with h' | h'
      · exact hz r' h'
      · rw [List.mem_singleton.mp h']
        simpa using c
  · rintro σ X ⟨s1, ⟨y, z, rfl⟩, hz⟩
    walk_at "vc"
    rw [hM.1, List.take_length] at hz
    exact (q _ s1).2 hz
def units (d : Nat) : List (List Int) := (List.range d).map fun k => (List.range d).map fun j => if j = k then 1 else 0
def sp_unit_rows (K : PySem.W.Frag) : Sp := fun vs H Q _ => ∃ d S, vs = [.int (d : Nat)] ∧ Kn S H ∧ d ≤ 1000 ∧ ∀ a xs H', H' a = some (.lst xs) → H a = none → RowsAt K (wo S H') xs (units d) → Same H H' → Q (.ref a) H'
theorem pure_unit_rows {K : PySem.W.Frag} (vs : List V) (H : Hp) (Q : VK) (E : XK) (h : sp_unit_rows K vs H Q E) : t_unit_rows K { nx := fun _ H' => Q .non H', rt := Q } (start N_unit_rows vs) H := by
  obtain ⟨d, S, rfl, hS, hd, q⟩ := h
  show t_unit_rows K _ [some (.int d), none, none] H
  unfold t_unit_rows
  walk_at "vc"
  refine v_irr (j := d) ⟨by omega, by omega⟩ ?_
  rw [show (d : Int).toNat = d by omega]
  refine lc_acc walk_range S hS (fun i acc A => RowsAt K A acc ((units d).take i)) (fun i acc A B e h => rows_same e h) (by omega) (fun _ _ => trivial) rows_nil ?_ ?_
  · rintro D i x H1 H2 acc hi hD hD1 s1 ⟨rfl, rfl⟩ hacc kn R R0 hR _
    refine v_name ⟨rfl, v_yes (iT rfl ?_)⟩
    walk_at "vc"
    refine v_irr (j := d) ⟨by omega, by omega⟩ ?_
    rw [show (d : Int).toNat = d by omega]
    refine lc_fn (fun j => .int (if j = i then 1 else 0)) (by omega) (fun j H3 R' hj r => ?_) (fun _ => rfl) fun l hl => ?_
    · walk_at "vc"
      refine ite2 (fun c => ?_) (fun c => ?_)
      · have e : j = i := by have := of_decide_eq_true c; omega
        rw [if_pos e] at r
        exact r
      · have e : ¬j = i := fun z => c (decide_eq_true (by omega))
        rw [if_neg e] at r
        exact r
    walk_at "vc"
    refine v_tuple (SqL.of upd_same) fun T hT => ?_
    have g : (units d)[i]? = some ((List.range d).map fun j => if j = i then 1 else 0) := by
      unfold units
      rw [List.getElem?_map, List.getElem?_range hi]
      rfl
    have sT := (same_new (o := .lst ((List.range d).map fun j => V.int (if j = i then 1 else 0))) hl).trans (same_new (o := .tup ((List.range d).map fun j => V.int (if j = i then 1 else 0))) hT)
    refine hR _ _ ?_ sT
    rw [take_succ_get g]
    refine rows_app (rows_same (wo_mono sT) hacc) (rows_one ⟨T, true, rfl, sqb_tup (wo_at ?_ ?_)⟩)
    · rw [upd_same, List.map_map]
      rfl
    · exact kn_new (kn_same kn (same_new hl)) hT
  · rintro D H' acc hD s1 hl _ hr
    refine q D acc H' hl hD ?_ s1
    rw [List.take_of_length_le (by simp [units])] at hr
    exact rows_same (wo_sub fun a h => List.mem_cons_of_mem _ h) hr

end
section
abbrev N_echelon : List Str := ["deep", "rows", "left", "told", "place", "at", "lead", "others", "row"]
def t_echelon (K : PySem.W.Frag) : TS :=
  (tSeq (tAsg (tLc (iSq K (tVar 1)) (gName 8) (tB (tCB (rAnyU K) (tCons (tCB (rListOf K) (tCons (tVar 8) tNil)) tNil))) (tCall (sp_primitive_row K) [] E0 (tCons (tVar 8) tNil)) [8]) (gName 2))
    (tSeq (tAsg (tLst tNil) (gName 3))
    (tSeq (tFor (iRng1 (tCons (tVar 0) tNil)) (gName 4)
    (tSeq (tAsg (tCall (sp_first_with K) [] E0 (tCons (tVar 2) (tCons (tVar 4) tNil))) (gName 5))
    (tIfS (tTest (tOp rGeI (tVar 5) (tC (.int 0)))) (tSeq (tAsg (tCall (sp_led_row K) [] E0 (tCons (tOp (rIx K) (tVar 2) (tVar 5)) (tCons (tVar 4) tNil))) (gName 6))
    (tSeq (tAsg (tLc (iSq K (tOp (rAddU K) (tSl (rSlU K) (tVar 2) tNoPart (tPart (tVar 5))) (tSl (rSlU K) (tVar 2) (tPart (tOp (rAddU K) (tVar 5) (tC (.int 1)))) tNoPart))) (gName 8) tYes (tCall (sp_struck K) [] E0 (tCons (tVar 8) (tCons (tVar 6) (tCons (tVar 4) tNil)))) [8]) (gName 7))
    (tSeq (tAsg (tLc (iSq K (tVar 7)) (gName 8) (tB (tCB (rAnyU K) (tCons (tCB (rListOf K) (tCons (tVar 8) tNil)) tNil))) (tVar 8) [8]) (gName 2))
    (tAsg (tOp (rAddU K) (tLc (iSq K (tVar 3)) (gName 8) tYes (tCall (sp_struck K) [] E0 (tCons (tVar 8) (tCons (tVar 6) (tCons (tVar 4) tNil)))) [8]) (tLst (tCons (tVar 6) tNil))) (gName 3))))) tNext)))
    (tRet (tLc (iSq K (tVar 3)) (gName 8) tYes (tCB (rTupOf K) (tCons (tVar 8) tNil)) [8])))))
def nz (r : List Int) : Bool := r.any fun n => n != 0
def lead? (L : List (List Int)) (p : Nat) : Option Nat := L.findIdx? fun r => r.getD p 0 != 0
/-- the told rows, the left rows: one place p -/
def estep (s : List (List Int) × List (List Int)) (p : Nat) : List (List Int) × List (List Int) := match lead? s.2 p with
  | none => s
  | some k => let l := led (s.2.getD k []) p
    (s.1.map (strk · l p) ++ [l], ((s.2.take k ++ s.2.drop (k + 1)).map (strk · l p)).filter nz)
def eleft (M : List (List Int)) : List (List Int) := (M.filter nz).map prim
def ech (d : Nat) (M : List (List Int)) : List (List Int) := ((List.range d).foldl estep ([], eleft M)).1
def bbits (b : Nat) : Nat → Nat
  | 0 => b
  | p + 1 => 2 * bbits b p + 1
theorem bbits_eq (b : Nat) : ∀ p, bbits b p + 1 = (b + 1) * 2 ^ p
  | 0 => by simp [bbits]
  | p + 1 => by
    have := bbits_eq b p
    show 2 * bbits b p + 1 + 1 = (b + 1) * 2 ^ (p + 1)
    rw [Nat.pow_succ, ← Nat.mul_assoc, ← this]
    omega
theorem bbits_le {b p : Nat} (hb : b ≤ 60) (hp : p ≤ 5) : bbits b p ≤ 3000 := by
  have e := bbits_eq b p
  have h : (b + 1) * 2 ^ p ≤ 61 * 2 ^ 5 := Nat.mul_le_mul (by omega) (Nat.pow_le_pow_right (by decide) hp)
  have : 61 * 2 ^ 5 = 1952 := by decide
  omega
/-- rows of one length, their numbers below 2 ^ b -/
def Okr (d b : Nat) (M : List (List Int)) : Prop := ∀ r, r ∈ M → r.length = d ∧ Bd b r
theorem okr_strk {d b p : Nat} {M : List (List Int)} {l : List Int} (h : Okr d b M) (hl : l.length = d ∧ Bd b l) : Okr d (2 * b + 1) (M.map (strk · l p)) := fun r hr => by
  obtain ⟨x, hx, rfl⟩ := List.mem_map.mp hr
  obtain ⟨h1, h2⟩ := h x hx
  exact ⟨by rw [strk_len (by omega)]; exact h1, strk_bd h2 hl.2⟩
theorem okr_sub {d b : Nat} {M N : List (List Int)} (h : Okr d b M) (s : ∀ r, r ∈ N → r ∈ M) : Okr d b N := fun r hr => h r (s r hr)
theorem lead_none {L : List (List Int)} {p : Nat} (h : lead? L p = none) : ∀ r, r ∈ L → r.getD p 0 = 0 := fun r hr => by
  have := List.findIdx?_eq_none_iff.mp h r hr
  simpa using this
theorem lead_some {L : List (List Int)} {p k : Nat} (h : lead? L p = some k) : ∃ r, L[k]? = some r ∧ r.getD p 0 ≠ 0 ∧ ∀ r', r' ∈ L.take k → r'.getD p 0 = 0 := by
  obtain ⟨hk, h1, h2⟩ := List.findIdx?_eq_some_iff_getElem.mp h
  refine ⟨L[k], List.getElem?_eq_getElem hk, by simpa using h1, fun r' hr => ?_⟩
  obtain ⟨j, hj⟩ := List.getElem?_of_mem hr
  have jl : j < k := by
    have := (List.getElem?_eq_some_iff.mp hj).1
    simp at this
    omega
  rw [List.getElem?_take_of_lt jl] at hj
  have q := h2 j jl
  rw [(List.getElem?_eq_some_iff.mp hj).2] at q
  simpa using q
theorem filter_take_succ {α : Type} {f : α → Bool} {M : List α} {i : Nat} {r : α} (h : M[i]? = some r) : (M.take (i + 1)).filter f = if f r = true then (M.take i).filter f ++ [r] else (M.take i).filter f := by
  rw [take_succ_get h, List.filter_append]
  by_cases c : f r = true
  · rw [if_pos c, List.filter_cons, if_pos c]
    rfl
  · rw [if_neg c, List.filter_cons, if_neg c, List.filter_nil, List.append_nil]
/-- rows that are tuples -/
def TupsAt (K : PySem.W.Frag) (H : Hp) (xs : List V) (M : List (List Int)) : Prop := xs.length = M.length ∧ ∀ (i : Nat) x, xs[i]? = some x → ∃ r a, M[i]? = some r ∧ x = .ref a ∧ SqT K H a (r.map V.int)
theorem tups_same {K : PySem.W.Frag} {A B : Hp} {xs : List V} {M : List (List Int)} (e : Same A B) (h : TupsAt K A xs M) : TupsAt K B xs M := ⟨h.1, fun i x hx => by
  obtain ⟨r, a, h1, h2, h3⟩ := h.2 i x hx
  exact ⟨r, a, h1, h2, same_sqt e h3⟩⟩
theorem tups_snoc {K : PySem.W.Frag} {A : Hp} {xs : List V} {M : List (List Int)} {a : Addr} {r : List Int} (h : TupsAt K A xs M) (k : SqT K A a (r.map V.int)) : TupsAt K A (xs ++ [.ref a]) (M ++ [r]) := ⟨by simp [h.1], fun i x hx => by
  rw [List.getElem?_append] at hx
  rw [List.getElem?_append, ← h.1]
  split at hx
  · rename_i hl
    rw [if_pos hl]
    exact h.2 i x hx
  · rename_i hl
    rw [if_neg hl]
    cases e : i - xs.length with
    | zero =>
      rw [e] at hx
      simp at hx
      exact ⟨r, a, by simp, hx.symm, k⟩
    | succ j => rw [e] at hx; simp at hx⟩
theorem tups_rows {K : PySem.W.Frag} {A : Hp} {xs : List V} {M : List (List Int)} (h : TupsAt K A xs M) : RowsAt K A xs M := ⟨h.1, fun i x hx => by
  obtain ⟨r, a, h1, h2, h3⟩ := h.2 i x hx
  exact ⟨r, h1, a, true, h2, h3⟩⟩
/-- any(list(row)) within a comprehension -/
theorem v_nzrow {K : PySem.W.Frag} {σ : L2.St} {H : Hp} {i : Nat} {a : Addr} {t : Bool} {r : List Int} {Qb : Bool → Hp → Prop} (hi : σ[i]? = some (some (.ref a))) (h : SqB K t H a (r.map V.int)) (q : ∀ l, H l = none → Qb (nz r) (upd H l (.lst (r.map V.int)))) :
    tB (tCB (rAnyU K) (tCons (tCB (rListOf K) (tCons (tVar i) tNil)) tNil)) σ H Qb := by
  walk_at "vc"
  refine v_var hi ?_
  walk_at "vc"
  refine v_listb h fun l hl => ?_
  walk_at "vc"
  exact .inr ⟨l, r, rfl, SqL.of upd_same, _, rfl, q l hl⟩
def sp_echelon (K : PySem.W.Frag) : Sp := fun vs H Q _ => ∃ v M d b S, vs = [.int (d : Nat), v] ∧ Kn S H ∧ MatAt K (wo S H) v M ∧ Okr d b M ∧ M.length ≤ 1000 ∧ d ≤ 5 ∧ b ≤ 60 ∧ ∀ a xs H', H' a = some (.lst xs) → H a = none → TupsAt K (wo S H') xs (ech d M) → Same H H' → Q (.ref a) H'
theorem wo_ext {S : List Addr} {H H1 : Hp} {D : Addr} (e : Same H H1) (h : H D = none) : Same (wo S H) (wo (D :: S) H1) := fun a u q => by
  obtain ⟨h1, h2⟩ := wo_get q
  have ne : a ≠ D := ne_of_none h2 h
  rw [wo_out (by simp [ne, h1])]
  exact e a u h2
theorem wo_tail {S : List Addr} {H : Hp} {D : Addr} : Same (wo (D :: S) H) (wo S H) := wo_sub fun a h => List.mem_cons_of_mem _ h
/-- rows struck one by one -/
theorem lc_struck {K : PySem.W.Frag} {H : Hp} {S : List Addr} {N : List (List Int)} {zs : List V} {z : Addr} {tz : Bool} {u : V} {l : List Int} {d p b : Nat} {σ : L2.St} {Q : VK} (hS : Kn S H) (hz : SqB K tz H z zs) (hN : RowsAt K (wo S H) zs N) (hu : RowAt K (wo S H) u l) (okN : Okr d b N) (okl : l.length = d ∧ Bd b l) (hp : p < d) (hd : d ≤ 1000) (hb : b ≤ 3000) (hlen : N.length ≤ 1000)
    (e6 : ∀ x : V, ((wipe σ [8]).set 8 (some x))[6]? = some (some u)) (e4 : ∀ x : V, ((wipe σ [8]).set 8 (some x))[4]? = some (some (.int (p : Nat)))) (e8 : ∀ x : V, ((wipe σ [8]).set 8 (some x))[8]? = some (some x)) (hw : ∀ x : V, wipe ((wipe σ [8]).set 8 (some x)) [8] = wipe σ [8])
    (k : ∀ D acc H', H D = none → Same H H' → H' D = some (.lst acc) → RowsAt K (wo (D :: S) H') acc (N.map (strk · l p)) → Q (.ref D) H') :
    lcI (ItsB K tz z) (gName 8) tYes (tCall (sp_struck K) [] E0 (tCons (tVar 8) (tCons (tVar 6) (tCons (tVar 4) tNil)))) [8] σ H Q := by
  refine lc_acc walk_sq S hS (fun i acc A => RowsAt K A acc ((N.take i).map (strk · l p))) (fun i acc A B e h => rows_same e h) (by rw [hN.1]; omega) (fun H' e => same_sqb e hz) rows_nil ?_ ?_
  · rintro D i x H1 H2 acc hi hD hD1 s1 ⟨rfl, hx⟩ hacc kn R R0 hR hR0
    obtain ⟨r, hr, rx⟩ := hN.2 i x hx
    obtain ⟨lr, br⟩ := okN r (List.mem_of_getElem? hr)
    refine v_name ⟨hw x, v_yes (iT rfl ?_)⟩
    refine v_call (v_cons (v_var (e8 x) (v_cons (v_var (e6 x) (v_cons (v_var (e4 x) (v_nil ?_)))))))
    refine ⟨x, u, r, l, p, b, D :: S, rfl, kn, row_same (wo_ext s1 hD) rx, row_same (wo_ext s1 hD) hu, by omega, by omega, by omega, br, okl.2, hb, fun w H4 hw4 s4 => hR w H4 ?_ s4⟩
    rw [take_succ_get hr, List.map_append]
    exact rows_app (rows_same (wo_mono s4) hacc) (rows_one hw4)
  · rintro D H' acc hD s1 hl _ hr
    rw [hN.1, List.take_length] at hr
    exact k D acc H' hD s1 hl hr
/-- the rows that are not all 0 -/
theorem lc_nz {K : PySem.W.Frag} {H : Hp} {S : List Addr} {N : List (List Int)} {zs : List V} {z : Addr} {tz : Bool} {σ : L2.St} {Q : VK} (hS : Kn S H) (hz : SqB K tz H z zs) (hN : RowsAt K (wo S H) zs N) (hlen : N.length ≤ 1000)
    (e8 : ∀ x : V, ((wipe σ [8]).set 8 (some x))[8]? = some (some x)) (hw : ∀ x : V, wipe ((wipe σ [8]).set 8 (some x)) [8] = wipe σ [8])
    (k : ∀ D acc H', H D = none → Same H H' → H' D = some (.lst acc) → RowsAt K (wo (D :: S) H') acc (N.filter nz) → Q (.ref D) H') :
    lcI (ItsB K tz z) (gName 8) (tB (tCB (rAnyU K) (tCons (tCB (rListOf K) (tCons (tVar 8) tNil)) tNil))) (tVar 8) [8] σ H Q := by
  refine lc_acc walk_sq S hS (fun i acc A => RowsAt K A acc ((N.take i).filter nz)) (fun i acc A B e h => rows_same e h) (by rw [hN.1]; omega) (fun H' e => same_sqb e hz) rows_nil ?_ ?_
  · rintro D i x H1 H2 acc hi hD hD1 s1 ⟨rfl, hx⟩ hacc kn R R0 hR hR0
    obtain ⟨r, hr, c, t2, rfl, hc⟩ := hN.2 i x hx
    refine v_name ⟨hw _, v_nzrow (e8 _) (same_sqb (wo_le.trans s1) hc) fun y hy => ?_⟩
    have sy := same_new (o := .lst (r.map V.int)) hy
    refine ite2 (fun e => ?_) (fun e => ?_)
    · refine v_var (e8 _) (hR _ _ ?_ sy)
      rw [filter_take_succ hr, if_pos e]
      exact rows_app (rows_same (wo_mono sy) hacc) (rows_one ⟨c, t2, rfl, same_sqb ((wo_ext s1 hD).trans (wo_mono sy)) hc⟩)
    · refine hR0 _ ?_ sy
      rw [filter_take_succ hr, if_neg e]
      exact rows_same (wo_mono sy) hacc
  · rintro D H' acc hD s1 hl _ hr
    rw [hN.1, List.take_length] at hr
    exact k D acc H' hD s1 hl hr
theorem pure_echelon {K : PySem.W.Frag} (vs : List V) (H : Hp) (Q : VK) (E : XK) (h : sp_echelon K vs H Q E) : t_echelon K { nx := fun _ H' => Q .non H', rt := Q } (start N_echelon vs) H := by
  obtain ⟨v, M, d, b, S, rfl, hS, ⟨a, t, xs, rfl, ha, hM⟩, hok, hl, hd, hb, q⟩ := h
  have ha' : SqB K t H a xs := same_sqb wo_le ha
  show t_echelon K _ [some (.int d), some (.ref a), none, none, none, none, none, none, none] H
  unfold t_echelon
  walk_at "vc"
  refine v_sqr ha' ?_
  refine lc_acc walk_sq S hS (fun i acc A => RowsAt K A acc (((M.take i).filter nz).map prim)) (fun i acc A B e h => rows_same e h) (by have := hM.1; omega) (fun H' e => same_sqb e ha') rows_nil ?_ ?_
  · rintro D i x H1 H2 acc hi hD hD1 s1 ⟨rfl, hx⟩ hacc kn R R0 hR hR0
    obtain ⟨r, hr, c, t2, rfl, hc⟩ := hM.2 i x hx
    obtain ⟨lr, br⟩ := hok r (List.mem_of_getElem? hr)
    refine v_name ⟨rfl, v_nzrow rfl (same_sqb (wo_le.trans s1) hc) fun l hl => ?_⟩
    have sl := same_new (o := .lst (r.map V.int)) hl
    refine ite2 (fun e => ?_) (fun e => ?_)
    · walk_at "vc"
      refine ⟨_, r, D :: S, rfl, kn_same kn sl, ⟨c, t2, rfl, same_sqb ((wo_ext s1 hD).trans (wo_mono sl)) hc⟩, by omega, br.mono (by omega), fun w H4 hw s4 => hR w H4 ?_ (sl.trans s4)⟩
      rw [filter_take_succ hr, if_pos e, List.map_append]
      exact rows_app (rows_same (wo_mono (sl.trans s4)) hacc) (rows_one hw)
    · refine hR0 _ ?_ sl
      rw [filter_take_succ hr, if_neg e]
      exact rows_same (wo_mono sl) hacc
  · rintro x0 H0 L0 hx0 s0 hl0 _ hr0
    rw [hM.1, List.take_length] at hr0
    walk_at "vc"
    refine ⟨Nat.zero_le _, fun y0 hy0 => ?_⟩
    have sy := same_new (o := .lst []) hy0
    walk_at "vc"
    refine v_irr (j := d) ⟨by omega, by omega⟩ ?_
    rw [show (d : Int).toNat = d by omega]
    refine for_r (fun p σ X => ∃ x y xs ys z4 z5 z6 z7 z8, σ = [some (.int d), some (.ref a), some (.ref x), some (.ref y), z4, z5, z6, z7, z8] ∧ X x = some (.lst xs) ∧ X y = some (.lst ys) ∧ Same H X ∧
      RowsAt K (wo S X) xs ((List.range p).foldl estep ([], eleft M)).2 ∧ RowsAt K (wo S X) ys ((List.range p).foldl estep ([], eleft M)).1 ∧ Okr d (bbits b p) ((List.range p).foldl estep ([], eleft M)).2 ∧ Okr d (bbits b p) ((List.range p).foldl estep ([], eleft M)).1 ∧
      ((List.range p).foldl estep ([], eleft M)).2.length ≤ 1000 ∧ ((List.range p).foldl estep ([], eleft M)).1.length ≤ p) ?_ ?_ ?_
    · refine ⟨x0, y0, L0, [], _, _, _, _, _, rfl, h_ne (ne_new hl0 hy0) hl0, upd_same, s0.trans sy, rows_same (wo_tail.trans (wo_mono sy)) hr0, rows_nil, ?_, (fun r h => nomatch h), ?_, Nat.le_refl _⟩
      · intro r hr
        obtain ⟨r', h1, rfl⟩ := List.mem_map.mp hr
        obtain ⟨h2, h3⟩ := hok r' (List.mem_filter.mp h1).1
        exact ⟨by rw [prim_len]; exact h2, prim_bd h3⟩
      · show (eleft M).length ≤ 1000
        unfold eleft
        rw [List.length_map]
        exact Nat.le_trans (List.length_filter_le _ _) hl
    · rintro p σ X hp ⟨x, y, xs, ys, z4, z5, z6, z7, z8, rfl, hx, hy, sX, rL, rT, oL, oT, nL, nT⟩
      have hbp : bbits b p ≤ 3000 := bbits_le hb (by omega)
      rw [List.range_succ, List.foldl_append]
      generalize (List.range p).foldl estep ([], eleft M) = s at *
      obtain ⟨T, L⟩ := s
      show gName 4 _ _ _ _
      rw [Int.zero_add]
      walk_at "vc"
      refine ⟨x, xs, L, p, d, rfl, SqL.of hx, rows_same wo_le rL, hp, fun r hr => (oL r hr).1, Nat.le_trans nL (by decide), fun X1 s1 => ⟨?_, ?_⟩⟩
      · intro k r hr hne hbef
        obtain ⟨hk, ek⟩ := List.getElem?_eq_some_iff.mp hr
        have hle : lead? L p = some k := by
          refine List.findIdx?_eq_some_iff_getElem.mpr ⟨hk, by rw [ek]; simpa using hne, fun j hj => ?_⟩
          have hjl : j < L.length := Nat.lt_trans hj hk
          have q := hbef L[j] (List.mem_of_getElem? (i := j) (by rw [List.getElem?_take_of_lt hj]; exact List.getElem?_eq_getElem hjl))
          rw [q]
          decide
        have he : estep (T, L) p = (T.map (strk · (led r p) p) ++ [led r p], ((L.take k ++ L.drop (k + 1)).map (strk · (led r p) p)).filter nz) := by
          unfold estep
          rw [hle]
          simp only [List.getD_eq_getElem?_getD, hr, Option.getD_some]
        have sX1 := sX.trans s1
        have kn1 := kn_same hS sX1
        have rL1 := rows_same (wo_mono s1) rL
        have rT1 := rows_same (wo_mono s1) rT
        have hx1 := s1 _ _ hx
        have hy1 := s1 _ _ hy
        obtain ⟨xk, hxk, rxk⟩ := rows_ex rL1 hr
        obtain ⟨lr, br⟩ := oL r (List.mem_of_getElem? hr)
        have nLx : xs.length = L.length := rL.1
        walk_at "vc"
        refine iT (by simp) ?_
        walk_at "vc"
        refine v_ixl (SqL.of hx1) (atI_nat hxk) ?_
        walk_at "vc"
        refine ⟨xk, r, p, S, rfl, kn1, rxk, by omega, by omega, fun w X2 hw s2 => ?_⟩
        have okl : (led r p).length = d ∧ Bd (bbits b p) (led r p) := ⟨by rw [led_len]; exact lr, led_bd br⟩
        have hx2 := s2 _ _ hx1
        have hy2 := s2 _ _ hy1
        have sX2 := sX1.trans s2
        walk_at "vc"
        intro l1 hl1
        rw [cut_to (by omega)]
        have t1 := same_new (o := .lst (xs.take k)) hl1
        have hx3 := t1 _ _ hx2
        walk_at "vc"
        intro l2 hl2
        rw [show (k : Int) + 1 = ((k + 1 : Nat) : Int) by omega, cut_from (by omega)]
        have t2 := same_new (o := .lst (xs.drop (k + 1))) hl2
        refine v_addl (t2 _ _ upd_same) upd_same ?_ fun l3 hl3 => ?_
        · have nL' : L.length ≤ 1000 := nL
          rw [sizeLine_eq]
          simp
          omega
        have t3 := same_new (o := .lst (xs.take k ++ xs.drop (k + 1))) hl3
        have t123 := t1.trans (t2.trans t3)
        have rO : RowsAt K (wo S X2) (xs.take k ++ xs.drop (k + 1)) (L.take k ++ L.drop (k + 1)) := by
          have rL2 := rows_same (wo_mono s2) rL1
          refine rows_app ?_ ?_
          · have := rows_cut (n := 0) (m := k) rL2
            simpa using this
          · have := rows_cut (n := k + 1) (m := xs.length) rL2
            rwa [List.take_of_length_le (by simp), List.take_of_length_le (by simp; omega)] at this
        have oO : Okr d (bbits b p) (L.take k ++ L.drop (k + 1)) := okr_sub oL fun r hr => by
          rcases List.mem_append.mp hr with h | h
          · exact List.mem_of_mem_take h
          · exact List.mem_of_mem_drop h
        have nO : (L.take k ++ L.drop (k + 1)).length ≤ 1000 := by
          have : L.length ≤ 1000 := nL
          simp
          omega
        walk_at "vc"
        refine v_sqr (sqb_lst upd_same) ?_
        refine lc_struck (S := S) (N := L.take k ++ L.drop (k + 1)) (u := w) (l := led r p) (d := d) (p := p) (b := bbits b p) (kn_same kn1 (s2.trans t123)) (sqb_lst upd_same) (rows_same (wo_mono t123) rO) (row_same (wo_mono t123) hw) oO okl hp (by omega) hbp nO (fun _ => rfl) (fun _ => rfl) (fun _ => rfl) (fun _ => rfl) fun D acc X3 hD s3 hl3' hr3 => ?_
        have r3 := rows_same wo_tail hr3
        have sX3 := (sX2.trans t123).trans s3
        walk_at "vc"
        refine v_sqr (sqb_lst hl3') ?_
        refine lc_nz (S := S) (kn_same hS sX3) (sqb_lst hl3') r3 (by rw [List.length_map]; exact nO) (fun _ => rfl) (fun _ => rfl) fun D2 acc2 X4 hD2 s4 hl4 hr4 => ?_
        have r4 := rows_same wo_tail hr4
        have sX4 := sX3.trans s4
        have s24 := t123.trans (s3.trans s4)
        have hy4 := s24 _ _ hy2
        walk_at "vc"
        refine v_sqr (sqb_lst hy4) ?_
        refine lc_struck (S := S) (N := T) (u := w) (l := led r p) (d := d) (p := p) (b := bbits b p) (kn_same hS sX4) (sqb_lst hy4) (rows_same (wo_mono (s2.trans s24)) rT1) (row_same (wo_mono s24) hw) oT okl hp (by omega) hbp (Nat.le_trans nT (by omega)) (fun _ => rfl) (fun _ => rfl) (fun _ => rfl) (fun _ => rfl) fun D3 acc3 X5 hD3 s5 hl5 hr5 => ?_
        have r5 := rows_same wo_tail hr5
        walk_at "vc"
        refine ⟨by show 1 ≤ sizeLine; rw [sizeLine_eq]; decide, fun l6 hl6 => ?_⟩
        have t6 := same_new (o := .lst [w]) hl6
        refine v_addl (t6 _ _ hl5) upd_same ?_ fun l7 hl7 => ?_
        · have e5 := r5.1
          rw [List.length_map] at e5
          have : T.length ≤ p := nT
          rw [sizeLine_eq, e5]
          simp
          omega
        have t7 := same_new (o := .lst (acc3 ++ [w])) hl7
        have s57 := s5.trans (t6.trans t7)
        walk_at "vc"
        show ∃ x y xs ys z4 z5 z6 z7 z8, _
        rw [List.foldl_cons, List.foldl_nil, he]
        refine ⟨D2, l7, acc2, acc3 ++ [w], _, _, _, _, _, rfl, s57 _ _ hl4, upd_same, sX4.trans s57, rows_same (wo_mono s57) r4, rows_app (rows_same (wo_mono (t6.trans t7)) r5) (rows_one (row_same (wo_mono (s24.trans s57)) hw)), ?_, ?_, ?_, ?_⟩
        · exact okr_sub (okr_strk oO okl) fun r hr => (List.mem_filter.mp hr).1
        · intro r' hr'
          rcases List.mem_append.mp hr' with h | h
          · exact okr_strk oT okl r' h
          · rw [List.mem_singleton.mp h]
            exact ⟨okl.1, okl.2.mono (by show bbits b p ≤ 2 * bbits b p + 1; omega)⟩
        · refine Nat.le_trans (List.length_filter_le _ _) ?_
          rw [List.length_map]
          exact nO
        · have : T.length ≤ p := nT
          simp
          omega
      · intro hz
        have hle : lead? L p = none := by
          unfold lead?
          rw [List.findIdx?_eq_none_iff]
          intro r hr
          rw [hz r hr]
          rfl
        have he : estep (T, L) p = (T, L) := by
          unfold estep
          rw [hle]
        walk_at "vc"
        refine iF (by decide) ?_
        walk_at "vc"
        show ∃ x y xs ys z4 z5 z6 z7 z8, _
        rw [List.foldl_cons, List.foldl_nil, he]
        exact ⟨x, y, xs, ys, _, _, _, _, _, rfl, s1 _ _ hx, s1 _ _ hy, sX.trans s1, rows_same (wo_mono s1) rL, rows_same (wo_mono s1) rT, fun r hr => ⟨(oL r hr).1, (oL r hr).2.mono (by show bbits b p ≤ 2 * bbits b p + 1; omega)⟩, fun r hr => ⟨(oT r hr).1, (oT r hr).2.mono (by show bbits b p ≤ 2 * bbits b p + 1; omega)⟩, nL, Nat.le_succ_of_le nT⟩
    · rintro σ X ⟨x, y, xs, ys, z4, z5, z6, z7, z8, rfl, hx, hy, sX, rL, rT, oL, oT, nL, nT⟩
      walk_at "vc"
      refine v_sqr (sqb_lst hy) ?_
      refine lc_acc walk_sq S (kn_same hS sX) (fun i acc A => TupsAt K A acc ((ech d M).take i)) (fun i acc A B e h => tups_same e h) (by rw [rT.1]; omega) (fun H' e => same_sqb e (sqb_lst hy)) ⟨rfl, fun i x h => by simp at h⟩ ?_ ?_
      · rintro D i z H1 H2 acc hi hD hD1 s1 ⟨rfl, hz⟩ hacc kn R R0 hR hR0
        obtain ⟨r, hr, c, t2, rfl, hc⟩ := rT.2 i z hz
        refine v_name ⟨rfl, v_yes (iT rfl ?_)⟩
        walk_at "vc"
        have hc1 : SqB K t2 (wo (D :: S) H2) c (r.map V.int) := same_sqb (wo_ext s1 hD) hc
        have g : (ech d M)[i]? = some r := hr
        cases t2
        · refine v_tuple (same_sql wo_le hc1) fun T hT => ?_
          have sT := same_new (o := .tup (r.map V.int)) hT
          refine hR _ _ ?_ sT
          rw [take_succ_get g]
          exact tups_snoc (tups_same (wo_mono sT) hacc) (sqt_of (wo_at upd_same (kn_new kn hT)))
        · refine ⟨c, _, rfl, .inr ⟨same_sqt wo_le hc1, hR _ _ ?_ (Same.refl _)⟩⟩
          rw [take_succ_get g]
          exact tups_snoc hacc hc1
      · rintro D H' acc hD s1 hl2 _ hr
        rw [rT.1] at hr
        have e : (ech d M).take ((List.range d).foldl estep ([], eleft M)).1.length = ech d M := List.take_length
        rw [e] at hr
        exact q D acc H' hl2 (gr_same sX D hD) (tups_same wo_tail hr) (sX.trans s1)

end
section

def lap : Nat → List (List Int) → Int
  | 0, _ => 1
  | m + 1, M => (List.range (m + 1)).foldl (fun acc k => acc + (if k % 2 = 0 then (M.getD k []).getD 0 0 * lap m ((M.take k ++ M.drop (k + 1)).map List.tail) else 0 - (M.getD k []).getD 0 0 * lap m ((M.take k ++ M.drop (k + 1)).map List.tail))) 0
def sp_law_sum (K : PySem.W.Frag) (n : Nat) : Sp := fun vs H Q _ => ∃ a xs M m b, vs = [.ref a] ∧ SqL K H a xs ∧ TupsAt K H xs M ∧ M.length = m ∧ (∀ r, r ∈ M → r.length = m ∧ Bd b r) ∧ m < n ∧ m ≤ 5 ∧ b ≤ 60 ∧ ∀ H', Same H H' → Q (.int (lap m M)) H'
theorem no_law_sum {K : PySem.W.Frag} {vs : List V} {H : Hp} {Q : VK} {E : XK} (h : sp_law_sum K 0 vs H Q E) : False := by
  obtain ⟨_, _, _, _, _, _, _, _, _, _, h, _⟩ := h
  exact absurd h (by omega)
theorem tups_get {K : PySem.W.Frag} {H : Hp} {xs : List V} {M : List (List Int)} {i : Nat} {r : List Int} (h : TupsAt K H xs M) (hr : M[i]? = some r) : ∃ c, xs[i]? = some (.ref c) ∧ SqT K H c (r.map V.int) := by
  have hl : i < xs.length := by rw [h.1]; exact (List.getElem?_eq_some_iff.mp hr).1
  obtain ⟨r', c, h1, h2, h3⟩ := h.2 i _ (List.getElem?_eq_getElem hl)
  rw [hr] at h1
  cases h1
  exact ⟨c, by rw [List.getElem?_eq_getElem hl, h2], h3⟩
theorem tups_app {K : PySem.W.Frag} {H : Hp} {xs ys : List V} {M N : List (List Int)} (h : TupsAt K H xs M) (k : TupsAt K H ys N) : TupsAt K H (xs ++ ys) (M ++ N) := ⟨by rw [List.length_append, List.length_append, h.1, k.1], fun i x hx => by
  rw [List.getElem?_append] at hx
  rw [List.getElem?_append, ← h.1]
  split at hx
  · rename_i hl
    rw [if_pos hl]
    exact h.2 i x hx
  · rename_i hl
    rw [if_neg hl]
    exact k.2 _ x hx⟩
theorem tups_cut {K : PySem.W.Frag} {H : Hp} {xs : List V} {M : List (List Int)} {n m : Nat} (h : TupsAt K H xs M) : TupsAt K H ((xs.drop n).take m) ((M.drop n).take m) := ⟨by simp [h.1], fun i x hx => by
  have hm : i < m := by
    have q := (List.getElem?_eq_some_iff.mp hx).1
    simp at q
    omega
  rw [List.getElem?_take_of_lt hm, List.getElem?_drop] at hx
  rw [List.getElem?_take_of_lt hm, List.getElem?_drop]
  exact h.2 _ x hx⟩
theorem tups_but {K : PySem.W.Frag} {H : Hp} {xs : List V} {M : List (List Int)} {k : Nat} (h : TupsAt K H xs M) : TupsAt K H (xs.take k ++ xs.drop (k + 1)) (M.take k ++ M.drop (k + 1)) := by
  refine tups_app ?_ ?_
  · have := tups_cut (n := 0) (m := k) h
    simpa using this
  · have := tups_cut (n := k + 1) (m := xs.length) h
    rwa [List.take_of_length_le (by simp), List.take_of_length_le (by have := h.1; simp; omega)] at this
abbrev N_law_sum : List Str := ["base", "found", "k", "rest", "row"]
def t_law_sum (K : PySem.W.Frag) (n : Nat) : TS :=
  (tSeq (tIfS (tNot (tTruth K (tVar 0))) (tRet (tC (.int 1))) tNext)
    (tSeq (tAsg (tC (.int 0)) (gName 1))
    (tSeq (tFor (iRng1 (tCons (tCB (rLenU K) (tCons (tVar 0) tNil)) tNil)) (gName 2)
    (tIfS (tTest (tOp (rNeU K) (tOp (rIx K) (tOp (rIx K) (tVar 0) (tVar 2)) (tC (.int 0))) (tC (.int 0)))) (tSeq (tAsg (tLc (iSq K (tOp (rAddU K) (tSl (rSlU K) (tVar 0) tNoPart (tPart (tVar 2))) (tSl (rSlU K) (tVar 0) (tPart (tOp (rAddU K) (tVar 2) (tC (.int 1)))) tNoPart))) (gName 4) tYes (tSl (rSlU K) (tVar 4) (tPart (tC (.int 1))) tNoPart) [4]) (gName 3))
    (tAsg (tOp (rAddU K) (tVar 1) (tIf (tTest (tOp (rEqU K) (tOp rModU (tCB rInt1 (tCons (tVar 2) tNil)) (tC (.int 2))) (tC (.int 0)))) (tOp rMulU (tOp (rIx K) (tOp (rIx K) (tVar 0) (tVar 2)) (tC (.int 0))) (tCall (sp_law_sum K n) [] E0 (tCons (tVar 3) tNil))) (tOp rSubI (tC (.int 0)) (tOp rMulU (tOp (rIx K) (tOp (rIx K) (tVar 0) (tVar 2)) (tC (.int 0))) (tCall (sp_law_sum K n) [] E0 (tCons (tVar 3) tNil)))))) (gName 1))) tNext))
    (tRet (tVar 1)))))
theorem pure_law_sum {K : PySem.W.Frag} (n : Nat) (vs : List V) (H : Hp) (Q : VK) (E : XK) (h : sp_law_sum K (n + 1) vs H Q E) : t_law_sum K n { nx := fun _ H' => Q .non H', rt := Q } (start N_law_sum vs) H := by
  obtain ⟨a, xs, M, m, b, rfl, ha, hM, hm, hok, hn, hm5, hb, q⟩ := h
  have hlen : xs.length = m := by rw [hM.1, hm]
  show t_law_sum K n _ [some (.ref a), none, none, none, none] H
  unfold t_law_sum
  walk_at "vc"
  refine ⟨_, .inl ⟨xs, ha, rfl⟩, ?_⟩
  cases m with
  | zero =>
    have e : xs = [] := List.eq_nil_of_length_eq_zero hlen
    rw [e]
    refine iT (by decide) ?_
    walk_at "vc"
    exact q H (Same.refl _)
  | succ m =>
    refine iF (by cases xs <;> first | (simp at hlen; done) | simp) ?_
    walk_at "vc"
    rw [hlen]
    refine v_irr (j := ((m + 1 : Nat) : Int)) ⟨by omega, by omega⟩ ?_
    rw [show (((m + 1 : Nat) : Int)).toNat = m + 1 by omega]
    refine for_r (fun i σ X => Same H X ∧ ∃ z3 z4 z2, σ = [some (.ref a), some (.int ((List.range i).foldl (fun acc k => acc + (if k % 2 = 0 then (M.getD k []).getD 0 0 * lap m ((M.take k ++ M.drop (k + 1)).map List.tail) else 0 - (M.getD k []).getD 0 0 * lap m ((M.take k ++ M.drop (k + 1)).map List.tail))) 0)), z2, z3, z4]) ⟨Same.refl _, _, _, _, rfl⟩ ?_ ?_
    · rintro i σ X hi ⟨s1, z3, z4, z2, rfl⟩
      have hr : M[i]? = some M[i] := List.getElem?_eq_getElem (by omega)
      generalize M[i] = r at hr
      have eG : M.getD i [] = r := by rw [List.getD_eq_getElem?_getD, hr]; rfl
      obtain ⟨c, hc, hct⟩ := tups_get hM hr
      obtain ⟨lr, br⟩ := hok r (List.mem_of_getElem? hr)
      have r0 : r[0]? = some (r.getD 0 0) := getD_of (by omega)
      rw [List.range_succ, List.foldl_append]
      show gName 2 _ _ _ _
      rw [Int.zero_add]
      have hat : atI xs (i : Int) = some (.ref c) := atI_nat hc
      walk_at "vc"
      refine v_ixl (same_sql s1 ha) hat ?_
      walk_at "vc"
      refine v_ixt (same_sqt s1 hct) (at_int (i := 0) r0) ?_
      walk_at "vc"
      refine ite2 (fun e => ?_) (fun e => ?_)
      · walk_at "vc"
        refine v_sll (same_sql s1 ha) fun l1 hl1 => ?_
        rw [cut_to (by omega)]
        have t1 := same_new (o := .lst (xs.take i)) hl1
        walk_at "vc"
        refine v_sll (same_sql (s1.trans t1) ha) fun l2 hl2 => ?_
        rw [show (i : Int) + 1 = ((i + 1 : Nat) : Int) by omega, cut_from (by omega)]
        have t2 := same_new (o := .lst (xs.drop (i + 1))) hl2
        refine v_addl (t2 _ _ upd_same) upd_same ?_ fun l3 hl3 => ?_
        · rw [sizeLine_eq]
          simp
          omega
        have t3 := same_new (o := .lst (xs.take i ++ xs.drop (i + 1))) hl3
        have s2 := s1.trans (t1.trans (t2.trans t3))
        have hB := tups_same s2 (tups_but (k := i) hM)
        walk_at "vc"
        refine v_sqr (sqb_lst upd_same) ?_
        refine lc_acc walk_sq [] kn_nil (fun j acc A => TupsAt K A acc (((M.take i ++ M.drop (i + 1)).take j).map List.tail)) (fun i acc A B e h => tups_same e h) (by have := hB.1; simp at this; simp; omega) (fun H' e => same_sqb e (sqb_lst upd_same)) ⟨rfl, fun i x h => by simp at h⟩ ?_ ?_
        · rintro D j x H1 H2 acc' hj hD hD1 s3 ⟨rfl, hx⟩ hacc kn R R0 hR hR0
          obtain ⟨r2, c2, hr2, rfl, hc2⟩ := hB.2 j x hx
          refine v_name ⟨rfl, v_yes (iT rfl ?_)⟩
          walk_at "vc"
          obtain ⟨lr2, br2⟩ := hok r2 (by
            have h := List.mem_of_getElem? hr2
            rcases List.mem_append.mp h with h | h
            · exact List.mem_of_mem_take h
            · exact List.mem_of_mem_drop h)
          have hc3 := same_sqt s3 hc2
          refine .inr (.inr ⟨c2, _, rfl, hc3, fun z => ?_, fun _ p hp => ?_⟩)
          · have := z.1
            rw [show (1 : Int) = ((1 : Nat) : Int) by omega, HT.sIx_nat, List.length_map] at this
            omega
          · have e1 : cutV (r2.map V.int) (some ((1 : Nat) : Int)) none = r2.tail.map V.int := by
              rw [cut_from (by rw [List.length_map]; omega), List.drop_one, List.map_tail]
            rw [show (1 : Int) = ((1 : Nat) : Int) by omega, e1]
            have sp := same_new (o := .tup (r2.tail.map V.int)) hp
            refine hR _ _ ?_ sp
            rw [take_succ_get hr2, List.map_append]
            exact tups_snoc (tups_same (wo_mono sp) hacc) (sqt_of (wo_at upd_same (kn_new kn hp)))
        · rintro D H1 acc' hD s3 hl1' _ hr1
          have hr1' := tups_same wo_le hr1
          rw [hB.1, List.take_length] at hr1'
          have s4 := s2.trans s3
          have cm : ∀ z : Int, CMul (r.getD 0 0) z := fun z => by
            have h1 := getD_bd (p := 0) br
            have h2 : (2 : Nat) ^ b ≤ 2 ^ 60 := Nat.pow_le_pow_right (by decide) hb
            have h3 : (2 : Nat) ^ 60 = 1152921504606846976 := by decide
            exact cmul_l (by omega) (by omega)
          have call : ∀ {X : Hp} {R : VK}, Same H1 X → (∀ X', Same X X' → R (.int (lap m ((M.take i ++ M.drop (i + 1)).map List.tail))) X') → sp_law_sum K n [.ref D] X R E0 := fun sx k => by
            refine ⟨D, acc', _, m, b, rfl, SqL.of (sx _ _ hl1'), tups_same sx hr1', ?_, fun r' hr' => ?_, by omega, by omega, hb, k⟩
            · simp
              omega
            · obtain ⟨r2, h2, rfl⟩ := List.mem_map.mp hr'
              obtain ⟨g1, g2⟩ := hok r2 (by
                rcases List.mem_append.mp h2 with h | h
                · exact List.mem_of_mem_take h
                · exact List.mem_of_mem_drop h)
              exact ⟨by rw [List.length_tail, g1]; rfl, fun x hx => g2 x (List.mem_of_mem_tail hx)⟩
          walk_at "vc"
          refine ite2 (fun e2 => ?_) (fun e2 => ?_)
          · have e3 : i % 2 = 0 := by have := of_decide_eq_true e2; omega
            walk_at "vc"
            refine v_ixl (same_sql s4 ha) hat ?_
            walk_at "vc"
            refine v_ixt (same_sqt s4 hct) (at_int (i := 0) r0) ?_
            walk_at "vc"
            refine call (Same.refl _) fun X' s5 => ?_
            refine v_muli (cm _) ?_
            walk_at "vc"
            refine ⟨s4.trans s5, some (.ref D), z4, some (.int (i : Nat)), ?_⟩
            simp only [List.foldl_cons, List.foldl_nil]
            rw [if_pos e3, eG]
            rfl
          · have e3 : ¬i % 2 = 0 := fun z => e2 (decide_eq_true (by omega))
            walk_at "vc"
            refine v_ixl (same_sql s4 ha) hat ?_
            walk_at "vc"
            refine v_ixt (same_sqt s4 hct) (at_int (i := 0) r0) ?_
            walk_at "vc"
            refine call (Same.refl _) fun X' s5 => ?_
            refine v_muli (cm _) ?_
            walk_at "vc"
            refine ⟨s4.trans s5, some (.ref D), z4, some (.int (i : Nat)), ?_⟩
            simp only [List.foldl_cons, List.foldl_nil]
            rw [if_neg e3, eG]
            rfl
      · have e0 : r.getD 0 0 = 0 := by simpa using e
        walk_at "vc"
        refine ⟨s1, z3, z4, some (.int (i : Nat)), ?_⟩
        simp only [List.foldl_cons, List.foldl_nil]
        rw [eG, e0]
        simp
    · rintro σ X ⟨s1, z3, z4, z2, rfl⟩
      walk_at "vc"
      exact q X s1

end
section

def det2 (a b c d : Int) : Int := a * d - b * c
def det3 (a b c d e f g h i : Int) : Int := a * (e * i - f * h) - b * (d * i - f * g) + c * (d * h - e * g)
def det4 (a b c d e f g h i j k l m n o p : Int) : Int := a * det3 f g h j k l n o p - b * det3 e g h i k l m o p + c * det3 e f h i j l m n p - d * det3 e f g i j k m n o
theorem lap1 (a : Int) : lap 1 [[a]] = a := by
  simp [lap, List.range, List.range.loop]
theorem lap2 (a b c d : Int) : lap 2 [[a, b], [c, d]] = det2 a b c d := by
  simp [lap, List.range, List.range.loop, det2]
  grind
theorem lap3 (a b c d e f g h i : Int) : lap 3 [[a, b, c], [d, e, f], [g, h, i]] = det3 a b c d e f g h i := by
  have e : lap 3 [[a, b, c], [d, e, f], [g, h, i]] = 0 + a * lap 2 [[e, f], [h, i]] + (0 - d * lap 2 [[b, c], [h, i]]) + g * lap 2 [[b, c], [e, f]] := rfl
  rw [e, lap2, lap2, lap2]
  unfold det2 det3
  grind
theorem lap4 (a b c d e f g h i j k l m n o p : Int) : lap 4 [[a, b, c, d], [e, f, g, h], [i, j, k, l], [m, n, o, p]] = det4 a b c d e f g h i j k l m n o p := by
  have e : lap 4 [[a, b, c, d], [e, f, g, h], [i, j, k, l], [m, n, o, p]] = 0 + a * lap 3 [[f, g, h], [j, k, l], [n, o, p]] + (0 - e * lap 3 [[b, c, d], [j, k, l], [n, o, p]]) + i * lap 3 [[b, c, d], [f, g, h], [n, o, p]] + (0 - m * lap 3 [[b, c, d], [f, g, h], [j, k, l]]) := rfl
  rw [e, lap3, lap3, lap3, lap3]
  unfold det4 det3
  grind
/-- adjacent rows changed -/
theorem swap4a (a b c d e f g h i j k l m n o p : Int) : det4 a b c d e f g h i j k l m n o p = - det4 e f g h a b c d i j k l m n o p := by unfold det4 det3; grind
theorem swap4b (a b c d e f g h i j k l m n o p : Int) : det4 a b c d e f g h i j k l m n o p = - det4 a b c d i j k l e f g h m n o p := by unfold det4 det3; grind
theorem swap4c (a b c d e f g h i j k l m n o p : Int) : det4 a b c d e f g h i j k l m n o p = - det4 a b c d e f g h m n o p i j k l := by unfold det4 det3; grind
/-- Cramer -/
theorem cramer4 (a b c d e f g h i j k l m n o p x y z w : Int) : det4 a b c d e f g h i j k l m n o p * x = (a * x + b * y + c * z + d * w) * det3 f g h j k l n o p - (e * x + f * y + g * z + h * w) * det3 b c d j k l n o p + (i * x + j * y + k * z + l * w) * det3 b c d f g h n o p - (m * x + n * y + o * z + p * w) * det3 b c d f g h j k l := by unfold det4 det3; grind
theorem swap3a (a b c d e f g h i : Int) : det3 a b c d e f g h i = - det3 d e f a b c g h i := by unfold det3; grind
theorem swap3b (a b c d e f g h i : Int) : det3 a b c d e f g h i = - det3 a b c g h i d e f := by unfold det3; grind
theorem swap2 (a b c d : Int) : det2 a b c d = - det2 c d a b := by unfold det2; grind
theorem row1 {r : List Int} (h : r.length = 1) : ∃ a, r = [a] := by
  match r, h with
  | [a], _ => exact ⟨a, rfl⟩
theorem row2 {r : List Int} (h : r.length = 2) : ∃ a b, r = [a, b] := by
  match r, h with
  | [a, b], _ => exact ⟨a, b, rfl⟩
theorem row3 {r : List Int} (h : r.length = 3) : ∃ a b c, r = [a, b, c] := by
  match r, h with
  | [a, b, c], _ => exact ⟨a, b, c, rfl⟩
theorem row4 {r : List Int} (h : r.length = 4) : ∃ a b c d, r = [a, b, c, d] := by
  match r, h with
  | [a, b, c, d], _ => exact ⟨a, b, c, d, rfl⟩
theorem lap_swap {n : Nat} (hn : n ≤ 4) : ∀ (pre l : List (List Int)) (x y : List Int), (∀ r, r ∈ pre ++ y :: x :: l → r.length = n) → (pre ++ y :: x :: l).length = n → (lap n (pre ++ y :: x :: l)).natAbs = (lap n (pre ++ x :: y :: l)).natAbs := by
  intro pre l x y hr hl
  have hy : y.length = n := hr y (by simp)
  have hx : x.length = n := hr x (by simp)
  match pre, l, hr, hl with
  | [], [], hr, hl =>
    have e : n = 2 := by simpa using hl.symm
    subst e
    obtain ⟨a, b, rfl⟩ := row2 hx
    obtain ⟨c, d, rfl⟩ := row2 hy
    show (lap 2 [[c, d], [a, b]]).natAbs = (lap 2 [[a, b], [c, d]]).natAbs
    rw [lap2, lap2, swap2, Int.natAbs_neg]
  | [], [u], hr, hl =>
    have e : n = 3 := by simpa using hl.symm
    subst e
    obtain ⟨a, b, c, rfl⟩ := row3 hx
    obtain ⟨d, e, f, rfl⟩ := row3 hy
    obtain ⟨g, h, i, rfl⟩ := row3 (hr u (by simp))
    show (lap 3 [[d, e, f], [a, b, c], [g, h, i]]).natAbs = (lap 3 [[a, b, c], [d, e, f], [g, h, i]]).natAbs
    rw [lap3, lap3, swap3a, Int.natAbs_neg]
  | [u], [], hr, hl =>
    have e : n = 3 := by simpa using hl.symm
    subst e
    obtain ⟨a, b, c, rfl⟩ := row3 hx
    obtain ⟨d, e, f, rfl⟩ := row3 hy
    obtain ⟨g, h, i, rfl⟩ := row3 (hr u (by simp))
    show (lap 3 [[g, h, i], [d, e, f], [a, b, c]]).natAbs = (lap 3 [[g, h, i], [a, b, c], [d, e, f]]).natAbs
    rw [lap3, lap3, swap3b, Int.natAbs_neg]
  | [], [u, v], hr, hl =>
    have e : n = 4 := by simpa using hl.symm
    subst e
    obtain ⟨a, b, c, d, rfl⟩ := row4 hx
    obtain ⟨e, f, g, h, rfl⟩ := row4 hy
    obtain ⟨i, j, k, l, rfl⟩ := row4 (hr u (by simp))
    obtain ⟨m, n, o, p, rfl⟩ := row4 (hr v (by simp))
    show (lap 4 [[e, f, g, h], [a, b, c, d], [i, j, k, l], [m, n, o, p]]).natAbs = (lap 4 [[a, b, c, d], [e, f, g, h], [i, j, k, l], [m, n, o, p]]).natAbs
    rw [lap4, lap4, swap4a, Int.natAbs_neg]
  | [u], [v], hr, hl =>
    have e : n = 4 := by simpa using hl.symm
    subst e
    obtain ⟨a, b, c, d, rfl⟩ := row4 hx
    obtain ⟨e, f, g, h, rfl⟩ := row4 hy
    obtain ⟨i, j, k, l, rfl⟩ := row4 (hr u (by simp))
    obtain ⟨m, n, o, p, rfl⟩ := row4 (hr v (by simp))
    show (lap 4 [[i, j, k, l], [e, f, g, h], [a, b, c, d], [m, n, o, p]]).natAbs = (lap 4 [[i, j, k, l], [a, b, c, d], [e, f, g, h], [m, n, o, p]]).natAbs
    rw [lap4, lap4, swap4b, Int.natAbs_neg]
  | [u, v], [], hr, hl =>
    have e : n = 4 := by simpa using hl.symm
    subst e
    obtain ⟨a, b, c, d, rfl⟩ := row4 hx
    obtain ⟨e, f, g, h, rfl⟩ := row4 hy
    obtain ⟨i, j, k, l, rfl⟩ := row4 (hr u (by simp))
    obtain ⟨m, n, o, p, rfl⟩ := row4 (hr v (by simp))
    show (lap 4 [[i, j, k, l], [m, n, o, p], [e, f, g, h], [a, b, c, d]]).natAbs = (lap 4 [[i, j, k, l], [m, n, o, p], [a, b, c, d], [e, f, g, h]]).natAbs
    rw [lap4, lap4, swap4c, Int.natAbs_neg]
  | _ :: _ :: _ :: _, _, hr, hl => exact absurd hl (by simp; omega)
  | _, _ :: _ :: _ :: _, hr, hl => exact absurd hl (by simp; omega)
  | [_], _ :: _ :: _, hr, hl => exact absurd hl (by simp; omega)
  | [_, _], _ :: _, hr, hl => exact absurd hl (by simp; omega)
theorem lap_perm_pre {n : Nat} (hn : n ≤ 4) {M N : List (List Int)} (p : M.Perm N) : ∀ pre : List (List Int), (∀ r, r ∈ pre ++ M → r.length = n) → (pre ++ M).length = n → (lap n (pre ++ M)).natAbs = (lap n (pre ++ N)).natAbs := by
  induction p with
  | nil => intro pre _ _; rfl
  | cons x _ ih =>
    intro pre hr hl
    have := ih (pre ++ [x]) (by simpa using hr) (by simpa using hl)
    simpa using this
  | swap x y l =>
    intro pre hr hl
    exact lap_swap hn pre l x y hr hl
  | trans p1 _ ih1 ih2 =>
    intro pre hr hl
    rw [ih1 pre hr hl]
    refine ih2 pre (fun r h => hr r ?_) ?_
    · rcases List.mem_append.mp h with h | h
      · exact List.mem_append_left _ h
      · exact List.mem_append_right _ (p1.mem_iff.mpr h)
    · rw [List.length_append, ← p1.length_eq, ← List.length_append]
      exact hl
/-- the rows in another order -/
theorem lap_perm {n : Nat} (hn : n ≤ 4) {M N : List (List Int)} (p : M.Perm N) (hr : ∀ r, r ∈ M → r.length = n) (hl : M.length = n) : (lap n M).natAbs = (lap n N).natAbs := lap_perm_pre hn p [] hr hl
theorem cramer3 (a b c d e f g h i x y z : Int) : det3 a b c d e f g h i * x = (a * x + b * y + c * z) * det2 e f h i - (d * x + e * y + f * z) * det2 b c h i + (g * x + h * y + i * z) * det2 b c e f := by unfold det3 det2; grind
theorem but_perm {α : Type} {L : List α} {k : Nat} {x : α} (h : L[k]? = some x) : L.Perm (x :: (L.take k ++ L.drop (k + 1))) := by
  have hk : k < L.length := (List.getElem?_eq_some_iff.mp h).1
  have e : L[k] = x := (List.getElem?_eq_some_iff.mp h).2
  have q : L = L.take k ++ x :: L.drop (k + 1) := by
    rw [← e, ← List.drop_eq_getElem_cons hk, List.take_append_drop]
  exact (List.Perm.of_eq q).trans List.perm_middle

end
section
abbrev N_determinant : List Str := ["rows", "before", "left", "heads", "lead", "others", "row", "at", "place"]
def t_determinant (K : PySem.W.Frag) : TS :=
  (tSeq (tAsg (tC (.int 1)) (gName 1))
    (tSeq (tAsg (tLc (iSq K (tVar 0)) (gName 6) tYes (tCB (rListOf K) (tCons (tVar 6) tNil)) [6]) (gName 2))
    (tSeq (tWhile (tTruth K (tVar 2))
    (tSeq (tAsg (tLc (iEnum K (tCons (tVar 2) tNil)) (gTup K 2 (gCons (gName 7) (gCons (gName 6) gNil))) (tTest (tOp (rNeU K) (tOp (rIx K) (tVar 6) (tC (.int 0))) (tC (.int 0)))) (tVar 7) [7, 6]) (gName 3))
    (tSeq (tIfS (tNot (tTruth K (tVar 3))) (tRet (tC (.int 0))) tNext)
    (tSeq (tAsg (tOp (rIx K) (tVar 2) (tOp (rIx K) (tVar 3) (tC (.int 0)))) (gName 4))
    (tSeq (tAsg (tOp (rAddU K) (tSl (rSlU K) (tVar 2) tNoPart (tPart (tOp (rIx K) (tVar 3) (tC (.int 0))))) (tSl (rSlU K) (tVar 2) (tPart (tOp (rAddU K) (tOp (rIx K) (tVar 3) (tC (.int 0))) (tC (.int 1)))) tNoPart)) (gName 5))
    (tSeq (tAsg (tLc (iSq K (tVar 5)) (gName 6) tYes (tLc (iRng2 (tCons (tC (.int 1)) (tCons (tCB (rLenU K) (tCons (tVar 6) tNil)) tNil))) (gName 8) tYes (tOp rDivV (tOp rSubI (tOp rMulU (tOp (rIx K) (tVar 4) (tC (.int 0))) (tOp (rIx K) (tVar 6) (tVar 8))) (tOp rMulU (tOp (rIx K) (tVar 6) (tC (.int 0))) (tOp (rIx K) (tVar 4) (tVar 8)))) (tVar 1)) [8]) [6]) (gName 2))
    (tAsg (tOp (rIx K) (tVar 4) (tC (.int 0))) (gName 1))))))))
    (tRet (tCB rAbs (tCons (tVar 1) tNil))))))
def cond (b : Int) (l r : List Int) : List Int := List.zipWith (fun x y => (l.getD 0 0 * x - r.getD 0 0 * y).fdiv b) r.tail l.tail
def bar : Nat → Int → List (List Int) → Int
  | 0, b, _ => b.natAbs
  | n + 1, b, L => match lead? L 0 with
    | none => 0
    | some k => bar n ((L.getD k []).getD 0 0) ((L.take k ++ L.drop (k + 1)).map (cond b (L.getD k [])))
theorem bar_none {m : Nat} {b : Int} {L : List (List Int)} (h : lead? L 0 = none) : bar (m + 1) b L = 0 := by simp only [bar, h]
theorem bar_some {m k : Nat} {b : Int} {L : List (List Int)} (h : lead? L 0 = some k) : bar (m + 1) b L = bar m ((L.getD k []).getD 0 0) ((L.take k ++ L.drop (k + 1)).map (cond b (L.getD k []))) := by simp only [bar, h]
theorem lead_snoc {L : List (List Int)} {r : List Int} {p : Nat} : lead? (L ++ [r]) p = (lead? L p).or (if r.getD p 0 ≠ 0 then some L.length else none) := by
  unfold lead?
  rw [List.findIdx?_append]
  congr 1
  by_cases c : r.getD p 0 = 0
  · simp only [List.getD_eq_getElem?_getD] at c
    simp [c]
  · simp only [List.getD_eq_getElem?_getD] at c
    simp [c]
theorem cond_len {b : Int} {l r : List Int} {m : Nat} (hl : l.length = m + 1) (hr : r.length = m + 1) : (cond b l r).length = m := by
  unfold cond
  rw [List.length_zipWith, List.length_tail, List.length_tail]
  omega
theorem cond_bd {c : Nat} {b : Int} {l r : List Int} (hl : Bd c l) (hr : Bd c r) : Bd (2 * c + 1) (cond b l r) := by
  intro x hx
  obtain ⟨i, hi⟩ := List.getElem?_of_mem hx
  unfold cond at hi
  rw [List.getElem?_zipWith] at hi
  cases e1 : r.tail[i]? with
  | none => rw [e1] at hi; cases hi
  | some n =>
    cases e2 : l.tail[i]? with
    | none => rw [e1, e2] at hi; cases hi
    | some m =>
      rw [e1, e2] at hi
      have ex : (l.getD 0 0 * n - r.getD 0 0 * m).fdiv b = x := Option.some.inj hi
      have q1 := hr n (List.mem_of_mem_tail (List.mem_of_getElem? e1))
      have q2 := hl m (List.mem_of_mem_tail (List.mem_of_getElem? e2))
      have p1 := wide_lt (getD_bd (p := 0) hl) q1
      have p2 := wide_lt (getD_bd (p := 0) hr) q2
      have p3 := Int.natAbs_fdiv_le_natAbs (l.getD 0 0 * n - r.getD 0 0 * m) b
      rw [← ex]
      have e : 2 * c + 1 = c + c + 1 := by omega
      rw [e, ← two_pow_add, ← Nat.pow_add]
      omega
theorem cond_at {b : Int} {l r : List Int} {i : Nat} {x y : Int} (hx : r[i + 1]? = some x) (hy : l[i + 1]? = some y) : (cond b l r)[i]? = some ((l.getD 0 0 * x - r.getD 0 0 * y).fdiv b) := by
  unfold cond
  rw [List.getElem?_zipWith, List.getElem?_tail, List.getElem?_tail, hx, hy]
def sp_determinant (K : PySem.W.Frag) : Sp := fun vs H Q _ => ∃ v M n b, vs = [v] ∧ MatAt K H v M ∧ M.length = n ∧ Okr n b M ∧ n ≤ 5 ∧ b ≤ 60 ∧ ∀ H', Same H H' → Q (.int (bar n 1 M)) H'
theorem pure_determinant {K : PySem.W.Frag} (vs : List V) (H : Hp) (Q : VK) (E : XK) (h : sp_determinant K vs H Q E) : t_determinant K { nx := fun _ H' => Q .non H', rt := Q } (start N_determinant vs) H := by
  obtain ⟨v, M, n, b, rfl, ⟨a, t, xs, rfl, ha, hM⟩, hn, hok, hn5, hb, q⟩ := h
  show t_determinant K _ [some (.ref a), none, none, none, none, none, none, none, none] H
  unfold t_determinant
  walk_at "vc"
  refine v_sqr ha ?_
  refine lc_acc walk_sq [] kn_nil (fun i acc A => RowsAt K A acc (M.take i)) (fun i acc A B e h => rows_same e h) (by rw [hM.1]; omega) (fun H' e => same_sqb e ha) rows_nil ?_ ?_
  · rintro D i x H1 H2 acc hi hD hD1 s1 ⟨rfl, hx⟩ hacc kn R R0 hR hR0
    obtain ⟨r, hr, c, t2, rfl, hc⟩ := hM.2 i x hx
    walk_at "vc"
    refine ⟨rfl, v_yes (iT rfl ?_)⟩
    walk_at "vc"
    refine v_listb (same_sqb s1 hc) fun l hl => ?_
    have sl := same_new (o := .lst (r.map V.int)) hl
    refine hR _ _ ?_ sl
    rw [take_succ_get hr]
    exact rows_app (rows_same (wo_mono sl) hacc) (rows_one ⟨l, false, rfl, sqb_lst (wo_at upd_same (kn_new kn hl))⟩)
  rintro l0 H0 L0 hl0 s0 hx0 _ hr0
  rw [hM.1, List.take_length] at hr0
  walk_at "vc"
  refine ⟨fun m σ X => ∃ z l xs L bf z3 z4 z5 z6 z7 z8, σ = [z, some (.int bf), some (.ref l), z3, z4, z5, z6, z7, z8] ∧ X l = some (.lst xs) ∧ Same H X ∧ RowsAt K X xs L ∧ L.length = m ∧ m ≤ n ∧ Okr m (bbits b (n - m)) L ∧ bf ≠ 0 ∧ bf.natAbs < 2 ^ 3000 ∧ bar m bf L = bar n 1 M,
    ⟨n, _, l0, L0, M, 1, _, _, _, _, _, _, rfl, hx0, s0, rows_same wo_le hr0, hn, Nat.le_refl _, by rw [Nat.sub_self]; exact hok, by decide, by decide, rfl⟩, ?_⟩
  rintro m σ X ⟨z, l, xs, L, bf, z3, z4, z5, z6, z7, z8, rfl, hx, sX, rL, eL, hmn, oL, hbf, bbf, hbar⟩
  walk_at "vc"
  refine ⟨_, .inl ⟨xs, SqL.of hx, rfl⟩, ?_⟩
  cases m with
  | zero =>
    have e : xs = [] := List.eq_nil_of_length_eq_zero (by rw [rL.1, eL])
    rw [e]
    refine iF (by decide) ?_
    walk_at "vc"
    have e2 : (if bf < 0 then -bf else bf) = ((bf.natAbs : Nat) : Int) := by split <;> omega
    rw [e2]
    have := q X sX
    rw [← hbar] at this
    exact this
  | succ m =>
    have ne : xs ≠ [] := fun z => by
      have := rL.1
      rw [z, eL] at this
      cases this
    refine iT (by cases xs <;> first | exact absurd rfl ne | rfl) ?_
    have nL : L.length ≤ 5 := by omega
    refine ⟨_, fun σ' H' w => ⟨m, Nat.lt_succ_self m, w⟩, ?_⟩
    walk_at "vc"
    show tCons (tVar 2) tNil _ X _
    walk_at "vc"
    refine ⟨l, xs, rfl, SqL.of hx, ?_⟩
    refine lc_acc walk_enum [] kn_nil (fun i acc A => acc.head? = (lead? (L.take i) 0).map fun k => V.int (k : Nat)) (fun i acc A B e h => h) (by rw [rL.1]; omega) (fun H' e => same_sql e (SqL.of hx)) rfl ?_ ?_
    · rintro D i x H1 H2 acc hi hD hD1 s1 ⟨T, e1, e2, rfl, hT, rfl, h1, h2⟩ hacc kn R R0 hR hR0
      have h1' : V.int (i : Nat) = e1 := Option.some.inj h1
      subst h1'
      have h2' : xs[i]? = some e2 := h2
      obtain ⟨r, hr, c, t2, rfl, hc⟩ := rL.2 i _ h2'
      have lr := (oL r (List.mem_of_getElem? hr)).1
      have sT := same_new (o := .tup [.int (i : Nat), .ref c]) hT
      refine v_gtup (sqt_of upd_same) rfl ?_
      walk_at "vc"
      refine ⟨rfl, ?_⟩
      walk_at "vc"
      refine v_ixb (same_sqb (s1.trans sT) hc) (at_int (i := 0) (getD_of (by omega))) ?_
      walk_at "vc"
      have et : (L.take (i + 1)) = L.take i ++ [r] := take_succ_get hr
      have il : (L.take i).length = i := by
        have := (List.getElem?_eq_some_iff.mp hr).1
        rw [List.length_take]
        omega
      refine ite2 (fun e => ?_) (fun e => ?_)
      · walk_at "vc"
        refine hR _ _ ?_ sT
        have e3 : r.getD 0 0 ≠ 0 := by simpa using e
        rw [et, lead_snoc, if_pos e3, il]
        cases acc with
        | nil =>
          rw [Option.map_eq_none_iff.mp hacc.symm]
          rfl
        | cons y ys =>
          obtain ⟨k, hk, ek⟩ := Option.map_eq_some_iff.mp hacc.symm
          rw [hk]
          exact congrArg some ek.symm
      · refine hR0 _ ?_ sT
        have e3 : ¬(r.getD 0 0 ≠ 0) := by simpa using e
        rw [et, lead_snoc, if_neg e3, Option.or_none]
        exact hacc
    rintro lh H2 hs hlh s2 hx2 _ hhs
    rw [rL.1, List.take_length] at hhs
    walk_at "vc"
    refine ⟨_, .inl ⟨hs, SqL.of hx2, rfl⟩, ?_⟩
    cases hle : lead? L 0 with
    | none =>
      rw [hle] at hhs
      have e : hs = [] := by
        cases hs with
        | nil => rfl
        | cons y ys => cases hhs
      rw [e]
      refine iT (by decide) ?_
      walk_at "vc"
      rw [bar_none hle] at hbar
      rw [hbar]
      exact q _ (sX.trans s2)
    | some k =>
      rw [hle] at hhs
      obtain ⟨r, hr, hne, _⟩ := lead_some hle
      have hk : k < L.length := (List.getElem?_eq_some_iff.mp hr).1
      have eK : L.getD k [] = r := by rw [List.getD_eq_getElem?_getD, hr]; rfl
      have hz : hs[0]? = some (.int (k : Nat)) := by
        rw [← List.head?_eq_getElem?, hhs]
        rfl
      have hne2 : hs ≠ [] := fun z => by rw [z] at hz; cases hz
      refine iF (by cases hs <;> first | exact absurd rfl hne2 | (simp)) ?_
      have sX2 := sX.trans s2
      have hxl := s2 _ _ hx
      have rL2 := rows_same s2 rL
      obtain ⟨w, hw, c, tw, rfl, hc⟩ := rows_ex rL2 hr
      obtain ⟨lr, br⟩ := oL r (List.mem_of_getElem? hr)
      have hz' : atI hs 0 = some (.int (k : Nat)) := atI_nat hz
      have hc2 := hc
      walk_at "vc"
      refine v_ixl (SqL.of hx2) hz' ?_
      walk_at "vc"
      refine v_ixl (SqL.of hxl) (atI_nat hw) ?_
      walk_at "vc"
      refine v_ixl (SqL.of hx2) hz' ?_
      walk_at "vc"
      intro l1 hl1
      rw [cut_to (by rw [rL.1]; omega)]
      have t1 := same_new (o := .lst (xs.take k)) hl1
      have hx3 := t1 _ _ hxl
      have hh3 := t1 _ _ hx2
      walk_at "vc"
      refine v_ixl (SqL.of hh3) hz' ?_
      walk_at "vc"
      intro l2 hl2
      rw [show (k : Int) + 1 = ((k + 1 : Nat) : Int) by omega, cut_from (by rw [rL.1]; omega)]
      have t2 := same_new (o := .lst (xs.drop (k + 1))) hl2
      refine v_addl (t2 _ _ upd_same) upd_same ?_ fun l3 hl3 => ?_
      · have := rL.1
        rw [sizeLine_eq]
        simp
        omega
      have t3 := same_new (o := .lst (xs.take k ++ xs.drop (k + 1))) hl3
      have t123 := t1.trans (t2.trans t3)
      have rO : RowsAt K H2 (xs.take k ++ xs.drop (k + 1)) (L.take k ++ L.drop (k + 1)) := by
        refine rows_app ?_ ?_
        · have := rows_cut (n := 0) (m := k) rL2
          simpa using this
        · have := rows_cut (n := k + 1) (m := xs.length) rL2
          rwa [List.take_of_length_le (by simp), List.take_of_length_le (by have := rL.1; simp; omega)] at this
      have oO : Okr (m + 1) (bbits b (n - (m + 1))) (L.take k ++ L.drop (k + 1)) := okr_sub oL fun r hr => by
        rcases List.mem_append.mp hr with h | h
        · exact List.mem_of_mem_take h
        · exact List.mem_of_mem_drop h
      have hbb : bbits b (n - (m + 1)) ≤ 3000 := bbits_le hb (by omega)
      have hbb2 : bbits b (n - m) = 2 * bbits b (n - (m + 1)) + 1 := by
        rw [show n - m = (n - (m + 1)) + 1 by omega]
        rfl
      have hbb3 : bbits b (n - (m + 1)) ≤ 1500 := by
        have := bbits_le hb (show n - m ≤ 5 by omega)
        omega
      walk_at "vc"
      refine v_sqr (sqb_lst upd_same) ?_
      refine lc_acc walk_sq [] kn_nil (fun i acc A => RowsAt K A acc (((L.take k ++ L.drop (k + 1)).take i).map (cond bf r))) (fun i acc A B e h => rows_same e h) (by have := rO.1; simp at this; simp; omega) (fun H' e => same_sqb e (sqb_lst upd_same)) rows_nil ?_ ?_
      · rintro D i x H3 H4 acc hi hD hD1 s3 ⟨rfl, hx4⟩ hacc kn R R0 hR hR0
        obtain ⟨r2, hr2, c2, t4, rfl, hc4⟩ := rO.2 i x hx4
        obtain ⟨lr2, br2⟩ := oO r2 (List.mem_of_getElem? hr2)
        have hc4' : SqB K t4 H4 c2 (r2.map V.int) := same_sqb (t123.trans s3) hc4
        have hcl : SqB K tw H4 c (r.map V.int) := same_sqb (t123.trans s3) hc
        refine v_name ⟨rfl, v_yes (iT rfl ?_)⟩
        walk_at "vc"
        show tCons (tC (.int 1)) _ _ H4 _
        walk_at "vc"
        refine v_lenb hc4' ?_
        walk_at "vc"
        refine ⟨1, _, rfl, ⟨by decide, by decide, ?_, ?_⟩, ?_⟩
        · rw [List.length_map, lr2]
          omega
        · rw [List.length_map, lr2]
          omega
        rw [List.length_map, lr2, show (((m + 1 : Nat) : Int) - 1).toNat = m by omega]
        refine lc_acc walk_range (D :: []) kn (fun j acc A => acc = ((cond bf r r2).take j).map V.int) (fun _ _ _ _ _ h => h) (by omega) (fun _ _ => trivial) rfl ?_ ?_
        · rintro D' j y H5 H6 acc' hj hD' hD1' s5 ⟨rfl, rfl⟩ rfl kn' R' R0' hR' _
          have ha1 : r2[j + 1]? = some (r2.getD (j + 1) 0) := getD_of (by omega)
          have ha2 : r[j + 1]? = some (r.getD (j + 1) 0) := getD_of (by omega)
          refine v_name ⟨rfl, v_yes (iT rfl ?_)⟩
          have ej : (1 : Int) + (j : Nat) = ((j + 1 : Nat) : Int) := by omega
          walk_at "vc"
          refine v_ixb (same_sqb s5 hcl) (at_int (i := 0) (getD_of (by omega))) ?_
          walk_at "vc"
          refine v_ixb (same_sqb s5 hc4') (by rw [ej]; exact at_int ha1) ?_
          walk_at "vc"
          have cm : ∀ {x y : Int}, x.natAbs < 2 ^ bbits b (n - (m + 1)) → y.natAbs < 2 ^ bbits b (n - (m + 1)) → CMulW x y := fun h1 h2 => by
            refine wide_mul (a := bbits b (n - (m + 1)) + 1) (b := bbits b (n - (m + 1)) + 1) (Nat.lt_of_lt_of_le h1 (Nat.pow_le_pow_right (by decide) (by omega))) (Nat.lt_of_lt_of_le h2 (Nat.pow_le_pow_right (by decide) (by omega))) (by omega) (by omega) (by omega)
          refine v_mulw (cm (getD_bd br) (getD_bd br2)) ?_
          walk_at "vc"
          refine v_ixb (same_sqb s5 hc4') (at_int (i := 0) (getD_of (by omega))) ?_
          walk_at "vc"
          refine v_ixb (same_sqb s5 hcl) (by rw [ej]; exact at_int ha2) ?_
          walk_at "vc"
          refine v_mulw (cm (getD_bd br2) (getD_bd br)) ?_
          walk_at "vc"
          refine v_divv hbf (Nat.lt_of_lt_of_le (PySem.Flt.log2_lt_of (by decide) bbf) (by decide)) ?_
          refine hR' _ _ ?_ (Same.refl _)
          rw [take_succ_get (cond_at (b := bf) ha1 ha2), List.map_append]
          rfl
        · rintro D' H5 acc' hD' s5 hl5 _ rfl
          refine hR _ _ ?_ s5
          rw [take_succ_get hr2, List.map_append]
          rw [← cond_len (b := bf) (l := r) (r := r2) lr lr2, List.take_length] at hl5
          exact rows_app (rows_same (wo_mono s5) hacc) (rows_one ⟨D', false, rfl, sqb_lst (wo_at hl5 (kn_new kn hD'))⟩)
      · rintro D H3 acc hD s3 hl3' _ hr3
        have hcl : SqB K tw H3 c (r.map V.int) := same_sqb (t123.trans s3) hc
        rw [rO.1, List.take_length] at hr3
        walk_at "vc"
        refine v_ixb hcl (at_int (i := 0) (getD_of (by omega))) ?_
        walk_at "vc"
        show ∃ z l xs L bf z3 z4 z5 z6 z7 z8, _
        refine ⟨_, D, acc, (L.take k ++ L.drop (k + 1)).map (cond bf r), r.getD 0 0, _, _, _, _, _, _, rfl, hl3', (sX2.trans t123).trans s3, rows_same wo_le hr3, by simp; omega, by omega, ?_, hne, Nat.lt_of_lt_of_le (getD_bd br) (Nat.pow_le_pow_right (by decide) hbb), ?_⟩
        · intro x hx
          obtain ⟨y, hy, rfl⟩ := List.mem_map.mp hx
          obtain ⟨ly, by_⟩ := oO y hy
          exact ⟨cond_len lr ly, by rw [hbb2]; exact cond_bd br by_⟩
        · rw [← hbar, bar_some hle, eK]

end
section
abbrev N_is_basis : List Str := ["deep", "rows", "row"]
def t_is_basis (K : PySem.W.Frag) : TS :=
  (tSeq (tIfS (tOr (tTest (tOp (rNeU K) (tCB (rLenU K) (tCons (tVar 1) tNil)) (tVar 0))) (tB (tCB (rAnyU K) (tCons (tLc (iSq K (tVar 1)) (gName 2) tYes (tOp (rNeU K) (tCB (rLenU K) (tCons (tVar 2) tNil)) (tVar 0)) [2]) tNil)))) (tRet (tC (.bl false))) tNext)
    (tRet (tOp (rEqU K) (tCall (sp_determinant K) [] E0 (tCons (tVar 1) tNil)) (tC (.int 1)))))
def sp_is_basis (K : PySem.W.Frag) : Sp := fun vs H Q _ => ∃ d v M b, vs = [.int (d : Nat), v] ∧ MatAt K H v M ∧ (∀ r, r ∈ M → r.length = d ∧ Bd b r) ∧ M.length ≤ 1000 ∧ d ≤ 4 ∧ b ≤ 60 ∧ ∀ H', Same H H' → Q (.bl (decide (M.length = d) && decide (bar d 1 M = 1))) H'
theorem pure_is_basis {K : PySem.W.Frag} (vs : List V) (H : Hp) (Q : VK) (E : XK) (h : sp_is_basis K vs H Q E) : t_is_basis K { nx := fun _ H' => Q .non H', rt := Q } (start N_is_basis vs) H := by
  obtain ⟨d, v, M, b, rfl, ⟨a, t, xs, rfl, ha, hM⟩, hok, hl, hd, hb, q⟩ := h
  show t_is_basis K _ [some (.int d), some (.ref a), none] H
  unfold t_is_basis
  walk_at "vc"
  refine v_lenb ha ?_
  walk_at "vc"
  refine ite2 (fun c => ?_) (fun c => ?_)
  · refine iT rfl ?_
    walk_at "vc"
    have c2 : ¬M.length = d := by
      rw [hM.1] at c
      simp at c
      omega
    have := q H (Same.refl _)
    rw [decide_eq_false c2] at this
    exact this
  · have c2 : M.length = d := by
      rw [hM.1] at c
      simp at c
      omega
    walk_at "vc"
    refine v_sqr ha ?_
    refine lc_acc walk_sq [] kn_nil (fun i acc A => acc = (List.replicate i false).map V.bl) (fun i acc A B e h => h) (by rw [hM.1]; omega) (fun H' e => same_sqb e ha) rfl ?_ ?_
    · rintro D i x H1 H2 acc hi hD hD1 s1 ⟨rfl, hx⟩ rfl kn R R0 hR hR0
      obtain ⟨r, hr, c, t2, rfl, hc⟩ := hM.2 i x hx
      refine v_name ⟨rfl, v_yes (iT rfl ?_)⟩
      walk_at "vc"
      refine v_lenb (same_sqb s1 hc) ?_
      walk_at "vc"
      refine hR _ _ ?_ (Same.refl _)
      rw [List.length_map, (hok r (List.mem_of_getElem? hr)).1, List.replicate_succ', List.map_append]
      simp
    · rintro D H1 acc hD s1 hl1 _ rfl
      walk_at "vc"
      refine .inl ⟨D, _, rfl, SqL.of hl1, _, rfl, ?_⟩
      refine iF (by simp) ?_
      walk_at "vc"
      refine ⟨_, M, d, b, rfl, ⟨a, t, xs, rfl, same_sqb s1 ha, rows_same s1 hM⟩, c2, hok, by omega, hb, fun H2 s2 => ?_⟩
      walk_at "vc"
      have := q H2 (s1.trans s2)
      rw [decide_eq_true c2, Bool.true_and] at this
      exact this

end
section

theorem lead_cases (L : List (List Int)) : (lead? L 0 = none ∧ ∀ r, r ∈ L → r.getD 0 0 = 0) ∨ ∃ k r, lead? L 0 = some k ∧ L[k]? = some r ∧ r.getD 0 0 ≠ 0 := by
  cases h : lead? L 0 with
  | none => exact .inl ⟨rfl, lead_none h⟩
  | some k =>
    obtain ⟨r, h1, h2, _⟩ := lead_some h
    exact .inr ⟨k, r, rfl, h1, h2⟩
theorem bar_lead {m k : Nat} {b : Int} {L : List (List Int)} {l : List Int} (h : lead? L 0 = some k) (e : L[k]? = some l) : bar (m + 1) b L = bar m (l.getD 0 0) ((L.take k ++ L.drop (k + 1)).map (cond b l)) := by
  have eK : L.getD k [] = l := by
    rw [List.getD_eq_getElem?_getD, e]
    rfl
  rw [bar_some h, eK]
theorem lead_hd {r : List Int} {L : List (List Int)} (h : r.getD 0 0 ≠ 0) : lead? (r :: L) 0 = some 0 := by
  unfold lead?
  rw [List.findIdx?_cons, if_pos (bne_iff_ne.mpr h)]
theorem lead_tl {r : List Int} {L : List (List Int)} (h : r.getD 0 0 = 0) : lead? (r :: L) 0 = (lead? L 0).map (· + 1) := by
  unfold lead?
  rw [List.findIdx?_cons, if_neg (by rw [h]; decide)]
theorem but_map {α β : Type} (f : α → β) (L : List α) (k : Nat) : (L.map f).take k ++ (L.map f).drop (k + 1) = (L.take k ++ L.drop (k + 1)).map f := by
  rw [List.map_append, List.map_take, List.map_drop]
theorem bar_last {b v : Int} : bar 1 b [[v]] = v.natAbs := by
  by_cases h : v = 0
  · subst h
    rfl
  · have e : lead? [[v]] 0 = some 0 := by
      unfold lead?
      simp [h]
    rw [bar_lead e rfl]
    rfl
theorem fdiv_ex {a b c : Int} (h : a ≠ 0) (e : b = a * c) : b.fdiv a = c := by
  rw [e]
  exact Int.mul_fdiv_cancel_left c h
/-- 2 x 2 within a greater one: the divisor q, the rows x, y, the value v -/
theorem bar_two {q x0 x1 y0 y1 v : Int} (hq : q ≠ 0) (h : x0 * y1 - y0 * x1 = q * v) : bar 2 q [[x0, x1], [y0, y1]] = v.natAbs ∨ (x0 = 0 ∧ y0 = 0 ∧ bar 2 q [[x0, x1], [y0, y1]] = 0) := by
  by_cases hx : x0 = 0
  · by_cases hy : y0 = 0
    · refine .inr ⟨hx, hy, bar_none ?_⟩
      rw [lead_tl (r := [x0, x1]) hx, lead_tl (r := [y0, y1]) hy]
      rfl
    · refine .inl ?_
      have e : lead? [[x0, x1], [y0, y1]] 0 = some 1 := by
        rw [lead_tl (r := [x0, x1]) hx, lead_hd (r := [y0, y1]) hy]
        rfl
      rw [bar_lead e rfl]
      show bar 1 y0 [[(y0 * x1 - x0 * y1).fdiv q]] = _
      rw [bar_last, fdiv_ex (c := -v) hq (by grind), Int.natAbs_neg]
  · refine .inl ?_
    have e : lead? [[x0, x1], [y0, y1]] 0 = some 0 := lead_hd hx
    rw [bar_lead e rfl]
    show bar 1 x0 [[(x0 * y1 - y0 * x1).fdiv q]] = _
    rw [bar_last, fdiv_ex hq h]
theorem bar_one_ {a : Int} : bar 1 1 [[a]] = ((lap 1 [[a]]).natAbs : Nat) := by rw [bar_last, lap1]
theorem bar_two_ {a b c d : Int} : bar 2 1 [[a, b], [c, d]] = ((lap 2 [[a, b], [c, d]]).natAbs : Nat) := by
  rw [lap2]
  rcases bar_two (q := 1) (x0 := a) (x1 := b) (y0 := c) (y1 := d) (v := det2 a b c d) (by decide) (by unfold det2; grind) with h | ⟨h1, h2, h3⟩
  · exact h
  · rw [h3, h1, h2]
    unfold det2
    simp
def minor3 (a b c d e f g h i : Int) : Int := det3 a b c d e f g h i
/-- 3 rows, the first leads -/
theorem bar_three_lead {a b c : Int} (ha : a ≠ 0) {d e f g h i : Int} : bar 2 a [[(a * e - d * b).fdiv 1, (a * f - d * c).fdiv 1], [(a * h - g * b).fdiv 1, (a * i - g * c).fdiv 1]] = ((det3 a b c d e f g h i).natAbs : Nat) := by
  rw [Int.fdiv_one, Int.fdiv_one, Int.fdiv_one, Int.fdiv_one]
  rcases bar_two (q := a) (x0 := a * e - d * b) (x1 := a * f - d * c) (y0 := a * h - g * b) (y1 := a * i - g * c) (v := det3 a b c d e f g h i) ha (by unfold det3; grind) with h1 | ⟨h1, h2, h3⟩
  · exact h1
  · have z : a * det3 a b c d e f g h i = 0 := by
      have : a * det3 a b c d e f g h i = (a * e - d * b) * (a * i - g * c) - (a * h - g * b) * (a * f - d * c) := by unfold det3; grind
      rw [this, h1, h2]
      simp
    rw [h3, (Int.mul_eq_zero.mp z).resolve_left ha]
    rfl
theorem bar_three {L : List (List Int)} (hl : L.length = 3) (hr : ∀ r, r ∈ L → r.length = 3) : bar 3 1 L = ((lap 3 L).natAbs : Nat) := by
  rcases lead_cases L with ⟨h, z⟩ | ⟨k, l, h, e, hne⟩
  · rw [bar_none h]
    match L, hl, hr, z with
    | [x, y, w], _, hr, z =>
      obtain ⟨a, b, c, rfl⟩ := row3 (hr x (by simp))
      obtain ⟨d, e, f, rfl⟩ := row3 (hr y (by simp))
      obtain ⟨g, hh, i, rfl⟩ := row3 (hr w (by simp))
      have z1 : a = 0 := z [a, b, c] (by simp)
      have z2 : d = 0 := z [d, e, f] (by simp)
      have z3 : g = 0 := z [g, hh, i] (by simp)
      rw [lap3, z1, z2, z3]
      unfold det3
      simp
  · rw [bar_lead h e]
    have p := but_perm e
    rw [lap_perm (by decide) p hr hl]
    have hO : (L.take k ++ L.drop (k + 1)).length = 2 := by
      have := p.length_eq
      rw [hl] at this
      simpa using this.symm
    have rO : ∀ r, r ∈ L.take k ++ L.drop (k + 1) → r.length = 3 := fun r h => hr r (p.mem_iff.mpr (List.mem_cons_of_mem _ h))
    have rl := hr l (List.mem_of_getElem? e)
    generalize L.take k ++ L.drop (k + 1) = O at hO rO
    match O, hO, rO with
    | [y, w], _, rO =>
      obtain ⟨a, b, c, rfl⟩ := row3 rl
      obtain ⟨d, e, f, rfl⟩ := row3 (rO y (by simp))
      obtain ⟨g, h, i, rfl⟩ := row3 (rO w (by simp))
      rw [lap3]
      exact bar_three_lead hne
theorem bar_two_all {L : List (List Int)} (hl : L.length = 2) (hr : ∀ r, r ∈ L → r.length = 2) : bar 2 1 L = ((lap 2 L).natAbs : Nat) := by
  match L, hl, hr with
  | [x, y], _, hr =>
    obtain ⟨a, b, rfl⟩ := row2 (hr x (by simp))
    obtain ⟨c, d, rfl⟩ := row2 (hr y (by simp))
    exact bar_two_
theorem bar_one_all {L : List (List Int)} (hl : L.length = 1) (hr : ∀ r, r ∈ L → r.length = 1) : bar 1 1 L = ((lap 1 L).natAbs : Nat) := by
  match L, hl, hr with
  | [x], _, hr =>
    obtain ⟨a, rfl⟩ := row1 (hr x (by simp))
    exact bar_one_
theorem chio {a b c e f g i j k : Int} : (a * f - e * b) * (a * k - i * c) - (a * j - i * b) * (a * g - e * c) = a * det3 a b c e f g i j k := by unfold det3; grind
theorem sylvester {a b c d e f g h i j k l m n o p : Int} : det3 a b c e f g i j k * det3 a b d e f h m n p - det3 a b c e f g m n o * det3 a b d e f h i j l = (a * f - e * b) * det4 a b c d e f g h i j k l m n o p := by unfold det4 det3; grind
/-- 4 rows: l leads, then r1 -/
theorem bar_four_two {a b c d e f g h : Int} (ha : a ≠ 0) (hf : a * f - e * b ≠ 0) {O : List (List Int)} (hO : O.length = 2) (rO : ∀ r, r ∈ O → r.length = 4) :
    bar 2 (a * f - e * b) ((O.map (cond 1 [a, b, c, d])).map (cond a (cond 1 [a, b, c, d] [e, f, g, h]))) = ((lap 4 ([a, b, c, d] :: [e, f, g, h] :: O)).natAbs : Nat) := by
  match O, hO, rO with
  | [x, y], _, rO =>
    obtain ⟨i, j, k, l, rfl⟩ := row4 (rO x (by simp))
    obtain ⟨m, n, o, p, rfl⟩ := row4 (rO y (by simp))
    show bar 2 (a * f - e * b) [[((((a * f - e * b).fdiv 1) * ((a * k - i * c).fdiv 1) - ((a * j - i * b).fdiv 1) * ((a * g - e * c).fdiv 1)).fdiv a), ((((a * f - e * b).fdiv 1) * ((a * l - i * d).fdiv 1) - ((a * j - i * b).fdiv 1) * ((a * h - e * d).fdiv 1)).fdiv a)],
      [((((a * f - e * b).fdiv 1) * ((a * o - m * c).fdiv 1) - ((a * n - m * b).fdiv 1) * ((a * g - e * c).fdiv 1)).fdiv a), ((((a * f - e * b).fdiv 1) * ((a * p - m * d).fdiv 1) - ((a * n - m * b).fdiv 1) * ((a * h - e * d).fdiv 1)).fdiv a)]] = _
    simp only [Int.fdiv_one]
    rw [fdiv_ex ha (chio (a := a) (b := b) (c := c) (e := e) (f := f) (g := g) (i := i) (j := j) (k := k)), fdiv_ex ha (chio (a := a) (b := b) (c := d) (e := e) (f := f) (g := h) (i := i) (j := j) (k := l)), fdiv_ex ha (chio (a := a) (b := b) (c := c) (e := e) (f := f) (g := g) (i := m) (j := n) (k := o)), fdiv_ex ha (chio (a := a) (b := b) (c := d) (e := e) (f := f) (g := h) (i := m) (j := n) (k := p)), lap4]
    rcases bar_two hf (sylvester (a := a) (b := b) (c := c) (d := d) (e := e) (f := f) (g := g) (h := h) (i := i) (j := j) (k := k) (l := l) (m := m) (n := n) (o := o) (p := p)) with h1 | ⟨h1, h2, h3⟩
    · exact h1
    · have z := sylvester (a := a) (b := b) (c := c) (d := d) (e := e) (f := f) (g := g) (h := h) (i := i) (j := j) (k := k) (l := l) (m := m) (n := n) (o := o) (p := p)
      rw [h1, h2, Int.zero_mul, Int.zero_mul] at z
      rw [h3, (Int.mul_eq_zero.mp z.symm).resolve_left hf]
      rfl
theorem bar_four {L : List (List Int)} (hl : L.length = 4) (hr : ∀ r, r ∈ L → r.length = 4) : bar 4 1 L = ((lap 4 L).natAbs : Nat) := by
  rcases lead_cases L with ⟨h, z⟩ | ⟨k, l, h, e, hne⟩
  · rw [bar_none h]
    match L, hl, hr, z with
    | [x, y, w, v], _, hr, z =>
      obtain ⟨a, b, c, d, rfl⟩ := row4 (hr x (by simp))
      obtain ⟨e, f, g, hh, rfl⟩ := row4 (hr y (by simp))
      obtain ⟨i, j, k, l, rfl⟩ := row4 (hr w (by simp))
      obtain ⟨m, n, o, p, rfl⟩ := row4 (hr v (by simp))
      have z1 : a = 0 := z [a, b, c, d] (by simp)
      have z2 : e = 0 := z [e, f, g, hh] (by simp)
      have z3 : i = 0 := z [i, j, k, l] (by simp)
      have z4 : m = 0 := z [m, n, o, p] (by simp)
      rw [lap4, z1, z2, z3, z4]
      unfold det4 det3
      simp
  · rw [bar_lead h e]
    have p := but_perm e
    rw [lap_perm (by decide) p hr hl]
    have hO : (L.take k ++ L.drop (k + 1)).length = 3 := by
      have := p.length_eq
      rw [hl] at this
      simpa using this.symm
    have rO : ∀ r, r ∈ L.take k ++ L.drop (k + 1) → r.length = 4 := fun r h => hr r (p.mem_iff.mpr (List.mem_cons_of_mem _ h))
    have rl := hr l (List.mem_of_getElem? e)
    generalize L.take k ++ L.drop (k + 1) = O at hO rO
    obtain ⟨a, b, c, d, rfl⟩ := row4 rl
    have ha : a ≠ 0 := hne
    show bar 3 a (O.map (cond 1 [a, b, c, d])) = _
    rcases lead_cases (O.map (cond 1 [a, b, c, d])) with ⟨h2, z⟩ | ⟨k2, l2, h2, e2, hne2⟩
    · rw [bar_none h2]
      match O, hO, rO, z with
      | [y, w, v], _, rO, z =>
        obtain ⟨e, f, g, hh, rfl⟩ := row4 (rO y (by simp))
        obtain ⟨i, j, k, l, rfl⟩ := row4 (rO w (by simp))
        obtain ⟨m, n, o, p, rfl⟩ := row4 (rO v (by simp))
        have z1 : (a * f - e * b).fdiv 1 = 0 := z (cond 1 [a, b, c, d] [e, f, g, hh]) (by simp)
        have z2 : (a * j - i * b).fdiv 1 = 0 := z (cond 1 [a, b, c, d] [i, j, k, l]) (by simp)
        have z3 : (a * n - m * b).fdiv 1 = 0 := z (cond 1 [a, b, c, d] [m, n, o, p]) (by simp)
        rw [Int.fdiv_one] at z1 z2 z3
        have key : a * (a * det4 a b c d e f g hh i j k l m n o p) = 0 := by
          have : a * (a * det4 a b c d e f g hh i j k l m n o p) = (a * f - e * b) * ((a * k - i * c) * (a * p - m * d) - (a * o - m * c) * (a * l - i * d)) - (a * j - i * b) * ((a * g - e * c) * (a * p - m * d) - (a * o - m * c) * (a * hh - e * d)) + (a * n - m * b) * ((a * g - e * c) * (a * l - i * d) - (a * k - i * c) * (a * hh - e * d)) := by unfold det4 det3; grind
          rw [this, z1, z2, z3]
          simp
        rw [lap4, (Int.mul_eq_zero.mp ((Int.mul_eq_zero.mp key).resolve_left ha)).resolve_left ha]
        rfl
    · rw [bar_lead h2 e2, but_map]
      rw [List.getElem?_map] at e2
      obtain ⟨r1, e3, rfl⟩ := Option.map_eq_some_iff.mp e2
      have q := but_perm e3
      have pq : ([a, b, c, d] :: O).Perm ([a, b, c, d] :: r1 :: (O.take k2 ++ O.drop (k2 + 1))) := q.cons _
      rw [lap_perm (by decide) pq (fun r h => by
        rcases List.mem_cons.mp h with h | h
        · rw [h]; rfl
        · exact rO r h) (by simp [hO])]
      have hO2 : (O.take k2 ++ O.drop (k2 + 1)).length = 2 := by
        have := q.length_eq
        rw [hO] at this
        simpa using this.symm
      have rO2 : ∀ r, r ∈ O.take k2 ++ O.drop (k2 + 1) → r.length = 4 := fun r h => rO r (q.mem_iff.mpr (List.mem_cons_of_mem _ h))
      obtain ⟨e, f, g, hh, rfl⟩ := row4 (rO r1 (List.mem_of_getElem? e3))
      have hf : a * f - e * b ≠ 0 := by
        have z : (a * f - e * b).fdiv 1 ≠ 0 := hne2
        rwa [Int.fdiv_one] at z
      have e5 : (cond 1 [a, b, c, d] [e, f, g, hh]).getD 0 0 = a * f - e * b := Int.fdiv_one _
      rw [e5]
      exact bar_four_two ha hf hO2 rO2
theorem bar_lap {n : Nat} (h1 : 1 ≤ n) (h4 : n ≤ 4) {L : List (List Int)} (hl : L.length = n) (hr : ∀ r, r ∈ L → r.length = n) : bar n 1 L = ((lap n L).natAbs : Nat) := by
  match n, h1, h4 with
  | 1, _, _ => exact bar_one_all hl hr
  | 2, _, _ => exact bar_two_all hl hr
  | 3, _, _ => exact bar_three hl hr
  | 4, _, _ => exact bar_four hl hr
  | n + 5, _, h => exact absurd h (by omega)

end
section

/-- the row r times x -/
def dt (r : List Int) (x : Nat → Int) : Nat → Int
  | 0 => 0
  | k + 1 => dt r x k + r.getD k 0 * x k
/-- nothing but 0 is orthogonal to all rows -/
def Nd0 (d : Nat) (M : List (List Int)) : Prop := ∀ x : Nat → Int, (∀ r, r ∈ M → dt r x d = 0) → ∀ j, j < d → x j = 0
theorem dt_zero {r : List Int} {x : Nat → Int} : ∀ {d : Nat}, (∀ j, j < d → r.getD j 0 * x j = 0) → dt r x d = 0
  | 0, _ => rfl
  | d + 1, h => by
    show dt r x d + r.getD d 0 * x d = 0
    rw [dt_zero fun j hj => h j (by omega), h d (by omega)]
    rfl
theorem dt_lin {r l c : List Int} {x : Nat → Int} {h o : Int} (e : ∀ j, c.getD j 0 = h * r.getD j 0 - o * l.getD j 0) : ∀ d, dt c x d = h * dt r x d - o * dt l x d
  | 0 => by simp [dt]
  | d + 1 => by
    show dt c x d + c.getD d 0 * x d = h * (dt r x d + r.getD d 0 * x d) - o * (dt l x d + l.getD d 0 * x d)
    rw [dt_lin e d, e d]
    grind
theorem dt_mul {r c : List Int} {x : Nat → Int} {g : Int} (e : ∀ j, r.getD j 0 = g * c.getD j 0) : ∀ d, dt r x d = g * dt c x d
  | 0 => by simp [dt]
  | d + 1 => by
    show dt r x d + r.getD d 0 * x d = g * (dt c x d + c.getD d 0 * x d)
    rw [dt_mul e d, e d]
    grind
theorem dt_two {r : List Int} {x : Nat → Int} {i p : Nat} (ne : i ≠ p) : ∀ d, (∀ j, j < d → j ≠ i → j ≠ p → r.getD j 0 * x j = 0) → dt r x d = (if i < d then r.getD i 0 * x i else 0) + (if p < d then r.getD p 0 * x p else 0)
  | 0, _ => by simp [dt]
  | d + 1, h => by
    show dt r x d + r.getD d 0 * x d = _
    rw [dt_two ne d fun j hj => h j (by omega)]
    by_cases e1 : d = i
    · subst e1
      rw [if_neg (by omega), if_pos (show d < d + 1 by omega)]
      by_cases e2 : p < d
      · rw [if_pos e2, if_pos (by omega)]
        omega
      · rw [if_neg e2, if_neg (by omega)]
        omega
    · by_cases e2 : d = p
      · subst e2
        rw [if_neg (show ¬d < d by omega), if_pos (show d < d + 1 by omega)]
        by_cases e3 : i < d
        · rw [if_pos e3, if_pos (by omega)]
          omega
        · rw [if_neg e3, if_neg (by omega)]
          omega
      · rw [h d (by omega) e1 e2]
        by_cases e3 : i < d <;> by_cases e4 : p < d
        · rw [if_pos e3, if_pos e4, if_pos (by omega), if_pos (by omega)]; omega
        · rw [if_pos e3, if_neg e4, if_pos (by omega), if_neg (by omega)]; omega
        · rw [if_neg e3, if_pos e4, if_neg (by omega), if_pos (by omega)]; omega
        · rw [if_neg e3, if_neg e4, if_neg (by omega), if_neg (by omega)]; omega
/-! rows by their entries -/
theorem comb_getD {h o : Int} {r l : List Int} (e : r.length = l.length) (j : Nat) : (comb h o r l).getD j 0 = h * r.getD j 0 - o * l.getD j 0 := by
  unfold comb
  simp only [List.getD_eq_getElem?_getD, List.getElem?_zipWith]
  by_cases hj : j < r.length
  · rw [List.getElem?_eq_getElem hj, List.getElem?_eq_getElem (show j < l.length by omega)]
    rfl
  · rw [List.getElem?_eq_none (by omega), List.getElem?_eq_none (show l.length ≤ j by omega)]
    simp
theorem prim_getD (r : List Int) (j : Nat) : r.getD j 0 = (if gall r ≤ 1 then 1 else (gall r : Int)) * (prim r).getD j 0 := by
  unfold prim
  split
  · simp
  · simp only [List.getD_eq_getElem?_getD, List.getElem?_map]
    cases e : r[j]? with
    | none => simp
    | some n =>
      show n = (gall r : Int) * (n / (gall r : Int))
      have hd : (gall r : Int) ∣ n := by
        have := gall_dvd (List.mem_of_getElem? e)
        exact Int.ofNat_dvd_left.mpr this
      exact (Int.mul_ediv_cancel' hd).symm
theorem gfac_pos (r : List Int) : (0 : Int) < (if gall r ≤ 1 then 1 else (gall r : Int)) := by
  split <;> omega
theorem led_getD (r : List Int) (p j : Nat) : (led r p).getD j 0 = (if 0 < r.getD p 0 then 1 else -1) * r.getD j 0 := by
  unfold led
  split
  · simp
  · simp only [List.getD_eq_getElem?_getD, List.getElem?_map]
    cases r[j]? <;> simp
/-- a struck row by its entries: two factors -/
theorem strk_getD {r l : List Int} {p : Nat} (e : r.length = l.length) (hl : 0 < l.getD p 0) : ∃ g h o : Int, 0 < g ∧ 0 < h ∧ (∀ j, g * (strk r l p).getD j 0 = h * r.getD j 0 - o * l.getD j 0) ∧ h * r.getD p 0 = o * l.getD p 0 := by
  by_cases c : r.getD p 0 = 0
  · refine ⟨1, 1, 0, by decide, by decide, fun j => ?_, by rw [c]; simp⟩
    unfold strk
    rw [if_pos c]
    simp
  · refine ⟨_, l.getD p 0, r.getD p 0, gfac_pos (comb (l.getD p 0) (r.getD p 0) r l), hl, fun j => ?_, Int.mul_comm _ _⟩
    rw [← comb_getD e j, prim_getD (comb (l.getD p 0) (r.getD p 0) r l) j]
    unfold strk
    rw [if_neg c]
/-! the divisor of all -/
theorem dvd_foldg {c : Nat} : ∀ (l : List Int) (g : Nat), c ∣ g → (∀ x, x ∈ l → c ∣ x.natAbs) → c ∣ l.foldl (fun g x => Nat.gcd g x.natAbs) g
  | [], g, h, _ => h
  | a :: l, g, h, k => dvd_foldg l _ (Nat.dvd_gcd h (k a (List.mem_cons_self ..))) fun x hx => k x (List.mem_cons_of_mem _ hx)
theorem dvd_gall {c : Nat} {l : List Int} (h : ∀ x, x ∈ l → c ∣ x.natAbs) : c ∣ gall l := dvd_foldg l 0 (Nat.dvd_zero c) h
theorem gall_led (r : List Int) (p : Nat) : gall (led r p) = gall r := by
  unfold led
  split
  · rfl
  · refine Nat.dvd_antisymm (dvd_gall fun x hx => ?_) (dvd_gall fun x hx => ?_)
    · have := gall_dvd (l := r.map (- ·)) (x := -x) (List.mem_map.mpr ⟨x, hx, rfl⟩)
      rwa [Int.natAbs_neg] at this
    · obtain ⟨y, hy, rfl⟩ := List.mem_map.mp hx
      rw [Int.natAbs_neg]
      exact gall_dvd hy
theorem gall_prim {r : List Int} (h : gall r ≠ 0) : gall (prim r) = 1 := by
  by_cases c : gall r ≤ 1
  · unfold prim
    rw [if_pos c]
    omega
  · have hp : 0 < gall r := by omega
    have q : gall r * gall (prim r) ∣ gall r := dvd_gall fun x hx => by
      obtain ⟨j, hj⟩ := List.getElem?_of_mem hx
      have e := prim_getD r j
      rw [if_neg c, List.getD_eq_getElem?_getD, hj] at e
      have hl : j < (prim r).length := by rw [prim_len]; exact (List.getElem?_eq_some_iff.mp hj).1
      have m := gall_dvd (List.mem_of_getElem? (getD_of hl))
      have e2 : x = (gall r : Int) * (prim r).getD j 0 := e
      rw [e2, Int.natAbs_mul, Int.natAbs_natCast]
      exact Nat.mul_dvd_mul_left _ m
    have := Nat.le_of_dvd hp q
    have m1 : gall (prim r) ≤ 1 := by
      have q2 : gall r * gall (prim r) ≤ gall r * 1 := by rw [Nat.mul_one]; exact this
      exact Nat.le_of_mul_le_mul_left q2 hp
    have m0 : gall (prim r) ≠ 0 := fun z => by
      rw [z, Nat.mul_zero] at q
      have := Nat.eq_zero_of_zero_dvd q
      omega
    omega
theorem gall_ne {r : List Int} {j : Nat} (h : r.getD j 0 ≠ 0) : gall r ≠ 0 := fun z => by
  have hl : j < r.length := by
    refine Classical.byContradiction fun q => h ?_
    rw [List.getD_eq_getElem?_getD, List.getElem?_eq_none (by omega)]
    rfl
  have := gall_dvd (List.mem_of_getElem? (getD_of hl))
  rw [z] at this
  exact h (Int.natAbs_eq_zero.mp (Nat.eq_zero_of_zero_dvd this))
theorem nz_ne {r : List Int} (h : nz r = true) : ∃ j, r.getD j 0 ≠ 0 := by
  unfold nz at h
  obtain ⟨x, hx, hne⟩ := List.any_eq_true.mp h
  obtain ⟨j, hj⟩ := List.getElem?_of_mem hx
  exact ⟨j, by rw [List.getD_eq_getElem?_getD, hj]; simpa using hne⟩
theorem nz_false {r : List Int} (h : ¬nz r = true) (j : Nat) : r.getD j 0 = 0 := by
  refine Classical.byContradiction fun c => h ?_
  have hl : j < r.length := by
    refine Classical.byContradiction fun q => c ?_
    rw [List.getD_eq_getElem?_getD, List.getElem?_eq_none (by omega)]
    rfl
  exact List.any_eq_true.mpr ⟨_, List.mem_of_getElem? (getD_of hl), by simpa using c⟩
theorem gall_strk {r l : List Int} {p j : Nat} (e : r.length = l.length) (hl : 0 < l.getD p 0) (h1 : gall r = 1) (h : (strk r l p).getD j 0 ≠ 0) : gall (strk r l p) = 1 := by
  by_cases c : r.getD p 0 = 0
  · unfold strk
    rw [if_pos c]
    exact h1
  · unfold strk at h ⊢
    rw [if_neg c] at h ⊢
    refine gall_prim fun z => h ?_
    have q := prim_getD (comb (l.getD p 0) (r.getD p 0) r l) j
    have z0 : (comb (l.getD p 0) (r.getD p 0) r l).getD j 0 = 0 := Classical.byContradiction fun w => gall_ne w z
    rw [z0] at q
    exact (Int.mul_eq_zero.mp q.symm).resolve_left (Int.ne_of_gt (gfac_pos _))
structure EI (d p : Nat) (T L : List (List Int)) : Prop where
  len : T.length = p
  tr : ∀ (i : Nat) t, T[i]? = some t → t.length = d ∧ 0 < t.getD i 0 ∧ (∀ j, j < p → j ≠ i → t.getD j 0 = 0) ∧ gall t = 1
  lr : ∀ r, r ∈ L → r.length = d ∧ (∀ j, j < p → r.getD j 0 = 0) ∧ gall r = 1
  nd : Nd0 d (T ++ L)
/-- the last step: each told row is a unit row -/
theorem ei_end {d : Nat} {T L : List (List Int)} (h : EI d d T L) : T = units d := by
  refine List.ext_getElem? fun i => ?_
  by_cases hi : i < d
  · have hiT : i < T.length := by rw [h.len]; exact hi
    have ht : T[i]? = some T[i] := List.getElem?_eq_getElem hiT
    generalize T[i] = t at ht
    obtain ⟨l1, l2, l3, l4⟩ := h.tr i t ht
    have one : t.getD i 0 = 1 := by
      have q : (t.getD i 0).natAbs ∣ gall t := dvd_gall fun x hx => by
        obtain ⟨j, hj⟩ := List.getElem?_of_mem hx
        have ej : t.getD j 0 = x := by rw [List.getD_eq_getElem?_getD, hj]; rfl
        by_cases e : j = i
        · rw [← ej, e]
          exact Nat.dvd_refl _
        · have hjd : j < d := by rw [← l1]; exact (List.getElem?_eq_some_iff.mp hj).1
          rw [← ej, l3 j hjd e]
          exact Nat.dvd_zero _
      rw [l4] at q
      have := Nat.dvd_one.mp q
      omega
    rw [ht]
    unfold units
    rw [List.getElem?_map, List.getElem?_range hi]
    show some t = some _
    congr 1
    refine List.ext_getElem? fun j => ?_
    rw [List.getElem?_map]
    by_cases hj : j < d
    · rw [List.getElem?_range hj, getD_of (by omega)]
      show some _ = some (if j = i then (1 : Int) else 0)
      by_cases e : j = i
      · rw [if_pos e, e, one]
      · rw [if_neg e, l3 j hj e]
    · rw [List.getElem?_eq_none (show t.length ≤ j by omega), List.getElem?_eq_none (by simp; omega)]
      rfl
  · rw [List.getElem?_eq_none (by rw [h.len]; omega), List.getElem?_eq_none (by simp [units]; omega)]
theorem dt_rel {r l c : List Int} {x : Nat → Int} {g h o : Int} (e : ∀ j, g * c.getD j 0 = h * r.getD j 0 - o * l.getD j 0) : ∀ d, g * dt c x d = h * dt r x d - o * dt l x d
  | 0 => by simp [dt]
  | d + 1 => by
    show g * (dt c x d + c.getD d 0 * x d) = h * (dt r x d + r.getD d 0 * x d) - o * (dt l x d + l.getD d 0 * x d)
    have a := dt_rel (x := x) e d
    have b := e d
    have s1 : g * (dt c x d + c.getD d 0 * x d) = g * dt c x d + (g * c.getD d 0) * x d := by grind
    rw [s1, a, b]
    grind
def prodN (D : Nat → Int) : Nat → Int
  | 0 => 1
  | k + 1 => prodN D k * D k
theorem prodN_pos {D : Nat → Int} : ∀ {p : Nat}, (∀ i, i < p → 0 < D i) → 0 < prodN D p
  | 0, _ => by show (0 : Int) < 1; decide
  | p + 1, h => Int.mul_pos (prodN_pos fun i hi => h i (by omega)) (h p (by omega))
theorem prodN_dvd {D : Nat → Int} : ∀ {p i : Nat}, i < p → D i ∣ prodN D p
  | p + 1, i, h => by
    by_cases e : i = p
    · subst e
      exact Int.dvd_mul_left _ _
    · exact Int.dvd_trans (prodN_dvd (show i < p by omega)) (Int.dvd_mul_right _ _)
/-- a row that leads at p is left -/
theorem ei_lead {d p : Nat} {T L : List (List Int)} (h : EI d p T L) (hp : p < d) : ¬ ∀ r, r ∈ L → r.getD p 0 = 0 := fun hz => by
  have hD : ∀ i, i < p → 0 < (T.getD i []).getD i 0 := fun i hi => by
    have hiT : i < T.length := by rw [h.len]; exact hi
    have ht : T[i]? = some T[i] := List.getElem?_eq_getElem hiT
    have := (h.tr i _ ht).2.1
    have eT : T.getD i [] = T[i] := by
      rw [List.getD_eq_getElem?_getD, ht]
      rfl
    rw [eT]
    exact this
  have P0 := prodN_pos (D := fun i => (T.getD i []).getD i 0) hD
  generalize hP : prodN (fun i => (T.getD i []).getD i 0) p = P at P0
  have key := h.nd (fun j => if j = p then P else if j < p then -((T.getD j []).getD p 0) * (P / (T.getD j []).getD j 0) else 0) (fun r hr => ?_) p hp
  · have key2 : P = 0 := by simpa using key
    omega
  rcases List.mem_append.mp hr with hr | hr
  · obtain ⟨i, hi⟩ := List.getElem?_of_mem hr
    have ip : i < p := by rw [← h.len]; exact (List.getElem?_eq_some_iff.mp hi).1
    obtain ⟨l1, l2, l3, _⟩ := h.tr i r hi
    have eT : T.getD i [] = r := by rw [List.getD_eq_getElem?_getD, hi]; rfl
    rw [dt_two (i := i) (p := p) (by omega) d fun j hj h1 h2 => ?_]
    · rw [if_pos (by omega), if_pos hp, if_neg (by omega), if_pos ip, if_pos rfl, eT]
      have dv : r.getD i 0 ∣ P := by
        have := prodN_dvd (D := fun i => (T.getD i []).getD i 0) ip
        rw [hP] at this
        simpa only [eT] using this
      have := Int.mul_ediv_cancel' dv
      have e : r.getD i 0 * (-r.getD p 0 * (P / r.getD i 0)) = -(r.getD p 0 * (r.getD i 0 * (P / r.getD i 0))) := by grind
      rw [e, this]
      omega
    · by_cases c : j < p
      · rw [l3 j c h1, Int.zero_mul]
      · rw [if_neg h2, if_neg c, Int.mul_zero]
  · obtain ⟨l1, l2, _⟩ := h.lr r hr
    refine dt_zero fun j hj => ?_
    by_cases c : j < p
    · rw [l2 j c, Int.zero_mul]
    · by_cases e : j = p
      · rw [e, hz r hr, Int.zero_mul]
      · rw [if_neg e, if_neg c, Int.mul_zero]
theorem ei_step {d p : Nat} {T L : List (List Int)} (h : EI d p T L) (hp : p < d) : EI d (p + 1) (estep (T, L) p).1 (estep (T, L) p).2 := by
  cases hl : lead? L p with
  | none => exact absurd (lead_none hl) (ei_lead h hp)
  | some k =>
    obtain ⟨r, hr, hne, _⟩ := lead_some hl
    have eK : L.getD k [] = r := by rw [List.getD_eq_getElem?_getD, hr]; rfl
    have he : estep (T, L) p = (T.map (strk · (led r p) p) ++ [led r p], ((L.take k ++ L.drop (k + 1)).map (strk · (led r p) p)).filter nz) := by
      unfold estep
      rw [hl]
      show (T.map (strk · (led (L.getD k []) p) p) ++ [led (L.getD k []) p], _) = _
      rw [eK]
    rw [he]
    obtain ⟨r1, r2, r3⟩ := h.lr r (List.mem_of_getElem? hr)
    have q := but_perm hr
    have inL : ∀ z, z ∈ L.take k ++ L.drop (k + 1) → z ∈ L := fun z hz => q.mem_iff.mpr (List.mem_cons_of_mem _ hz)
    have hlp : 0 < (led r p).getD p 0 := by
      rw [led_getD]
      split <;> omega
    have l0 : ∀ j, j < p → (led r p).getD j 0 = 0 := fun j hj => by rw [led_getD, r2 j hj, Int.mul_zero]
    have ll : (led r p).length = d := by rw [led_len]; exact r1
    generalize hlr : led r p = l at *
    have gl : gall l = 1 := by rw [← hlr, gall_led]; exact r3
    have ent : ∀ z : List Int, z.length = d → ∃ g h o : Int, 0 < g ∧ 0 < h ∧ (∀ j, g * (strk z l p).getD j 0 = h * z.getD j 0 - o * l.getD j 0) ∧ (strk z l p).getD p 0 = 0 ∧ ∀ j, j < p → g * (strk z l p).getD j 0 = h * z.getD j 0 := fun z hz => by
      obtain ⟨g, h, o, g0, h0, e1, e2⟩ := strk_getD (r := z) (l := l) (p := p) (by omega) hlp
      refine ⟨g, h, o, g0, h0, e1, ?_, fun j hj => by rw [e1 j, l0 j hj]; omega⟩
      have := e1 p
      rw [e2, Int.sub_self] at this
      exact (Int.mul_eq_zero.mp this).resolve_left (Int.ne_of_gt g0)
    refine ⟨by simp [h.len], fun i t ht => ?_, fun z hz => ?_, fun x hx => ?_⟩
    · rw [List.getElem?_append, List.length_map, h.len] at ht
      split at ht
      · rename_i ip
        rw [List.getElem?_map] at ht
        obtain ⟨t0, h0, rfl⟩ := Option.map_eq_some_iff.mp ht
        obtain ⟨a1, a2, a3, a4⟩ := h.tr i t0 h0
        obtain ⟨g, hh, o, g0, hh0, e1, e2, e3⟩ := ent t0 a1
        have pos : 0 < (strk t0 l p).getD i 0 := by
          have z := e3 i ip
          have z2 : 0 < hh * t0.getD i 0 := Int.mul_pos hh0 a2
          rw [← z] at z2
          rw [Int.mul_comm] at z2
          exact Int.pos_of_mul_pos_left z2 g0
        refine ⟨by rw [strk_len (by omega)]; exact a1, pos, fun j hj hji => ?_, gall_strk (by omega) hlp a4 (Int.ne_of_gt pos)⟩
        by_cases jp : j = p
        · rw [jp]; exact e2
        · have z := e3 j (by omega)
          rw [a3 j (by omega) hji, Int.mul_zero] at z
          exact (Int.mul_eq_zero.mp z).resolve_left (Int.ne_of_gt g0)
      · rename_i ip
        cases e : i - p with
        | zero =>
          rw [e] at ht
          have et : l = t := by simpa using ht
          have ei : i = p := by omega
          subst et ei
          exact ⟨ll, hlp, fun j hj hji => l0 j (by omega), gl⟩
        | succ m => rw [e] at ht; simp at ht
    · obtain ⟨hz1, hz2⟩ := List.mem_filter.mp hz
      obtain ⟨z0, hz0, rfl⟩ := List.mem_map.mp hz1
      obtain ⟨a1, a2, a3⟩ := h.lr z0 (inL z0 hz0)
      obtain ⟨g, hh, o, g0, hh0, e1, e2, e3⟩ := ent z0 a1
      obtain ⟨m, hm⟩ := nz_ne hz2
      refine ⟨by rw [strk_len (by omega)]; exact a1, fun j hj => ?_, gall_strk (by omega) hlp a3 hm⟩
      by_cases jp : j = p
      · rw [jp]; exact e2
      · have z := e3 j (by omega)
        rw [a2 j (by omega), Int.mul_zero] at z
        exact (Int.mul_eq_zero.mp z).resolve_left (Int.ne_of_gt g0)
    · have dl : dt l x d = 0 := hx l (by simp)
      have back : ∀ z : List Int, z.length = d → dt (strk z l p) x d = 0 → dt z x d = 0 := fun z hz hd => by
        obtain ⟨g, hh, o, g0, hh0, e1, _⟩ := ent z hz
        have := dt_rel (x := x) e1 d
        rw [hd, dl, Int.mul_zero, Int.mul_zero, Int.sub_zero] at this
        exact (Int.mul_eq_zero.mp this.symm).resolve_left (Int.ne_of_gt hh0)
      refine h.nd x fun z hz => ?_
      rcases List.mem_append.mp hz with hz | hz
      · obtain ⟨i, hi⟩ := List.getElem?_of_mem hz
        exact back z (h.tr i z hi).1 (hx _ (List.mem_append_left _ (List.mem_append_left _ (List.mem_map.mpr ⟨z, hz, rfl⟩))))
      · have zl := (h.lr z hz).1
        rcases List.mem_cons.mp (q.mem_iff.mp hz) with e | hz2
        · subst e
          have rel : ∀ j, z.getD j 0 = (if 0 < z.getD p 0 then 1 else -1) * l.getD j 0 := fun j => by
            rw [← hlr, led_getD]
            split <;> omega
          rw [dt_mul rel d, dl, Int.mul_zero]
        · refine back z zl ?_
          by_cases c : nz (strk z l p) = true
          · exact hx _ (List.mem_append_right _ (List.mem_filter.mpr ⟨List.mem_map.mpr ⟨z, hz2, rfl⟩, c⟩))
          · exact dt_zero fun j _ => by rw [nz_false c j, Int.zero_mul]
theorem ei_start {d : Nat} {M : List (List Int)} (hr : ∀ r, r ∈ M → r.length = d) (h : Nd0 d M) : EI d 0 [] (eleft M) := by
  refine ⟨rfl, fun i t ht => by simp at ht, fun r hr2 => ?_, fun x hx => h x fun r hr2 => ?_⟩
  · obtain ⟨z, hz, rfl⟩ := List.mem_map.mp hr2
    obtain ⟨h1, h2⟩ := List.mem_filter.mp hz
    obtain ⟨j, hj⟩ := nz_ne h2
    exact ⟨by rw [prim_len]; exact hr z h1, fun j hj => absurd hj (by omega), gall_prim (gall_ne hj)⟩
  · by_cases c : nz r = true
    · have := hx (prim r) (List.mem_map.mpr ⟨r, List.mem_filter.mpr ⟨hr2, c⟩, rfl⟩)
      rw [dt_mul (prim_getD r) d, this, Int.mul_zero]
    · exact dt_zero fun j _ => by rw [nz_false c j, Int.zero_mul]
theorem ei_fold {d : Nat} {M : List (List Int)} (hr : ∀ r, r ∈ M → r.length = d) (h : Nd0 d M) : ∀ p, p ≤ d → EI d p ((List.range p).foldl estep ([], eleft M)).1 ((List.range p).foldl estep ([], eleft M)).2
  | 0, _ => ei_start hr h
  | p + 1, hp => by
    have := ei_step (ei_fold hr h p (by omega)) (by omega)
    rw [List.range_succ, List.foldl_append]
    exact this
theorem ech_units {d : Nat} {M : List (List Int)} (hr : ∀ r, r ∈ M → r.length = d) (h : Nd0 d M) : ech d M = units d := ei_end (ei_fold hr h d (Nat.le_refl _))
/-! a determinant that is not 0 -/
theorem zero_of {D x : Int} (h : D ≠ 0) (e : D * x = 0) : x = 0 := (Int.mul_eq_zero.mp e).resolve_left h
theorem nd_one {a : Int} (h : lap 1 [[a]] ≠ 0) : Nd0 1 [[a]] := fun x hx j hj => by
  rw [lap1] at h
  have e0 : j = 0 := by omega
  subst e0
  have := hx [a] (by simp)
  simp [dt] at this
  exact zero_of h this
theorem nd_two {a b c d : Int} (h : lap 2 [[a, b], [c, d]] ≠ 0) : Nd0 2 [[a, b], [c, d]] := fun x hx j hj => by
  rw [lap2] at h
  have r1 := hx [a, b] (by simp)
  have r2 := hx [c, d] (by simp)
  simp [dt] at r1 r2
  have x0 : x 0 = 0 := zero_of h (by
    have : det2 a b c d * x 0 = (a * x 0 + b * x 1) * d - (c * x 0 + d * x 1) * b := by unfold det2; grind
    rw [this, r1, r2]; simp)
  have x1 : x 1 = 0 := zero_of h (by
    have : det2 a b c d * x 1 = (c * x 0 + d * x 1) * a - (a * x 0 + b * x 1) * c := by unfold det2; grind
    rw [this, r1, r2]; simp)
  match j, hj with
  | 0, _ => exact x0
  | 1, _ => exact x1
theorem nd_three {a b c d e f g h i : Int} (hD : lap 3 [[a, b, c], [d, e, f], [g, h, i]] ≠ 0) : Nd0 3 [[a, b, c], [d, e, f], [g, h, i]] := fun x hx j hj => by
  rw [lap3] at hD
  have r1 := hx [a, b, c] (by simp)
  have r2 := hx [d, e, f] (by simp)
  have r3 := hx [g, h, i] (by simp)
  simp [dt] at r1 r2 r3
  have x0 : x 0 = 0 := zero_of hD (by
    have : det3 a b c d e f g h i * x 0 = (a * x 0 + b * x 1 + c * x 2) * det2 e f h i - (d * x 0 + e * x 1 + f * x 2) * det2 b c h i + (g * x 0 + h * x 1 + i * x 2) * det2 b c e f := by unfold det3 det2; grind
    rw [this, r1, r2, r3]; simp)
  have x1 : x 1 = 0 := zero_of hD (by
    have : det3 a b c d e f g h i * x 1 = -((a * x 0 + b * x 1 + c * x 2) * det2 d f g i) + (d * x 0 + e * x 1 + f * x 2) * det2 a c g i - (g * x 0 + h * x 1 + i * x 2) * det2 a c d f := by unfold det3 det2; grind
    rw [this, r1, r2, r3]; simp)
  have x2 : x 2 = 0 := zero_of hD (by
    have : det3 a b c d e f g h i * x 2 = (a * x 0 + b * x 1 + c * x 2) * det2 d e g h - (d * x 0 + e * x 1 + f * x 2) * det2 a b g h + (g * x 0 + h * x 1 + i * x 2) * det2 a b d e := by unfold det3 det2; grind
    rw [this, r1, r2, r3]; simp)
  match j, hj with
  | 0, _ => exact x0
  | 1, _ => exact x1
  | 2, _ => exact x2
theorem nd_four {a b c d e f g h i j k l m n o p : Int} (hD : lap 4 [[a, b, c, d], [e, f, g, h], [i, j, k, l], [m, n, o, p]] ≠ 0) : Nd0 4 [[a, b, c, d], [e, f, g, h], [i, j, k, l], [m, n, o, p]] := fun x hx q hq => by
  rw [lap4] at hD
  have r1 := hx [a, b, c, d] (by simp)
  have r2 := hx [e, f, g, h] (by simp)
  have r3 := hx [i, j, k, l] (by simp)
  have r4 := hx [m, n, o, p] (by simp)
  simp [dt] at r1 r2 r3 r4
  have x0 : x 0 = 0 := zero_of hD (by
    rw [cramer4 a b c d e f g h i j k l m n o p (x 0) (x 1) (x 2) (x 3), r1, r2, r3, r4]; simp)
  have x1 : x 1 = 0 := zero_of hD (by
    have : det4 a b c d e f g h i j k l m n o p * x 1 = -((a * x 0 + b * x 1 + c * x 2 + d * x 3) * det3 e g h i k l m o p) + (e * x 0 + f * x 1 + g * x 2 + h * x 3) * det3 a c d i k l m o p - (i * x 0 + j * x 1 + k * x 2 + l * x 3) * det3 a c d e g h m o p + (m * x 0 + n * x 1 + o * x 2 + p * x 3) * det3 a c d e g h i k l := by unfold det4 det3; grind
    rw [this, r1, r2, r3, r4]; simp)
  have x2 : x 2 = 0 := zero_of hD (by
    have : det4 a b c d e f g h i j k l m n o p * x 2 = (a * x 0 + b * x 1 + c * x 2 + d * x 3) * det3 e f h i j l m n p - (e * x 0 + f * x 1 + g * x 2 + h * x 3) * det3 a b d i j l m n p + (i * x 0 + j * x 1 + k * x 2 + l * x 3) * det3 a b d e f h m n p - (m * x 0 + n * x 1 + o * x 2 + p * x 3) * det3 a b d e f h i j l := by unfold det4 det3; grind
    rw [this, r1, r2, r3, r4]; simp)
  have x3 : x 3 = 0 := zero_of hD (by
    have : det4 a b c d e f g h i j k l m n o p * x 3 = -((a * x 0 + b * x 1 + c * x 2 + d * x 3) * det3 e f g i j k m n o) + (e * x 0 + f * x 1 + g * x 2 + h * x 3) * det3 a b c i j k m n o - (i * x 0 + j * x 1 + k * x 2 + l * x 3) * det3 a b c e f g m n o + (m * x 0 + n * x 1 + o * x 2 + p * x 3) * det3 a b c e f g i j k := by unfold det4 det3; grind
    rw [this, r1, r2, r3, r4]; simp)
  match q, hq with
  | 0, _ => exact x0
  | 1, _ => exact x1
  | 2, _ => exact x2
  | 3, _ => exact x3
theorem nd_lap {n : Nat} (h1 : 1 ≤ n) (h4 : n ≤ 4) {L : List (List Int)} (hl : L.length = n) (hr : ∀ r, r ∈ L → r.length = n) (h : lap n L ≠ 0) : Nd0 n L := by
  match n, h1, h4, L, hl, hr, h with
  | 1, _, _, [x], _, hr, h =>
    obtain ⟨a, rfl⟩ := row1 (hr x (by simp))
    exact nd_one h
  | 2, _, _, [x, y], _, hr, h =>
    obtain ⟨a, b, rfl⟩ := row2 (hr x (by simp))
    obtain ⟨c, d, rfl⟩ := row2 (hr y (by simp))
    exact nd_two h
  | 3, _, _, [x, y, z], _, hr, hh =>
    obtain ⟨a, b, c, rfl⟩ := row3 (hr x (by simp))
    obtain ⟨d, e, f, rfl⟩ := row3 (hr y (by simp))
    obtain ⟨g, h, i, rfl⟩ := row3 (hr z (by simp))
    exact nd_three hh
  | 4, _, _, [x, y, z, w], _, hr, hh =>
    obtain ⟨a, b, c, d, rfl⟩ := row4 (hr x (by simp))
    obtain ⟨e, f, g, h, rfl⟩ := row4 (hr y (by simp))
    obtain ⟨i, j, k, l, rfl⟩ := row4 (hr z (by simp))
    obtain ⟨m, n, o, p, rfl⟩ := row4 (hr w (by simp))
    exact nd_four hh
  | n + 5, _, h, _, _, _, _ => exact absurd h (by omega)
theorem ech_unit {d : Nat} (h : d ≤ 4) : ech d (units d) = units d := (by decide +kernel : ∀ d, d ≤ 4 → ech d (units d) = units d) d h
/-- what the law asks of rows: due; what the program says of them: bar; what follows for the echelon -/
theorem due_bar {d : Nat} (h1 : 1 ≤ d) (h4 : d ≤ 4) {M N : List (List Int)} (p : M.Perm N) (hl : M.length = d) (hr : ∀ r, r ∈ M → r.length = d) : decide (bar d 1 N = 1) = decide (lap d M = 1 ∨ lap d M = -1) := by
  have hlN : N.length = d := by rw [← p.length_eq]; exact hl
  rw [bar_lap h1 h4 hlN fun r h => hr r (p.mem_iff.mpr h), ← lap_perm h4 p hr hl, decide_eq_decide]
  omega
theorem due_ech {d : Nat} (h1 : 1 ≤ d) (h4 : d ≤ 4) {M : List (List Int)} (hl : M.length = d) (hr : ∀ r, r ∈ M → r.length = d) (h : lap d M = 1 ∨ lap d M = -1) : ech d M = units d :=
  ech_units hr (nd_lap h1 h4 hl hr (by omega))

end
section
abbrev N_integer_text : List Str := ["value", "left", "parts", "rest"]
def t_integer_text (K : PySem.W.Frag) : TS :=
  (tSeq (tIfS (tTest (tChain rLtI rLtI (tUn rNegI (tC (.int 1000000000000000000000000000000000000000000000000000000000000))) (tVar 0) (tC (.int 1000000000000000000000000000000000000000000000000000000000000)))) (tRet (tCB rStr (tCons (tVar 0) tNil))) tNext)
    tBotS)
/-- a number 0 or 1 as a text -/
def sp_integer_text (K : PySem.W.Frag) : Sp := fun vs H Q _ => ∃ n : Int, vs = [.int n] ∧ (n = 0 ∨ n = 1) ∧ ∀ z : Str, z.length = 1 → Q (.str z) H
theorem pure_integer_text {K : PySem.W.Frag} (vs : List V) (H : Hp) (Q : VK) (E : XK) (h : sp_integer_text K vs H Q E) : t_integer_text K { nx := fun _ H' => Q .non H', rt := Q } (start N_integer_text vs) H := by
  obtain ⟨n, rfl, hn, q⟩ := h
  show t_integer_text K _ [some (.int n), none, none, none] H
  unfold t_integer_text
  rcases hn with rfl | rfl
  all_goals
    walk_at "vc"
    refine iT (by decide) ?_
    walk_at "vc"
    refine iT (by decide) ?_
    walk_at "vc"
    exact ⟨_, rfl, by decide, q _ (by decide +kernel)⟩
theorem join_len (y : Str) (ys : List Str) : (Txt.join y ys).length ≤ (ys.map (·.length)).sum + ys.length * y.length := by
  rw [TL.join_eq]
  induction ys with
  | nil => exact Nat.zero_le _
  | cons a r ih =>
    cases r with
    | nil =>
      show a.length ≤ _
      simp
    | cons b t =>
      have e : Str.join y (a :: b :: t) = a ++ y ++ Str.join y (b :: t) := by
        rfl
      rw [e, Str.length_append, Str.length_append]
      simp only [List.map_cons, List.sum_cons, List.length_cons] at ih ⊢
      have m : (t.length + 1 + 1) * y.length = (t.length + 1) * y.length + y.length := by rw [Nat.succ_mul]
      rw [m]
      omega
theorem sum_le {c : Nat} : ∀ {ys : List Str}, (∀ z, z ∈ ys → z.length ≤ c) → (ys.map (·.length)).sum ≤ ys.length * c
  | [], _ => Nat.zero_le _
  | a :: r, h => by
    have h1 := h a (List.mem_cons_self ..)
    have h2 := sum_le (ys := r) fun z hz => h z (List.mem_cons_of_mem _ hz)
    simp only [List.map_cons, List.sum_cons, List.length_cons, Nat.succ_mul]
    omega
def sp_row_text (K : PySem.W.Frag) : Sp := fun vs H Q _ => ∃ v r, vs = [v] ∧ RowAt K H v r ∧ (∀ n, n ∈ r → n = 0 ∨ n = 1) ∧ r.length ≤ 10 ∧ ∀ z H', z.length ≤ 20 → Same H H' → Q (.str z) H'
abbrev N_row_text : List Str := ["row", "value"]
def t_row_text (K : PySem.W.Frag) : TS :=
  (tRet (tM1 (rJoinL K) (tC (.str " ")) (tLc (iSq K (tVar 0)) (gName 1) tYes (tCall (sp_integer_text K) [] E0 (tCons (tVar 1) tNil)) [1])))
theorem pure_row_text {K : PySem.W.Frag} (vs : List V) (H : Hp) (Q : VK) (E : XK) (h : sp_row_text K vs H Q E) : t_row_text K { nx := fun _ H' => Q .non H', rt := Q } (start N_row_text vs) H := by
  obtain ⟨v, r, rfl, ⟨a, t, rfl, ha⟩, h01, hl, q⟩ := h
  show t_row_text K _ [some (.ref a), none] H
  unfold t_row_text
  refine v_ret (v_m1 (v_c ⟨⟨_, rfl⟩, ?_⟩))
  walk_at "vc"
  refine v_sqr ha ?_
  refine lc_acc walk_sq [] kn_nil (fun i acc A => ∃ ys : List Str, acc = ys.map V.str ∧ ys.length = i ∧ ∀ z, z ∈ ys → z.length ≤ 1) (fun i acc A B e h => h) (by rw [List.length_map]; omega) (fun H' e => same_sqb e ha) ⟨[], rfl, rfl, fun z h => nomatch h⟩ ?_ ?_
  · rintro D i x H1 H2 acc hi hD hD1 s1 ⟨rfl, hx⟩ ⟨ys, rfl, ly, hy⟩ kn R R0 hR hR0
    obtain ⟨n, hn, rfl⟩ := int_of hx
    refine v_name ⟨rfl, v_yes (iT rfl ?_)⟩
    walk_at "vc"
    refine ⟨n, rfl, h01 n (List.mem_of_getElem? hn), fun z hz => hR _ _ ⟨ys ++ [z], by simp, by simp [ly], fun w hw => ?_⟩ (Same.refl _)⟩
    rcases List.mem_append.mp hw with h | h
    · exact hy w h
    · rw [List.mem_singleton.mp h, hz]
      exact Nat.le_refl _
  · rintro D H' acc hD s1 hl2 _ ⟨ys, rfl, ly, hy⟩
    rw [List.length_map] at ly
    have e1 := sum_le hy
    have e2 : ((" " : Str)).length = 1 := by decide
    refine ⟨_, D, ys, rfl, rfl, .inl (SqL.of hl2), by rw [e2]; omega, q _ _ ?_ s1⟩
    have := join_len " " ys
    rw [e2] at this
    omega
def sp_rows_text (K : PySem.W.Frag) : Sp := fun vs H Q _ => ∃ a xs M, vs = [.ref a] ∧ SqL K H a xs ∧ RowsAt K H xs M ∧ (∀ r, r ∈ M → r.length ≤ 10 ∧ ∀ n, n ∈ r → n = 0 ∨ n = 1) ∧ M.length ≤ 10 ∧ ∀ z H', Same H H' → Q (.str z) H'
abbrev N_rows_text : List Str := ["rows", "row"]
def t_rows_text (K : PySem.W.Frag) : TS :=
  (tSeq (tIfS (tNot (tTruth K (tVar 0))) (tRet (tC (.str "none"))) tNext)
    (tRet (tM1 (rJoinL K) (tC (.str " , ")) (tLc (iSq K (tVar 0)) (gName 1) tYes (tCall (sp_row_text K) [] E0 (tCons (tVar 1) tNil)) [1]))))
theorem pure_rows_text {K : PySem.W.Frag} (vs : List V) (H : Hp) (Q : VK) (E : XK) (h : sp_rows_text K vs H Q E) : t_rows_text K { nx := fun _ H' => Q .non H', rt := Q } (start N_rows_text vs) H := by
  obtain ⟨a, xs, M, rfl, ha, hM, h01, hl, q⟩ := h
  show t_rows_text K _ [some (.ref a), none] H
  unfold t_rows_text
  walk_at "vc"
  refine ⟨_, .inl ⟨xs, ha, rfl⟩, ?_⟩
  refine ite2 (fun c => ?_) (fun c => ?_)
  · walk_at "vc"
    exact q _ _ (Same.refl _)
  · refine v_next (v_ret (v_m1 (v_c ⟨⟨_, rfl⟩, ?_⟩)))
    walk_at "vc"
    refine v_sqr (k := false) ha ?_
    refine lc_acc walk_sq [] kn_nil (fun i acc A => ∃ ys : List Str, acc = ys.map V.str ∧ ys.length = i ∧ ∀ z, z ∈ ys → z.length ≤ 20) (fun i acc A B e h => h) (by rw [hM.1]; omega) (fun H' e => same_sqb (k := false) e ha) ⟨[], rfl, rfl, fun z h => nomatch h⟩ ?_ ?_
    · rintro D i x H1 H2 acc hi hD hD1 s1 ⟨rfl, hx⟩ ⟨ys, rfl, ly, hy⟩ kn R R0 hR hR0
      obtain ⟨r, hr, rx⟩ := hM.2 i x hx
      obtain ⟨g1, g2⟩ := h01 r (List.mem_of_getElem? hr)
      refine v_name ⟨rfl, v_yes (iT rfl ?_)⟩
      walk_at "vc"
      refine ⟨x, r, rfl, row_same s1 rx, g2, g1, fun z H4 hz s4 => hR _ _ ⟨ys ++ [z], by simp, by simp [ly], fun w hw => ?_⟩ s4⟩
      rcases List.mem_append.mp hw with h | h
      · exact hy w h
      · rw [List.mem_singleton.mp h]
        exact hz
    · rintro D H' acc hD s1 hl2 _ ⟨ys, rfl, ly, hy⟩
      rw [hM.1] at ly
      have e1 := sum_le hy
      have e2 : ((" , " : Str)).length = 3 := by decide
      exact ⟨_, D, ys, rfl, rfl, .inl (SqL.of hl2), by rw [e2]; omega, q _ _ s1⟩

end
section

/-- the class Whole -/
structure WholeF (K : PySem.W.Frag) : Prop where
  cl : Cls K (He.ga K "Whole")
  n1 : NoAttr K (He.ga K "Whole") "deep"
  n2 : NoAttr K (He.ga K "Whole") "_told"
  n3 : NoAttr K (He.ga K "Whole") "text"
  k1 : PySem.W.findIn K (.ref (He.ga K "Whole")) "__class__" = some (some (.builtin "object.__class__"))
  k2 : PySem.W.specialIn K (.builtin "object.__class__") "__get__" = some (some (.builtin "getset_descriptor.__get__"))
  k3 : PySem.W.takesIn K (.builtin "object.__class__") = some true
  k4 : PySem.W.mroIn K (He.ga K "Whole") (.type "object") = some true
theorem whole_of {K : PySem.W.Frag} (h : wholeB K = true) (c : Cls K (He.ga K "Whole")) (n1 : NoAttr K (He.ga K "Whole") "deep") (n2 : NoAttr K (He.ga K "Whole") "_told") (n3 : NoAttr K (He.ga K "Whole") "text") : WholeF K := by
  obtain ⟨h1, h⟩ := He.ba h
  obtain ⟨h2, h⟩ := He.ba h
  obtain ⟨h3, h⟩ := He.ba h
  obtain ⟨h4, _⟩ := He.ba h
  exact ⟨c, n1, n2, n3, He.eqO_ok h1, He.eqO_ok h2, of_decide_eq_true h3, of_decide_eq_true h4⟩
theorem gcd_ok {K : PySem.W.Frag} {h : Heap} {mg : Str → Option Value} (X : K.In h) (G : h.Ns mainGlobals mg) (c : wholeB K = true) : mg "gcd" = some (.builtin "math.gcd") := by
  obtain ⟨_, c⟩ := He.ba c
  obtain ⟨_, c⟩ := He.ba c
  obtain ⟨_, c⟩ := He.ba c
  obtain ⟨_, c⟩ := He.ba c
  exact PySem.W.mg_of X G (He.eqO_ok c)
/-- at p: a Whole whose told rows are M -/
def IsWhole (K : PySem.W.Frag) (H : Hp) (p : Addr) (d : Nat) (M : List (List Int)) : Prop := ∃ dx fs a xs, H p = some (.ins (He.ga K "Whole") dx fs) ∧ fs.lookup ("deep" : Str) = some (.int d) ∧ fs.lookup ("_told" : Str) = some (.ref a) ∧ SqL K H a xs ∧ TupsAt K H xs M
theorem whole_same {K : PySem.W.Frag} {A B : Hp} {p : Addr} {d : Nat} {M : List (List Int)} (e : Same A B) (h : IsWhole K A p d M) : IsWhole K B p d M := by
  obtain ⟨dx, fs, a, xs, h1, h2, h3, h4, h5⟩ := h
  exact ⟨dx, fs, a, xs, e _ _ h1, h2, h3, same_sql e h4, tups_same e h5⟩
def rowD (r : List Int) : PyData := .tuple (r.map .int)
def matD (M : List (List Int)) : PyData := .list (M.map rowD)
theorem dps_int {K : PySem.W.Frag} {H : Hp} : ∀ {r : List Int}, DpAll K H (r.map V.int) (r.map PyData.int)
  | [] => .nil
  | n :: r => .cons (.int n) dps_int
theorem dps_tups {K : PySem.W.Frag} {H : Hp} : ∀ {xs : List V} {M : List (List Int)}, TupsAt K H xs M → DpAll K H xs (M.map rowD)
  | [], [], _ => .nil
  | [], _ :: _, h => absurd h.1 (by simp)
  | _ :: _, [], h => absurd h.1 (by simp)
  | x :: xs, r :: M, h => by
    obtain ⟨r', a, h1, h2, h3⟩ := h.2 0 x rfl
    cases h1
    subst h2
    refine .cons (.tup h3 dps_int) (dps_tups ⟨by have := h.1; simpa using this, fun i y hy => ?_⟩)
    obtain ⟨r', a', g1, g2, g3⟩ := h.2 (i + 1) y (by simpa using hy)
    exact ⟨r', a', by simpa using g1, g2, g3⟩
theorem tups_dp {K : PySem.W.Frag} {H : Hp} {a : Addr} {xs : List V} {M : List (List Int)} (h : SqL K H a xs) (t : TupsAt K H xs M) : Dp K H (.ref a) (matD M) := .lst h (dps_tups t)
theorem units_ok {d : Nat} (h : d ≤ 4) : SeqAt.shaped (matD (units d)) = true ∧ PyData.eqv (matD (units d)) (matD (units d)) = true := (by decide +kernel : ∀ d, d ≤ 4 → SeqAt.shaped (matD (units d)) = true ∧ PyData.eqv (matD (units d)) (matD (units d)) = true) d h
theorem units_01 {d : Nat} (h : d ≤ 4) : ∀ r, r ∈ units d → r.length ≤ 10 ∧ ∀ n, n ∈ r → n = 0 ∨ n = 1 := (by decide +kernel : ∀ d, d ≤ 4 → ∀ r, r ∈ units d → r.length ≤ 10 ∧ ∀ n, n ∈ r → n = 0 ∨ n = 1) d h
def WEq (K : PySem.W.Frag) : Addr → Addr → Hp → Prop := fun a b H => ∃ d, d ≤ 4 ∧ IsWhole K H a d (units d) ∧ IsWhole K H b d (units d)
abbrev sp_Whole_eq (K : PySem.W.Frag) : Sp := spEq (WEq K)
abbrev N_Whole_eq : List Str := ["self", "other"]
def t_Whole_eq (K : PySem.W.Frag) : TS :=
  (tRet (tAndV (tCB (rIsiU K) (tCons (tVar 1) (tCons (tC (.ref (He.ga K "Whole"))) tNil))) (tAndV (tOp (rEqU K) (tFld K (tVar 0) "deep") (tFld K (tVar 1) "deep")) (tOp (rEqU K) (tFld K (tVar 0) "_told") (tFld K (tVar 1) "_told")))))
theorem pure_Whole_eq {K : PySem.W.Frag} (WF : WholeF K) (vs : List V) (H : Hp) (Q : VK) (E : XK) (h : sp_Whole_eq K vs H Q E) : t_Whole_eq K { nx := fun _ H' => Q .non H', rt := Q } (start N_Whole_eq vs) H := by
  obtain ⟨a, b, rfl, ⟨d, hd, ⟨dx, fs, l, xs, h1, h2, h3, h4, h5⟩, ⟨dy, gs, m, ys, k1, k2, k3, k4, k5⟩⟩, q⟩ := h
  show t_Whole_eq K _ [some (.ref a), some (.ref b)] H
  unfold t_Whole_eq
  walk_at "vc"
  refine .inl ⟨_, _, _, _, true, rfl, .own _, .base (.ins k1 WF.cl WF.k1 WF.k2 WF.k3 WF.k4), ?_, _, rfl, ?_⟩
  · unfold PySem.W.kitOne
    rw [if_pos (by simp)]
  refine iT rfl ?_
  walk_at "vc"
  refine ⟨a, _, dx, fs, _, rfl, h1, WF.cl, WF.n1, h2, ?_⟩
  walk_at "vc"
  refine ⟨b, _, dy, gs, _, rfl, k1, WF.cl, WF.n1, k2, ?_⟩
  walk_at "vc"
  refine iT (by simp) ?_
  walk_at "vc"
  refine ⟨a, _, dx, fs, _, rfl, h1, WF.cl, WF.n2, h3, ?_⟩
  walk_at "vc"
  refine ⟨b, _, dy, gs, _, rfl, k1, WF.cl, WF.n2, k3, ?_⟩
  obtain ⟨s1, s2⟩ := units_ok hd
  refine v_eqd (tups_dp h4 h5) (tups_dp k4 k5) s1 s1 ?_
  rw [s2]
  exact q H Ext.rfl'
theorem putF_len (f : Str) (v : V) (fs : List (Str × V)) : (putF f v fs).length ≤ fs.length + 1 := length_putF f v fs
/-- what a new Whole is made of: rows in a list, each as long as deep, that echelon to the unit rows -/
def sp_Whole_init (K : PySem.W.Frag) : Sp := fun vs H Q _ => ∃ x dx a xs M d b, vs = [.ref x, .int (d : Nat), .ref a] ∧ H x = some (.ins (He.ga K "Whole") dx []) ∧ SqL K (wo [x] H) a xs ∧ RowsAt K (wo [x] H) xs M ∧ Okr d b M ∧ M.length ≤ 1000 ∧ d ≤ 4 ∧ b ≤ 60 ∧ ech d M = units d ∧
  ∀ H', IsWhole K H' x d (units d) → Same (wo [x] H) (wo [x] H') → Q .non H'
abbrev N_Whole_init : List Str := ["self", "deep", "rows", "at", "row"]
def t_Whole_init (K : PySem.W.Frag) : TS :=
  (tSeq (tFor (iEnum K (tCons (tVar 2) tNil)) (gTup K 2 (gCons (gName 3) (gCons (gName 4) gNil)))
    (tIfS (tTest (tOp (rNeU K) (tCB (rLenU K) (tCons (tVar 4) tNil)) (tVar 1))) tBotS tNext))
    (tSeq (sFld K (tVar 0) (tVar 1) "deep")
    (tSeq (sFld K (tVar 0) (tCall (sp_echelon K) [] E0 (tCons (tVar 1) (tCons (tVar 2) tNil))) "_told")
    (sFld K (tVar 0) (tCall (sp_rows_text K) [] E0 (tCons (tFld K (tVar 0) "_told") tNil)) "text"))))
theorem pure_Whole_init {K : PySem.W.Frag} (WF : WholeF K) (vs : List V) (H : Hp) (Q : VK) (E : XK) (h : sp_Whole_init K vs H Q E) : t_Whole_init K { nx := fun _ H' => Q .non H', rt := Q } (start N_Whole_init vs) H := by
  obtain ⟨x, dx, a, xs, M, d, b, rfl, hx, ha, hM, hok, hl, hd, hb, he, q⟩ := h
  show t_Whole_init K _ [some (.ref x), some (.int d), some (.ref a), none, none] H
  unfold t_Whole_init
  have ha' : SqL K H a xs := same_sql wo_le ha
  refine v_seq (v_for ?_)
  show tCons (tVar 2) tNil _ H _
  walk_at "vc"
  refine ⟨a, xs, rfl, ha', ?_⟩
  refine for_w walk_enum (fun i σ X => Same H X ∧ ∃ y z, σ = [some (.ref x), some (.int d), some (.ref a), y, z]) ⟨Same.refl _, _, _, rfl⟩ (fun i σ X _ h => same_sql h.1 ha') ?_ ?_
  · rintro i z σ X X' hi ⟨s1, y, w, rfl⟩ ⟨T, e1, e2, rfl, hT, rfl, h1, h2⟩
    have h1' : V.int (i : Nat) = e1 := Option.some.inj h1
    subst h1'
    have h2' : xs[i]? = some e2 := h2
    obtain ⟨r, hr, c, t, rfl, hc⟩ := hM.2 i _ h2'
    have s2 : Same H (upd X T (.tup [.int (i : Nat), .ref c])) := s1.trans (same_new hT)
    refine v_gtup (sqt_of upd_same) rfl ?_
    walk_at "vc"
    refine v_lenb (same_sqb (wo_le.trans s2) hc) ?_
    walk_at "vc"
    refine iF (by rw [List.length_map, (hok r (List.mem_of_getElem? hr)).1]; simp) ?_
    walk_at "vc"
    exact ⟨s2, _, _, rfl⟩
  · rintro σ X ⟨s1, y, w, rfl⟩
    have hx1 := s1 _ _ hx
    walk_at "vc"
    refine ⟨x, _, dx, [], rfl, hx1, WF.cl, WF.n1, by decide, ?_⟩
    generalize hX1 : upd X x (HO.ins (He.ga K "Whole") dx (putF "deep" (V.int (d : Nat)) [])) = X1
    have hx2 : X1 x = some (.ins (He.ga K "Whole") dx (putF "deep" (V.int (d : Nat)) [])) := by rw [← hX1, upd_same]
    have k1 : Same (wo [x] H) (wo [x] X1) := (wo_mono s1).trans (by rw [← hX1]; exact wo_upd (by simp))
    have kx : Kn [x] X1 := fun z hz => by rw [List.mem_singleton.mp hz]; exact ne_some hx2
    walk_at "vc"
    refine ⟨.ref a, M, d, b, [x], rfl, kx, ⟨a, false, xs, rfl, same_sql k1 ha, rows_same k1 hM⟩, hok, hl, by omega, hb, fun l ls X2 hl2 hln htl s2 => ?_⟩
    have hx3 := s2 _ _ hx2
    have nlx : l ≠ x := fun z => by subst z; rw [hx2] at hln; cases hln
    walk_at "vc"
    refine ⟨x, _, dx, _, rfl, hx3, WF.cl, WF.n2, by have := putF_len "deep" (V.int (d : Nat)) []; simp at this; omega, ?_⟩
    generalize hfs : putF "_told" (V.ref l) (putF "deep" (V.int (d : Nat)) []) = fs
    have f1 : fs.lookup ("deep" : Str) = some (.int (d : Nat)) := by rw [← hfs, lookup_putF, lookup_putF]; rfl
    have f2 : fs.lookup ("_told" : Str) = some (.ref l) := by rw [← hfs, lookup_putF]; rfl
    have f3 : fs.length ≤ 2 := by
      have e1 := putF_len "_told" (V.ref l) (putF "deep" (V.int (d : Nat)) [])
      have e2 := putF_len "deep" (V.int (d : Nat)) []
      rw [hfs] at e1
      simp at e2
      omega
    generalize hX3 : upd X2 x (HO.ins (He.ga K "Whole") dx fs) = X3
    have hx4 : X3 x = some (.ins (He.ga K "Whole") dx fs) := by rw [← hX3, upd_same]
    have k2 : Same (wo [x] X2) (wo [x] X3) := by rw [← hX3]; exact wo_upd (by simp)
    have hl3 : X3 l = some (.lst ls) := by rw [← hX3, upd_ne nlx]; exact hl2
    have ht3 : TupsAt K (wo [x] X3) ls (units d) := tups_same k2 (he ▸ htl)
    walk_at "vc"
    refine ⟨x, _, dx, fs, _, rfl, hx4, WF.cl, WF.n2, f2, ?_⟩
    walk_at "vc"
    refine ⟨l, ls, units d, rfl, SqL.of hl3, rows_same wo_le (tups_rows ht3), units_01 hd, by simp [units]; omega, fun z X4 s4 => ?_⟩
    walk_at "vc"
    refine ⟨x, _, dx, fs, rfl, s4 _ _ hx4, WF.cl, WF.n3, by omega, ?_⟩
    have k5 : Same (wo [x] X4) (wo [x] (upd X4 x (.ins (He.ga K "Whole") dx (putF "text" (.str z) fs)))) := wo_upd (by simp)
    have k35 := (wo_mono s4).trans k5
    refine q _ ⟨dx, putF "text" (.str z) fs, l, ls, upd_same, ?_, ?_, SqL.of ?_, tups_same (k35.trans wo_le) ht3⟩ ((k1.trans (wo_mono s2)).trans (k2.trans k35))
    · rw [lookup_putF]
      exact f1
    · rw [lookup_putF]
      exact f2
    · exact (k35.trans wo_le) _ _ (wo_at hl3 (by simpa using nlx))
/-- a new instance beside what stands -/
theorem same_ins {H : Hp} {x dx : Addr} {o u : HO} (hx : H x = none) (hd : H dx = none) (ne : dx ≠ x) : Same H (wo [x] (upd (upd H dx o) x u)) := fun a w h => by
  have e1 : a ≠ x := ne_of_none h hx
  have e2 : a ≠ dx := ne_of_none h hd
  rw [wo_out (by simpa using e1), upd_ne e1, upd_ne e2]
  exact h
def sp_Whole_everything (K : PySem.W.Frag) : Sp := fun vs H Q _ => ∃ d, vs = [.int (d : Nat)] ∧ d ≤ 4 ∧ ech d (units d) = units d ∧ ∀ p H', IsWhole K H' p d (units d) → Same H H' → Q (.ref p) H'
abbrev N_Whole_everything : List Str := ["deep"]
def t_Whole_everything (K : PySem.W.Frag) : TS :=
  (tRet (tNd (He.ga K "Whole") (sp_Whole_init K) (tCons (tVar 0) (tCons (tCall (sp_unit_rows K) [] E0 (tCons (tVar 0) tNil)) tNil))))
theorem units_okr {d : Nat} (h : d ≤ 4) : Okr d 1 (units d) := fun r hr => (by decide +kernel : ∀ d, d ≤ 4 → ∀ r, r ∈ units d → r.length = d ∧ ∀ x, x ∈ r → x.natAbs < 2 ^ 1) d h r hr
theorem pure_Whole_everything {K : PySem.W.Frag} (vs : List V) (H : Hp) (Q : VK) (E : XK) (h : sp_Whole_everything K vs H Q E) : t_Whole_everything K { nx := fun _ H' => Q .non H', rt := Q } (start N_Whole_everything vs) H := by
  obtain ⟨d, rfl, hd, he, q⟩ := h
  show t_Whole_everything K _ [some (.int d)] H
  unfold t_Whole_everything
  walk_at "vc"
  refine ⟨d, [], rfl, kn_nil, by omega, fun a xs H1 ha hn hr s1 => ?_⟩
  walk_at "vc"
  intro x dx hx hdx ne
  have si := same_ins (o := .own x) (u := .ins (He.ga K "Whole") dx []) hx hdx ne
  exact ⟨x, dx, a, xs, units d, d, 1, rfl, upd_same, same_sql si (SqL.of ha), rows_same (wo_le.trans si) hr, units_okr hd, by simp [units]; omega, hd, by decide, he, fun H' hw s => ⟨rfl, q x H' hw ((s1.trans si).trans (s.trans wo_le))⟩⟩

end
section
abbrev N_law_steps : List Str := ["bag", "d", "found", "k", "i", "j", "c", "x", "y"]
def t_law_steps (K : PySem.W.Frag) : TS :=
  (tSeq (tAsg (tLc (iRng1 (tCons (tVar 1) tNil)) (gName 3) tYes (tCB (rTupOf K) (tCons (tLc (iRng1 (tCons (tVar 1) tNil)) (gName 5) tYes (tCB rInt1 (tCons (tOp (rEqU K) (tVar 5) (tVar 3)) tNil)) [5]) tNil)) [3]) (gName 2))
    (tSeq (tFor (iRng1 (tCons (tCall (sp_law_of K) [] E0 (tCons (tVar 0) (tCons (tLst (tCons (tC (.int 3)) (tCons (tC (.int 1)) (tCons (tC (.int 6)) (tCons (tC (.int 9)) (tCons (tC (.int 2)) (tCons (tC (.int 0)) tNil))))))) tNil))) tNil)) (gName 3)
    (tSeq (tAsg (tTup (tCons (tCall (sp_law_draw K) [] E0 (tCons (tVar 0) (tCons (tVar 1) tNil))) (tCons (tCall (sp_law_draw K) [] E0 (tCons (tVar 0) (tCons (tVar 1) tNil))) (tCons (tCall (sp_law_of K) [] E0 (tCons (tVar 0) (tCons (tLst (tCons (tC (.int 1)) (tCons (tUn rNegI (tC (.int 1))) (tCons (tC (.int 2)) (tCons (tUn rNegI (tC (.int 3))) tNil))))) tNil))) tNil)))) (gTup K 3 (gCons (gName 4) (gCons (gName 5) (gCons (gName 6) gNil)))))
    (tIfS (tTest (tOp (rEqU K) (tVar 4) (tVar 5))) (tAsg (tCB (rTupOf K) (tCons (tLc (iSq K (tOp (rIx K) (tVar 2) (tVar 4))) (gName 7) tYes (tOp rSubI (tC (.int 0)) (tVar 7)) [7]) tNil)) (gSub (tVar 2) (tVar 4) rSetL)) (tIfS (tTest (tOp (rEqU K) (tCall (sp_law_draw K) [] E0 (tCons (tVar 0) (tCons (tC (.int 4)) tNil))) (tC (.int 0)))) (tAsg (tTup (tCons (tOp (rIx K) (tVar 2) (tVar 5)) (tCons (tOp (rIx K) (tVar 2) (tVar 4)) tNil))) (gTup K 2 (gCons (gSub (tVar 2) (tVar 4) rSetL) (gCons (gSub (tVar 2) (tVar 5) rSetL) gNil)))) (tAsg (tCB (rTupOf K) (tCons (tLc (iZipU K (tCons (tOp (rIx K) (tVar 2) (tVar 4)) (tCons (tOp (rIx K) (tVar 2) (tVar 5)) tNil))) (gTup K 2 (gCons (gName 7) (gCons (gName 8) gNil))) tYes (tOp (rAddU K) (tVar 7) (tOp rMulU (tVar 6) (tVar 8))) [7, 8]) tNil)) (gSub (tVar 2) (tVar 4) rSetL))))))
    (tRet (tVar 2))))
theorem kp_more {a b : Addr} {X X' : Hp} (k : Kp b X X') : Same (wo [a, b] X) (wo [a, b] X') := wo_same fun z hz o h => by
  refine kp_get k (fun e => hz (by simp [e])) h
theorem mut_more {a b : Addr} {X : Hp} {o : HO} : Same (wo [a, b] X) (wo [a, b] (upd X a o)) := wo_upd (by simp)
theorem tups_set {K : PySem.W.Frag} {H : Hp} {xs : List V} {M : List (List Int)} {i : Nat} {c : Addr} {r : List Int} (h : TupsAt K H xs M) (k : SqT K H c (r.map V.int)) : TupsAt K H (xs.set i (.ref c)) (M.set i r) := ⟨by simp [h.1], fun j x hx => by
  rw [List.getElem?_set] at hx ⊢
  rw [← h.1]
  split at hx
  · rename_i e
    split at hx
    · rename_i hl
      rw [if_pos e, if_pos hl]
      exact ⟨r, c, rfl, (Option.some.inj hx).symm, k⟩
    · cases hx
  · rename_i e
    rw [if_neg e]
    exact h.2 j x hx⟩
theorem ixn_nat {n i : Nat} (h : i < n) : ixN n (i : Int) = some i := by
  unfold ixN
  rw [if_pos (by omega), if_pos (by omega)]
  rfl
theorem int_in {ys : List Int} {i : Nat} {y : V} (h : (ys.map V.int)[i]? = some y) : ∃ n, n ∈ ys ∧ y = .int n := by
  obtain ⟨n, hn, e⟩ := int_of h
  exact ⟨n, List.mem_of_getElem? hn, e⟩
/-- law_of over a new list of numbers -/
theorem of_ints {K : PySem.W.Frag} {b : Addr} {g : Addr × List Int} {X : Hp} {t : Addr} {ys : List Int} {Q : VK} {E : XK} (B : Bag K X b g) (ht : X t = none) (h0 : 0 < ys.length) (h1 : ys.length ≤ 1000) (q : ∀ n H', n ∈ ys → Bag K H' b g → Kp b X H' → Q (.int n) H') : sp_law_of K [.ref b, .ref t] (upd X t (.lst (ys.map V.int))) Q E := by
  refine ⟨b, _, g, rfl, B.new ht, .inl ⟨t, _, rfl, .inl (SqL.of (wo_at upd_same (by simpa using B.ne ht))), by rw [List.length_map]; exact h0, by rw [List.length_map, sizeLine_eq]; omega, fun i y H2 hy B2 K2 => ?_⟩⟩
  obtain ⟨n, hn, rfl⟩ := int_in hy
  exact q n H2 hn B2 ((kp_new1 ht).trans K2)
/-- rows that the law holds: tuples in a list at a, beside the bag at b -/
def Held (K : PySem.W.Frag) (X : Hp) (b a : Addr) (d c : Nat) (M : List (List Int)) : Prop := ∃ xs, X a = some (.lst xs) ∧ TupsAt K (wo [a, b] X) xs M ∧ ∀ r, r ∈ M → r.length = d ∧ Bd c r
theorem held_kp {K : PySem.W.Frag} {X X' : Hp} {b a : Addr} {d c : Nat} {M : List (List Int)} (h : Held K X b a d c M) (ne : a ≠ b) (k : Kp b X X') : Held K X' b a d c M := by
  obtain ⟨xs, h1, h2, h3⟩ := h
  exact ⟨xs, kp_get k ne h1, tups_same (kp_more k) h2, h3⟩
def sp_law_steps (K : PySem.W.Frag) : Sp := fun vs H Q _ => ∃ b d g, vs = [.ref b, .int (d : Nat)] ∧ 1 ≤ d ∧ d ≤ 4 ∧ Bag K H b g ∧ ∀ a M H', H a = none → Held K H' b a d 20 M → M.length = d → Bag K H' b g → Kp b H H' → Q (.ref a) H'
theorem pure_law_steps {K : PySem.W.Frag} (vs : List V) (H : Hp) (Q : VK) (E : XK) (h : sp_law_steps K vs H Q E) : t_law_steps K { nx := fun _ H' => Q .non H', rt := Q } (start N_law_steps vs) H := by
  obtain ⟨b, d, g, rfl, hd1, hd, B, q⟩ := h
  have hS : Kn [b] H := fun a ha => by rw [List.mem_singleton.mp ha]; exact B.some
  show t_law_steps K _ [some (.ref b), some (.int d), none, none, none, none, none, none, none] H
  unfold t_law_steps
  walk_at "vc"
  refine v_irr (j := d) ⟨by omega, by omega⟩ ?_
  rw [show (d : Int).toNat = d by omega]
  refine lc_acc walk_range [b] hS (fun i acc A => TupsAt K A acc ((units d).take i)) (fun i acc A B e h => tups_same e h) (by omega) (fun _ _ => trivial) ⟨rfl, fun i x h => by simp at h⟩ ?_ ?_
  · rintro D i x H1 H2 acc hi hD hD1 s1 ⟨rfl, rfl⟩ hacc kn R R0 hR _
    refine v_name ⟨rfl, v_yes (iT rfl ?_)⟩
    walk_at "vc"
    refine v_irr (j := d) ⟨by omega, by omega⟩ ?_
    rw [show (d : Int).toNat = d by omega]
    refine lc_fn (fun j => .int (if j = i then 1 else 0)) (by omega) (fun j H3 R' hj r => ?_) (fun _ => rfl) fun l hl => ?_
    · walk_at "vc"
      refine .inr ⟨_, rfl, ?_⟩
      by_cases e : j = i
      · rw [decide_eq_true (by omega)]
        rw [if_pos e] at r
        exact r
      · rw [decide_eq_false (by omega)]
        rw [if_neg e] at r
        exact r
    walk_at "vc"
    refine v_tuple (SqL.of upd_same) fun T hT => ?_
    have gi : (units d)[i]? = some ((List.range d).map fun j => if j = i then 1 else 0) := by
      unfold units
      rw [List.getElem?_map, List.getElem?_range hi]
      rfl
    have sT := (same_new (o := .lst ((List.range d).map fun j => V.int (if j = i then 1 else 0))) hl).trans (same_new (o := .tup ((List.range d).map fun j => V.int (if j = i then 1 else 0))) hT)
    refine hR _ _ ?_ sT
    rw [take_succ_get gi]
    refine tups_snoc (tups_same (wo_mono sT) hacc) (sqt_of (wo_at ?_ ?_))
    · rw [upd_same, List.map_map]
      rfl
    · exact kn_new (kn_same kn (same_new hl)) hT
  · rintro a H1 xs0 ha s1 hl1 _ hr
    rw [List.take_of_length_le (by simp [units])] at hr
    have nab := B.ne ha
    have B1 := B.same s1
    walk_at "vc"
    refine ⟨by show 6 ≤ sizeLine; rw [sizeLine_eq]; decide, fun t ht => ?_⟩
    walk_at "vc"
    refine of_ints (ys := [3, 1, 6, 9, 2, 0]) B1 ht (by decide) (by decide) fun n H2 hn B2 K2 => ?_
    have hn9 : 0 ≤ n ∧ n ≤ 9 := (by decide : ∀ n : Int, n ∈ [3, 1, 6, 9, 2, 0] → 0 ≤ n ∧ n ≤ 9) n hn
    walk_at "vc"
    refine v_irr (j := n) ⟨by omega, by omega⟩ ?_
    refine for_r (fun t σ X => ∃ M z3 z4 z5 z6 z7 z8, σ = [some (.ref b), some (.int d), some (.ref a), z3, z4, z5, z6, z7, z8] ∧ Held K X b a d (1 + 2 * t) M ∧ M.length = d ∧ Bag K X b g ∧ Kp b H X) ⟨units d, _, _, _, _, _, _, rfl, ⟨xs0, kp_get K2 nab hl1, tups_same (kp_more K2) hr, fun r hr => units_okr hd r hr⟩, by simp [units], B2, (kp_same s1).trans K2⟩ ?_ ?_
    · rintro t σ X ht ⟨M, z3, z4, z5, z6, z7, z8, rfl, hM, lM, BX, KX⟩
      have t9 : t < 9 := by omega
      walk_at "vc"
      refine ⟨b, _, g, rfl, BX, by omega, fun i X1 i0 i1 B1 K1 => ?_⟩
      obtain ⟨i, rfl⟩ : ∃ n : Nat, i = n := ⟨i.toNat, by omega⟩
      have li : i < d := by omega
      walk_at "vc"
      refine ⟨b, _, g, rfl, B1, by omega, fun j X2 j0 j1 B2 K2 => ?_⟩
      obtain ⟨j, rfl⟩ : ∃ n : Nat, j = n := ⟨j.toNat, by omega⟩
      have lj : j < d := by omega
      walk_at "vc"
      refine ⟨by show 4 ≤ sizeLine; rw [sizeLine_eq]; decide, fun tl htl => ?_⟩
      walk_at "vc"
      refine of_ints (ys := [1, -1, 2, -3]) B2 htl (by decide) (by decide) fun c X3 hc B3 K3 => ?_
      have hc3 : c.natAbs ≤ 3 := (by decide : ∀ n : Int, n ∈ [1, -1, 2, -3] → n.natAbs ≤ 3) c hc
      walk_at "vc"
      refine ⟨by show 3 ≤ sizeLine; rw [sizeLine_eq]; decide, fun T hT => ?_⟩
      refine v_gtup (sqt_of upd_same) rfl ?_
      have B4 := B3.new (o := .tup [.int (i : Nat), .int (j : Nat), .int c]) hT
      have K14 := K1.trans (K2.trans (K3.trans (kp_new1 (o := .tup [.int (i : Nat), .int (j : Nat), .int c]) hT)))
      have hM4 := held_kp hM nab K14
      have KX4 := KX.trans K14
      generalize upd X3 T (.tup [.int (i : Nat), .int (j : Nat), .int c]) = X4 at *
      obtain ⟨xs, h1, h2, h3⟩ := hM4
      have hi : M[i]? = some M[i] := List.getElem?_eq_getElem (by omega)
      have hj : M[j]? = some M[j] := List.getElem?_eq_getElem (by omega)
      generalize hri : M[i] = ri at hi
      generalize hrj : M[j] = rj at hj
      obtain ⟨ai, xi, ti⟩ := tups_get h2 hi
      obtain ⟨aj, xj, tj⟩ := tups_get h2 hj
      obtain ⟨lri, bri⟩ := h3 ri (List.mem_of_getElem? hi)
      obtain ⟨lrj, brj⟩ := h3 rj (List.mem_of_getElem? hj)
      have lx : xs.length = d := by rw [h2.1, lM]
      have hc0 := B.cells
      walk_at "vc"
      -- the end of each way: the new rows in found
      have fin : ∀ {Y : Hp} {ys : List V} {N : List (List Int)} (w3 w4 w5 w6 w7 w8 : Option V), Kp b X4 Y → Bag K Y b g → Y a = some (.lst xs) → TupsAt K (wo [a, b] Y) ys N → N.length = d → (∀ r, r ∈ N → r.length = d ∧ Bd (1 + 2 * (t + 1)) r) →
          ∃ M z3 z4 z5 z6 z7 z8, [some (.ref b), some (.int (d : Nat)), some (.ref a), w3, w4, w5, w6, w7, w8] = [some (.ref b), some (.int (d : Nat)), some (.ref a), z3, z4, z5, z6, z7, z8] ∧ Held K (upd Y a (.lst ys)) b a d (1 + 2 * (t + 1)) M ∧ M.length = d ∧ Bag K (upd Y a (.lst ys)) b g ∧ Kp b H (upd Y a (.lst ys)) := fun w3 w4 w5 w6 w7 w8 k BY hY ht hl hb =>
        ⟨_, w3, w4, w5, w6, w7, w8, rfl, ⟨_, upd_same, tups_same mut_more ht, hb⟩, hl, BY.mut hc0 (KX4.trans k) ha nab, kp_mut (KX4.trans k) ha⟩
      have keepM : ∀ r, r ∈ M → r.length = d ∧ Bd (1 + 2 * (t + 1)) r := fun r hr => ⟨(h3 r hr).1, (h3 r hr).2.mono (by omega)⟩
      have setM : ∀ {N : List (List Int)} {k : Nat} {r : List Int}, (∀ x, x ∈ N → x.length = d ∧ Bd (1 + 2 * (t + 1)) x) → r.length = d ∧ Bd (1 + 2 * (t + 1)) r → ∀ x, x ∈ N.set k r → x.length = d ∧ Bd (1 + 2 * (t + 1)) x := fun hN hr x hx => by
        rcases List.mem_or_eq_of_mem_set hx with h | h
        · exact hN x h
        · rw [h]
          exact hr
      refine ite2 (fun e => ?_) (fun e => ?_)
      · walk_at "vc"
        refine v_ixl (SqL.of h1) (atI_nat xi) ?_
        refine v_sqr (k := true) (same_sqt wo_le ti) ?_
        have kn4 : Kn [a, b] X4 := fun z hz => by
          rcases List.mem_cons.mp hz with e | e
          · rw [e]; exact ne_some h1
          · rw [List.mem_singleton.mp e]; exact B4.some
        refine lc_acc walk_sq [a, b] kn4 (fun k acc A => acc = ((ri.take k).map (0 - ·)).map V.int) (fun _ _ _ _ _ h => h) (by rw [List.length_map]; omega) (fun H' e => same_sqt e (same_sqt wo_le ti)) rfl ?_ ?_
        · rintro D k x H1 H2 acc hk hD hD1 s1 ⟨rfl, hx⟩ rfl kn R R0 hR _
          obtain ⟨n, hn, rfl⟩ := int_of hx
          refine v_name ⟨rfl, v_yes (iT rfl ?_)⟩
          walk_at "vc"
          refine hR _ _ ?_ (Same.refl _)
          rw [take_succ_get hn, List.map_append, List.map_append]
          rfl
        · rintro D X5 acc hD s5 hl5 _ rfl
          rw [List.length_map, List.take_length] at hl5
          walk_at "vc"
          refine v_tuple (SqL.of hl5) fun P hP => ?_
          have sP := s5.trans (same_new (o := .tup ((ri.map (0 - ·)).map V.int)) hP)
          have k5 : Kp b X4 (upd X5 P (.tup ((ri.map (0 - ·)).map V.int))) := kp_same sP
          walk_at "vc"
          refine v_setl (sP _ _ h1) (ixn_nat (by omega)) ?_
          refine fin (N := M.set i (ri.map (0 - ·))) _ _ _ _ _ _ k5 (B4.same sP) (sP _ _ h1) (tups_set (tups_same (kp_more k5) h2) (sqt_of (wo_at upd_same (kn_new (kn_same kn4 s5) hP)))) (by simp [lM]) (setM keepM ⟨by rw [List.length_map]; exact lri, fun x hx => ?_⟩)
          obtain ⟨y, hy, rfl⟩ := List.mem_map.mp hx
          have := bri.mono (b := 1 + 2 * (t + 1)) (by omega) y hy
          omega
      · walk_at "vc"
        refine ⟨b, 4, g, rfl, B4, by decide, fun w X5 w0 w1 B5 K5 => ?_⟩
        have h15 := kp_get K5 nab h1
        have h25 := tups_same (kp_more K5) h2
        obtain ⟨ai', xi', ti'⟩ := tups_get h25 hi
        obtain ⟨aj', xj', tj'⟩ := tups_get h25 hj
        have kn5 : Kn [a, b] X5 := fun z hz => by
          rcases List.mem_cons.mp hz with e | e
          · rw [e]; exact ne_some h15
          · rw [List.mem_singleton.mp e]; exact B5.some
        walk_at "vc"
        refine ite2 (fun e2 => ?_) (fun e2 => ?_)
        · walk_at "vc"
          refine v_ixl (SqL.of h15) (atI_nat xj') ?_
          walk_at "vc"
          refine v_ixl (SqL.of h15) (atI_nat xi') ?_
          walk_at "vc"
          refine ⟨by show 2 ≤ sizeLine; rw [sizeLine_eq]; decide, fun P hP => ?_⟩
          have sP := same_new (o := .tup [.ref aj', .ref ai']) hP
          refine v_gtup (sqt_of upd_same) rfl ?_
          walk_at "vc"
          refine v_setl (sP _ _ h15) (ixn_nat (by omega)) ?_
          walk_at "vc"
          refine v_setl upd_same (ixn_nat (by rw [List.length_set]; omega)) ?_
          rw [upd_upd]
          walk_at "vc"
          have k5 : Kp b X4 (upd X5 P (.tup [.ref aj', .ref ai'])) := K5.trans (kp_same sP)
          have h2P := tups_same (wo_mono (S := [a, b]) sP) h25
          refine fin (N := (M.set i rj).set j ri) _ _ _ _ _ _ k5 (B5.same sP) (sP _ _ h15) (tups_set (tups_set h2P (same_sqt (wo_mono (S := [a, b]) sP) tj')) (same_sqt (wo_mono (S := [a, b]) sP) ti')) (by simp [lM]) (setM (setM keepM (keepM rj (List.mem_of_getElem? hj))) (keepM ri (List.mem_of_getElem? hi)))
        · walk_at "vc"
          refine v_ixl (SqL.of h15) (atI_nat xi') ?_
          walk_at "vc"
          refine v_ixl (SqL.of h15) (atI_nat xj') ?_
          walk_at "vc"
          refine v_zur (k := true) (k2 := true) (same_sqt wo_le ti') (same_sqt wo_le tj') ?_
          refine lc_acc (walk_zipM (xs := ri.map V.int) (ys := rj.map V.int) rfl (by rw [List.length_map, List.length_map]; omega)) [a, b] kn5 (fun k acc A => acc = ((List.zipWith (fun x y => x + c * y) ri rj).take k).map V.int) (fun _ _ _ _ _ h => h) (by rw [List.length_map]; omega) (fun H' e => ⟨same_sqt e (same_sqt wo_le ti'), same_sqt e (same_sqt wo_le tj')⟩) rfl ?_ ?_
          · rintro D k x H1 H2 acc hk hD hD1 s1 ⟨P, x1, x2, rfl, hP, rfl, e1, e2⟩ rfl kn R R0 hR _
            obtain ⟨n, hn, rfl⟩ := int_of e1
            obtain ⟨m, hm, rfl⟩ := int_of e2
            refine v_gtup (sqt_of upd_same) rfl ?_
            walk_at "vc"
            refine ⟨rfl, v_yes (iT rfl ?_)⟩
            walk_at "vc"
            refine v_muli (cmul_l (by omega) (by omega)) ?_
            walk_at "vc"
            refine hR _ _ ?_ (same_new hP)
            have gk : (List.zipWith (fun x y => x + c * y) ri rj)[k]? = some (n + c * m) := by rw [List.getElem?_zipWith, hn, hm]
            rw [take_succ_get gk, List.map_append]
            rfl
          · rintro D X6 acc hD s6 hl6 _ rfl
            have zl : (List.zipWith (fun x y => x + c * y) ri rj).length = d := by rw [List.length_zipWith]; omega
            rw [List.take_of_length_le (by rw [zl, List.length_map]; omega)] at hl6
            walk_at "vc"
            refine v_tuple (SqL.of hl6) fun P hP => ?_
            have sP := s6.trans (same_new (o := .tup ((List.zipWith (fun x y => x + c * y) ri rj).map V.int)) hP)
            have k5 : Kp b X4 (upd X6 P (.tup ((List.zipWith (fun x y => x + c * y) ri rj).map V.int))) := K5.trans (kp_same sP)
            walk_at "vc"
            refine v_setl (sP _ _ h15) (ixn_nat (by omega)) ?_
            refine fin (N := M.set i (List.zipWith (fun x y => x + c * y) ri rj)) _ _ _ _ _ _ k5 (B5.same sP) (sP _ _ h15) (tups_set (tups_same (wo_mono (S := [a, b]) sP) h25) (sqt_of (wo_at upd_same (kn_new (kn_same kn5 s6) hP)))) (by simp [lM]) (setM keepM ⟨zl, fun x hx => ?_⟩)
            obtain ⟨k, hk⟩ := List.getElem?_of_mem hx
            rw [List.getElem?_zipWith] at hk
            cases e1 : ri[k]? with
            | none => rw [e1] at hk; cases hk
            | some n =>
              cases e2 : rj[k]? with
              | none => rw [e1, e2] at hk; cases hk
              | some m =>
                rw [e1, e2] at hk
                have ex : n + c * m = x := Option.some.inj hk
                have q1 := bri n (List.mem_of_getElem? e1)
                have q2 := brj m (List.mem_of_getElem? e2)
                have q3 : (c * m).natAbs ≤ 3 * m.natAbs := by rw [Int.natAbs_mul]; exact Nat.mul_le_mul_right _ hc3
                have q4 : 2 ^ (1 + 2 * (t + 1)) = 4 * 2 ^ (1 + 2 * t) := by
                  rw [show 1 + 2 * (t + 1) = (1 + 2 * t) + 2 by omega, Nat.pow_add, Nat.mul_comm]
                rw [← ex, q4]
                omega
    · rintro σ X ⟨M, z3, z4, z5, z6, z7, z8, rfl, hM, lM, BX, KX⟩
      walk_at "vc"
      obtain ⟨xs, h1, h2, h3⟩ := hM
      exact q a M X ha ⟨xs, h1, h2, fun r hr => ⟨(h3 r hr).1, (h3 r hr).2.mono (by omega)⟩⟩ lM BX KX

end
section

def gG_is_basis {α : Type} (us ws : List α) : List α := match us, ws with
  | [], [x, y] => [y, x]
  | _, _ => []
abbrev gV_is_basis : List V → List V → List V := gG_is_basis
theorem rl_is_basis {vs : List V} {us : List Value} {zs : List V} {ws : List Value} (r : Vals vs us) (k : Vals zs ws) : Vals (gG_is_basis vs zs) (gG_is_basis us ws) := match vs, us, r, zs, ws, k with
  | [], _, .nil, [_, _], _, .cons a (.cons b .nil) => .cons b (.cons a .nil)
  | [], _, .nil, [], _, .nil => .nil
  | [], _, .nil, [_], _, .cons _ .nil => .nil
  | [], _, .nil, _ :: _ :: _ :: _, _, .cons _ (.cons _ (.cons _ _)) => .nil
  | _ :: _, _, .cons _ _, _, _, _ => .nil
theorem v_callk {sp : Sp} {gV : List V → List V → List V} {E : XK} {t tk : TA} {σ : L2.St} {H : Hp} {Q : VK} (q : t σ H fun vs H1 => tk σ H1 fun zs H2 => sp (gV vs zs) H2 Q E) : tCallK sp gV E t tk σ H Q := q
theorem tups_cons {K : PySem.W.Frag} {H : Hp} {x : V} {xs : List V} {r : List Int} {M : List (List Int)} (h : ∃ a, x = .ref a ∧ SqT K H a (r.map V.int)) (k : TupsAt K H xs M) : TupsAt K H (x :: xs) (r :: M) := ⟨by simp [k.1], fun i y hy => by
  cases i with
  | zero =>
    obtain ⟨a, e, h⟩ := h
    have ey : x = y := by simpa using hy
    exact ⟨r, a, rfl, ey ▸ e, h⟩
  | succ i => 
    obtain ⟨r', a, h1, h2, h3⟩ := k.2 i y (by simpa using hy)
    exact ⟨r', a, by simpa using h1, h2, h3⟩⟩
theorem tups_uncons {K : PySem.W.Frag} {H : Hp} {x : V} {xs : List V} {M : List (List Int)} (h : TupsAt K H (x :: xs) M) : ∃ r N, M = r :: N ∧ (∃ a, x = .ref a ∧ SqT K H a (r.map V.int)) ∧ TupsAt K H xs N := by
  cases M with
  | nil => exact absurd h.1 (by simp)
  | cons r N =>
    refine ⟨r, N, rfl, ?_, by have := h.1; simpa using this, fun i y hy => ?_⟩
    · obtain ⟨r', a, h1, h2, h3⟩ := h.2 0 x rfl
      cases h1
      exact ⟨a, h2, h3⟩
    · obtain ⟨r', a, h1, h2, h3⟩ := h.2 (i + 1) y (by simpa using hy)
      exact ⟨r', a, by simpa using h1, h2, h3⟩
theorem tups_perm {K : PySem.W.Frag} {H : Hp} {xs ys : List V} (p : xs.Perm ys) : ∀ {M : List (List Int)}, TupsAt K H xs M → ∃ N, TupsAt K H ys N ∧ M.Perm N := by
  induction p with
  | nil => exact fun h => ⟨_, h, List.Perm.refl _⟩
  | cons x _ ih =>
    intro M h
    obtain ⟨r, N, rfl, h1, h2⟩ := tups_uncons h
    obtain ⟨N', h3, p3⟩ := ih h2
    exact ⟨r :: N', tups_cons h1 h3, p3.cons r⟩
  | swap x y l =>
    intro M h
    obtain ⟨r, N, rfl, h1, h2⟩ := tups_uncons h
    obtain ⟨s, N', rfl, h3, h4⟩ := tups_uncons h2
    exact ⟨s :: r :: N', tups_cons h3 (tups_cons h1 h4), List.Perm.swap s r N'⟩
  | trans _ _ ih1 ih2 =>
    intro M h
    obtain ⟨N, h1, p1⟩ := ih1 h
    obtain ⟨N', h2, p2⟩ := ih2 h1
    exact ⟨N', h2, p1.trans p2⟩
theorem fit_mat {M : List (List Int)} (h : M.length ≤ 1000) (hr : ∀ r, r ∈ M → r.length ≤ 1000) : fit 12 (matD M) := by
  refine ⟨by rw [List.length_map]; omega, fun d hd => ?_⟩
  obtain ⟨r, hm, rfl⟩ := List.mem_map.mp hd
  refine ⟨by rw [List.length_map]; have := hr r hm; omega, fun e he => ?_⟩
  obtain ⟨n, _, rfl⟩ := List.mem_map.mp he
  trivial
def dueB (d : Nat) (M : List (List Int)) : Bool := decide (M.length = d) && decide (lap d M = 1 ∨ lap d M = -1)
theorem due_any {d : Nat} (h1 : 1 ≤ d) (h4 : d ≤ 4) {M N : List (List Int)} (p : M.Perm N) (hr : ∀ r, r ∈ M → r.length = d) : (decide (N.length = d) && decide (bar d 1 N = 1)) = dueB d M := by
  unfold dueB
  by_cases c : M.length = d
  · rw [← p.length_eq, decide_eq_true c, due_bar h1 h4 p c hr]
  · rw [← p.length_eq, decide_eq_false c]
    rfl
def sp_law_basis_so (K : PySem.W.Frag) : Sp := fun vs H Q _ => ∃ b a d g xs M, vs = [.ref b, .ref a, .int (d : Nat)] ∧ 1 ≤ d ∧ d ≤ 4 ∧ Bag K H b g ∧ SqL K (wo [b] H) a xs ∧ TupsAt K (wo [b] H) xs M ∧ (∀ r, r ∈ M → r.length = d ∧ Bd 23 r) ∧ M.length ≤ 5 ∧ ∀ H', Bag K H' b g → Kp b H H' → Q (.bl true) H'
abbrev N_law_basis_so : List Str := ["bag", "base", "d", "due", "passed", "told"]
def t_law_basis_so (K : PySem.W.Frag) : TS :=
  (tSeq (tAsg (tAndV (tOp (rEqU K) (tCB (rLenU K) (tCons (tVar 1) tNil)) (tVar 2)) (tOp (rInU K) (tCall (sp_law_sum K 6) [] E0 (tCons (tVar 1) tNil)) (tLst (tCons (tC (.int 1)) (tCons (tOp rSubI (tC (.int 0)) (tC (.int 1))) tNil))))) (gName 3))
    (tSeq (tAsg (tCB (rListOf K) (tCons (tVar 1) tNil)) (gName 4))
    (tSeq (tAsg (tLst (tCons (tCall (sp_is_basis K) [] E0 (tCons (tVar 2) (tCons (tVar 4) tNil))) (tCons (tCallK (sp_is_basis K) gV_is_basis E0 tNil (tCons (tCB (rTupOf K) (tCons (tCall (sp_law_some K) [] E0 (tCons (tVar 0) (tCons (tVar 1) (tCons (tCB (rLenU K) (tCons (tVar 1) tNil)) tNil)))) tNil)) (tCons (tVar 2) tNil))) tNil))) (gName 5))
    (tSeq (tIfS (tOr (tNot (tB (tCall (sp_law_like K 12) [] E0 (tCons (tVar 5) (tCons (tLst (tCons (tVar 3) (tCons (tVar 3) tNil))) tNil))))) (tNot (tB (tCall (sp_law_like K 12) [] E0 (tCons (tVar 4) (tCons (tCB (rListOf K) (tCons (tVar 1) tNil)) tNil)))))) (tRet (tC (.bl false))) tNext)
    (tRet (tOrV (tNotV (tVar 3)) (tCall (sp_law_like K 12) [] E0 (tCons (tLst (tCons (tOp (rEqG (DIns (He.ga K "Whole") (WEq K))) (tNd (He.ga K "Whole") (sp_Whole_init K) (tCons (tVar 2) (tCons (tVar 1) tNil))) (tSd (He.ga K "Whole") (sp_Whole_everything K) (tC (.ref (He.ga K "Whole"))) (tCons (tVar 2) tNil))) tNil)) (tCons (tLst (tCons (tC (.bl true)) tNil)) tNil)))))))))
theorem pure_law_basis_so {K : PySem.W.Frag} (vs : List V) (H : Hp) (Q : VK) (E : XK) (h : sp_law_basis_so K vs H Q E) : t_law_basis_so K { nx := fun _ H' => Q .non H', rt := Q } (start N_law_basis_so vs) H := by
  obtain ⟨b, a, d, g, xs, M, rfl, h1, h4, B, ha, hM, hok, hl, q⟩ := h
  have ha' := same_sql wo_le ha
  show t_law_basis_so K _ [some (.ref b), some (.ref a), some (.int d), none, none, none] H
  unfold t_law_basis_so
  walk_at "vc"
  rw [hM.1]
  refine ite2 (fun c => ?w1) (fun c => ?w2)
  case' w1 =>
    have c2 : M.length = d := by have := of_decide_eq_true c; omega
    walk_at "vc"
    refine ⟨a, xs, M, d, 23, rfl, ha', tups_same wo_le hM, c2, hok, by omega, by omega, by decide, fun X s1 => ?_⟩
    walk_at "vc"
    refine ⟨by show 2 ≤ sizeLine; rw [sizeLine_eq]; decide, fun l hl2 => ?_⟩
    refine v_inl (SqL.of upd_same) rfl rfl ?_
    have e : inV (.int (lap d M)) [.int 1, .int (0 - 1)] = dueB d M := by
      unfold dueB
      rw [decide_eq_true c2, Bool.true_and]
      simp only [inV, eqV, List.any_cons, List.any_nil, Bool.or_false]
      rw [Bool.eq_iff_iff]
      simp only [Bool.or_eq_true, beq_iff_eq, decide_eq_true_eq]
      omega
    rw [e]
    have sY := s1.trans (same_new (o := .lst [.int 1, .int (0 - 1)]) hl2)
    generalize upd X l (.lst [.int 1, .int (0 - 1)]) = Y at *
    clear e hl2 s1 c2 c
  case' w2 =>
    have c2 : ¬M.length = d := fun z => c (decide_eq_true (by omega))
    have e : false = dueB d M := by
      unfold dueB
      rw [decide_eq_false c2]
      rfl
    rw [e]
    obtain ⟨Y, hY, sY⟩ : ∃ Y, Y = H ∧ Same H Y := ⟨H, rfl, Same.refl H⟩
    rw [← hY]
    clear e c2 c hY
  all_goals
    have haY := same_sql sY ha'
    have hMY := tups_same ((wo_le (S := [b])).trans sY) hM
    walk_at "vc"
    intro P hP
    have sP := same_new (o := .lst xs) hP
    walk_at "vc"
    refine ⟨d, _, M, 23, rfl, ⟨P, false, xs, rfl, sqb_lst upd_same, rows_same sP (tups_rows hMY)⟩, hok, by omega, h4, by decide, fun X2 s2 => ?_⟩
    have s02 := sY.trans (sP.trans s2)
    have hP2 := s2 _ _ upd_same
    refine v_callk ?_
    walk_at "vc"
    refine v_lenl (same_sql s02 ha') ?_
    walk_at "vc"
    refine ⟨b, a, _, g, xs, rfl, B.same s02, .inl (same_sql (wo_mono s02) ha), by rw [hM.1]; omega, by omega, by rw [hM.1]; omega, fun r X3 ys rest hr hr3 B3 K3 pm ln => ?_⟩
    have hrest : rest = [] := by
      have lp := pm.length_eq
      rw [List.length_append] at lp
      exact List.eq_nil_of_length_eq_zero (by omega)
    rw [hrest, List.append_nil] at pm
    have K03 := (kp_same s02).trans K3
    have hM3 := tups_same K03 hM
    obtain ⟨N, hN, pN⟩ := tups_perm pm.symm hM3
    have okN : ∀ z, z ∈ N → z.length = d ∧ Bd 23 z := fun z hz => hok z (pN.mem_iff.mpr hz)
    walk_at "vc"
    refine v_tuple (SqL.of hr3) fun T hT => ?_
    have sT := same_new (o := .tup ys) hT
    walk_at "vc"
    refine ⟨d, _, N, 23, rfl, ⟨T, true, ys, rfl, sqb_tup upd_same, rows_same (wo_le.trans sT) (tups_rows hN)⟩, okN, by rw [← pN.length_eq]; omega, h4, by decide, fun X5 s5 => ?_⟩
    rw [due_any h1 h4 (List.Perm.refl M) fun r hr => (hok r hr).1, due_any h1 h4 pN fun r hr => (hok r hr).1]
    have B5 := B3.same (sT.trans s5)
    have K05 := K03.trans (kp_same (sT.trans s5))
    have nPb : P ≠ b := fun z => by
      have := (B.same sY).ne hP
      exact this z
    have hP5 := (sT.trans s5) _ _ (kp_get K3 nPb hP2)
    walk_at "vc"
    refine ⟨by show 2 ≤ sizeLine; rw [sizeLine_eq]; decide, fun q5 hq5 => ?_⟩
    have t5 := same_new (o := .lst [V.bl (dueB d M), V.bl (dueB d M)]) hq5
    walk_at "vc"
    refine ⟨by show 2 ≤ sizeLine; rw [sizeLine_eq]; decide, fun q6 hq6 => ?_⟩
    have t6 := same_new (o := .lst [V.bl (dueB d M), V.bl (dueB d M)]) hq6
    walk_at "vc"
    refine like_bls (n := 10) (bs := [dueB d M, dueB d M]) (SqL.of (t6 _ _ upd_same)) (SqL.of upd_same) (by show 2 ≤ 1000000; decide) fun X7 s7 => ?_
    have s57 := t5.trans (t6.trans s7)
    have B7 := B5.same s57
    have K07 := K05.trans (kp_same s57)
    have hP7 := s57 _ _ hP5
    have ha7 : SqL K X7 a xs := same_sql (K07.trans wo_le) ha
    have hM7 : TupsAt K X7 xs M := tups_same (K07.trans wo_le) hM
    walk_at "vc"
    refine iF (by decide) ?_
    walk_at "vc"
    intro q8 hq8
    have t8 := same_new (o := .lst xs) hq8
    walk_at "vc"
    refine like_true (d := matD M) (tups_dp (SqL.of (t8 _ _ hP7)) (tups_same t8 hM7)) (tups_dp (SqL.of upd_same) (tups_same t8 hM7)) (fit_mat (by omega) fun r hr => by rw [(hok r hr).1]; omega) fun X9 s9 => ?_
    have s79 := t8.trans s9
    have B9 := B7.same s79
    have K09 := K07.trans (kp_same s79)
    walk_at "vc"
    refine iF (by decide) ?_
    walk_at "vc"
    cases hdue : dueB d M with
    | false => exact iT rfl (q _ B9 K09)
    | true =>
      refine iF (by decide) ?_
      have hd2 : M.length = d ∧ (lap d M = 1 ∨ lap d M = -1) := by
        unfold dueB at hdue
        rw [Bool.and_eq_true] at hdue
        exact ⟨of_decide_eq_true hdue.1, of_decide_eq_true hdue.2⟩
      have hech := due_ech h1 h4 hd2.1 (fun r hr => (hok r hr).1) hd2.2
      have ha9 : SqL K X9 a xs := same_sql s79 ha7
      have hM9 : TupsAt K X9 xs M := tups_same s79 hM7
      walk_at "vc"
      intro x dx hx hdx ne
      have si := same_ins (o := .own x) (u := .ins (He.ga K "Whole") dx []) hx hdx ne
      refine ⟨x, dx, a, xs, M, d, 23, rfl, upd_same, same_sql si ha9, rows_same si (tups_rows hM9), hok, by omega, h4, by decide, hech, fun X10 hw s10 => ⟨rfl, ?_⟩⟩
      have s910 : Same X9 X10 := si.trans (s10.trans wo_le)
      walk_at "vc"
      refine ⟨rfl, ?_⟩
      walk_at "vc"
      refine ⟨d, rfl, h4, ech_unit h4, fun p X11 hw2 s11 => ?_⟩
      walk_at "vc"
      obtain ⟨dx1, fs1, w1, w2, g1, g2, g3, g4, g5⟩ := whole_same s11 hw
      obtain ⟨dy1, gs1, y1, y2, k1, k2, k3, k4, k5⟩ := hw2
      refine ⟨⟨x, p, dx1, dy1, fs1, gs1, rfl, rfl, g1, k1, d, h4, ⟨dx1, fs1, w1, w2, g1, g2, g3, g4, g5⟩, ⟨dy1, gs1, y1, y2, k1, k2, k3, k4, k5⟩⟩, fun X12 e12 => ?_⟩
      have s12 : Same X11 X12 := fun a o h => e12 a o h
      walk_at "vc"
      refine ⟨by show 1 ≤ sizeLine; rw [sizeLine_eq]; decide, fun q13 hq13 => ?_⟩
      have t13 := same_new (o := .lst [V.bl true]) hq13
      walk_at "vc"
      refine ⟨by rw [sizeLine_eq]; decide, fun q14 hq14 => ?_⟩
      have t14 := same_new (o := .lst [V.bl true]) hq14
      walk_at "vc"
      refine like_bls (n := 10) (bs := [true]) (SqL.of (t14 _ _ upd_same)) (SqL.of upd_same) (by decide) fun X15 s15 => ?_
      have sE := s910.trans (s11.trans (s12.trans (t13.trans (t14.trans s15))))
      exact q _ (B9.same sE) (K09.trans (kp_same sE))

end
section
abbrev N_law_bent : List Str := ["bag", "base", "d", "found", "k", "pick", "i", "j", "spot", "x", "y"]
def t_law_bent (K : PySem.W.Frag) : TS :=
  (tSeq (tAsg (tTup (tCons (tCB (rListOf K) (tCons (tVar 1) tNil)) (tCons (tCall (sp_law_draw K) [] E0 (tCons (tVar 0) (tCons (tVar 2) tNil))) (tCons (tCall (sp_law_draw K) [] E0 (tCons (tVar 0) (tCons (tC (.int 7)) tNil))) tNil)))) (gTup K 3 (gCons (gName 3) (gCons (gName 4) (gCons (gName 5) gNil)))))
    (tMid (tIfS (tTest (tOp (rEqU K) (tVar 5) (tC (.int 0)))) (tAsg (tCB (rTupOf K) (tCons (tLc (iSq K (tOp (rIx K) (tVar 3) (tVar 4))) (gName 9) tYes (tOp rMulU (tCall (sp_law_of K) [] E0 (tCons (tVar 0) (tCons (tLst (tCons (tC (.int 2)) (tCons (tUn rNegI (tC (.int 2))) (tCons (tC (.int 3)) tNil)))) tNil))) (tVar 9)) [9]) tNil)) (gSub (tVar 3) (tVar 4) rSetL)) (tIfS (tTest (tOp (rEqU K) (tVar 5) (tC (.int 1)))) (tSeq (tPar 6 7 (tCons (tCall (sp_law_draw K) [] E0 (tCons (tVar 0) (tCons (tVar 2) tNil))) (tCons (tCall (sp_law_draw K) [] E0 (tCons (tVar 0) (tCons (tVar 2) tNil))) tNil)))
    (tAsg (tCB (rTupOf K) (tCons (tLc (iZipU K (tCons (tOp (rIx K) (tVar 3) (tVar 6)) (tCons (tOp (rIx K) (tVar 3) (tVar 7)) tNil))) (gTup K 2 (gCons (gName 9) (gCons (gName 10) gNil))) tYes (tOp (rAddU K) (tVar 9) (tVar 10)) [9, 10]) tNil)) (gSub (tVar 3) (tVar 4) rSetL))) (tIfS (tTest (tOp (rEqU K) (tVar 5) (tC (.int 2)))) (tAsg (tOp (rAddU K) (tSl (rSlU K) (tVar 3) tNoPart (tPart (tVar 4))) (tSl (rSlU K) (tVar 3) (tPart (tOp (rAddU K) (tVar 4) (tC (.int 1)))) tNoPart)) (gName 3)) (tIfS (tTest (tOp (rEqU K) (tVar 5) (tC (.int 3)))) (tAsg (tOp (rAddU K) (tOp (rAddU K) (tSl (rSlU K) (tVar 3) tNoPart (tPart (tVar 4))) (tLst (tCons (tCall (sp_law_of K) [] E0 (tCons (tVar 0) (tCons (tVar 3) tNil))) tNil))) (tSl (rSlU K) (tVar 3) (tPart (tVar 4)) tNoPart)) (gName 3)) (tIfS (tTest (tOp (rEqU K) (tVar 5) (tC (.int 4)))) (tSeq (tAsg (tCall (sp_law_draw K) [] E0 (tCons (tVar 0) (tCons (tVar 2) tNil))) (gName 8))
    (tAsg (tCB (rTupOf K) (tCons (tLc (iRng1 (tCons (tVar 2) tNil)) (gName 7) tYes (tOp (rAddU K) (tOp (rIx K) (tOp (rIx K) (tVar 3) (tVar 4)) (tVar 7)) (tCB rInt1 (tCons (tOp (rEqU K) (tVar 7) (tVar 8)) tNil))) [7]) tNil)) (gSub (tVar 3) (tVar 4) rSetL))) (tIfS (tTest (tOp (rEqU K) (tVar 5) (tC (.int 5)))) (tAsg (tLc (iRng1 (tCons (tVar 2) tNil)) (gName 6) tYes (tCB (rTupOf K) (tCons (tLc (iRng1 (tCons (tVar 2) tNil)) (gName 7) tYes (tOp rSubI (tCall (sp_law_draw K) [] E0 (tCons (tVar 0) (tCons (tC (.int 5)) tNil))) (tC (.int 2))) [7]) tNil)) [6]) (gName 3)) (tAsg (tOp (rAddU K) (tVar 3) (tLst (tCons (tCB (rTupOf K) (tCons (tLc (iRng1 (tCons (tVar 2) tNil)) (gName 7) tYes (tC (.int 0)) [7]) tNil)) tNil))) (gName 3))))))))
    (tRet (tVar 3))))
/-- a comprehension whose items draw from the bag at b -/
theorem lc_accB {K : PySem.W.Frag} {J : It} {n : Nat} {G : Hp → Prop} {Y : Nat → Hp → V → Hp → Prop} {H : Hp} {σ : L2.St} {g : TG} {te : TE} {vs : List Nat} {Q : VK} {b : Addr} {gb : Addr × List Int} (w : Walk J n G Y) (B : Bag K H b gb) (S : List Addr) (hS : Kn S H) (hbS : b ∈ S) (P : Nat → List V → Hp → Prop) (mono : ∀ i acc A B, Same A B → P i acc A → P i acc B)
    (hn : n ≤ 1000000) (hG : ∀ H', Kp b H H' → G H') (p0 : P 0 [] (wo S H))
    (hs : ∀ D i x H1 H2 acc, i < n → H D = none → Kp b H H1 → Bag K H1 b gb → Y i H1 x H2 → P i acc (wo (D :: S) H1) → Kn (D :: S) H1 → ∀ (R : VK) (R0 : Hp → Prop), (∀ y H4, P (i + 1) (acc ++ [y]) (wo (D :: S) H4) → Bag K H4 b gb → Kp b H1 H4 → R y H4) →
      g x (wipe σ vs) H2 fun σ2 H' => wipe σ2 vs = wipe σ vs ∧ tYes σ2 H' fun b H3 => if b = true then te σ2 H3 R else R0 H3)
    (hd : ∀ D H' acc, H D = none → Kp b H H' → Bag K H' b gb → H' D = some (.lst acc) → acc.length ≤ n → P n acc (wo (D :: S) H') → Q (.ref D) H') : lcI J g tYes te vs σ H Q := by
  have hc := B.cells
  refine lc_w w (fun D i H1 => H D = none ∧ Kp b H H1 ∧ Bag K H1 b gb ∧ ∃ acc, H1 D = some (.lst acc) ∧ acc.length ≤ i ∧ P i acc (wo (D :: S) H1)) (fun D hD => ⟨hD, kp_new1 hD, B.new hD, [], upd_same, Nat.le_refl _, mono _ _ _ _ (wo_start hD) p0⟩) (fun D i H1 _ h => hG H1 h.2.1) ?_ ?_
  · rintro D i x H1 H' hD hi ⟨_, k1, B1, acc, h1, h2, p⟩ y
    have nDb := B.ne hD
    have kn : Kn (D :: S) H1 := fun a ha => by
      rcases List.mem_cons.mp ha with e | e
      · rw [e]; exact ne_some h1
      · exact ne_up (gr_kp k1 B1.some) (hS a e)
    refine hs D i x H1 H' acc hi hD k1 B1 y p kn _ _ fun z H4 p4 B4 k4 => ?_
    · have h4 := kp_get k4 nDb h1
      refine ⟨acc, h4, by rw [sizeLine_eq]; omega, hD, kp_mut (k1.trans k4) hD, B4.mut hc (k1.trans k4) hD nDb, acc ++ [z], upd_same, by simp; omega, mono _ _ _ _ (wo_upd (by simp)) p4⟩
  · rintro D H1 hD ⟨_, k1, B1, acc, h1, h2, p⟩
    exact hd D H1 acc hD k1 B1 h1 h2 p
theorem kp_moreS {S : List Addr} {b : Addr} {X X' : Hp} (hb : b ∈ S) (k : Kp b X X') : Same (wo S X) (wo S X') := wo_same fun z hz o h => kp_get k (fun e => hz (e ▸ hb)) h
theorem tups_drop {K : PySem.W.Frag} {H : Hp} {xs : List V} {M : List (List Int)} {k : Nat} (h : TupsAt K H xs M) : TupsAt K H (xs.drop k) (M.drop k) := by
  have := tups_cut (n := k) (m := xs.length) h
  rwa [List.take_of_length_le (by simp), List.take_of_length_le (by have := h.1; simp; omega)] at this
def sp_law_bent (K : PySem.W.Frag) : Sp := fun vs H Q _ => ∃ b a d g M, vs = [.ref b, .ref a, .int (d : Nat)] ∧ 1 ≤ d ∧ d ≤ 4 ∧ Bag K H b g ∧ a ≠ b ∧ Held K H b a d 20 M ∧ M.length = d ∧ ∀ f N H', H f = none → Held K H' b f d 23 N → N.length ≤ 5 → Bag K H' b g → Kp b H H' → Q (.ref f) H'
theorem pure_law_bent {K : PySem.W.Frag} (vs : List V) (H : Hp) (Q : VK) (E : XK) (h : sp_law_bent K vs H Q E) : t_law_bent K { nx := fun _ H' => Q .non H', rt := Q } (start N_law_bent vs) H := by
  obtain ⟨b, a, d, g, M, rfl, h1, h4, B, nab, ⟨xs, ha, hM, hok⟩, hl, q⟩ := h
  have hc0 := B.cells
  show t_law_bent K _ [some (.ref b), some (.ref a), some (.int d), none, none, none, none, none, none, none, none] H
  unfold t_law_bent
  walk_at "vc"
  intro f hf
  have nfb := B.ne hf
  have B1 := B.new (o := .lst xs) hf
  have nfa : f ≠ a := fun z => by rw [z, ha] at hf; cases hf
  have hM1 : TupsAt K (wo [f, b] (upd H f (.lst xs))) xs M := by
    refine tups_same ?_ hM
    refine wo_same (S := [a, b]) (H := H) (H' := wo [f, b] (upd H f (.lst xs))) (fun z hz o hh => ?_) |>.trans wo_le
    have e1 : z ≠ f := ne_of_none hh hf
    rw [wo_out (by simp [e1]; intro e; exact hz (by simp [e])), upd_ne e1]
    exact hh
  have K1 : Kp b H (upd H f (.lst xs)) := kp_new1 hf
  have hl1 : Held K (upd H f (.lst xs)) b f d 20 M := ⟨xs, upd_same, hM1, hok⟩
  generalize upd H f (.lst xs) = X1 at *
  walk_at "vc"
  refine ⟨b, _, g, rfl, B1, by omega, fun k X2 k0 k1 B2 K2 => ?_⟩
  obtain ⟨k, rfl⟩ : ∃ n : Nat, k = n := ⟨k.toNat, by omega⟩
  have lk : k < d := by omega
  walk_at "vc"
  refine ⟨b, 7, g, rfl, B2, by decide, fun p X3 p0 p1 B3 K3 => ?_⟩
  walk_at "vc"
  refine ⟨by show 3 ≤ sizeLine; rw [sizeLine_eq]; decide, fun T hT => ?_⟩
  refine v_gtup (sqt_of upd_same) rfl ?_
  have B4 := B3.new (o := .tup [.ref f, .int (k : Nat), .int p]) hT
  have K14 := K2.trans (K3.trans (kp_new1 (o := .tup [.ref f, .int (k : Nat), .int p]) hT))
  have KX := K1.trans K14
  have hH := held_kp hl1 nfb K14
  generalize upd X3 T (.tup [.ref f, .int (k : Nat), .int p]) = X at *
  walk_at "vc"
  refine v_mid (fun σ' X' => ∃ f' N z4 z5 z6 z7 z8 z9 z10, σ' = [some (.ref b), some (.ref a), some (.int (d : Nat)), some (.ref f'), z4, z5, z6, z7, z8, z9, z10] ∧ H f' = none ∧ Held K X' b f' d 23 N ∧ N.length ≤ 5 ∧ Bag K X' b g ∧ Kp b H X') ?_ ?_
  · obtain ⟨ys, f1, f2, f3⟩ := hH
    have ly : ys.length = d := by rw [f2.1, hl]
    have hk : M[k]? = some M[k] := List.getElem?_eq_getElem (by omega)
    generalize hrk : M[k] = rk at hk
    obtain ⟨ak, xk, tk⟩ := tups_get f2 hk
    obtain ⟨lrk, brk⟩ := f3 rk (List.mem_of_getElem? hk)
    have knX : Kn [f, b] X := fun z hz => by
      rcases List.mem_cons.mp hz with e | e
      · rw [e]; exact ne_some f1
      · rw [List.mem_singleton.mp e]; exact B4.some
    have okM : ∀ r, r ∈ M → r.length = d ∧ Bd 23 r := fun r hr => ⟨(f3 r hr).1, (f3 r hr).2.mono (by decide)⟩
    -- a list of the same rows, one set
    have finS : ∀ {Y : Hp} {c : Addr} {r : List Int} (w4 w5 w6 w7 w8 w9 w10 : Option V), Kp b X Y → Bag K Y b g → SqT K (wo [f, b] Y) c (r.map V.int) → r.length = d → Bd 23 r →
        ∃ f' N z4 z5 z6 z7 z8 z9 z10, [some (.ref b), some (.ref a), some (.int (d : Nat)), some (.ref f), w4, w5, w6, w7, w8, w9, w10] = [some (.ref b), some (.ref a), some (.int (d : Nat)), some (.ref f'), z4, z5, z6, z7, z8, z9, z10] ∧ H f' = none ∧
          Held K (upd Y f (.lst (ys.set k (.ref c)))) b f' d 23 N ∧ N.length ≤ 5 ∧ Bag K (upd Y f (.lst (ys.set k (.ref c)))) b g ∧ Kp b H (upd Y f (.lst (ys.set k (.ref c)))) := fun w4 w5 w6 w7 w8 w9 w10 kk BY hc lr br =>
      ⟨f, M.set k _, w4, w5, w6, w7, w8, w9, w10, rfl, hf, ⟨_, upd_same, tups_same mut_more (tups_set (tups_same (kp_more kk) f2) hc), fun x hx => by
        rcases List.mem_or_eq_of_mem_set hx with h | h
        · exact okM x h
        · rw [h]; exact ⟨lr, br⟩⟩, by rw [List.length_set]; omega, BY.mut hc0 (KX.trans kk) hf nfb, kp_mut (KX.trans kk) hf⟩
    -- a new list
    have finN : ∀ {Y : Hp} {f' : Addr} {zs : List V} {N : List (List Int)} (w4 w5 w6 w7 w8 w9 w10 : Option V), Kp b X Y → Bag K Y b g → Y f' = none → TupsAt K (wo [f, b] Y) zs N → (∀ r, r ∈ N → r.length = d ∧ Bd 23 r) → N.length ≤ 5 →
        ∃ fo No z4 z5 z6 z7 z8 z9 z10, [some (.ref b), some (.ref a), some (.int (d : Nat)), some (.ref f'), w4, w5, w6, w7, w8, w9, w10] = [some (.ref b), some (.ref a), some (.int (d : Nat)), some (.ref fo), z4, z5, z6, z7, z8, z9, z10] ∧ H fo = none ∧
          Held K (upd Y f' (.lst zs)) b fo d 23 No ∧ No.length ≤ 5 ∧ Bag K (upd Y f' (.lst zs)) b g ∧ Kp b H (upd Y f' (.lst zs)) := fun {Y f' zs N} w4 w5 w6 w7 w8 w9 w10 kk BY hn ht hokN hlN =>
      ⟨f', N, w4, w5, w6, w7, w8, w9, w10, rfl, gr_kp (KX.trans kk) BY.some f' hn, ⟨zs, upd_same, tups_same (fun z o hh => by
        obtain ⟨e1, e2⟩ := wo_get hh
        have e3 : z ≠ f' := ne_of_none e2 hn
        rw [wo_out (by simp [e3]; intro e; exact e1 (by simp [e])), upd_ne e3]
        exact e2) ht, hokN⟩, hlN, BY.new hn, (KX.trans kk).trans (kp_new1 hn)⟩
    walk_at "vc"
    refine ite2 (fun c0 => ?_) (fun c0 => ?_)
    · walk_at "vc"
      refine v_ixl (SqL.of f1) (atI_nat xk) ?_
      refine v_sqr (k := true) (same_sqt wo_le tk) ?_
      refine lc_accB walk_sq B4 [f, b] knX (by simp) (fun i acc _ => ∃ r : List Int, acc = r.map V.int ∧ r.length = i ∧ Bd 23 r) (fun _ _ _ _ _ h => h) (by rw [List.length_map]; omega) (fun H' e => same_sqt ((kp_more e).trans wo_le) tk) ⟨[], rfl, rfl, fun x h => nomatch h⟩ ?_ ?_
      · rintro D j x H1 H2 acc hj hD k1 B5 ⟨rfl, hx⟩ ⟨r, rfl, lr, br⟩ kn R R0 hR
        obtain ⟨n, hn, rfl⟩ := int_of hx
        refine v_name ⟨rfl, v_yes (iT rfl ?_)⟩
        walk_at "vc"
        refine ⟨by show 3 ≤ sizeLine; rw [sizeLine_eq]; decide, fun tl htl => ?_⟩
        walk_at "vc"
        refine of_ints (ys := [2, -2, 3]) B5 htl (by decide) (by decide) fun c H4 hc B6 K6 => ?_
        have hc3 : c.natAbs ≤ 3 := (by decide : ∀ n : Int, n ∈ [2, -2, 3] → n.natAbs ≤ 3) c hc
        walk_at "vc"
        refine v_muli (cmul_l (by omega) (by omega)) ?_
        refine hR _ _ ⟨r ++ [c * n], by simp, by simp [lr], fun y hy => ?_⟩ B6 K6
        rcases List.mem_append.mp hy with h | h
        · exact br y h
        · rw [List.mem_singleton.mp h, Int.natAbs_mul]
          have q1 := brk n (List.mem_of_getElem? hn)
          have q2 : c.natAbs * n.natAbs ≤ 3 * n.natAbs := Nat.mul_le_mul_right _ hc3
          have e : (2 : Nat) ^ 23 = 8 * 2 ^ 20 := by decide
          rw [e]
          omega
      · rintro D X6 acc hD k6 B6 hl6 _ ⟨r, rfl, lr, br⟩
        rw [List.length_map] at lr
        have f6 := kp_get k6 nfb f1
        have kn6 : Kn [f, b] X6 := fun z hz => by
          rcases List.mem_cons.mp hz with e | e
          · rw [e]; exact ne_some f6
          · rw [List.mem_singleton.mp e]; exact B6.some
        walk_at "vc"
        refine v_tuple (SqL.of hl6) fun P hP => ?_
        have sP := same_new (o := .tup (r.map V.int)) hP
        walk_at "vc"
        refine v_setl (sP _ _ f6) (ixn_nat (by omega)) ?_
        walk_at "vc"
        show ∃ f' N z4 z5 z6 z7 z8 z9 z10, _
        exact finS (some (.int (k : Nat))) (some (.int p)) none none none none none (k6.trans (kp_same sP)) (B6.same sP) (sqt_of (wo_at upd_same (kn_new kn6 hP))) (by omega) br
    walk_at "vc"
    refine ite2 (fun c1 => ?_) (fun c1 => ?_)
    · walk_at "vc"
      refine ⟨b, _, g, rfl, B4, by omega, fun i X5 i0 i1 B5 K5 => ?_⟩
      obtain ⟨i, rfl⟩ : ∃ n : Nat, i = n := ⟨i.toNat, by omega⟩
      walk_at "vc"
      refine ⟨b, _, g, rfl, B5, by omega, fun j X6 j0 j1 B6 K6 => ?_⟩
      obtain ⟨j, rfl⟩ : ∃ n : Nat, j = n := ⟨j.toNat, by omega⟩
      have kk := K5.trans K6
      have f6 := kp_get kk nfb f1
      have f26 := tups_same (kp_more (a := f) kk) f2
      have hi : M[i]? = some M[i] := List.getElem?_eq_getElem (by omega)
      have hj : M[j]? = some M[j] := List.getElem?_eq_getElem (by omega)
      generalize M[i] = ri at hi
      generalize M[j] = rj at hj
      obtain ⟨ai, xi, ti⟩ := tups_get f26 hi
      obtain ⟨aj, xj, tj⟩ := tups_get f26 hj
      obtain ⟨lri, bri⟩ := f3 ri (List.mem_of_getElem? hi)
      obtain ⟨lrj, brj⟩ := f3 rj (List.mem_of_getElem? hj)
      have kn6 : Kn [f, b] X6 := fun z hz => by
        rcases List.mem_cons.mp hz with e | e
        · rw [e]; exact ne_some f6
        · rw [List.mem_singleton.mp e]; exact B6.some
      walk_at "vc"
      refine v_ixl (SqL.of f6) (atI_nat xi) ?_
      walk_at "vc"
      refine v_ixl (SqL.of f6) (atI_nat xj) ?_
      walk_at "vc"
      refine v_zur (k := true) (k2 := true) (same_sqt wo_le ti) (same_sqt wo_le tj) ?_
      refine lc_acc (walk_zipM (xs := ri.map V.int) (ys := rj.map V.int) rfl (by rw [List.length_map, List.length_map]; omega)) [f, b] kn6 (fun k acc A => acc = ((List.zipWith (fun x y => x + y) ri rj).take k).map V.int) (fun _ _ _ _ _ h => h) (by rw [List.length_map]; omega) (fun H' e => ⟨same_sqt e (same_sqt wo_le ti), same_sqt e (same_sqt wo_le tj)⟩) rfl ?_ ?_
      · rintro D m x H1 H2 acc hm hD hD1 s1 ⟨P, x1, x2, rfl, hP, rfl, e1, e2⟩ rfl kn R R0 hR _
        obtain ⟨n, hn, rfl⟩ := int_of e1
        obtain ⟨n2, hn2, rfl⟩ := int_of e2
        refine v_gtup (sqt_of upd_same) rfl ?_
        walk_at "vc"
        refine ⟨rfl, v_yes (iT rfl ?_)⟩
        walk_at "vc"
        refine hR _ _ ?_ (same_new hP)
        have gk : (List.zipWith (fun x y => x + y) ri rj)[m]? = some (n + n2) := by rw [List.getElem?_zipWith, hn, hn2]
        rw [take_succ_get gk, List.map_append]
        rfl
      · rintro D X7 acc hD s7 hl7 _ rfl
        have zl : (List.zipWith (fun x y => x + y) ri rj).length = d := by rw [List.length_zipWith]; omega
        rw [List.take_of_length_le (by rw [zl, List.length_map]; omega)] at hl7
        walk_at "vc"
        refine v_tuple (SqL.of hl7) fun P hP => ?_
        have sP := s7.trans (same_new (o := .tup ((List.zipWith (fun x y => x + y) ri rj).map V.int)) hP)
        walk_at "vc"
        refine v_setl (sP _ _ f6) (ixn_nat (by omega)) ?_
        walk_at "vc"
        show ∃ f' N z4 z5 z6 z7 z8 z9 z10, _
        exact finS (some (.int (k : Nat))) (some (.int p)) (some (.int (i : Nat))) (some (.int (j : Nat))) none none none (kk.trans (kp_same sP)) (B6.same sP) (sqt_of (wo_at upd_same (kn_new (kn_same kn6 s7) hP))) zl (fun x hx => by
          obtain ⟨m, hm⟩ := List.getElem?_of_mem hx
          rw [List.getElem?_zipWith] at hm
          cases e1 : ri[m]? with
          | none => rw [e1] at hm; cases hm
          | some n =>
            cases e2 : rj[m]? with
            | none => rw [e1, e2] at hm; cases hm
            | some n2 =>
              rw [e1, e2] at hm
              have ex : n + n2 = x := Option.some.inj hm
              have q1 := bri n (List.mem_of_getElem? e1)
              have q2 := brj n2 (List.mem_of_getElem? e2)
              have e : (2 : Nat) ^ 23 = 8 * 2 ^ 20 := by decide
              rw [← ex, e]
              omega)
    walk_at "vc"
    refine ite2 (fun c2 => ?_) (fun c2 => ?_)
    · walk_at "vc"
      intro l1 hl1
      rw [cut_to (by omega)]
      have t1 := same_new (o := .lst (ys.take k)) hl1
      have f1' := t1 _ _ f1
      walk_at "vc"
      intro l2 hl2
      rw [show (k : Int) + 1 = ((k + 1 : Nat) : Int) by omega, cut_from (by omega)]
      have t2 := same_new (o := .lst (ys.drop (k + 1))) hl2
      refine v_addl (t2 _ _ upd_same) upd_same ?_ fun l3 hl3 => ?_
      · rw [sizeLine_eq]
        simp
        omega
      have t12 := t1.trans t2
      walk_at "vc"
      show ∃ f' N z4 z5 z6 z7 z8 z9 z10, _
      exact finN (N := M.take k ++ M.drop (k + 1)) (some (.int (k : Nat))) (some (.int p)) none none none none none (kp_same t12) (B4.same t12) hl3 (tups_same (wo_mono t12) (tups_but f2)) (fun r hr => okM r ((List.mem_append.mp hr).elim List.mem_of_mem_take List.mem_of_mem_drop)) (by simp; omega)
    walk_at "vc"
    refine ite2 (fun c3 => ?_) (fun c3 => ?_)
    · walk_at "vc"
      intro l1 hl1
      rw [cut_to (by omega)]
      have t1 := same_new (o := .lst (ys.take k)) hl1
      have f1' := t1 _ _ f1
      have n1 : l1 ≠ b := B4.ne hl1
      walk_at "vc"
      refine ⟨b, .ref f, g, rfl, B4.same t1, .inl ⟨f, ys, rfl, .inl (SqL.of (wo_at f1' (by simpa using nfb))), by omega, by rw [sizeLine_eq]; omega, fun i y X5 hy B5 K5 => ?_⟩⟩
      obtain ⟨r, c, hr, rfl, hc⟩ := f2.2 i y hy
      have hc5 : SqT K (wo [f, b] X5) c (r.map V.int) := same_sqt ((wo_mono t1).trans (kp_more K5)) hc
      have f5 := kp_get K5 nfb f1'
      have l15 := kp_get K5 n1 upd_same
      walk_at "vc"
      refine ⟨by show 1 ≤ sizeLine; rw [sizeLine_eq]; decide, fun l2 hl2 => ?_⟩
      have t2 := same_new (o := .lst [.ref c]) hl2
      refine v_addl (t2 _ _ l15) upd_same ?_ fun l3 hl3 => ?_
      · rw [sizeLine_eq]
        simp
        omega
      have t3 := same_new (o := .lst (ys.take k ++ [.ref c])) hl3
      have f6 := (t2.trans t3) _ _ f5
      walk_at "vc"
      intro l4 hl4
      rw [cut_from (by omega)]
      have t4 := same_new (o := .lst (ys.drop k)) hl4
      refine v_addl (t4 _ _ upd_same) upd_same ?_ fun l5 hl5 => ?_
      · rw [sizeLine_eq]
        simp
        omega
      have t24 := t2.trans (t3.trans t4)
      have kk : Kp b X _ := ((kp_same t1).trans K5).trans (kp_same t24)
      have f2' := tups_same (kp_more (a := f) kk) f2
      have hd1 := tups_cut (n := 0) (m := k) f2'
      rw [List.drop_zero, List.drop_zero] at hd1
      have hd2 := tups_drop (k := k) f2'
      walk_at "vc"
      show ∃ f' N z4 z5 z6 z7 z8 z9 z10, _
      exact finN (N := M.take k ++ [r] ++ M.drop k) (some (.int (k : Nat))) (some (.int p)) none none none none none kk (B5.same t24) hl5 (tups_app (tups_snoc hd1 (same_sqt (wo_mono t24) hc5)) hd2) (fun z hz => by
        rcases List.mem_append.mp hz with h | h
        · rcases List.mem_append.mp h with h | h
          · exact okM z (List.mem_of_mem_take h)
          · rw [List.mem_singleton.mp h]
            exact okM r (List.mem_of_getElem? hr)
        · exact okM z (List.mem_of_mem_drop h)) (by simp; omega)
    walk_at "vc"
    refine ite2 (fun c4 => ?_) (fun c4 => ?_)
    · walk_at "vc"
      refine ⟨b, _, g, rfl, B4, by omega, fun w X5 w0 w1 B5 K5 => ?_⟩
      have f5 := kp_get K5 nfb f1
      have tk5 : SqT K (wo [f, b] X5) ak (rk.map V.int) := same_sqt (kp_more K5) tk
      walk_at "vc"
      refine v_irr (j := d) ⟨by omega, by omega⟩ ?_
      rw [show (d : Int).toNat = d by omega]
      have kn5 : Kn [f, b] X5 := fun z hz => by
        rcases List.mem_cons.mp hz with e | e
        · rw [e]; exact ne_some f5
        · rw [List.mem_singleton.mp e]; exact B5.some
      refine lc_acc walk_range [f, b] kn5 (fun i acc _ => acc = ((List.range i).map fun j => rk.getD j 0 + if decide ((0 : Int) + (j : Nat) = w) = true then 1 else 0).map V.int) (fun _ _ _ _ _ h => h) (by omega) (fun _ _ => trivial) rfl ?_ ?_
      · rintro D j x H1 H2 acc hj hD hD1 s1 ⟨rfl, rfl⟩ rfl kn R R0 hR _
        refine v_name ⟨rfl, v_yes (iT rfl ?_)⟩
        walk_at "vc"
        refine v_ixl (SqL.of (s1 _ _ f5)) (atI_nat xk) ?_
        walk_at "vc"
        refine v_ixt (same_sqt (wo_le.trans s1) tk5) (by rw [Int.zero_add]; exact at_int (getD_of (by omega))) ?_
        walk_at "vc"
        refine .inr ⟨_, rfl, ?_⟩
        walk_at "vc"
        refine hR _ _ ?_ (Same.refl _)
        rw [List.range_succ, List.map_append, List.map_append]
        rfl
      · rintro D X6 acc hD s6 hl6 _ rfl
        walk_at "vc"
        refine v_tuple (SqL.of hl6) fun P hP => ?_
        have sP := s6.trans (same_new (o := .tup (((List.range d).map fun j => rk.getD j 0 + if decide ((0 : Int) + (j : Nat) = w) = true then 1 else 0).map V.int)) hP)
        walk_at "vc"
        refine v_setl (sP _ _ f5) (ixn_nat (by omega)) ?_
        walk_at "vc"
        show ∃ f' N z4 z5 z6 z7 z8 z9 z10, _
        exact finS (some (.int (k : Nat))) (some (.int p)) none none (some (.int w)) none none (K5.trans (kp_same sP)) (B5.same sP) (sqt_of (wo_at upd_same (kn_new (kn_same kn5 s6) hP))) (by simp) (fun x hx => by
          obtain ⟨j, _, rfl⟩ := List.mem_map.mp hx
          have := getD_bd (p := j) brk
          have e : (2 : Nat) ^ 23 = 8 * 2 ^ 20 := by decide
          rw [e]
          split <;> omega)
    walk_at "vc"
    refine ite2 (fun c5 => ?_) (fun c5 => ?_)
    · walk_at "vc"
      refine v_irr (j := d) ⟨by omega, by omega⟩ ?_
      rw [show (d : Int).toNat = d by omega]
      refine lc_accB walk_range B4 [f, b] knX (by simp) (fun i acc A => ∃ N, TupsAt K A acc N ∧ N.length = i ∧ ∀ r, r ∈ N → r.length = d ∧ Bd 23 r) (fun i acc A C e ⟨N, h1, h2, h3⟩ => ⟨N, tups_same e h1, h2, h3⟩) (by omega) (fun _ _ => trivial) ⟨[], ⟨rfl, fun i x h => by simp at h⟩, rfl, fun r h => nomatch h⟩ ?_ ?_
      · rintro D i x H1 H2 acc hi hD k1 B5 ⟨rfl, rfl⟩ ⟨N, hN, lN, oN⟩ kn R R0 hR
        refine v_name ⟨rfl, v_yes (iT rfl ?_)⟩
        walk_at "vc"
        refine v_irr (j := d) ⟨by omega, by omega⟩ ?_
        rw [show (d : Int).toNat = d by omega]
        refine lc_accB walk_range B5 (D :: [f, b]) kn (by simp) (fun j acc _ => ∃ r : List Int, acc = r.map V.int ∧ r.length = j ∧ Bd 23 r) (fun _ _ _ _ _ h => h) (by omega) (fun _ _ => trivial) ⟨[], rfl, rfl, fun x h => nomatch h⟩ ?_ ?_
        · rintro D' j x H3 H4 acc' hj hD' k3 B6 ⟨rfl, rfl⟩ ⟨r, rfl, lr, br⟩ kn' R' R0' hR'
          refine v_name ⟨rfl, v_yes (iT rfl ?_)⟩
          walk_at "vc"
          refine ⟨b, 5, g, rfl, B6, by decide, fun w H5 w0 w1 B7 K7 => ?_⟩
          walk_at "vc"
          refine hR' _ _ ⟨r ++ [w - 2], by simp, by simp [lr], fun y hy => ?_⟩ B7 K7
          rcases List.mem_append.mp hy with h | h
          · exact br y h
          · rw [List.mem_singleton.mp h]
            have e : (2 : Nat) ^ 23 = 8388608 := by decide
            rw [e]
            omega
        · rintro D' H3 acc' hD' k3 B6 hl6 _ ⟨r, rfl, lr, br⟩
          walk_at "vc"
          refine v_tuple (SqL.of hl6) fun P hP => ?_
          have sP := same_new (o := .tup (r.map V.int)) hP
          have kn3 : Kn (D :: [f, b]) H3 := fun a ha => ne_up (gr_kp k3 B6.some) (kn a ha)
          exact hR _ _ ⟨N ++ [r], tups_snoc (tups_same ((kp_moreS (by simp) k3).trans (wo_mono sP)) hN) (sqt_of (wo_at upd_same (kn_new kn3 hP))), by simp [lN], fun z hz => by
            rcases List.mem_append.mp hz with h | h
            · exact oN z h
            · rw [List.mem_singleton.mp h]
              exact ⟨lr, br⟩⟩ (B6.same sP) (k3.trans (kp_same sP))
      · rintro D X6 acc hD k6 B6 hl6 _ ⟨N, hN, lN, oN⟩
        walk_at "vc"
        show ∃ f' N z4 z5 z6 z7 z8 z9 z10, _
        refine ⟨D, N, some (.int (k : Nat)), some (.int p), none, none, none, none, none, rfl, gr_kp KX B4.some D hD, ⟨acc, hl6, tups_same (wo_sub fun z hz => ?_) hN, oN⟩, by omega, B6, KX.trans k6⟩
        simp only [List.mem_cons, List.not_mem_nil, or_false] at hz ⊢
        rcases hz with e | e
        · exact .inl e
        · exact .inr (.inr e)
    · walk_at "vc"
      refine v_irr (j := d) ⟨by omega, by omega⟩ ?_
      rw [show (d : Int).toNat = d by omega]
      refine lc_fn (fun j => .int 0) (by omega) (fun j H3 R' hj r => ?_) (fun _ => rfl) fun l1 hl1 => ?_
      · walk_at "vc"
        exact r
      have t1 := same_new (o := .lst ((List.range d).map fun _ => V.int 0)) hl1
      walk_at "vc"
      refine v_tuple (SqL.of upd_same) fun l2 hl2 => ?_
      have t2 := same_new (o := .tup ((List.range d).map fun _ => V.int 0)) hl2
      walk_at "vc"
      refine ⟨by show 1 ≤ sizeLine; rw [sizeLine_eq]; decide, fun l3 hl3 => ?_⟩
      have t3 := same_new (o := .lst [.ref l2]) hl3
      have t123 := t1.trans (t2.trans t3)
      refine v_addl (t123 _ _ f1) upd_same ?_ fun l4 hl4 => ?_
      · rw [sizeLine_eq, ly]
        show d + 1 ≤ _
        omega
      walk_at "vc"
      show ∃ f' N z4 z5 z6 z7 z8 z9 z10, _
      have nl2 : l2 ∉ [f, b] := kn_new (kn_same knX t1) hl2
      exact finN (N := M ++ [(List.range d).map fun _ => (0 : Int)]) (some (.int (k : Nat))) (some (.int p)) none none none none none (kp_same t123) (B4.same t123) hl4 (tups_snoc (tups_same (wo_mono t123) f2) (sqt_of (wo_at (t3 _ _ (by rw [upd_same, List.map_map]; rfl)) nl2))) (fun r hr => by
        rcases List.mem_append.mp hr with h | h
        · exact okM r h
        · rw [List.mem_singleton.mp h]
          refine ⟨by simp, fun x hx => ?_⟩
          obtain ⟨_, _, rfl⟩ := List.mem_map.mp hx
          decide) (by simp; omega)
  · rintro σ' X' ⟨f', N, z4, z5, z6, z7, z8, z9, z10, rfl, g1, g2, g3, g4, g5⟩
    walk_at "vc"
    exact q f' N X' g1 g2 g3 g4 g5

end
section
abbrev N_law_bag : List Str := ["script", "mix", "item"]
def t_law_bag (K : PySem.W.Frag) : TS :=
  (tSeq (tAsg (tC (.int 40961)) (gName 1))
    (tSeq (tFor (iList K (tSl (rSlU K) (tVar 0) tNoPart (tPart (tC (.int 63))))) (gName 2)
    (tAsg (tOp rModU (tCB rInt1 (tCons (tOp (rAddU K) (tOp (rAddU K) (tOp rMulU (tVar 1) (tC (.int 48119))) (tOp rModU (tCB rInt1 (tCons (tVar 2) tNil)) (tC (.int 2147483563)))) (tC (.int 17))) tNil)) (tC (.int 2147483549))) (gName 1)))
    (tRet (tLst (tCons (tCB (rListOf K) (tCons (tSl (rSlU K) (tVar 0) tNoPart (tPart (tC (.int 63)))) tNil)) (tCons (tC (.int 0)) (tCons (tC (.int 0)) (tCons (tVar 1) (tCons (tC (.int 0)) tNil)))))))))
theorem cutV_map {α : Type} (f : α → V) (xs : List α) (lo hi : Option Int) : ∃ ys : List α, cutV (xs.map f) lo hi = ys.map f ∧ ys.length ≤ xs.length := by
  unfold cutV
  rw [← List.map_drop, ← List.map_take]
  exact ⟨_, rfl, Nat.le_trans (List.length_take_le' _ _) (by rw [List.length_drop]; omega)⟩
def sp_law_bag (K : PySem.W.Frag) : Sp := fun vs H Q _ => ∃ (a : Addr) (ns : List Int), vs = [.ref a] ∧ SqL K H a (ns.map V.int) ∧ ∀ b H' g, H b = none → Bag K H' b g → Same H H' → Q (.ref b) H'
theorem pure_law_bag {K : PySem.W.Frag} (vs : List V) (H : Hp) (Q : VK) (E : XK) (h : sp_law_bag K vs H Q E) : t_law_bag K { nx := fun _ H' => Q .non H', rt := Q } (start N_law_bag vs) H := by
  obtain ⟨a, ns, rfl, hS, k⟩ := h
  show t_law_bag K _ [some (.ref a), none, none] H
  unfold t_law_bag
  walk_at "vc"
  intro p hp
  obtain ⟨ys, ey, ly⟩ := cutV_map V.int ns none (some 63)
  rw [ey]
  have hS1 : SqL K (upd H p (.lst (ys.map V.int))) a (ns.map V.int) := same_sql (same_new hp) hS
  walk_at "vc"
  refine for_l (xs := ys.map V.int) (fun i σ H' => ∃ m x, σ = [some (.ref a), some (.int m), x] ∧ 0 ≤ m ∧ m < 2147483647 ∧ H' = upd H p (.lst (ys.map V.int))) ⟨40961, none, rfl, by decide, by decide, rfl⟩ (fun i σ H' _ ⟨m, x, _, _, _, e⟩ => by subst e; exact SqL.of upd_same) ?_ ?_
  · rintro i y σ H' hy ⟨m, x, rfl, h0, h1, rfl⟩
    obtain ⟨z, hz, rfl⟩ : ∃ z, ys[i]? = some z ∧ y = V.int z := by
      rw [List.getElem?_map] at hy
      cases e : ys[i]? with
      | none => rw [e] at hy; cases hy
      | some z => rw [e] at hy; exact ⟨z, rfl, (Option.some.inj hy).symm⟩
    walk_at "vc"
    exact ⟨_, some (.int z), rfl, Int.emod_nonneg _ (by decide), Int.lt_trans (Int.emod_lt_of_pos _ (by decide)) (by decide), rfl⟩
  · rintro σ H' ⟨m, x, rfl, h0, h1, rfl⟩
    walk_at "vc"
    intro q hq
    rw [ey]
    have hS2 : SqL K (upd (upd H p (.lst (ys.map V.int))) q (.lst (ys.map V.int))) q (ys.map V.int) := SqL.of upd_same
    walk_at "vc"
    intro l hl
    walk_at "vc"
    refine ⟨by show 5 ≤ sizeLine; decide, fun b hb => ?_⟩
    have S3 := ((same_new (o := .lst (ys.map V.int)) hp).trans (same_new (o := .lst (ys.map V.int)) hq)).trans (same_new (o := .lst (ys.map V.int)) hl)
    refine k b _ (l, ys) (S3.free hb) ⟨0, 0, m, 0, upd_same, ?_, by decide, by decide, h0, h1⟩ (S3.trans (same_new hb))
    refine SqL.of ?_
    rw [wo_out (by simpa using (ne_new upd_same hb))]
    exact h_ne (ne_new upd_same hb) upd_same

end
section
abbrev N_law : List Str := ["script", "bag", "k", "d", "base", "j", "bent", "turned", "i", "row"]
def t_law (K : PySem.W.Frag) : TS :=
  (tSeq (tAsg (tCall (sp_law_bag K) [] E0 (tCons (tVar 0) tNil)) (gName 1))
    (tSeq (tFor (iRng1 (tCons (tC (.int 3)) tNil)) (gName 2)
    (tSeq (tAsg (tCall (sp_law_of K) [] E0 (tCons (tVar 1) (tCons (tLst (tCons (tC (.int 2)) (tCons (tC (.int 3)) (tCons (tC (.int 2)) (tCons (tC (.int 1)) (tCons (tC (.int 4)) (tCons (tC (.int 3)) tNil))))))) tNil))) (gName 3))
    (tSeq (tAsg (tCall (sp_law_steps K) [] E0 (tCons (tVar 1) (tCons (tVar 3) tNil))) (gName 4))
    (tSeq (tIfS (tOr (tNot (tB (tCall (sp_law_basis_so K) [] E0 (tCons (tVar 1) (tCons (tVar 4) (tCons (tVar 3) tNil)))))) (tNot (tB (tCall (sp_law_basis_so K) [] E0 (tCons (tVar 1) (tCons (tLst tNil) (tCons (tVar 3) tNil))))))) (tRet (tC (.bl false))) tNext)
    (tFor (iRng1 (tCons (tC (.int 4)) tNil)) (gName 5)
    (tSeq (tAsg (tCall (sp_law_bent K) [] E0 (tCons (tVar 1) (tCons (tVar 4) (tCons (tVar 3) tNil)))) (gName 6))
    (tSeq (tIfS (tNot (tB (tCall (sp_law_basis_so K) [] E0 (tCons (tVar 1) (tCons (tVar 6) (tCons (tVar 3) tNil)))))) (tRet (tC (.bl false))) tNext)
    (tSeq (tAsg (tLc (iRng1 (tCons (tVar 3) tNil)) (gName 8) tYes (tCB (rTupOf K) (tCons (tLc (iSq K (tVar 4)) (gName 9) tYes (tOp (rIx K) (tVar 9) (tVar 8)) [9]) tNil)) [8]) (gName 7))
    (tIfS (tNot (tB (tCall (sp_law_basis_so K) [] E0 (tCons (tVar 1) (tCons (tVar 7) (tCons (tVar 3) tNil)))))) (tRet (tC (.bl false))) tNext)))))))))
    (tRet (tC (.bl true)))))
theorem held_kpa {K : PySem.W.Frag} {X X' : Hp} {b a : Addr} {d c : Nat} {M : List (List Int)} (h : Held K X b a d c M) (ne : a ≠ b) (k : Kp b X X') : ∃ xs, SqL K (wo [b] X') a xs ∧ TupsAt K (wo [b] X') xs M ∧ ∀ r, r ∈ M → r.length = d ∧ Bd c r := by
  obtain ⟨xs, h1, h2, h3⟩ := h
  exact ⟨xs, SqL.of (wo_at (kp_get k ne h1) (by simpa using ne)), tups_same ((kp_more k).trans (wo_sub fun z hz => List.mem_cons_of_mem _ hz)) h2, h3⟩
def sp_law18 (K : PySem.W.Frag) : Sp := fun vs H Q _ => ∃ (a : Addr) (ns : List Int), vs = [.ref a] ∧ SqL K H a (ns.map V.int) ∧ ∀ H', Q (.bl true) H'
theorem pure_law {K : PySem.W.Frag} (vs : List V) (H : Hp) (Q : VK) (E : XK) (h : sp_law18 K vs H Q E) : t_law K { nx := fun _ H' => Q .non H', rt := Q } (start N_law vs) H := by
  obtain ⟨sc, ns, rfl, hS, q⟩ := h
  show t_law K _ [some (.ref sc), none, none, none, none, none, none, none, none, none] H
  unfold t_law
  walk_at "vc"
  refine ⟨sc, ns, rfl, hS, fun b H0 g hb B0 S0 => ?_⟩
  walk_at "vc"
  refine v_irr (j := 3) (by decide) ?_
  refine for_r (fun i σ X => ∃ z2 z3 z4 z5 z6 z7 z8 z9, σ = [some (.ref sc), some (.ref b), z2, z3, z4, z5, z6, z7, z8, z9] ∧ Bag K X b g) ⟨_, _, _, _, _, _, _, _, rfl, B0⟩ ?_ ?_
  · rintro i σ X hi ⟨z2, z3, z4, z5, z6, z7, z8, z9, rfl, BX⟩
    walk_at "vc"
    refine ⟨by show 6 ≤ sizeLine; rw [sizeLine_eq]; decide, fun t ht => ?_⟩
    walk_at "vc"
    refine of_ints (ys := [2, 3, 2, 1, 4, 3]) BX ht (by decide) (by decide) fun d' X1 hd B1 K1 => ?_
    have hd4 : 1 ≤ d' ∧ d' ≤ 4 := (by decide : ∀ n : Int, n ∈ [2, 3, 2, 1, 4, 3] → 1 ≤ n ∧ n ≤ 4) d' hd
    obtain ⟨d, rfl⟩ : ∃ n : Nat, d' = n := ⟨d'.toNat, by omega⟩
    have h1 : 1 ≤ d := by omega
    have h4 : d ≤ 4 := by omega
    walk_at "vc"
    refine ⟨b, d, g, rfl, h1, h4, B1, fun a M X2 ha hM lM B2 K2 => ?_⟩
    have nab := B1.ne ha
    walk_at "vc"
    obtain ⟨xs, e1, e2, e3⟩ := held_kpa hM nab (Same.refl _)
    refine ⟨b, a, d, g, xs, M, rfl, h1, h4, B2, e1, e2, fun r hr => ⟨(e3 r hr).1, (e3 r hr).2.mono (by decide)⟩, by omega, fun X3 B3 K3 => ?_⟩
    walk_at "vc"
    refine iF (by decide) ?_
    walk_at "vc"
    refine ⟨Nat.zero_le _, fun l0 hl0 => ?_⟩
    have B3' := B3.new (o := .lst []) hl0
    have n0 := B3.ne hl0
    walk_at "vc"
    refine ⟨b, l0, d, g, [], [], rfl, h1, h4, B3', SqL.of (wo_at upd_same (by simpa using n0)), ⟨rfl, fun i x h => by simp at h⟩, fun r h => (by cases h), by decide, fun X4 B4 K4 => ?_⟩
    have K24 := K3.trans ((kp_new1 (o := .lst []) hl0).trans K4)
    have hM4 := held_kp hM nab K24
    walk_at "vc"
    refine iF (by decide) ?_
    walk_at "vc"
    refine v_irr (j := 4) (by decide) ?_
    refine for_r (fun j σ X => (∃ z2 z5 z6 z7 z8 z9, σ = [some (.ref sc), some (.ref b), z2, some (.int (d : Nat)), some (.ref a), z5, z6, z7, z8, z9]) ∧ Bag K X b g ∧ Kp b X4 X) ⟨⟨_, _, _, _, _, _, rfl⟩, B4, Same.refl _⟩ ?_ ?_
    · rintro j σ Y hj ⟨⟨z2, z5, z6, z7, z8, z9, rfl⟩, BY, KY⟩
      have hMY := held_kp hM4 nab KY
      walk_at "vc"
      refine ⟨b, a, d, g, M, rfl, h1, h4, BY, nab, hMY, lM, fun f N Y1 hf hN lN BY1 KY1 => ?_⟩
      have nfb := BY.ne hf
      walk_at "vc"
      obtain ⟨ys, g1, g2, g3⟩ := held_kpa hN nfb (Same.refl _)
      refine ⟨b, f, d, g, ys, N, rfl, h1, h4, BY1, g1, g2, g3, lN, fun Y2 BY2 KY2 => ?_⟩
      walk_at "vc"
      refine iF (by decide) ?_
      walk_at "vc"
      have hMY2 := held_kp hMY nab (KY1.trans KY2)
      obtain ⟨us, u1, u2, u3⟩ := held_kpa hMY2 nab (Same.refl _)
      have knb : Kn [b] Y2 := fun z hz => by rw [List.mem_singleton.mp hz]; exact BY2.some
      refine v_irr (j := d) ⟨by omega, by omega⟩ ?_
      rw [show (d : Int).toNat = d by omega]
      refine lc_acc walk_range [b] knb (fun i acc A => ∃ N, TupsAt K A acc N ∧ N.length = i ∧ ∀ r, r ∈ N → r.length = d ∧ Bd 23 r) (fun i acc A C e ⟨N, h1, h2, h3⟩ => ⟨N, tups_same e h1, h2, h3⟩) (by omega) (fun _ _ => trivial) ⟨[], ⟨rfl, fun i x h => by simp at h⟩, rfl, fun r h => (by cases h)⟩ ?_ ?_
      · rintro D i2 x H1 H2 acc hi2 hD hD1 s1 ⟨rfl, rfl⟩ ⟨N2, hN2, lN2, oN2⟩ kn R R0 hR _
        have u1' : SqL K H2 a us := same_sql (wo_le.trans s1) u1
        have u2' : TupsAt K H2 us M := tups_same (wo_le.trans s1) u2
        refine v_name ⟨rfl, v_yes (iT rfl ?_)⟩
        walk_at "vc"
        refine v_sqr (k := false) u1' ?_
        refine lc_acc walk_sq (D :: [b]) kn (fun j acc _ => acc = ((M.take j).map fun r => r.getD i2 0).map V.int) (fun _ _ _ _ _ h => h) (by rw [u2.1]; omega) (fun H' e => same_sqb (k := false) e u1') rfl ?_ ?_
        · rintro D' j2 x H3 H4 acc' hj2 hD' hD1' s3 ⟨rfl, hx⟩ rfl kn' R' R0' hR' _
          obtain ⟨r, c, hr, rfl, hc⟩ := u2'.2 j2 x hx
          refine v_name ⟨rfl, v_yes (iT rfl ?_)⟩
          walk_at "vc"
          refine v_ixt (same_sqt s3 hc) (by rw [Int.zero_add]; exact at_int (getD_of (by rw [(u3 r (List.mem_of_getElem? hr)).1]; exact hi2))) ?_
          refine hR' _ _ ?_ (Same.refl _)
          rw [take_succ_get hr, List.map_append, List.map_append]
          rfl
        · rintro D' H3 acc' hD' s3 hl3 _ rfl
          rw [u2.1, List.take_length] at hl3
          walk_at "vc"
          refine v_tuple (SqL.of hl3) fun P hP => ?_
          have sP := s3.trans (same_new (o := .tup ((M.map fun r => r.getD i2 0).map V.int)) hP)
          refine hR _ _ ⟨N2 ++ [M.map fun r => r.getD i2 0], tups_snoc (tups_same (wo_mono sP) hN2) (sqt_of (wo_at upd_same (kn_new (kn_same kn s3) hP))), by simp [lN2], fun z hz => ?_⟩ sP
          rcases List.mem_append.mp hz with h | h
          · exact oN2 z h
          · rw [List.mem_singleton.mp h]
            refine ⟨by rw [List.length_map]; exact lM, fun y hy => ?_⟩
            obtain ⟨r, hr, rfl⟩ := List.mem_map.mp hy
            exact getD_bd ((u3 r hr).2.mono (by decide))
      · rintro D Y3 acc hD s3 hl3 _ ⟨N2, hN2, lN2, oN2⟩
        walk_at "vc"
        have BY3 := BY2.same s3
        have nDb := BY2.ne hD
        refine ⟨b, D, d, g, acc, N2, rfl, h1, h4, BY3, SqL.of (wo_at hl3 (by simpa using nDb)), tups_same (wo_sub fun z hz => List.mem_cons_of_mem _ hz) hN2, oN2, by omega, fun Y4 BY4 KY4 => ?_⟩
        walk_at "vc"
        refine iF (by decide) ?_
        walk_at "vc"
        exact ⟨⟨_, _, _, _, _, _, rfl⟩, BY4, KY.trans (KY1.trans (KY2.trans ((kp_same s3).trans KY4)))⟩
    · rintro σ Y ⟨⟨z2, z5, z6, z7, z8, z9, rfl⟩, BY, KY⟩
      walk_at "vc"
      exact ⟨_, _, _, _, _, _, _, _, rfl, BY⟩
  · rintro σ X ⟨z2, z3, z4, z5, z6, z7, z8, z9, rfl, BX⟩
    walk_at "vc"
    exact q _

end
end C
end
section
set_option maxHeartbeats 4000000
local macro_rules | `(tactic| walk_at "splen") => `(tactic| (intro vs H Q E h; first | (obtain ⟨e, _⟩ := h; subst e; rfl) | (obtain ⟨_, e, _⟩ := h; subst e; rfl) | (obtain ⟨_, _, e, _⟩ := h; subst e; rfl) | (obtain ⟨_, _, _, e, _⟩ := h; subst e; rfl) | (obtain ⟨_, _, _, _, e, _⟩ := h; subst e; rfl) | (obtain ⟨_, _, _, _, _, e, _⟩ := h; subst e; rfl) | (obtain ⟨_, _, _, _, _, _, e, _⟩ := h; subst e; rfl) | (obtain ⟨_, _, _, _, _, _, _, e, _⟩ := h; subst e; rfl) | (obtain ⟨_, _, _, _, _, _, _, _, e, _⟩ := h; subst e; rfl) | (obtain ⟨_, _, _, _, _, _, _, _, _, e, _⟩ := h; subst e; rfl) | (obtain ⟨_, _, _, _, _, _, _, _, _, _, e, _⟩ := h; subst e; rfl) | (obtain ⟨_, _, _, _, _, _, _, _, _, _, _, e, _⟩ := h; subst e; rfl)))
namespace D
open PySem PySem.Spec PyProof.Rows L2 RZ U ZM C
section
variable {P : Program} {w : World} {K : PySem.W.Frag} {mg : Str → Option Value} {base : Heap}
structure Fr (mg : Str → Option Value) : Prop where
  int : mg "int" = none
  list : mg "list" = none
  len : mg "len" = none
  range : mg "range" = none
  tuple : mg "tuple" = none
  zip : mg "zip" = none
  enumerate : mg "enumerate" = none
  abs : mg "abs" = none
  any : mg "any" = none
  min : mg "min" = none
  isinstance : mg "isinstance" = none
  bool : mg "bool" = none
  str : mg "str" = none
  all : mg "all" = none
theorem sc_law_bag : FnScope N_law_bag ["script"] (defScope s_law_bag) := ⟨rfl, rfl, rfl, by decide +kernel, rfl, by decide +kernel, by decide +kernel⟩
theorem b_law_bag (W : Fr mg) {f : Addr} {cdv : Value} {A : Around} {outer : List Env} {s : Shared} {H : Hp} {E : XK} (hr : Room 0 (A.deeper (envOfC "_law_bag" (defScope s_law_bag) s.heap.objs.size f cdv))) :
  PSs (cxOf CX0 P w K mg base N_law_bag "_law_bag" (defScope s_law_bag) f cdv A outer s H E).nox (defBody s_law_bag) (t_law_bag K) :=
  have hu64 := hr.units
  have hu65 : (A.deeper (envOfC "_law_bag" (defScope s_law_bag) s.heap.objs.size f cdv)).units + 65 < cLine := by have := hr.un; omega
  (pss_cons (ps_set (i := 1) sc_law_bag.nd rfl (by first | exact Or.inl rfl | exact Or.inr rfl) pe_int)
    (pss_cons (ps_for PassesOwn.never rfl (pi_list (pe_slice o_sl (pv 0) po_none (po_some pe_int))) (pg_name (i := 2) sc_law_bag.nd rfl (by first | exact Or.inl rfl | exact Or.inr rfl))
    (pss_one (ps_set (i := 1) sc_law_bag.nd rfl (by first | exact Or.inl rfl | exact Or.inr rfl) (pe_op o_mod (pe_callTy c_int1 (by rfl) W.int (by first | boot_by_name | rfl | kernel_rfl) (pa_cons (pe_op o_add (pe_op o_add (pe_op o_mul (pv 1) pe_int) (pe_op o_mod (pe_callTy c_int1 (by rfl) W.int (by first | boot_by_name | rfl | kernel_rfl) (pa_cons (pv 2) pa_nil)) pe_int)) pe_int) pa_nil)) pe_int))))
    (pss_one (ps_ret (pe_lst (pa_cons (pe_callTy c_list (by rfl) W.list (by first | boot_by_name | rfl | kernel_rfl) (pa_cons (pe_slice o_sl (pv 0) po_none (po_some pe_int)) pa_nil)) (pa_cons pe_int (pa_cons pe_int (pa_cons (pv 1) (pa_cons pe_int pa_nil))))))))))
theorem ok_law_bag (W : Fr mg) {f : Addr} {fd : FuncData} (F : FunD K "_law_bag" "_law_bag" (defArgs s_law_bag) (defBody s_law_bag) (defScope s_law_bag) [] [] f fd) : FnOk P w K mg base CX0 1 f fd ["script"] (sp_law_bag K) := by
  refine F.ok sc_law_bag ?_ (fun cdv A outer s H vs Q E hr h => ⟨t_law_bag K, PSs.nox (b_law_bag W hr), pure_law_bag vs H Q E h⟩)
  walk_at "splen"
theorem sc_law_draw : FnScope N_law_draw ["bag", "size"] (defScope s_law_draw) := ⟨rfl, rfl, rfl, by decide +kernel, rfl, by decide +kernel, by decide +kernel⟩
theorem b_law_draw (W : Fr mg) {f : Addr} {cdv : Value} {A : Around} {outer : List Env} {s : Shared} {H : Hp} {E : XK} (hr : Room 0 (A.deeper (envOfC "_law_draw" (defScope s_law_draw) s.heap.objs.size f cdv))) :
  PSs (cxOf CX0 P w K mg base N_law_draw "_law_draw" (defScope s_law_draw) f cdv A outer s H E).nox (defBody s_law_draw) (t_law_draw K) :=
  have hu64 := hr.units
  have hu65 : (A.deeper (envOfC "_law_draw" (defScope s_law_draw) s.heap.objs.size f cdv)).units + 65 < cLine := by have := hr.un; omega
  (pss_cons (ps_if (pt_cmpR o_lt (pv 1) pe_int (nomark _)) (pss_one (ps_ret pe_int)) pss_nil)
    (pss_cons (ps_asg (pe_op o_add (pe_ix ix_seq (pv 0) pe_int (fun _ _ => rfl)) pe_int) (pg_sub (pv 0) pe_int set_list))
    (pss_mid (ps_if (PW.pt (pw_and (pt_cmpR (o_eq hu64) (pe_ix ix_seq (pv 0) pe_int (fun _ _ => rfl)) pe_int (nomark _)) (pw_and1 (pt_cmpR o_lt (pe_ix ix_seq (pv 0) pe_int (fun _ _ => rfl)) (pe_callB c_len (by rfl) W.len (by first | boot_by_name | rfl | kernel_rfl) (pa_cons (pe_ix ix_seq (pv 0) pe_int (fun _ _ => rfl)) pa_nil)) (nomark _))))) (pss_cons (ps_set (i := 2) sc_law_draw.nd rfl (by first | exact Or.inl rfl | exact Or.inr rfl) (pe_callTy c_int1 (by rfl) W.int (by first | boot_by_name | rfl | kernel_rfl) (pa_cons (pe_ix ix_seq (pe_ix ix_seq (pv 0) pe_int (fun _ _ => rfl)) (pe_ix ix_seq (pv 0) pe_int (fun _ _ => rfl)) (fun _ _ => rfl)) pa_nil)))
    (pss_cons (ps_asg (pe_op o_add (pe_ix ix_seq (pv 0) pe_int (fun _ _ => rfl)) pe_int) (pg_sub (pv 0) pe_int set_list))
    (pss_one (ps_if (pt_cmpR o_ge (pv 2) (pe_op o_pow pe_int pe_int) (nomark _)) (pss_one (ps_asg (pv 2) (pg_sub (pv 0) pe_int set_list))) (pss_one (ps_asg (pe_op o_mod (pe_callTy c_int1 (by rfl) W.int (by first | boot_by_name | rfl | kernel_rfl) (pa_cons (pe_op o_add (pe_op o_add (pe_op o_mul (pe_ix ix_seq (pv 0) pe_int (fun _ _ => rfl)) pe_int) (pe_op o_mul (pe_op o_mod (pe_callTy c_int1 (by rfl) W.int (by first | boot_by_name | rfl | kernel_rfl) (pa_cons (pv 2) pa_nil)) pe_int) pe_int)) pe_int) pa_nil)) pe_int) (pg_sub (pv 0) pe_int set_list))))))) pss_nil)
    (pss_cons (ps_if (pt_cmpR o_gt (pe_ix ix_seq (pv 0) pe_int (fun _ _ => rfl)) pe_int (nomark _)) (pss_cons (ps_set (i := 3) sc_law_draw.nd rfl (by first | exact Or.inl rfl | exact Or.inr rfl) (pe_op o_mod (pe_callTy c_int1 (by rfl) W.int (by first | boot_by_name | rfl | kernel_rfl) (pa_cons (pe_ix ix_seq (pv 0) pe_int (fun _ _ => rfl)) pa_nil)) (pv 1)))
    (pss_cons (ps_asg (pe_op o_div (pe_callTy c_int1 (by rfl) W.int (by first | boot_by_name | rfl | kernel_rfl) (pa_cons (pe_ix ix_seq (pv 0) pe_int (fun _ _ => rfl)) pa_nil)) (pv 1)) (pg_sub (pv 0) pe_int set_list))
    (pss_one (ps_ret (pv 3))))) pss_nil)
    (pss_cons (ps_set (i := 4) sc_law_draw.nd rfl (by first | exact Or.inl rfl | exact Or.inr rfl) (pe_callTy c_int1 (by rfl) W.int (by first | boot_by_name | rfl | kernel_rfl) (pa_cons (pe_ix ix_seq (pv 0) pe_int (fun _ _ => rfl)) pa_nil)))
    (pss_cons (ps_asg (pe_op o_mod (pe_callTy c_int1 (by rfl) W.int (by first | boot_by_name | rfl | kernel_rfl) (pa_cons (pe_op o_add (pe_op o_add (pe_op o_add (pe_op o_pow (pv 4) pe_int) (pe_op o_mul (pv 4) pe_int)) (pe_op o_mul (pe_ix ix_seq (pv 0) pe_int (fun _ _ => rfl)) pe_int)) pe_int) pa_nil)) pe_int) (pg_sub (pv 0) pe_int set_list))
    (pss_one (ps_ret (pe_op o_mod (pe_callTy c_int1 (by rfl) W.int (by first | boot_by_name | rfl | kernel_rfl) (pa_cons (pe_op o_add (pe_op o_div (pe_ix ix_seq (pv 0) pe_int (fun _ _ => rfl)) pe_int) (pe_op o_mul (pe_op o_mod (pe_callTy c_int1 (by rfl) W.int (by first | boot_by_name | rfl | kernel_rfl) (pa_cons (pe_ix ix_seq (pv 0) pe_int (fun _ _ => rfl)) pa_nil)) pe_int) pe_int)) pa_nil)) (pv 1))))))))))
theorem ok_law_draw (W : Fr mg) {f : Addr} {fd : FuncData} (F : FunD K "_law_draw" "_law_draw" (defArgs s_law_draw) (defBody s_law_draw) (defScope s_law_draw) [] [] f fd) : FnOk P w K mg base CX0 1 f fd ["bag", "size"] (sp_law_draw K) := by
  refine F.ok sc_law_draw ?_ (fun cdv A outer s H vs Q E hr h => ⟨t_law_draw K, PSs.nox (b_law_draw W hr), pure_law_draw vs H Q E h⟩)
  walk_at "splen"
theorem sc_law_of : FnScope N_law_of ["bag", "things"] (defScope s_law_of) := ⟨rfl, rfl, rfl, by decide +kernel, rfl, by decide +kernel, by decide +kernel⟩
theorem b_law_of (W : Fr mg) (D_law_draw : Fd P w K mg base CX0 "_law_draw" 1 ["bag", "size"] (sp_law_draw K)) {f : Addr} {cdv : Value} {A : Around} {outer : List Env} {s : Shared} {H : Hp} {E : XK} (hr : Room 1 (A.deeper (envOfC "_law_of" (defScope s_law_of) s.heap.objs.size f cdv))) :
  PSs (cxOf CX0 P w K mg base N_law_of "_law_of" (defScope s_law_of) f cdv A outer s H E).nox (defBody s_law_of) (t_law_of K) :=
  have hu64 := hr.units
  have hu65 : (A.deeper (envOfC "_law_of" (defScope s_law_of) s.heap.objs.size f cdv)).units + 65 < cLine := by have := hr.un; omega
  (pss_one (ps_ret (pe_ix ix_seq (pv 1) (pe_fd D_law_draw (hr.mono (by omega)) (pa_cons (pv 0) (pa_cons (pe_callB c_len (by rfl) W.len (by first | boot_by_name | rfl | kernel_rfl) (pa_cons (pv 1) pa_nil)) pa_nil))) (fun _ _ => rfl))))
theorem ok_law_of (W : Fr mg) (D_law_draw : Fd P w K mg base CX0 "_law_draw" 1 ["bag", "size"] (sp_law_draw K)) {f : Addr} {fd : FuncData} (F : FunD K "_law_of" "_law_of" (defArgs s_law_of) (defBody s_law_of) (defScope s_law_of) [] [] f fd) : FnOk P w K mg base CX0 2 f fd ["bag", "things"] (sp_law_of K) := by
  refine F.ok sc_law_of ?_ (fun cdv A outer s H vs Q E hr h => ⟨t_law_of K, PSs.nox (b_law_of W D_law_draw hr), pure_law_of vs H Q E h⟩)
  walk_at "splen"
theorem sc_law_steps : FnScope N_law_steps ["bag", "d"] (defScope s_law_steps) := ⟨rfl, rfl, rfl, by decide +kernel, rfl, by decide +kernel, by decide +kernel⟩
theorem b_law_steps (W : Fr mg) (D_law_of : Fd P w K mg base CX0 "_law_of" 2 ["bag", "things"] (sp_law_of K)) (D_law_draw : Fd P w K mg base CX0 "_law_draw" 1 ["bag", "size"] (sp_law_draw K)) {f : Addr} {cdv : Value} {A : Around} {outer : List Env} {s : Shared} {H : Hp} {E : XK} (hr : Room 2 (A.deeper (envOfC "_law_steps" (defScope s_law_steps) s.heap.objs.size f cdv))) :
  PSs (cxOf CX0 P w K mg base N_law_steps "_law_steps" (defScope s_law_steps) f cdv A outer s H E).nox (defBody s_law_steps) (t_law_steps K) :=
  have hu64 := hr.units
  have hu65 : (A.deeper (envOfC "_law_steps" (defScope s_law_steps) s.heap.objs.size f cdv)).units + 65 < cLine := by have := hr.un; omega
  (pss_cons (ps_setLc (i := 2) (own := [("k", 3)]) (g := (gName 3)) (tt := tYes) (by rfl) sc_law_steps.nd rfl rfl (sw_true rfl rfl rfl (by decide +kernel)) (pi_range1 (by rfl) W.range (pa_cons (pv 1) pa_nil)) (blkOk_by (own := [("k", 3)]) (N := N_law_steps) (sc := (defScope s_law_steps)) (by decide +kernel)) (fun _ _ _ _ _ => (pg_name (i := 3) sc_law_steps.nd rfl (by first | exact Or.inl rfl | exact Or.inr rfl))) (fun _ _ _ _ _ => pts_nil) (fun _ _ _ _ _ => (pe_callTy c_tuple (by rfl) W.tuple (by first | boot_by_name | rfl | kernel_rfl) (pa_cons (pe_lc (own := [("j", 5)]) (g := (gName 5)) (tt := tYes) (by rfl) sc_law_steps.nd (pi_range1 (by rfl) W.range (pa_cons (pv 1) pa_nil)) (blkOk_by (own := [("j", 5)]) (N := N_law_steps) (by kernel_rfl)) (fun _ _ _ _ _ => (pg_name (i := 5) sc_law_steps.nd rfl (by first | exact Or.inl rfl | exact Or.inr rfl))) (fun _ _ _ _ _ => pts_nil) (fun _ _ _ _ _ => (pe_callTy c_int1 (by rfl) W.int (by first | boot_by_name | rfl | kernel_rfl) (pa_cons (pe_cmpR (o_eq hu64) (pv 5) (pv 3) (nomark _)) pa_nil)))) pa_nil))))
    (pss_cons (ps_for PassesOwn.never rfl (pi_range1 (by rfl) W.range (pa_cons (pe_fd D_law_of (hr.mono (by omega)) (pa_cons (pv 0) (pa_cons (pe_lst (pa_cons pe_int (pa_cons pe_int (pa_cons pe_int (pa_cons pe_int (pa_cons pe_int (pa_cons pe_int pa_nil))))))) pa_nil))) pa_nil)) (pg_name (i := 3) sc_law_steps.nd rfl (by first | exact Or.inl rfl | exact Or.inr rfl))
    (pss_cons (ps_asg (pe_tup (pa_cons (pe_fd D_law_draw (hr.mono (by omega)) (pa_cons (pv 0) (pa_cons (pv 1) pa_nil))) (pa_cons (pe_fd D_law_draw (hr.mono (by omega)) (pa_cons (pv 0) (pa_cons (pv 1) pa_nil))) (pa_cons (pe_fd D_law_of (hr.mono (by omega)) (pa_cons (pv 0) (pa_cons (pe_lst (pa_cons pe_int (pa_cons (pe_un o_neg pe_int) (pa_cons pe_int (pa_cons (pe_un o_neg pe_int) pa_nil))))) pa_nil))) pa_nil)))) (pg_tup (by rfl) (pgs_cons (pg_name (i := 4) sc_law_steps.nd rfl (by first | exact Or.inl rfl | exact Or.inr rfl)) (pgs_cons (pg_name (i := 5) sc_law_steps.nd rfl (by first | exact Or.inl rfl | exact Or.inr rfl)) (pgs_cons (pg_name (i := 6) sc_law_steps.nd rfl (by first | exact Or.inl rfl | exact Or.inr rfl)) pgs_nil)))))
    (pss_one (ps_if (pt_cmpR (o_eq hu64) (pv 4) (pv 5) (nomark _)) (pss_one (ps_asg (pe_callTy c_tuple (by rfl) W.tuple (by first | boot_by_name | rfl | kernel_rfl) (pa_cons (pe_lc (own := [("x", 7)]) (g := (gName 7)) (tt := tYes) (by rfl) sc_law_steps.nd (pi_sq (pe_ix ix_seq (pv 2) (pv 4) (fun _ _ => rfl))) (blkOk_by (own := [("x", 7)]) (N := N_law_steps) (sc := (defScope s_law_steps)) (by decide +kernel)) (fun _ _ _ _ _ => (pg_name (i := 7) sc_law_steps.nd rfl (by first | exact Or.inl rfl | exact Or.inr rfl))) (fun _ _ _ _ _ => pts_nil) (fun _ _ _ _ _ => (pe_op o_sub pe_int (pv 7)))) pa_nil)) (pg_sub (pv 2) (pv 4) set_list))) (pss_one (ps_if (pt_cmpR (o_eq hu64) (pe_fd D_law_draw (hr.mono (by omega)) (pa_cons (pv 0) (pa_cons pe_int pa_nil))) pe_int (nomark _)) (pss_one (ps_asg (pe_tup (pa_cons (pe_ix ix_seq (pv 2) (pv 5) (fun _ _ => rfl)) (pa_cons (pe_ix ix_seq (pv 2) (pv 4) (fun _ _ => rfl)) pa_nil))) (pg_tup (by rfl) (pgs_cons (pg_sub (pv 2) (pv 4) set_list) (pgs_cons (pg_sub (pv 2) (pv 5) set_list) pgs_nil))))) (pss_one (ps_asg (pe_callTy c_tuple (by rfl) W.tuple (by first | boot_by_name | rfl | kernel_rfl) (pa_cons (pe_lc (own := [("x", 7), ("y", 8)]) (g := (gTup K 2 (gCons (gName 7) (gCons (gName 8) gNil)))) (tt := tYes) (by rfl) sc_law_steps.nd (pi_zipU (by rfl) W.zip (pa_cons (pe_ix ix_seq (pv 2) (pv 4) (fun _ _ => rfl)) (pa_cons (pe_ix ix_seq (pv 2) (pv 5) (fun _ _ => rfl)) pa_nil))) (blkOk_by (own := [("x", 7), ("y", 8)]) (N := N_law_steps) (sc := (defScope s_law_steps)) (by decide +kernel)) (fun _ _ _ _ _ => (pg_tup (by rfl) (pgs_cons (pg_name (i := 7) sc_law_steps.nd rfl (by first | exact Or.inl rfl | exact Or.inr rfl)) (pgs_cons (pg_name (i := 8) sc_law_steps.nd rfl (by first | exact Or.inl rfl | exact Or.inr rfl)) pgs_nil)))) (fun _ _ _ _ _ => pts_nil) (fun _ _ _ _ _ => (pe_op o_add (pv 7) (pe_op o_mul (pv 6) (pv 8))))) pa_nil)) (pg_sub (pv 2) (pv 4) set_list)))))))))
    (pss_one (ps_ret (pv 2)))))
theorem ok_law_steps (W : Fr mg) (D_law_of : Fd P w K mg base CX0 "_law_of" 2 ["bag", "things"] (sp_law_of K)) (D_law_draw : Fd P w K mg base CX0 "_law_draw" 1 ["bag", "size"] (sp_law_draw K)) {f : Addr} {fd : FuncData} (F : FunD K "_law_steps" "_law_steps" (defArgs s_law_steps) (defBody s_law_steps) (defScope s_law_steps) [] [] f fd) : FnOk P w K mg base CX0 3 f fd ["bag", "d"] (sp_law_steps K) := by
  refine F.ok sc_law_steps ?_ (fun cdv A outer s H vs Q E hr h => ⟨t_law_steps K, PSs.nox (b_law_steps W D_law_of D_law_draw hr), pure_law_steps vs H Q E h⟩)
  walk_at "splen"
theorem sc_law_sum : FnScope N_law_sum ["base"] (defScope s_law_sum) := ⟨rfl, rfl, rfl, by decide +kernel, rfl, by decide +kernel, by decide +kernel⟩
theorem b_law_sum (n : Nat) (W : Fr mg) (D_law_sum : Fd P w K mg base CX0 "_law_sum" (1 + n) ["base"] (sp_law_sum K n)) {f : Addr} {cdv : Value} {A : Around} {outer : List Env} {s : Shared} {H : Hp} {E : XK} (hr : Room (1 + n) (A.deeper (envOfC "_law_sum" (defScope s_law_sum) s.heap.objs.size f cdv))) :
  PSs (cxOf CX0 P w K mg base N_law_sum "_law_sum" (defScope s_law_sum) f cdv A outer s H E).nox (defBody s_law_sum) (t_law_sum K n) :=
  have hu64 := hr.units
  have hu65 : (A.deeper (envOfC "_law_sum" (defScope s_law_sum) s.heap.objs.size f cdv)).units + 65 < cLine := by have := hr.un; omega
  (pss_cons (ps_if (pt_not (p_truth (pv 0) (by intro _; rfl))) (pss_one (ps_ret pe_int)) pss_nil)
    (pss_cons (ps_set (i := 1) sc_law_sum.nd rfl (by first | exact Or.inl rfl | exact Or.inr rfl) pe_int)
    (pss_cons (ps_for PassesOwn.never rfl (pi_range1 (by rfl) W.range (pa_cons (pe_callB c_len (by rfl) W.len (by first | boot_by_name | rfl | kernel_rfl) (pa_cons (pv 0) pa_nil)) pa_nil)) (pg_name (i := 2) sc_law_sum.nd rfl (by first | exact Or.inl rfl | exact Or.inr rfl))
    (pss_one (ps_if (pt_cmpR (o_ne hu64) (pe_ix ix_seq (pe_ix ix_seq (pv 0) (pv 2) (fun _ _ => rfl)) pe_int (fun _ _ => rfl)) pe_int (nomark _)) (pss_cons (ps_setLc (i := 3) (own := [("row", 4)]) (g := (gName 4)) (tt := tYes) (by rfl) sc_law_sum.nd rfl rfl (sw_true rfl rfl rfl (by decide +kernel)) (pi_sq (pe_op o_add (pe_slice o_sl (pv 0) po_none (po_some (pv 2))) (pe_slice o_sl (pv 0) (po_some (pe_op o_add (pv 2) pe_int)) po_none))) (blkOk_by (own := [("row", 4)]) (N := N_law_sum) (sc := (defScope s_law_sum)) (by decide +kernel)) (fun _ _ _ _ _ => (pg_name (i := 4) sc_law_sum.nd rfl (by first | exact Or.inl rfl | exact Or.inr rfl))) (fun _ _ _ _ _ => pts_nil) (fun _ _ _ _ _ => (pe_slice o_sl (pv 4) (po_some pe_int) po_none)))
    (pss_one (ps_set (i := 1) sc_law_sum.nd rfl (by first | exact Or.inl rfl | exact Or.inr rfl) (pe_op o_add (pv 1) (pe_ifExp (pt_cmpR (o_eq hu64) (pe_op o_mod (pe_callTy c_int1 (by rfl) W.int (by first | boot_by_name | rfl | kernel_rfl) (pa_cons (pv 2) pa_nil)) pe_int) pe_int (nomark _)) (pe_op o_mul (pe_ix ix_seq (pe_ix ix_seq (pv 0) (pv 2) (fun _ _ => rfl)) pe_int (fun _ _ => rfl)) (pe_fd D_law_sum (hr.mono (by omega)) (pa_cons (pv 3) pa_nil))) (pe_op o_sub pe_int (pe_op o_mul (pe_ix ix_seq (pe_ix ix_seq (pv 0) (pv 2) (fun _ _ => rfl)) pe_int (fun _ _ => rfl)) (pe_fd D_law_sum (hr.mono (by omega)) (pa_cons (pv 3) pa_nil))))))))) pss_nil)))
    (pss_one (ps_ret (pv 1))))))
theorem ok_law_sum (W : Fr mg) {f : Addr} {fd : FuncData} (F : FunD K "_law_sum" "_law_sum" (defArgs s_law_sum) (defBody s_law_sum) (defScope s_law_sum) [] [] f fd) (gF : mg "_law_sum" = some (.ref f)) : ∀ n : Nat, FnOk P w K mg base CX0 (1 + n) f fd ["base"] (sp_law_sum K n)
  | 0 => F.ok (k := 0) sc_law_sum (fun vs H Q E h => (no_law_sum h).elim) (fun cdv A outer s H vs Q E hr h => (no_law_sum h).elim)
  | n + 1 => by
    refine F.ok (k := 1 + n) sc_law_sum ?_ (fun cdv A outer s H vs Q E hr h => ⟨t_law_sum K n, PSs.nox (b_law_sum n W (U.fd_of (st := s_law_sum) F (ok_law_sum W F gF n) gF (fun _ _ _ _ _ _ us hl => match us, hl with | [_], _ => rfl)) hr), pure_law_sum n vs H Q E h⟩)
    walk_at "splen"
theorem sc_determinant : FnScope N_determinant ["rows"] (defScope s_determinant) := ⟨rfl, rfl, rfl, by decide +kernel, rfl, by decide +kernel, by decide +kernel⟩
theorem b_determinant (W : Fr mg) {f : Addr} {cdv : Value} {A : Around} {outer : List Env} {s : Shared} {H : Hp} {E : XK} (hr : Room 0 (A.deeper (envOfC "determinant" (defScope s_determinant) s.heap.objs.size f cdv))) :
  PSs (cxOf CX0 P w K mg base N_determinant "determinant" (defScope s_determinant) f cdv A outer s H E).nox (defBody s_determinant) (t_determinant K) :=
  have hu64 := hr.units
  have hu65 : (A.deeper (envOfC "determinant" (defScope s_determinant) s.heap.objs.size f cdv)).units + 65 < cLine := by have := hr.un; omega
  (pss_cons (ps_set (i := 1) sc_determinant.nd rfl (by first | exact Or.inl rfl | exact Or.inr rfl) pe_int)
    (pss_cons (ps_setLc (i := 2) (own := [("row", 6)]) (g := (gName 6)) (tt := tYes) (by rfl) sc_determinant.nd rfl rfl (sw_true rfl rfl rfl (by decide +kernel)) (pi_sq (pv 0)) (blkOk_by (own := [("row", 6)]) (N := N_determinant) (sc := (defScope s_determinant)) (by decide +kernel)) (fun _ _ _ _ _ => (pg_name (i := 6) sc_determinant.nd rfl (by first | exact Or.inl rfl | exact Or.inr rfl))) (fun _ _ _ _ _ => pts_nil) (fun _ _ _ _ _ => (pe_callTy c_list (by rfl) W.list (by first | boot_by_name | rfl | kernel_rfl) (pa_cons (pv 6) pa_nil))))
    (pss_cons (ps_while PassesOwn.never (p_truth (pv 2) (by intro _; rfl))
    (pss_cons (ps_setLc (i := 3) (own := [("at", 7), ("row", 6)]) (g := (gTup K 2 (gCons (gName 7) (gCons (gName 6) gNil)))) (tt := (tTest (tOp (rNeU K) (tOp (rIx K) (tVar 6) (tC (.int 0))) (tC (.int 0))))) (by rfl) sc_determinant.nd rfl rfl (sw_true rfl rfl rfl (by decide +kernel)) (pi_enum (by rfl) W.enumerate (pa_cons (pv 2) pa_nil)) (blkOk_by (own := [("at", 7), ("row", 6)]) (N := N_determinant) (sc := (defScope s_determinant)) (by decide +kernel)) (fun _ _ _ _ _ => (pg_tup (by rfl) (pgs_cons (pg_name (i := 7) sc_determinant.nd rfl (by first | exact Or.inl rfl | exact Or.inr rfl)) (pgs_cons (pg_name (i := 6) sc_determinant.nd rfl (by first | exact Or.inl rfl | exact Or.inr rfl)) pgs_nil)))) (fun _ _ _ _ _ => (pts_one (pt_cmpR (o_ne hu64) (pe_ix ix_seq (pv 6) pe_int (fun _ _ => rfl)) pe_int (nomark _)))) (fun _ _ _ _ _ => (pv 7)))
    (pss_cons (ps_if (pt_not (p_truth (pv 3) (by intro _; rfl))) (pss_one (ps_ret pe_int)) pss_nil)
    (pss_cons (ps_set (i := 4) sc_determinant.nd rfl (by first | exact Or.inl rfl | exact Or.inr rfl) (pe_ix ix_seq (pv 2) (pe_ix ix_seq (pv 3) pe_int (fun _ _ => rfl)) (fun _ _ => rfl)))
    (pss_cons (ps_set (i := 5) sc_determinant.nd rfl (by first | exact Or.inl rfl | exact Or.inr rfl) (pe_op o_add (pe_slice o_sl (pv 2) po_none (po_some (pe_ix ix_seq (pv 3) pe_int (fun _ _ => rfl)))) (pe_slice o_sl (pv 2) (po_some (pe_op o_add (pe_ix ix_seq (pv 3) pe_int (fun _ _ => rfl)) pe_int)) po_none)))
    (pss_cons (ps_setLc (i := 2) (own := [("row", 6)]) (g := (gName 6)) (tt := tYes) (by rfl) sc_determinant.nd rfl rfl (sw_true rfl rfl rfl (by decide +kernel)) (pi_sq (pv 5)) (blkOk_by (own := [("row", 6)]) (N := N_determinant) (sc := (defScope s_determinant)) (by decide +kernel)) (fun _ _ _ _ _ => (pg_name (i := 6) sc_determinant.nd rfl (by first | exact Or.inl rfl | exact Or.inr rfl))) (fun _ _ _ _ _ => pts_nil) (fun _ _ _ _ _ => (pe_lc (own := [("place", 8)]) (g := (gName 8)) (tt := tYes) (by rfl) sc_determinant.nd (pi_range2 (by rfl) W.range (pa_cons pe_int (pa_cons (pe_callB c_len (by rfl) W.len (by first | boot_by_name | rfl | kernel_rfl) (pa_cons (pv 6) pa_nil)) pa_nil))) (blkOk_by (own := [("place", 8)]) (N := N_determinant) (by kernel_rfl)) (fun _ _ _ _ _ => (pg_name (i := 8) sc_determinant.nd rfl (by first | exact Or.inl rfl | exact Or.inr rfl))) (fun _ _ _ _ _ => pts_nil) (fun _ _ _ _ _ => (pe_op o_divv (pe_op o_sub (pe_op o_mul (pe_ix ix_seq (pv 4) pe_int (fun _ _ => rfl)) (pe_ix ix_seq (pv 6) (pv 8) (fun _ _ => rfl))) (pe_op o_mul (pe_ix ix_seq (pv 6) pe_int (fun _ _ => rfl)) (pe_ix ix_seq (pv 4) (pv 8) (fun _ _ => rfl)))) (pv 1))))))
    (pss_one (ps_set (i := 1) sc_determinant.nd rfl (by first | exact Or.inl rfl | exact Or.inr rfl) (pe_ix ix_seq (pv 4) pe_int (fun _ _ => rfl))))))))))
    (pss_one (ps_ret (pe_callB c_abs (by rfl) W.abs (by first | boot_by_name | rfl | kernel_rfl) (pa_cons (pv 1) pa_nil)))))))
theorem ok_determinant (W : Fr mg) {f : Addr} {fd : FuncData} (F : FunD K "determinant" "determinant" (defArgs s_determinant) (defBody s_determinant) (defScope s_determinant) [] [] f fd) : FnOk P w K mg base CX0 1 f fd ["rows"] (sp_determinant K) := by
  refine F.ok sc_determinant ?_ (fun cdv A outer s H vs Q E hr h => ⟨t_determinant K, PSs.nox (b_determinant W hr), pure_determinant vs H Q E h⟩)
  walk_at "splen"
theorem sc_is_basis : FnScope N_is_basis ["deep", "rows"] (defScope s_is_basis) := ⟨rfl, rfl, rfl, by decide +kernel, rfl, by decide +kernel, by decide +kernel⟩
theorem b_is_basis (W : Fr mg) (D_determinant : Fd P w K mg base CX0 "determinant" 1 ["rows"] (sp_determinant K)) {f : Addr} {cdv : Value} {A : Around} {outer : List Env} {s : Shared} {H : Hp} {E : XK} (hr : Room 1 (A.deeper (envOfC "is_basis" (defScope s_is_basis) s.heap.objs.size f cdv))) :
  PSs (cxOf CX0 P w K mg base N_is_basis "is_basis" (defScope s_is_basis) f cdv A outer s H E).nox (defBody s_is_basis) (t_is_basis K) :=
  have hu64 := hr.units
  have hu65 : (A.deeper (envOfC "is_basis" (defScope s_is_basis) s.heap.objs.size f cdv)).units + 65 < cLine := by have := hr.un; omega
  (pss_cons (ps_if (PW.pt (pw_or (pt_cmpR (o_ne hu64) (pe_callB c_len (by rfl) W.len (by first | boot_by_name | rfl | kernel_rfl) (pa_cons (pv 1) pa_nil)) (pv 0) (nomark _)) (pw_or1 (pt_val (pe_callB (c_any rfl) (by rfl) W.any (by first | boot_by_name | rfl | kernel_rfl) (pa_cons (pe_lc (own := [("row", 2)]) (g := (gName 2)) (tt := tYes) (by rfl) sc_is_basis.nd (pi_sq (pv 1)) (blkOk_by (own := [("row", 2)]) (N := N_is_basis) (sc := (defScope s_is_basis)) (by decide +kernel)) (fun _ _ _ _ _ => (pg_name (i := 2) sc_is_basis.nd rfl (by first | exact Or.inl rfl | exact Or.inr rfl))) (fun _ _ _ _ _ => pts_nil) (fun _ _ _ _ _ => (pe_cmpR (o_ne hu64) (pe_callB c_len (by rfl) W.len (by first | boot_by_name | rfl | kernel_rfl) (pa_cons (pv 2) pa_nil)) (pv 0) (nomark _)))) pa_nil)))))) (pss_one (ps_ret pe_bl)) pss_nil)
    (pss_one (ps_ret (pe_cmpR (o_eq hu64) (pe_fd D_determinant (hr.mono (by omega)) (pa_cons (pv 1) pa_nil)) pe_int (nomark _)))))
theorem ok_is_basis (W : Fr mg) (D_determinant : Fd P w K mg base CX0 "determinant" 1 ["rows"] (sp_determinant K)) {f : Addr} {fd : FuncData} (F : FunD K "is_basis" "is_basis" (defArgs s_is_basis) (defBody s_is_basis) (defScope s_is_basis) [] [] f fd) : FnOk P w K mg base CX0 2 f fd ["deep", "rows"] (sp_is_basis K) := by
  refine F.ok sc_is_basis ?_ (fun cdv A outer s H vs Q E hr h => ⟨t_is_basis K, PSs.nox (b_is_basis W D_determinant hr), pure_is_basis vs H Q E h⟩)
  walk_at "splen"
theorem sc_law_some : FnScope N_law_some ["bag", "things", "amount"] (defScope s_law_some) := ⟨rfl, rfl, rfl, by decide +kernel, rfl, by decide +kernel, by decide +kernel⟩
theorem b_law_some (W : Fr mg) (D_law_draw : Fd P w K mg base CX0 "_law_draw" 1 ["bag", "size"] (sp_law_draw K)) {f : Addr} {cdv : Value} {A : Around} {outer : List Env} {s : Shared} {H : Hp} {E : XK} (hr : Room 1 (A.deeper (envOfC "_law_some" (defScope s_law_some) s.heap.objs.size f cdv))) :
  PSs (cxOf CX0 P w K mg base N_law_some "_law_some" (defScope s_law_some) f cdv A outer s H E).nox (defBody s_law_some) (t_law_some K) :=
  have hu64 := hr.units
  have hu65 : (A.deeper (envOfC "_law_some" (defScope s_law_some) s.heap.objs.size f cdv)).units + 65 < cLine := by have := hr.un; omega
  (pss_cons (ps_par (i := 3) (j := 4) (by rfl) sc_law_some.nd rfl rfl (by decide) rfl rfl (pa_cons (pe_callTy c_list (by rfl) W.list (by first | boot_by_name | rfl | kernel_rfl) (pa_cons (pv 1) pa_nil)) (pa_cons (pe_lst pa_nil) pa_nil)) (by rfl))
    (pss_cons (ps_for PassesOwn.never rfl (pi_range1 (by rfl) W.range (pa_cons (pe_callB (c_min2 rfl) (by rfl) W.min (by first | boot_by_name | rfl | kernel_rfl) (pa_cons (pv 2) (pa_cons (pe_callB c_len (by rfl) W.len (by first | boot_by_name | rfl | kernel_rfl) (pa_cons (pv 1) pa_nil)) pa_nil))) pa_nil)) (pg_name (i := 5) sc_law_some.nd rfl (by first | exact Or.inl rfl | exact Or.inr rfl))
    (pss_one (ps_expr (pe_bm PySem.F.plainAttrs_list PySem.F.slot_list_append PySem.F.type_list_append mt_append (pv 4) (pa_cons (pe_bm PySem.F.plainAttrs_list PySem.F.slot_list_pop PySem.F.type_list_pop mt_popAt (pv 3) (pa_cons (pe_fd D_law_draw (hr.mono (by omega)) (pa_cons (pv 0) (pa_cons (pe_callB c_len (by rfl) W.len (by first | boot_by_name | rfl | kernel_rfl) (pa_cons (pv 3) pa_nil)) pa_nil))) pa_nil)) pa_nil)))))
    (pss_one (ps_ret (pv 4)))))
theorem ok_law_some (W : Fr mg) (D_law_draw : Fd P w K mg base CX0 "_law_draw" 1 ["bag", "size"] (sp_law_draw K)) {f : Addr} {fd : FuncData} (F : FunD K "_law_some" "_law_some" (defArgs s_law_some) (defBody s_law_some) (defScope s_law_some) [] [] f fd) : FnOk P w K mg base CX0 2 f fd ["bag", "things", "amount"] (sp_law_some K) := by
  refine F.ok sc_law_some ?_ (fun cdv A outer s H vs Q E hr h => ⟨t_law_some K, PSs.nox (b_law_some W D_law_draw hr), pure_law_some vs H Q E h⟩)
  walk_at "splen"
theorem sc_law_int : FnScope N_law_int ["v"] (defScope s_law_int) := ⟨rfl, rfl, rfl, by decide +kernel, rfl, by decide +kernel, by decide +kernel⟩
theorem b_law_int (W : Fr mg) {f : Addr} {cdv : Value} {A : Around} {outer : List Env} {s : Shared} {H : Hp} {E : XK} (hr : Room 0 (A.deeper (envOfC "_law_int" (defScope s_law_int) s.heap.objs.size f cdv))) :
  PSs (cxOf CX0 P w K mg base N_law_int "_law_int" (defScope s_law_int) f cdv A outer s H E).nox (defBody s_law_int) (t_law_int K) :=
  have hu64 := hr.units
  have hu65 : (A.deeper (envOfC "_law_int" (defScope s_law_int) s.heap.objs.size f cdv)).units + 65 < cLine := by have := hr.un; omega
  (pss_one (ps_ret (pe_and (pe_callB c_isi (by rfl) W.isinstance (by first | boot_by_name | rfl | kernel_rfl) (pa_cons (pv 0) (pa_cons (pe_bltn (v := .ty "int") rfl W.int (by first | boot_by_name | rfl | kernel_rfl) rfl) pa_nil))) (pe_one (pe_not (pe_callB c_isi (by rfl) W.isinstance (by first | boot_by_name | rfl | kernel_rfl) (pa_cons (pv 0) (pa_cons (pe_bltn (v := .ty "bool") rfl W.bool (by first | boot_by_name | rfl | kernel_rfl) rfl) pa_nil))))))))
theorem ok_law_int (W : Fr mg) {f : Addr} {fd : FuncData} (F : FunD K "_law_int" "_law_int" (defArgs s_law_int) (defBody s_law_int) (defScope s_law_int) [] [] f fd) : FnOk P w K mg base CX0 1 f fd ["v"] (sp_law_int K) := by
  refine F.ok sc_law_int ?_ (fun cdv A outer s H vs Q E hr h => ⟨t_law_int K, PSs.nox (b_law_int W hr), pure_law_int vs H Q E h⟩)
  walk_at "splen"
theorem sc_law_like : FnScope N_law_like ["told", "due"] (defScope s_law_like) := ⟨rfl, rfl, rfl, by decide +kernel, rfl, by decide +kernel, by decide +kernel⟩
theorem b_law_like (n : Nat) (W : Fr mg) (D_law_int : Fd P w K mg base CX0 "_law_int" 1 ["v"] (sp_law_int K)) (D_law_like : Fd P w K mg base CX0 "_law_like" (2 + n) ["told", "due"] (sp_law_like K n)) {f : Addr} {cdv : Value} {A : Around} {outer : List Env} {s : Shared} {H : Hp} {E : XK} (hr : Room (2 + n) (A.deeper (envOfC "_law_like" (defScope s_law_like) s.heap.objs.size f cdv))) :
  PSs (cxOf CX0 P w K mg base N_law_like "_law_like" (defScope s_law_like) f cdv A outer s H E).nox (defBody s_law_like) (t_law_like K n) :=
  have hu64 := hr.units
  have hu65 : (A.deeper (envOfC "_law_like" (defScope s_law_like) s.heap.objs.size f cdv)).units + 65 < cLine := by have := hr.un; omega
  (pss_cons (ps_if (pt_cmpR o_is (pv 1) pe_non (nomark _)) (pss_one (ps_ret (pe_cmpR o_is (pv 0) pe_non (nomark _)))) pss_nil)
    (pss_cons (ps_if (pt_val (pe_callB c_isi (by rfl) W.isinstance (by first | boot_by_name | rfl | kernel_rfl) (pa_cons (pv 1) (pa_cons (pe_bltn (v := .ty "bool") rfl W.bool (by first | boot_by_name | rfl | kernel_rfl) rfl) pa_nil)))) (pss_one (ps_ret (pe_and (pe_callB c_isi (by rfl) W.isinstance (by first | boot_by_name | rfl | kernel_rfl) (pa_cons (pv 0) (pa_cons (pe_bltn (v := .ty "bool") rfl W.bool (by first | boot_by_name | rfl | kernel_rfl) rfl) pa_nil))) (pe_one (pe_cmpR (o_eq hu64) (pv 0) (pv 1) (nomark _)))))) pss_nil)
    (pss_cons (ps_if (pt_val (pe_fd D_law_int (hr.mono (by omega)) (pa_cons (pv 1) pa_nil))) (pss_one (ps_ret (pe_and (pe_fd D_law_int (hr.mono (by omega)) (pa_cons (pv 0) pa_nil)) (pe_one (pe_cmpR (o_eq hu64) (pv 0) (pv 1) (nomark _)))))) pss_nil)
    (pss_cons (ps_if (pt_val (pe_callB c_isi (by rfl) W.isinstance (by first | boot_by_name | rfl | kernel_rfl) (pa_cons (pv 1) (pa_cons (pe_bltn (v := .ty "str") rfl W.str (by first | boot_by_name | rfl | kernel_rfl) rfl) pa_nil)))) (pss_one (ps_ret (pe_and (pe_callB c_isi (by rfl) W.isinstance (by first | boot_by_name | rfl | kernel_rfl) (pa_cons (pv 0) (pa_cons (pe_bltn (v := .ty "str") rfl W.str (by first | boot_by_name | rfl | kernel_rfl) rfl) pa_nil))) (pe_one (pe_cmpR (o_eq hu64) (pv 0) (pv 1) (nomark _)))))) pss_nil)
    (pss_cons (ps_if (PW.pt (pw_or (PW.pt (pw_and (pt_val (pe_callB c_isi (by rfl) W.isinstance (by first | boot_by_name | rfl | kernel_rfl) (pa_cons (pv 1) (pa_cons (pe_bltn (v := .ty "list") rfl W.list (by first | boot_by_name | rfl | kernel_rfl) rfl) pa_nil)))) (pw_and1 (pt_not (pt_val (pe_callB c_isi (by rfl) W.isinstance (by first | boot_by_name | rfl | kernel_rfl) (pa_cons (pv 0) (pa_cons (pe_bltn (v := .ty "list") rfl W.list (by first | boot_by_name | rfl | kernel_rfl) rfl) pa_nil)))))))) (pw_or1 (PW.pt (pw_and (pt_val (pe_callB c_isi (by rfl) W.isinstance (by first | boot_by_name | rfl | kernel_rfl) (pa_cons (pv 1) (pa_cons (pe_bltn (v := .ty "tuple") rfl W.tuple (by first | boot_by_name | rfl | kernel_rfl) rfl) pa_nil)))) (pw_and1 (pt_not (pt_val (pe_callB c_isi (by rfl) W.isinstance (by first | boot_by_name | rfl | kernel_rfl) (pa_cons (pv 0) (pa_cons (pe_bltn (v := .ty "tuple") rfl W.tuple (by first | boot_by_name | rfl | kernel_rfl) rfl) pa_nil))))))))))) (pss_one (ps_ret pe_bl)) pss_nil)
    (pss_one (ps_ret (pe_and (pe_cmpR (o_eq hu64) (pe_callB c_len (by rfl) W.len (by first | boot_by_name | rfl | kernel_rfl) (pa_cons (pv 0) pa_nil)) (pe_callB c_len (by rfl) W.len (by first | boot_by_name | rfl | kernel_rfl) (pa_cons (pv 1) pa_nil)) (nomark _)) (pe_one (pe_callB (cr_all rfl) (by rfl) W.all (by first | boot_by_name | rfl | kernel_rfl) (pa_cons (pe_lc (own := [("x", 2), ("y", 3)]) (g := (gTup K 2 (gCons (gName 2) (gCons (gName 3) gNil)))) (tt := tYes) (by rfl) sc_law_like.nd (pi_zipA (by rfl) W.zip (pa_cons (pv 0) (pa_cons (pv 1) pa_nil))) (blkOk_by (own := [("x", 2), ("y", 3)]) (N := N_law_like) (sc := (defScope s_law_like)) (by decide +kernel)) (fun _ _ _ _ _ => (pg_tup (by rfl) (pgs_cons (pg_name (i := 2) sc_law_like.nd rfl (by first | exact Or.inl rfl | exact Or.inr rfl)) (pgs_cons (pg_name (i := 3) sc_law_like.nd rfl (by first | exact Or.inl rfl | exact Or.inr rfl)) pgs_nil)))) (fun _ _ _ _ _ => pts_nil) (fun _ _ _ _ _ => (pe_fd D_law_like (hr.mono (by omega)) (pa_cons (pv 2) (pa_cons (pv 3) pa_nil))))) pa_nil)))))))))))
theorem ok_law_like (W : Fr mg) (D_law_int : Fd P w K mg base CX0 "_law_int" 1 ["v"] (sp_law_int K)) {f : Addr} {fd : FuncData} (F : FunD K "_law_like" "_law_like" (defArgs s_law_like) (defBody s_law_like) (defScope s_law_like) [] [] f fd) (gF : mg "_law_like" = some (.ref f)) : ∀ n : Nat, FnOk P w K mg base CX0 (2 + n) f fd ["told", "due"] (sp_law_like K n)
  | 0 => F.ok (k := 1) sc_law_like (fun vs H Q E h => (no_law_like h).elim) (fun cdv A outer s H vs Q E hr h => (no_law_like h).elim)
  | n + 1 => by
    refine F.ok (k := 2 + n) sc_law_like ?_ (fun cdv A outer s H vs Q E hr h => ⟨t_law_like K n, PSs.nox (b_law_like n W D_law_int (U.fd_of (st := s_law_like) F (ok_law_like W D_law_int F gF n) gF (fun _ _ _ _ _ _ us hl => match us, hl with | [_, _], _ => rfl)) hr), pure_law_like n vs H Q E h⟩)
    walk_at "splen"
theorem sc_primitive_row : FnScope N_primitive_row ["row"] (defScope s_primitive_row) := ⟨rfl, rfl, rfl, by decide +kernel, rfl, by decide +kernel, by decide +kernel⟩
theorem b_primitive_row (W : Fr mg) (M_gcd : mg "gcd" = some (.builtin "math.gcd")) {f : Addr} {cdv : Value} {A : Around} {outer : List Env} {s : Shared} {H : Hp} {E : XK} (hr : Room 0 (A.deeper (envOfC "primitive_row" (defScope s_primitive_row) s.heap.objs.size f cdv))) :
  PSs (cxOf CX0 P w K mg base N_primitive_row "primitive_row" (defScope s_primitive_row) f cdv A outer s H E).nox (defBody s_primitive_row) (t_primitive_row K) :=
  have hu64 := hr.units
  have hu65 : (A.deeper (envOfC "primitive_row" (defScope s_primitive_row) s.heap.objs.size f cdv)).units + 65 < cLine := by have := hr.un; omega
  (pss_cons (ps_set (i := 1) sc_primitive_row.nd rfl (by first | exact Or.inl rfl | exact Or.inr rfl) pe_int)
    (pss_cons (ps_for PassesOwn.never rfl (pi_sq (pv 0)) (pg_name (i := 2) sc_primitive_row.nd rfl (by first | exact Or.inl rfl | exact Or.inr rfl))
    (pss_one (ps_set (i := 1) sc_primitive_row.nd rfl (by first | exact Or.inl rfl | exact Or.inr rfl) (pe_callBfun cr_gcd rfl M_gcd (pa_cons (pv 1) (pa_cons (pv 2) pa_nil))))))
    (pss_cons (ps_if (pt_cmpR o_le (pv 1) pe_int (nomark _)) (pss_one (ps_ret (pv 0))) pss_nil)
    (pss_one (ps_ret (pe_lc (own := [("number", 2)]) (g := (gName 2)) (tt := tYes) (by rfl) sc_primitive_row.nd (pi_sq (pv 0)) (blkOk_by (own := [("number", 2)]) (N := N_primitive_row) (sc := (defScope s_primitive_row)) (by decide +kernel)) (fun _ _ _ _ _ => (pg_name (i := 2) sc_primitive_row.nd rfl (by first | exact Or.inl rfl | exact Or.inr rfl))) (fun _ _ _ _ _ => pts_nil) (fun _ _ _ _ _ => (pe_op o_div (pv 2) (pv 1)))))))))
theorem ok_primitive_row (W : Fr mg) (M_gcd : mg "gcd" = some (.builtin "math.gcd")) {f : Addr} {fd : FuncData} (F : FunD K "primitive_row" "primitive_row" (defArgs s_primitive_row) (defBody s_primitive_row) (defScope s_primitive_row) [] [] f fd) : FnOk P w K mg base CX0 1 f fd ["row"] (sp_primitive_row K) := by
  refine F.ok sc_primitive_row ?_ (fun cdv A outer s H vs Q E hr h => ⟨t_primitive_row K, PSs.nox (b_primitive_row W M_gcd hr), pure_primitive_row vs H Q E h⟩)
  walk_at "splen"
theorem sc_first_with : FnScope N_first_with ["rows", "place"] (defScope s_first_with) := ⟨rfl, rfl, rfl, by decide +kernel, rfl, by decide +kernel, by decide +kernel⟩
theorem b_first_with (W : Fr mg) {f : Addr} {cdv : Value} {A : Around} {outer : List Env} {s : Shared} {H : Hp} {E : XK} (hr : Room 0 (A.deeper (envOfC "first_with" (defScope s_first_with) s.heap.objs.size f cdv))) :
  PSs (cxOf CX0 P w K mg base N_first_with "first_with" (defScope s_first_with) f cdv A outer s H E).nox (defBody s_first_with) (t_first_with K) :=
  have hu64 := hr.units
  have hu65 : (A.deeper (envOfC "first_with" (defScope s_first_with) s.heap.objs.size f cdv)).units + 65 < cLine := by have := hr.un; omega
  (pss_cons (ps_for PassesOwn.never rfl (pi_enum (by rfl) W.enumerate (pa_cons (pv 0) pa_nil)) (pg_tup (by rfl) (pgs_cons (pg_name (i := 2) sc_first_with.nd rfl (by first | exact Or.inl rfl | exact Or.inr rfl)) (pgs_cons (pg_name (i := 3) sc_first_with.nd rfl (by first | exact Or.inl rfl | exact Or.inr rfl)) pgs_nil)))
    (pss_one (ps_if (pt_cmpR (o_ne hu64) (pe_ix ix_seq (pv 3) (pv 1) (fun _ _ => rfl)) pe_int (nomark _)) (pss_one (ps_ret (pv 2))) pss_nil)))
    (pss_one (ps_ret (pe_un o_neg pe_int))))
theorem ok_first_with (W : Fr mg) {f : Addr} {fd : FuncData} (F : FunD K "first_with" "first_with" (defArgs s_first_with) (defBody s_first_with) (defScope s_first_with) [] [] f fd) : FnOk P w K mg base CX0 1 f fd ["rows", "place"] (sp_first_with K) := by
  refine F.ok sc_first_with ?_ (fun cdv A outer s H vs Q E hr h => ⟨t_first_with K, PSs.nox (b_first_with W hr), pure_first_with vs H Q E h⟩)
  walk_at "splen"
theorem sc_led_row : FnScope N_led_row ["row", "place"] (defScope s_led_row) := ⟨rfl, rfl, rfl, by decide +kernel, rfl, by decide +kernel, by decide +kernel⟩
theorem b_led_row (W : Fr mg) {f : Addr} {cdv : Value} {A : Around} {outer : List Env} {s : Shared} {H : Hp} {E : XK} (hr : Room 0 (A.deeper (envOfC "led_row" (defScope s_led_row) s.heap.objs.size f cdv))) :
  PSs (cxOf CX0 P w K mg base N_led_row "led_row" (defScope s_led_row) f cdv A outer s H E).nox (defBody s_led_row) (t_led_row K) :=
  have hu64 := hr.units
  have hu65 : (A.deeper (envOfC "led_row" (defScope s_led_row) s.heap.objs.size f cdv)).units + 65 < cLine := by have := hr.un; omega
  (pss_cons (ps_if (pt_cmpR o_gt (pe_ix ix_seq (pv 0) (pv 1) (fun _ _ => rfl)) pe_int (nomark _)) (pss_one (ps_ret (pv 0))) pss_nil)
    (pss_one (ps_ret (pe_lc (own := [("number", 2)]) (g := (gName 2)) (tt := tYes) (by rfl) sc_led_row.nd (pi_sq (pv 0)) (blkOk_by (own := [("number", 2)]) (N := N_led_row) (sc := (defScope s_led_row)) (by decide +kernel)) (fun _ _ _ _ _ => (pg_name (i := 2) sc_led_row.nd rfl (by first | exact Or.inl rfl | exact Or.inr rfl))) (fun _ _ _ _ _ => pts_nil) (fun _ _ _ _ _ => (pe_un o_neg (pv 2)))))))
theorem ok_led_row (W : Fr mg) {f : Addr} {fd : FuncData} (F : FunD K "led_row" "led_row" (defArgs s_led_row) (defBody s_led_row) (defScope s_led_row) [] [] f fd) : FnOk P w K mg base CX0 1 f fd ["row", "place"] (sp_led_row K) := by
  refine F.ok sc_led_row ?_ (fun cdv A outer s H vs Q E hr h => ⟨t_led_row K, PSs.nox (b_led_row W hr), pure_led_row vs H Q E h⟩)
  walk_at "splen"
theorem sc_struck : FnScope N_struck ["row", "lead", "place"] (defScope s_struck) := ⟨rfl, rfl, rfl, by decide +kernel, rfl, by decide +kernel, by decide +kernel⟩
theorem b_struck (W : Fr mg) (D_primitive_row : Fd P w K mg base CX0 "primitive_row" 1 ["row"] (sp_primitive_row K)) {f : Addr} {cdv : Value} {A : Around} {outer : List Env} {s : Shared} {H : Hp} {E : XK} (hr : Room 1 (A.deeper (envOfC "struck" (defScope s_struck) s.heap.objs.size f cdv))) :
  PSs (cxOf CX0 P w K mg base N_struck "struck" (defScope s_struck) f cdv A outer s H E).nox (defBody s_struck) (t_struck K) :=
  have hu64 := hr.units
  have hu65 : (A.deeper (envOfC "struck" (defScope s_struck) s.heap.objs.size f cdv)).units + 65 < cLine := by have := hr.un; omega
  (pss_cons (ps_set (i := 3) sc_struck.nd rfl (by first | exact Or.inl rfl | exact Or.inr rfl) (pe_ix ix_seq (pv 0) (pv 2) (fun _ _ => rfl)))
    (pss_cons (ps_if (pt_cmpR (o_eq hu64) (pv 3) pe_int (nomark _)) (pss_one (ps_ret (pv 0))) pss_nil)
    (pss_cons (ps_set (i := 4) sc_struck.nd rfl (by first | exact Or.inl rfl | exact Or.inr rfl) (pe_ix ix_seq (pv 1) (pv 2) (fun _ _ => rfl)))
    (pss_one (ps_ret (pe_fd D_primitive_row (hr.mono (by omega)) (pa_cons (pe_lc (own := [("number", 5), ("other", 6)]) (g := (gTup K 2 (gCons (gName 5) (gCons (gName 6) gNil)))) (tt := tYes) (by rfl) sc_struck.nd (pi_zipU (by rfl) W.zip (pa_cons (pv 0) (pa_cons (pv 1) pa_nil))) (blkOk_by (own := [("number", 5), ("other", 6)]) (N := N_struck) (sc := (defScope s_struck)) (by decide +kernel)) (fun _ _ _ _ _ => (pg_tup (by rfl) (pgs_cons (pg_name (i := 5) sc_struck.nd rfl (by first | exact Or.inl rfl | exact Or.inr rfl)) (pgs_cons (pg_name (i := 6) sc_struck.nd rfl (by first | exact Or.inl rfl | exact Or.inr rfl)) pgs_nil)))) (fun _ _ _ _ _ => pts_nil) (fun _ _ _ _ _ => (pe_op o_sub (pe_op o_mul (pv 4) (pv 5)) (pe_op o_mul (pv 3) (pv 6))))) pa_nil)))))))
theorem ok_struck (W : Fr mg) (D_primitive_row : Fd P w K mg base CX0 "primitive_row" 1 ["row"] (sp_primitive_row K)) {f : Addr} {fd : FuncData} (F : FunD K "struck" "struck" (defArgs s_struck) (defBody s_struck) (defScope s_struck) [] [] f fd) : FnOk P w K mg base CX0 2 f fd ["row", "lead", "place"] (sp_struck K) := by
  refine F.ok sc_struck ?_ (fun cdv A outer s H vs Q E hr h => ⟨t_struck K, PSs.nox (b_struck W D_primitive_row hr), pure_struck vs H Q E h⟩)
  walk_at "splen"
theorem sc_echelon : FnScope N_echelon ["deep", "rows"] (defScope s_echelon) := ⟨rfl, rfl, rfl, by decide +kernel, rfl, by decide +kernel, by decide +kernel⟩
theorem b_echelon (W : Fr mg) (D_primitive_row : Fd P w K mg base CX0 "primitive_row" 1 ["row"] (sp_primitive_row K)) (D_first_with : Fd P w K mg base CX0 "first_with" 1 ["rows", "place"] (sp_first_with K)) (D_led_row : Fd P w K mg base CX0 "led_row" 1 ["row", "place"] (sp_led_row K)) (D_struck : Fd P w K mg base CX0 "struck" 2 ["row", "lead", "place"] (sp_struck K)) {f : Addr} {cdv : Value} {A : Around} {outer : List Env} {s : Shared} {H : Hp} {E : XK} (hr : Room 2 (A.deeper (envOfC "echelon" (defScope s_echelon) s.heap.objs.size f cdv))) :
  PSs (cxOf CX0 P w K mg base N_echelon "echelon" (defScope s_echelon) f cdv A outer s H E).nox (defBody s_echelon) (t_echelon K) :=
  have hu64 := hr.units
  have hu65 : (A.deeper (envOfC "echelon" (defScope s_echelon) s.heap.objs.size f cdv)).units + 65 < cLine := by have := hr.un; omega
  (pss_cons (ps_setLc (i := 2) (own := [("row", 8)]) (g := (gName 8)) (tt := (tB (tCB (rAnyU K) (tCons (tCB (rListOf K) (tCons (tVar 8) tNil)) tNil)))) (by rfl) sc_echelon.nd rfl rfl (sw_true rfl rfl rfl (by decide +kernel)) (pi_sq (pv 1)) (blkOk_by (own := [("row", 8)]) (N := N_echelon) (sc := (defScope s_echelon)) (by decide +kernel)) (fun _ _ _ _ _ => (pg_name (i := 8) sc_echelon.nd rfl (by first | exact Or.inl rfl | exact Or.inr rfl))) (fun _ _ _ _ _ => (pts_one (pt_val (pe_callB (c_any rfl) (by rfl) W.any (by first | boot_by_name | rfl | kernel_rfl) (pa_cons (pe_callTy c_list (by rfl) W.list (by first | boot_by_name | rfl | kernel_rfl) (pa_cons (pv 8) pa_nil)) pa_nil))))) (fun _ _ _ _ _ => (pe_fd D_primitive_row (hr.mono (by omega)) (pa_cons (pv 8) pa_nil))))
    (pss_cons (ps_set (i := 3) sc_echelon.nd rfl (by first | exact Or.inl rfl | exact Or.inr rfl) (pe_lst pa_nil))
    (pss_cons (ps_for PassesOwn.never rfl (pi_range1 (by rfl) W.range (pa_cons (pv 0) pa_nil)) (pg_name (i := 4) sc_echelon.nd rfl (by first | exact Or.inl rfl | exact Or.inr rfl))
    (pss_cons (ps_set (i := 5) sc_echelon.nd rfl (by first | exact Or.inl rfl | exact Or.inr rfl) (pe_fd D_first_with (hr.mono (by omega)) (pa_cons (pv 2) (pa_cons (pv 4) pa_nil))))
    (pss_one (ps_if (pt_cmpR o_ge (pv 5) pe_int (nomark _)) (pss_cons (ps_set (i := 6) sc_echelon.nd rfl (by first | exact Or.inl rfl | exact Or.inr rfl) (pe_fd D_led_row (hr.mono (by omega)) (pa_cons (pe_ix ix_seq (pv 2) (pv 5) (fun _ _ => rfl)) (pa_cons (pv 4) pa_nil))))
    (pss_cons (ps_setLc (i := 7) (own := [("row", 8)]) (g := (gName 8)) (tt := tYes) (by rfl) sc_echelon.nd rfl rfl (sw_true rfl rfl rfl (by decide +kernel)) (pi_sq (pe_op o_add (pe_slice o_sl (pv 2) po_none (po_some (pv 5))) (pe_slice o_sl (pv 2) (po_some (pe_op o_add (pv 5) pe_int)) po_none))) (blkOk_by (own := [("row", 8)]) (N := N_echelon) (sc := (defScope s_echelon)) (by decide +kernel)) (fun _ _ _ _ _ => (pg_name (i := 8) sc_echelon.nd rfl (by first | exact Or.inl rfl | exact Or.inr rfl))) (fun _ _ _ _ _ => pts_nil) (fun _ _ _ _ _ => (pe_fd D_struck (hr.mono (by omega)) (pa_cons (pv 8) (pa_cons (pv 6) (pa_cons (pv 4) pa_nil))))))
    (pss_cons (ps_setLc (i := 2) (own := [("row", 8)]) (g := (gName 8)) (tt := (tB (tCB (rAnyU K) (tCons (tCB (rListOf K) (tCons (tVar 8) tNil)) tNil)))) (by rfl) sc_echelon.nd rfl rfl (sw_true rfl rfl rfl (by decide +kernel)) (pi_sq (pv 7)) (blkOk_by (own := [("row", 8)]) (N := N_echelon) (sc := (defScope s_echelon)) (by decide +kernel)) (fun _ _ _ _ _ => (pg_name (i := 8) sc_echelon.nd rfl (by first | exact Or.inl rfl | exact Or.inr rfl))) (fun _ _ _ _ _ => (pts_one (pt_val (pe_callB (c_any rfl) (by rfl) W.any (by first | boot_by_name | rfl | kernel_rfl) (pa_cons (pe_callTy c_list (by rfl) W.list (by first | boot_by_name | rfl | kernel_rfl) (pa_cons (pv 8) pa_nil)) pa_nil))))) (fun _ _ _ _ _ => (pv 8)))
    (pss_one (ps_set (i := 3) sc_echelon.nd rfl (by first | exact Or.inl rfl | exact Or.inr rfl) (pe_op o_add (pe_lc (own := [("row", 8)]) (g := (gName 8)) (tt := tYes) (by rfl) sc_echelon.nd (pi_sq (pv 3)) (blkOk_by (own := [("row", 8)]) (N := N_echelon) (sc := (defScope s_echelon)) (by decide +kernel)) (fun _ _ _ _ _ => (pg_name (i := 8) sc_echelon.nd rfl (by first | exact Or.inl rfl | exact Or.inr rfl))) (fun _ _ _ _ _ => pts_nil) (fun _ _ _ _ _ => (pe_fd D_struck (hr.mono (by omega)) (pa_cons (pv 8) (pa_cons (pv 6) (pa_cons (pv 4) pa_nil)))))) (pe_lst (pa_cons (pv 6) pa_nil)))))))) pss_nil))))
    (pss_one (ps_ret (pe_lc (own := [("row", 8)]) (g := (gName 8)) (tt := tYes) (by rfl) sc_echelon.nd (pi_sq (pv 3)) (blkOk_by (own := [("row", 8)]) (N := N_echelon) (sc := (defScope s_echelon)) (by decide +kernel)) (fun _ _ _ _ _ => (pg_name (i := 8) sc_echelon.nd rfl (by first | exact Or.inl rfl | exact Or.inr rfl))) (fun _ _ _ _ _ => pts_nil) (fun _ _ _ _ _ => (pe_callTy c_tuple (by rfl) W.tuple (by first | boot_by_name | rfl | kernel_rfl) (pa_cons (pv 8) pa_nil)))))))))
theorem ok_echelon (W : Fr mg) (D_primitive_row : Fd P w K mg base CX0 "primitive_row" 1 ["row"] (sp_primitive_row K)) (D_first_with : Fd P w K mg base CX0 "first_with" 1 ["rows", "place"] (sp_first_with K)) (D_led_row : Fd P w K mg base CX0 "led_row" 1 ["row", "place"] (sp_led_row K)) (D_struck : Fd P w K mg base CX0 "struck" 2 ["row", "lead", "place"] (sp_struck K)) {f : Addr} {fd : FuncData} (F : FunD K "echelon" "echelon" (defArgs s_echelon) (defBody s_echelon) (defScope s_echelon) [] [] f fd) : FnOk P w K mg base CX0 3 f fd ["deep", "rows"] (sp_echelon K) := by
  refine F.ok sc_echelon ?_ (fun cdv A outer s H vs Q E hr h => ⟨t_echelon K, PSs.nox (b_echelon W D_primitive_row D_first_with D_led_row D_struck hr), pure_echelon vs H Q E h⟩)
  walk_at "splen"
theorem sc_integer_text : FnScope N_integer_text ["value"] (defScope s_integer_text) := ⟨rfl, rfl, rfl, by decide +kernel, rfl, by decide +kernel, by decide +kernel⟩
theorem b_integer_text (W : Fr mg) (C_LIMIT : ∃ t, mg "LIMIT" = some (.int 1000000000000000000000000000000000000000000000000000000000000 t)) {f : Addr} {cdv : Value} {A : Around} {outer : List Env} {s : Shared} {H : Hp} {E : XK} (hr : Room 0 (A.deeper (envOfC "integer_text" (defScope s_integer_text) s.heap.objs.size f cdv))) :
  PSs (cxOf CX0 P w K mg base N_integer_text "integer_text" (defScope s_integer_text) f cdv A outer s H E).nox (defBody s_integer_text) (t_integer_text K) :=
  have hu64 := hr.units
  have hu65 : (A.deeper (envOfC "integer_text" (defScope s_integer_text) s.heap.objs.size f cdv)).units + 65 < cLine := by have := hr.un; omega
  (pss_cons (ps_if (pt_chain o_lt o_lt (pe_un o_neg (pe_globI C_LIMIT)) (pv 0) (pe_globI C_LIMIT)) (pss_one (ps_ret (pe_callTy c_str (by rfl) W.str (by first | boot_by_name | rfl | kernel_rfl) (pa_cons (pv 0) pa_nil)))) pss_nil)
    pss_bot)
theorem ok_integer_text (W : Fr mg) (C_LIMIT : ∃ t, mg "LIMIT" = some (.int 1000000000000000000000000000000000000000000000000000000000000 t)) {f : Addr} {fd : FuncData} (F : FunD K "integer_text" "integer_text" (defArgs s_integer_text) (defBody s_integer_text) (defScope s_integer_text) [] [] f fd) : FnOk P w K mg base CX0 1 f fd ["value"] (sp_integer_text K) := by
  refine F.ok sc_integer_text ?_ (fun cdv A outer s H vs Q E hr h => ⟨t_integer_text K, PSs.nox (b_integer_text W C_LIMIT hr), pure_integer_text vs H Q E h⟩)
  walk_at "splen"
theorem sc_row_text : FnScope N_row_text ["row"] (defScope s_row_text) := ⟨rfl, rfl, rfl, by decide +kernel, rfl, by decide +kernel, by decide +kernel⟩
theorem b_row_text (W : Fr mg) (D_integer_text : Fd P w K mg base CX0 "integer_text" 1 ["value"] (sp_integer_text K)) {f : Addr} {cdv : Value} {A : Around} {outer : List Env} {s : Shared} {H : Hp} {E : XK} (hr : Room 1 (A.deeper (envOfC "row_text" (defScope s_row_text) s.heap.objs.size f cdv))) :
  PSs (cxOf CX0 P w K mg base N_row_text "row_text" (defScope s_row_text) f cdv A outer s H E).nox (defBody s_row_text) (t_row_text K) :=
  have hu64 := hr.units
  have hu65 : (A.deeper (envOfC "row_text" (defScope s_row_text) s.heap.objs.size f cdv)).units + 65 < cLine := by have := hr.un; omega
  (pss_one (ps_ret (pe_join pe_str (pe_lc (own := [("value", 1)]) (g := (gName 1)) (tt := tYes) (by rfl) sc_row_text.nd (pi_sq (pv 0)) (blkOk_by (own := [("value", 1)]) (N := N_row_text) (sc := (defScope s_row_text)) (by decide +kernel)) (fun _ _ _ _ _ => (pg_name (i := 1) sc_row_text.nd rfl (by first | exact Or.inl rfl | exact Or.inr rfl))) (fun _ _ _ _ _ => pts_nil) (fun _ _ _ _ _ => (pe_fd D_integer_text (hr.mono (by omega)) (pa_cons (pv 1) pa_nil)))))))
theorem ok_row_text (W : Fr mg) (D_integer_text : Fd P w K mg base CX0 "integer_text" 1 ["value"] (sp_integer_text K)) {f : Addr} {fd : FuncData} (F : FunD K "row_text" "row_text" (defArgs s_row_text) (defBody s_row_text) (defScope s_row_text) [] [] f fd) : FnOk P w K mg base CX0 2 f fd ["row"] (sp_row_text K) := by
  refine F.ok sc_row_text ?_ (fun cdv A outer s H vs Q E hr h => ⟨t_row_text K, PSs.nox (b_row_text W D_integer_text hr), pure_row_text vs H Q E h⟩)
  walk_at "splen"
theorem sc_rows_text : FnScope N_rows_text ["rows"] (defScope s_rows_text) := ⟨rfl, rfl, rfl, by decide +kernel, rfl, by decide +kernel, by decide +kernel⟩
theorem b_rows_text (W : Fr mg) (D_row_text : Fd P w K mg base CX0 "row_text" 2 ["row"] (sp_row_text K)) {f : Addr} {cdv : Value} {A : Around} {outer : List Env} {s : Shared} {H : Hp} {E : XK} (hr : Room 2 (A.deeper (envOfC "rows_text" (defScope s_rows_text) s.heap.objs.size f cdv))) :
  PSs (cxOf CX0 P w K mg base N_rows_text "rows_text" (defScope s_rows_text) f cdv A outer s H E).nox (defBody s_rows_text) (t_rows_text K) :=
  have hu64 := hr.units
  have hu65 : (A.deeper (envOfC "rows_text" (defScope s_rows_text) s.heap.objs.size f cdv)).units + 65 < cLine := by have := hr.un; omega
  (pss_cons (ps_if (pt_not (p_truth (pv 0) (by intro _; rfl))) (pss_one (ps_ret pe_str)) pss_nil)
    (pss_one (ps_ret (pe_join pe_str (pe_lc (own := [("row", 1)]) (g := (gName 1)) (tt := tYes) (by rfl) sc_rows_text.nd (pi_sq (pv 0)) (blkOk_by (own := [("row", 1)]) (N := N_rows_text) (sc := (defScope s_rows_text)) (by decide +kernel)) (fun _ _ _ _ _ => (pg_name (i := 1) sc_rows_text.nd rfl (by first | exact Or.inl rfl | exact Or.inr rfl))) (fun _ _ _ _ _ => pts_nil) (fun _ _ _ _ _ => (pe_fd D_row_text (hr.mono (by omega)) (pa_cons (pv 1) pa_nil))))))))
theorem ok_rows_text (W : Fr mg) (D_row_text : Fd P w K mg base CX0 "row_text" 2 ["row"] (sp_row_text K)) {f : Addr} {fd : FuncData} (F : FunD K "rows_text" "rows_text" (defArgs s_rows_text) (defBody s_rows_text) (defScope s_rows_text) [] [] f fd) : FnOk P w K mg base CX0 3 f fd ["rows"] (sp_rows_text K) := by
  refine F.ok sc_rows_text ?_ (fun cdv A outer s H vs Q E hr h => ⟨t_rows_text K, PSs.nox (b_rows_text W D_row_text hr), pure_rows_text vs H Q E h⟩)
  walk_at "splen"
theorem sc_Whole_init : FnScope N_Whole_init ["self", "deep", "rows"] (defScope s_Whole_init) := ⟨rfl, rfl, rfl, by decide +kernel, rfl, by decide +kernel, by decide +kernel⟩
theorem b_Whole_init (W : Fr mg) (D_echelon : Fd P w K mg base CX0 "echelon" 3 ["deep", "rows"] (sp_echelon K)) (D_rows_text : Fd P w K mg base CX0 "rows_text" 3 ["rows"] (sp_rows_text K)) {f : Addr} {cdv : Value} {A : Around} {outer : List Env} {s : Shared} {H : Hp} {E : XK} (hr : Room 3 (A.deeper (envOfC "Whole.__init__" (defScope s_Whole_init) s.heap.objs.size f cdv))) :
  PSs (cxOf CX0 P w K mg base N_Whole_init "Whole.__init__" (defScope s_Whole_init) f cdv A outer s H E).nox (defBody s_Whole_init) (t_Whole_init K) :=
  have hu64 := hr.units
  have hu65 : (A.deeper (envOfC "Whole.__init__" (defScope s_Whole_init) s.heap.objs.size f cdv)).units + 65 < cLine := by have := hr.un; omega
  (pss_cons (ps_for PassesOwn.never rfl (pi_enum (by rfl) W.enumerate (pa_cons (pv 2) pa_nil)) (pg_tup (by rfl) (pgs_cons (pg_name (i := 3) sc_Whole_init.nd rfl (by first | exact Or.inl rfl | exact Or.inr rfl)) (pgs_cons (pg_name (i := 4) sc_Whole_init.nd rfl (by first | exact Or.inl rfl | exact Or.inr rfl)) pgs_nil)))
    (pss_one (ps_if (pt_cmpR (o_ne hu64) (pe_callB c_len (by rfl) W.len (by first | boot_by_name | rfl | kernel_rfl) (pa_cons (pv 4) pa_nil)) (pv 1) (nomark _)) (pss_one ps_bot) pss_nil)))
    (pss_cons (ps_fld (pv 0) (pv 1) rfl)
    (pss_cons (ps_fld (pv 0) (pe_fd D_echelon (hr.mono (by omega)) (pa_cons (pv 1) (pa_cons (pv 2) pa_nil))) rfl)
    (pss_one (ps_fld (pv 0) (pe_fd D_rows_text (hr.mono (by omega)) (pa_cons (pe_fld (pv 0) rfl) pa_nil)) rfl)))))
theorem ok_Whole_init (W : Fr mg) (D_echelon : Fd P w K mg base CX0 "echelon" 3 ["deep", "rows"] (sp_echelon K)) (D_rows_text : Fd P w K mg base CX0 "rows_text" 3 ["rows"] (sp_rows_text K)) (WF : WholeF K) {f : Addr} {fd : FuncData} (F : FunD K "__init__" "Whole.__init__" (defArgs s_Whole_init) (defBody s_Whole_init) (defScope s_Whole_init) [] [] f fd) : FnOk P w K mg base CX0 4 f fd ["self", "deep", "rows"] (sp_Whole_init K) := by
  refine F.ok sc_Whole_init ?_ (fun cdv A outer s H vs Q E hr h => ⟨t_Whole_init K, PSs.nox (b_Whole_init W D_echelon D_rows_text hr), pure_Whole_init WF vs H Q E h⟩)
  walk_at "splen"
theorem sc_unit_rows : FnScope N_unit_rows ["deep"] (defScope s_unit_rows) := ⟨rfl, rfl, rfl, by decide +kernel, rfl, by decide +kernel, by decide +kernel⟩
theorem b_unit_rows (W : Fr mg) {f : Addr} {cdv : Value} {A : Around} {outer : List Env} {s : Shared} {H : Hp} {E : XK} (hr : Room 0 (A.deeper (envOfC "unit_rows" (defScope s_unit_rows) s.heap.objs.size f cdv))) :
  PSs (cxOf CX0 P w K mg base N_unit_rows "unit_rows" (defScope s_unit_rows) f cdv A outer s H E).nox (defBody s_unit_rows) (t_unit_rows K) :=
  have hu64 := hr.units
  have hu65 : (A.deeper (envOfC "unit_rows" (defScope s_unit_rows) s.heap.objs.size f cdv)).units + 65 < cLine := by have := hr.un; omega
  (pss_one (ps_ret (pe_lc (own := [("at", 1)]) (g := (gName 1)) (tt := tYes) (by rfl) sc_unit_rows.nd (pi_range1 (by rfl) W.range (pa_cons (pv 0) pa_nil)) (blkOk_by (own := [("at", 1)]) (N := N_unit_rows) (sc := (defScope s_unit_rows)) (by decide +kernel)) (fun _ _ _ _ _ => (pg_name (i := 1) sc_unit_rows.nd rfl (by first | exact Or.inl rfl | exact Or.inr rfl))) (fun _ _ _ _ _ => pts_nil) (fun _ _ _ _ _ => (pe_callTy c_tuple (by rfl) W.tuple (by first | boot_by_name | rfl | kernel_rfl) (pa_cons (pe_lc (own := [("place", 2)]) (g := (gName 2)) (tt := tYes) (by rfl) sc_unit_rows.nd (pi_range1 (by rfl) W.range (pa_cons (pv 0) pa_nil)) (blkOk_by (own := [("place", 2)]) (N := N_unit_rows) (by kernel_rfl)) (fun _ _ _ _ _ => (pg_name (i := 2) sc_unit_rows.nd rfl (by first | exact Or.inl rfl | exact Or.inr rfl))) (fun _ _ _ _ _ => pts_nil) (fun _ _ _ _ _ => (pe_ifExp (pt_cmpR (o_eq hu64) (pv 2) (pv 1) (nomark _)) pe_int pe_int))) pa_nil))))))
theorem ok_unit_rows (W : Fr mg) {f : Addr} {fd : FuncData} (F : FunD K "unit_rows" "unit_rows" (defArgs s_unit_rows) (defBody s_unit_rows) (defScope s_unit_rows) [] [] f fd) : FnOk P w K mg base CX0 1 f fd ["deep"] (sp_unit_rows K) := by
  refine F.ok sc_unit_rows ?_ (fun cdv A outer s H vs Q E hr h => ⟨t_unit_rows K, PSs.nox (b_unit_rows W hr), pure_unit_rows vs H Q E h⟩)
  walk_at "splen"
theorem sc_Whole_everything : FnScope N_Whole_everything ["deep"] (defScope s_Whole_everything) := ⟨rfl, rfl, rfl, by decide +kernel, rfl, by decide +kernel, by decide +kernel⟩
theorem b_Whole_everything (W : Fr mg) (D_unit_rows : Fd P w K mg base CX0 "unit_rows" 1 ["deep"] (sp_unit_rows K)) (N_Whole : Nd P w K mg base "Whole" (He.ga K "Whole") 4 ["self", "deep", "rows"] (sp_Whole_init K)) {f : Addr} {cdv : Value} {A : Around} {outer : List Env} {s : Shared} {H : Hp} {E : XK} (hr : Room 5 (A.deeper (envOfC "Whole.everything" (defScope s_Whole_everything) s.heap.objs.size f cdv))) :
  PSs (cxOf CX0 P w K mg base N_Whole_everything "Whole.everything" (defScope s_Whole_everything) f cdv A outer s H E).nox (defBody s_Whole_everything) (t_Whole_everything K) :=
  have hu64 := hr.units
  have hu65 : (A.deeper (envOfC "Whole.everything" (defScope s_Whole_everything) s.heap.objs.size f cdv)).units + 65 < cLine := by have := hr.un; omega
  (pss_one (ps_ret (pe_nd N_Whole (hr.mono (by omega)) (pa_cons (pv 0) (pa_cons (pe_fd D_unit_rows (hr.mono (by omega)) (pa_cons (pv 0) pa_nil)) pa_nil)))))
theorem ok_Whole_everything (W : Fr mg) (D_unit_rows : Fd P w K mg base CX0 "unit_rows" 1 ["deep"] (sp_unit_rows K)) (N_Whole : Nd P w K mg base "Whole" (He.ga K "Whole") 4 ["self", "deep", "rows"] (sp_Whole_init K)) {f : Addr} {fd : FuncData} (F : FunD K "everything" "Whole.everything" (defArgs s_Whole_everything) (defBody s_Whole_everything) (defScope s_Whole_everything) [] [] f fd) : FnOk P w K mg base CX0 6 f fd ["deep"] (sp_Whole_everything K) := by
  refine F.ok sc_Whole_everything ?_ (fun cdv A outer s H vs Q E hr h => ⟨t_Whole_everything K, PSs.nox (b_Whole_everything W D_unit_rows N_Whole hr), pure_Whole_everything vs H Q E h⟩)
  walk_at "splen"
theorem sc_Whole_eq : FnScope N_Whole_eq ["self", "other"] (defScope s_Whole_eq) := ⟨rfl, rfl, rfl, by decide +kernel, rfl, by decide +kernel, by decide +kernel⟩
theorem b_Whole_eq (W : Fr mg) (G_Whole : mg "Whole" = some (.ref (He.ga K "Whole"))) {f : Addr} {cdv : Value} {A : Around} {outer : List Env} {s : Shared} {H : Hp} {E : XK} (hr : Room 0 (A.deeper (envOfC "Whole.__eq__" (defScope s_Whole_eq) s.heap.objs.size f cdv))) :
  PSs (cxOf CX0 P w K mg base N_Whole_eq "Whole.__eq__" (defScope s_Whole_eq) f cdv A outer s H E).nox (defBody s_Whole_eq) (t_Whole_eq K) :=
  have hu64 := hr.units
  have hu65 : (A.deeper (envOfC "Whole.__eq__" (defScope s_Whole_eq) s.heap.objs.size f cdv)).units + 65 < cLine := by have := hr.un; omega
  (pss_one (ps_ret (pe_and (pe_callB c_isi (by rfl) W.isinstance (by first | boot_by_name | rfl | kernel_rfl) (pa_cons (pv 1) (pa_cons (pe_glob rfl G_Whole rfl) pa_nil))) (pe_and (pe_cmpR (o_eq hu64) (pe_fld (pv 0) rfl) (pe_fld (pv 1) rfl) (nomark _)) (pe_one (pe_cmpR (o_eq hu64) (pe_fld (pv 0) rfl) (pe_fld (pv 1) rfl) (nomark _)))))))
theorem ok_Whole_eq (W : Fr mg) (G_Whole : mg "Whole" = some (.ref (He.ga K "Whole"))) (WF : WholeF K) {f : Addr} {fd : FuncData} (F : FunD K "__eq__" "Whole.__eq__" (defArgs s_Whole_eq) (defBody s_Whole_eq) (defScope s_Whole_eq) [] [] f fd) : FnOk P w K mg base CX0 1 f fd ["self", "other"] (sp_Whole_eq K) := by
  refine F.ok sc_Whole_eq ?_ (fun cdv A outer s H vs Q E hr h => ⟨t_Whole_eq K, PSs.nox (b_Whole_eq W G_Whole hr), pure_Whole_eq WF vs H Q E h⟩)
  walk_at "splen"
theorem sc_law_basis_so : FnScope N_law_basis_so ["bag", "base", "d"] (defScope s_law_basis_so) := ⟨rfl, rfl, rfl, by decide +kernel, rfl, by decide +kernel, by decide +kernel⟩
theorem b_law_basis_so (W : Fr mg) (G_Whole : mg "Whole" = some (.ref (He.ga K "Whole"))) (D_law_sum : Fd P w K mg base CX0 "_law_sum" (1 + 6) ["base"] (sp_law_sum K 6)) (D_is_basis : Fd P w K mg base CX0 "is_basis" 2 ["deep", "rows"] (sp_is_basis K)) (D_law_some : Fd P w K mg base CX0 "_law_some" 2 ["bag", "things", "amount"] (sp_law_some K)) (D_law_like : Fd P w K mg base CX0 "_law_like" (2 + 12) ["told", "due"] (sp_law_like K 12)) (N_Whole : Nd P w K mg base "Whole" (He.ga K "Whole") 4 ["self", "deep", "rows"] (sp_Whole_init K)) (S_Whole_everything : Sd P w K mg base (He.ga K "Whole") "everything" 6 ["deep"] (sp_Whole_everything K)) (M_Whole_eq : Md P w K mg base (He.ga K "Whole") "__eq__" 1 ["self", "other"] (sp_Whole_eq K)) (K_is_basis : Kd P w K mg base "is_basis" 2 ["deep", "rows"] ["rows", "deep"] gV_is_basis (sp_is_basis K)) {f : Addr} {cdv : Value} {A : Around} {outer : List Env} {s : Shared} {H : Hp} {E : XK} (hr : Room 14 (A.deeper (envOfC "_law_basis_so" (defScope s_law_basis_so) s.heap.objs.size f cdv))) :
  PSs (cxOf CX0 P w K mg base N_law_basis_so "_law_basis_so" (defScope s_law_basis_so) f cdv A outer s H E).nox (defBody s_law_basis_so) (t_law_basis_so K) :=
  have hu64 := hr.units
  have hu65 : (A.deeper (envOfC "_law_basis_so" (defScope s_law_basis_so) s.heap.objs.size f cdv)).units + 65 < cLine := by have := hr.un; omega
  (pss_cons (ps_set (i := 3) sc_law_basis_so.nd rfl (by first | exact Or.inl rfl | exact Or.inr rfl) (pe_and (pe_cmpR (o_eq hu64) (pe_callB c_len (by rfl) W.len (by first | boot_by_name | rfl | kernel_rfl) (pa_cons (pv 1) pa_nil)) (pv 2) (nomark _)) (pe_one (pe_cmpR (o_in hu65) (pe_fd D_law_sum (hr.mono (by omega)) (pa_cons (pv 1) pa_nil)) (pe_lst (pa_cons pe_int (pa_cons (pe_op o_sub pe_int pe_int) pa_nil))) (by rfl)))))
    (pss_cons (ps_set (i := 4) sc_law_basis_so.nd rfl (by first | exact Or.inl rfl | exact Or.inr rfl) (pe_callTy c_list (by rfl) W.list (by first | boot_by_name | rfl | kernel_rfl) (pa_cons (pv 1) pa_nil)))
    (pss_cons (ps_set (i := 5) sc_law_basis_so.nd rfl (by first | exact Or.inl rfl | exact Or.inr rfl) (pe_lst (pa_cons (pe_fd D_is_basis (hr.mono (by omega)) (pa_cons (pv 2) (pa_cons (pv 4) pa_nil))) (pa_cons (pe_kd0 K_is_basis (hr.mono (by omega)) (pk_cons (pe_callTy c_tuple (by rfl) W.tuple (by first | boot_by_name | rfl | kernel_rfl) (pa_cons (pe_fd D_law_some (hr.mono (by omega)) (pa_cons (pv 0) (pa_cons (pv 1) (pa_cons (pe_callB c_len (by rfl) W.len (by first | boot_by_name | rfl | kernel_rfl) (pa_cons (pv 1) pa_nil)) pa_nil)))) pa_nil)) (pk_cons (pv 2) pk_nil))) pa_nil))))
    (pss_cons (ps_if (PW.pt (pw_or (pt_not (pt_val (pe_fd D_law_like (hr.mono (by omega)) (pa_cons (pv 5) (pa_cons (pe_lst (pa_cons (pv 3) (pa_cons (pv 3) pa_nil))) pa_nil))))) (pw_or1 (pt_not (pt_val (pe_fd D_law_like (hr.mono (by omega)) (pa_cons (pv 4) (pa_cons (pe_callTy c_list (by rfl) W.list (by first | boot_by_name | rfl | kernel_rfl) (pa_cons (pv 1) pa_nil)) pa_nil)))))))) (pss_one (ps_ret pe_bl)) pss_nil)
    (pss_one (ps_ret (pe_or (pe_not (pv 3)) (pe_one (pe_fd D_law_like (hr.mono (by omega)) (pa_cons (pe_lst (pa_cons (pe_cmpR (o_eqo M_Whole_eq (hr.mono (by omega))) (pe_nd N_Whole (hr.mono (by omega)) (pa_cons (pv 2) (pa_cons (pv 1) pa_nil))) (pe_sd S_Whole_everything (hr.mono (by omega)) (pe_glob rfl G_Whole rfl) (pa_cons (pv 2) pa_nil)) (nomark _)) pa_nil)) (pa_cons (pe_lst (pa_cons pe_bl pa_nil)) pa_nil)))))))))))
theorem ok_law_basis_so (W : Fr mg) (G_Whole : mg "Whole" = some (.ref (He.ga K "Whole"))) (D_law_sum : Fd P w K mg base CX0 "_law_sum" (1 + 6) ["base"] (sp_law_sum K 6)) (D_is_basis : Fd P w K mg base CX0 "is_basis" 2 ["deep", "rows"] (sp_is_basis K)) (D_law_some : Fd P w K mg base CX0 "_law_some" 2 ["bag", "things", "amount"] (sp_law_some K)) (D_law_like : Fd P w K mg base CX0 "_law_like" (2 + 12) ["told", "due"] (sp_law_like K 12)) (N_Whole : Nd P w K mg base "Whole" (He.ga K "Whole") 4 ["self", "deep", "rows"] (sp_Whole_init K)) (S_Whole_everything : Sd P w K mg base (He.ga K "Whole") "everything" 6 ["deep"] (sp_Whole_everything K)) (M_Whole_eq : Md P w K mg base (He.ga K "Whole") "__eq__" 1 ["self", "other"] (sp_Whole_eq K)) (K_is_basis : Kd P w K mg base "is_basis" 2 ["deep", "rows"] ["rows", "deep"] gV_is_basis (sp_is_basis K)) {f : Addr} {fd : FuncData} (F : FunD K "_law_basis_so" "_law_basis_so" (defArgs s_law_basis_so) (defBody s_law_basis_so) (defScope s_law_basis_so) [] [] f fd) : FnOk P w K mg base CX0 15 f fd ["bag", "base", "d"] (sp_law_basis_so K) := by
  refine F.ok sc_law_basis_so ?_ (fun cdv A outer s H vs Q E hr h => ⟨t_law_basis_so K, PSs.nox (b_law_basis_so W G_Whole D_law_sum D_is_basis D_law_some D_law_like N_Whole S_Whole_everything M_Whole_eq K_is_basis hr), pure_law_basis_so vs H Q E h⟩)
  walk_at "splen"
theorem sc_law_bent : FnScope N_law_bent ["bag", "base", "d"] (defScope s_law_bent) := ⟨rfl, rfl, rfl, by decide +kernel, rfl, by decide +kernel, by decide +kernel⟩
theorem b_law_bent (W : Fr mg) (D_law_draw : Fd P w K mg base CX0 "_law_draw" 1 ["bag", "size"] (sp_law_draw K)) (D_law_of : Fd P w K mg base CX0 "_law_of" 2 ["bag", "things"] (sp_law_of K)) {f : Addr} {cdv : Value} {A : Around} {outer : List Env} {s : Shared} {H : Hp} {E : XK} (hr : Room 2 (A.deeper (envOfC "_law_bent" (defScope s_law_bent) s.heap.objs.size f cdv))) :
  PSs (cxOf CX0 P w K mg base N_law_bent "_law_bent" (defScope s_law_bent) f cdv A outer s H E).nox (defBody s_law_bent) (t_law_bent K) :=
  have hu64 := hr.units
  have hu65 : (A.deeper (envOfC "_law_bent" (defScope s_law_bent) s.heap.objs.size f cdv)).units + 65 < cLine := by have := hr.un; omega
  (pss_cons (ps_asg (pe_tup (pa_cons (pe_callTy c_list (by rfl) W.list (by first | boot_by_name | rfl | kernel_rfl) (pa_cons (pv 1) pa_nil)) (pa_cons (pe_fd D_law_draw (hr.mono (by omega)) (pa_cons (pv 0) (pa_cons (pv 2) pa_nil))) (pa_cons (pe_fd D_law_draw (hr.mono (by omega)) (pa_cons (pv 0) (pa_cons pe_int pa_nil))) pa_nil)))) (pg_tup (by rfl) (pgs_cons (pg_name (i := 3) sc_law_bent.nd rfl (by first | exact Or.inl rfl | exact Or.inr rfl)) (pgs_cons (pg_name (i := 4) sc_law_bent.nd rfl (by first | exact Or.inl rfl | exact Or.inr rfl)) (pgs_cons (pg_name (i := 5) sc_law_bent.nd rfl (by first | exact Or.inl rfl | exact Or.inr rfl)) pgs_nil)))))
    (pss_mid (ps_if (pt_cmpR (o_eq hu64) (pv 5) pe_int (nomark _)) (pss_one (ps_asg (pe_callTy c_tuple (by rfl) W.tuple (by first | boot_by_name | rfl | kernel_rfl) (pa_cons (pe_lc (own := [("x", 9)]) (g := (gName 9)) (tt := tYes) (by rfl) sc_law_bent.nd (pi_sq (pe_ix ix_seq (pv 3) (pv 4) (fun _ _ => rfl))) (blkOk_by (own := [("x", 9)]) (N := N_law_bent) (sc := (defScope s_law_bent)) (by decide +kernel)) (fun _ _ _ _ _ => (pg_name (i := 9) sc_law_bent.nd rfl (by first | exact Or.inl rfl | exact Or.inr rfl))) (fun _ _ _ _ _ => pts_nil) (fun _ _ _ _ _ => (pe_op o_mul (pe_fd D_law_of (hr.mono (by omega)) (pa_cons (pv 0) (pa_cons (pe_lst (pa_cons pe_int (pa_cons (pe_un o_neg pe_int) (pa_cons pe_int pa_nil)))) pa_nil))) (pv 9)))) pa_nil)) (pg_sub (pv 3) (pv 4) set_list))) (pss_one (ps_if (pt_cmpR (o_eq hu64) (pv 5) pe_int (nomark _)) (pss_cons (ps_par (i := 6) (j := 7) (by rfl) sc_law_bent.nd rfl rfl (by decide) rfl rfl (pa_cons (pe_fd D_law_draw (hr.mono (by omega)) (pa_cons (pv 0) (pa_cons (pv 2) pa_nil))) (pa_cons (pe_fd D_law_draw (hr.mono (by omega)) (pa_cons (pv 0) (pa_cons (pv 2) pa_nil))) pa_nil)) (by rfl))
    (pss_one (ps_asg (pe_callTy c_tuple (by rfl) W.tuple (by first | boot_by_name | rfl | kernel_rfl) (pa_cons (pe_lc (own := [("x", 9), ("y", 10)]) (g := (gTup K 2 (gCons (gName 9) (gCons (gName 10) gNil)))) (tt := tYes) (by rfl) sc_law_bent.nd (pi_zipU (by rfl) W.zip (pa_cons (pe_ix ix_seq (pv 3) (pv 6) (fun _ _ => rfl)) (pa_cons (pe_ix ix_seq (pv 3) (pv 7) (fun _ _ => rfl)) pa_nil))) (blkOk_by (own := [("x", 9), ("y", 10)]) (N := N_law_bent) (sc := (defScope s_law_bent)) (by decide +kernel)) (fun _ _ _ _ _ => (pg_tup (by rfl) (pgs_cons (pg_name (i := 9) sc_law_bent.nd rfl (by first | exact Or.inl rfl | exact Or.inr rfl)) (pgs_cons (pg_name (i := 10) sc_law_bent.nd rfl (by first | exact Or.inl rfl | exact Or.inr rfl)) pgs_nil)))) (fun _ _ _ _ _ => pts_nil) (fun _ _ _ _ _ => (pe_op o_add (pv 9) (pv 10)))) pa_nil)) (pg_sub (pv 3) (pv 4) set_list)))) (pss_one (ps_if (pt_cmpR (o_eq hu64) (pv 5) pe_int (nomark _)) (pss_one (ps_set (i := 3) sc_law_bent.nd rfl (by first | exact Or.inl rfl | exact Or.inr rfl) (pe_op o_add (pe_slice o_sl (pv 3) po_none (po_some (pv 4))) (pe_slice o_sl (pv 3) (po_some (pe_op o_add (pv 4) pe_int)) po_none)))) (pss_one (ps_if (pt_cmpR (o_eq hu64) (pv 5) pe_int (nomark _)) (pss_one (ps_set (i := 3) sc_law_bent.nd rfl (by first | exact Or.inl rfl | exact Or.inr rfl) (pe_op o_add (pe_op o_add (pe_slice o_sl (pv 3) po_none (po_some (pv 4))) (pe_lst (pa_cons (pe_fd D_law_of (hr.mono (by omega)) (pa_cons (pv 0) (pa_cons (pv 3) pa_nil))) pa_nil))) (pe_slice o_sl (pv 3) (po_some (pv 4)) po_none)))) (pss_one (ps_if (pt_cmpR (o_eq hu64) (pv 5) pe_int (nomark _)) (pss_cons (ps_set (i := 8) sc_law_bent.nd rfl (by first | exact Or.inl rfl | exact Or.inr rfl) (pe_fd D_law_draw (hr.mono (by omega)) (pa_cons (pv 0) (pa_cons (pv 2) pa_nil))))
    (pss_one (ps_asg (pe_callTy c_tuple (by rfl) W.tuple (by first | boot_by_name | rfl | kernel_rfl) (pa_cons (pe_lc (own := [("j", 7)]) (g := (gName 7)) (tt := tYes) (by rfl) sc_law_bent.nd (pi_range1 (by rfl) W.range (pa_cons (pv 2) pa_nil)) (blkOk_by (own := [("j", 7)]) (N := N_law_bent) (sc := (defScope s_law_bent)) (by decide +kernel)) (fun _ _ _ _ _ => (pg_name (i := 7) sc_law_bent.nd rfl (by first | exact Or.inl rfl | exact Or.inr rfl))) (fun _ _ _ _ _ => pts_nil) (fun _ _ _ _ _ => (pe_op o_add (pe_ix ix_seq (pe_ix ix_seq (pv 3) (pv 4) (fun _ _ => rfl)) (pv 7) (fun _ _ => rfl)) (pe_callTy c_int1 (by rfl) W.int (by first | boot_by_name | rfl | kernel_rfl) (pa_cons (pe_cmpR (o_eq hu64) (pv 7) (pv 8) (nomark _)) pa_nil))))) pa_nil)) (pg_sub (pv 3) (pv 4) set_list)))) (pss_one (ps_if (pt_cmpR (o_eq hu64) (pv 5) pe_int (nomark _)) (pss_one (ps_set (i := 3) sc_law_bent.nd rfl (by first | exact Or.inl rfl | exact Or.inr rfl) (pe_lc (own := [("i", 6)]) (g := (gName 6)) (tt := tYes) (by rfl) sc_law_bent.nd (pi_range1 (by rfl) W.range (pa_cons (pv 2) pa_nil)) (blkOk_by (own := [("i", 6)]) (N := N_law_bent) (sc := (defScope s_law_bent)) (by decide +kernel)) (fun _ _ _ _ _ => (pg_name (i := 6) sc_law_bent.nd rfl (by first | exact Or.inl rfl | exact Or.inr rfl))) (fun _ _ _ _ _ => pts_nil) (fun _ _ _ _ _ => (pe_callTy c_tuple (by rfl) W.tuple (by first | boot_by_name | rfl | kernel_rfl) (pa_cons (pe_lc (own := [("j", 7)]) (g := (gName 7)) (tt := tYes) (by rfl) sc_law_bent.nd (pi_range1 (by rfl) W.range (pa_cons (pv 2) pa_nil)) (blkOk_by (own := [("j", 7)]) (N := N_law_bent) (by kernel_rfl)) (fun _ _ _ _ _ => (pg_name (i := 7) sc_law_bent.nd rfl (by first | exact Or.inl rfl | exact Or.inr rfl))) (fun _ _ _ _ _ => pts_nil) (fun _ _ _ _ _ => (pe_op o_sub (pe_fd D_law_draw (hr.mono (by omega)) (pa_cons (pv 0) (pa_cons pe_int pa_nil))) pe_int))) pa_nil)))))) (pss_one (ps_set (i := 3) sc_law_bent.nd rfl (by first | exact Or.inl rfl | exact Or.inr rfl) (pe_op o_add (pv 3) (pe_lst (pa_cons (pe_callTy c_tuple (by rfl) W.tuple (by first | boot_by_name | rfl | kernel_rfl) (pa_cons (pe_lc (own := [("j", 7)]) (g := (gName 7)) (tt := tYes) (by rfl) sc_law_bent.nd (pi_range1 (by rfl) W.range (pa_cons (pv 2) pa_nil)) (blkOk_by (own := [("j", 7)]) (N := N_law_bent) (sc := (defScope s_law_bent)) (by decide +kernel)) (fun _ _ _ _ _ => (pg_name (i := 7) sc_law_bent.nd rfl (by first | exact Or.inl rfl | exact Or.inr rfl))) (fun _ _ _ _ _ => pts_nil) (fun _ _ _ _ _ => pe_int)) pa_nil)) pa_nil))))))))))))))))
    (pss_one (ps_ret (pv 3)))))
theorem ok_law_bent (W : Fr mg) (D_law_draw : Fd P w K mg base CX0 "_law_draw" 1 ["bag", "size"] (sp_law_draw K)) (D_law_of : Fd P w K mg base CX0 "_law_of" 2 ["bag", "things"] (sp_law_of K)) {f : Addr} {fd : FuncData} (F : FunD K "_law_bent" "_law_bent" (defArgs s_law_bent) (defBody s_law_bent) (defScope s_law_bent) [] [] f fd) : FnOk P w K mg base CX0 3 f fd ["bag", "base", "d"] (sp_law_bent K) := by
  refine F.ok sc_law_bent ?_ (fun cdv A outer s H vs Q E hr h => ⟨t_law_bent K, PSs.nox (b_law_bent W D_law_draw D_law_of hr), pure_law_bent vs H Q E h⟩)
  walk_at "splen"
theorem sc_law : FnScope N_law ["script"] (defScope s_law) := ⟨rfl, rfl, rfl, by decide +kernel, rfl, by decide +kernel, by decide +kernel⟩
theorem b_law (W : Fr mg) (D_law_bag : Fd P w K mg base CX0 "_law_bag" 1 ["script"] (sp_law_bag K)) (D_law_of : Fd P w K mg base CX0 "_law_of" 2 ["bag", "things"] (sp_law_of K)) (D_law_steps : Fd P w K mg base CX0 "_law_steps" 3 ["bag", "d"] (sp_law_steps K)) (D_law_basis_so : Fd P w K mg base CX0 "_law_basis_so" 15 ["bag", "base", "d"] (sp_law_basis_so K)) (D_law_bent : Fd P w K mg base CX0 "_law_bent" 3 ["bag", "base", "d"] (sp_law_bent K)) {f : Addr} {cdv : Value} {A : Around} {outer : List Env} {s : Shared} {H : Hp} {E : XK} (hr : Room 15 (A.deeper (envOfC "law" (defScope s_law) s.heap.objs.size f cdv))) :
  PSs (cxOf CX0 P w K mg base N_law "law" (defScope s_law) f cdv A outer s H E).nox (defBody s_law) (t_law K) :=
  have hu64 := hr.units
  have hu65 : (A.deeper (envOfC "law" (defScope s_law) s.heap.objs.size f cdv)).units + 65 < cLine := by have := hr.un; omega
  (pss_cons (ps_set (i := 1) sc_law.nd rfl (by first | exact Or.inl rfl | exact Or.inr rfl) (pe_fd D_law_bag (hr.mono (by omega)) (pa_cons (pv 0) pa_nil)))
    (pss_cons (ps_for PassesOwn.never rfl (pi_range1 (by rfl) W.range (pa_cons pe_int pa_nil)) (pg_name (i := 2) sc_law.nd rfl (by first | exact Or.inl rfl | exact Or.inr rfl))
    (pss_cons (ps_set (i := 3) sc_law.nd rfl (by first | exact Or.inl rfl | exact Or.inr rfl) (pe_fd D_law_of (hr.mono (by omega)) (pa_cons (pv 1) (pa_cons (pe_lst (pa_cons pe_int (pa_cons pe_int (pa_cons pe_int (pa_cons pe_int (pa_cons pe_int (pa_cons pe_int pa_nil))))))) pa_nil))))
    (pss_cons (ps_set (i := 4) sc_law.nd rfl (by first | exact Or.inl rfl | exact Or.inr rfl) (pe_fd D_law_steps (hr.mono (by omega)) (pa_cons (pv 1) (pa_cons (pv 3) pa_nil))))
    (pss_cons (ps_if (PW.pt (pw_or (pt_not (pt_val (pe_fd D_law_basis_so (hr.mono (by omega)) (pa_cons (pv 1) (pa_cons (pv 4) (pa_cons (pv 3) pa_nil)))))) (pw_or1 (pt_not (pt_val (pe_fd D_law_basis_so (hr.mono (by omega)) (pa_cons (pv 1) (pa_cons (pe_lst pa_nil) (pa_cons (pv 3) pa_nil))))))))) (pss_one (ps_ret pe_bl)) pss_nil)
    (pss_one (ps_for PassesOwn.never rfl (pi_range1 (by rfl) W.range (pa_cons pe_int pa_nil)) (pg_name (i := 5) sc_law.nd rfl (by first | exact Or.inl rfl | exact Or.inr rfl))
    (pss_cons (ps_set (i := 6) sc_law.nd rfl (by first | exact Or.inl rfl | exact Or.inr rfl) (pe_fd D_law_bent (hr.mono (by omega)) (pa_cons (pv 1) (pa_cons (pv 4) (pa_cons (pv 3) pa_nil)))))
    (pss_cons (ps_if (pt_not (pt_val (pe_fd D_law_basis_so (hr.mono (by omega)) (pa_cons (pv 1) (pa_cons (pv 6) (pa_cons (pv 3) pa_nil)))))) (pss_one (ps_ret pe_bl)) pss_nil)
    (pss_cons (ps_setLc (i := 7) (own := [("i", 8)]) (g := (gName 8)) (tt := tYes) (by rfl) sc_law.nd rfl rfl (sw_true rfl rfl rfl (by decide +kernel)) (pi_range1 (by rfl) W.range (pa_cons (pv 3) pa_nil)) (blkOk_by (own := [("i", 8)]) (N := N_law) (sc := (defScope s_law)) (by decide +kernel)) (fun _ _ _ _ _ => (pg_name (i := 8) sc_law.nd rfl (by first | exact Or.inl rfl | exact Or.inr rfl))) (fun _ _ _ _ _ => pts_nil) (fun _ _ _ _ _ => (pe_callTy c_tuple (by rfl) W.tuple (by first | boot_by_name | rfl | kernel_rfl) (pa_cons (pe_lc (own := [("row", 9)]) (g := (gName 9)) (tt := tYes) (by rfl) sc_law.nd (pi_sq (pv 4)) (blkOk_by (own := [("row", 9)]) (N := N_law) (by kernel_rfl)) (fun _ _ _ _ _ => (pg_name (i := 9) sc_law.nd rfl (by first | exact Or.inl rfl | exact Or.inr rfl))) (fun _ _ _ _ _ => pts_nil) (fun _ _ _ _ _ => (pe_ix ix_seq (pv 9) (pv 8) (fun _ _ => rfl)))) pa_nil))))
    (pss_one (ps_if (pt_not (pt_val (pe_fd D_law_basis_so (hr.mono (by omega)) (pa_cons (pv 1) (pa_cons (pv 7) (pa_cons (pv 3) pa_nil)))))) (pss_one (ps_ret pe_bl)) pss_nil)))))))))))
    (pss_one (ps_ret pe_bl))))
theorem ok_law (W : Fr mg) (D_law_bag : Fd P w K mg base CX0 "_law_bag" 1 ["script"] (sp_law_bag K)) (D_law_of : Fd P w K mg base CX0 "_law_of" 2 ["bag", "things"] (sp_law_of K)) (D_law_steps : Fd P w K mg base CX0 "_law_steps" 3 ["bag", "d"] (sp_law_steps K)) (D_law_basis_so : Fd P w K mg base CX0 "_law_basis_so" 15 ["bag", "base", "d"] (sp_law_basis_so K)) (D_law_bent : Fd P w K mg base CX0 "_law_bent" 3 ["bag", "base", "d"] (sp_law_bent K)) {f : Addr} {fd : FuncData} (F : FunD K "law" "law" (defArgs s_law) (defBody s_law) (defScope s_law) [] [] f fd) : FnOk P w K mg base CX0 16 f fd ["script"] (sp_law18 K) := by
  refine F.ok sc_law ?_ (fun cdv A outer s H vs Q E hr h => ⟨t_law K, PSs.nox (b_law W D_law_bag D_law_of D_law_steps D_law_basis_so D_law_bent hr), pure_law vs H Q E h⟩)
  walk_at "splen"
end
end D
end
section
set_option maxHeartbeats 0
namespace D
open PySem PySem.Spec PyProof.Rows L2 U C
theorem facts {w : World} {K : PySem.W.Frag} {h : Heap} {mg : Str → Option Value} {f : Addr} (X : K.In h) (G : h.Ns mainGlobals mg) (hfa : mg ("law" : Str) = some (.ref f)) (c : Hf.Says ask K) :
    ∃ fd : FuncData, (∀ (s : Shared) (v : Value), BindsTo s fd ⟨[v], []⟩ [("script", v)]) ∧ ∀ base : Heap, K.In base → base.Ns mainGlobals mg → FnOk (PySem.Challenge.rw_leastfetched_k18_bases_by_own_determinan).prog w K mg base CX0 16 f fd ["script"] (sp_law18 K) := by
  obtain ⟨fd_Whole_everything, F_Whole_everything⟩ := c.sdef 0 (d := ⟨"Whole", "everything", d_Whole_everything⟩) rfl
  obtain ⟨SM_Whole_everything, SK_Whole_everything⟩ := smet_of (c.sok 0 (d := ⟨"Whole", "everything", d_Whole_everything⟩) rfl)
  obtain ⟨fd_law_bag, F_law_bag⟩ := c.def_ 0 (d := d_law_bag) rfl
  obtain ⟨fd_law_draw, F_law_draw⟩ := c.def_ 1 (d := d_law_draw) rfl
  obtain ⟨fd_law_of, F_law_of⟩ := c.def_ 2 (d := d_law_of) rfl
  obtain ⟨fd_law_steps, F_law_steps⟩ := c.def_ 3 (d := d_law_steps) rfl
  obtain ⟨fd_law_sum, F_law_sum⟩ := c.def_ 4 (d := d_law_sum) rfl
  obtain ⟨fd_determinant, F_determinant⟩ := c.def_ 5 (d := d_determinant) rfl
  obtain ⟨fd_is_basis, F_is_basis⟩ := c.def_ 6 (d := d_is_basis) rfl
  obtain ⟨fd_law_some, F_law_some⟩ := c.def_ 7 (d := d_law_some) rfl
  obtain ⟨fd_law_int, F_law_int⟩ := c.def_ 8 (d := d_law_int) rfl
  obtain ⟨fd_law_like, F_law_like⟩ := c.def_ 9 (d := d_law_like) rfl
  obtain ⟨fd_primitive_row, F_primitive_row⟩ := c.def_ 10 (d := d_primitive_row) rfl
  obtain ⟨fd_first_with, F_first_with⟩ := c.def_ 11 (d := d_first_with) rfl
  obtain ⟨fd_led_row, F_led_row⟩ := c.def_ 12 (d := d_led_row) rfl
  obtain ⟨fd_struck, F_struck⟩ := c.def_ 13 (d := d_struck) rfl
  obtain ⟨fd_echelon, F_echelon⟩ := c.def_ 14 (d := d_echelon) rfl
  obtain ⟨fd_integer_text, F_integer_text⟩ := c.def_ 15 (d := d_integer_text) rfl
  obtain ⟨fd_row_text, F_row_text⟩ := c.def_ 16 (d := d_row_text) rfl
  obtain ⟨fd_rows_text, F_rows_text⟩ := c.def_ 17 (d := d_rows_text) rfl
  obtain ⟨fd_Whole_init, F_Whole_init⟩ := c.def_ 18 (d := d_Whole_init) rfl
  obtain ⟨fd_unit_rows, F_unit_rows⟩ := c.def_ 19 (d := d_unit_rows) rfl
  obtain ⟨fd_Whole_eq, F_Whole_eq⟩ := c.def_ 20 (d := d_Whole_eq) rfl
  obtain ⟨fd_law_basis_so, F_law_basis_so⟩ := c.def_ 21 (d := d_law_basis_so) rfl
  obtain ⟨fd_law_bent, F_law_bent⟩ := c.def_ 22 (d := d_law_bent) rfl
  obtain ⟨fd_law, F_law⟩ := c.def_ 23 (d := d_law) rfl
  have G_law := He.glo_ok X G (c.fact 0 (f := .glo "law") rfl)
  have G_law_bag := He.glo_ok X G (c.fact 1 (f := .glo "_law_bag") rfl)
  have G_law_draw := He.glo_ok X G (c.fact 2 (f := .glo "_law_draw") rfl)
  have G_law_of := He.glo_ok X G (c.fact 3 (f := .glo "_law_of") rfl)
  have G_law_steps := He.glo_ok X G (c.fact 4 (f := .glo "_law_steps") rfl)
  have G_law_sum := He.glo_ok X G (c.fact 5 (f := .glo "_law_sum") rfl)
  have G_determinant := He.glo_ok X G (c.fact 6 (f := .glo "determinant") rfl)
  have G_is_basis := He.glo_ok X G (c.fact 7 (f := .glo "is_basis") rfl)
  have G_law_some := He.glo_ok X G (c.fact 8 (f := .glo "_law_some") rfl)
  have G_law_int := He.glo_ok X G (c.fact 9 (f := .glo "_law_int") rfl)
  have G_law_like := He.glo_ok X G (c.fact 10 (f := .glo "_law_like") rfl)
  have G_primitive_row := He.glo_ok X G (c.fact 11 (f := .glo "primitive_row") rfl)
  have G_first_with := He.glo_ok X G (c.fact 12 (f := .glo "first_with") rfl)
  have G_led_row := He.glo_ok X G (c.fact 13 (f := .glo "led_row") rfl)
  have G_struck := He.glo_ok X G (c.fact 14 (f := .glo "struck") rfl)
  have G_echelon := He.glo_ok X G (c.fact 15 (f := .glo "echelon") rfl)
  have G_integer_text := He.glo_ok X G (c.fact 16 (f := .glo "integer_text") rfl)
  have G_row_text := He.glo_ok X G (c.fact 17 (f := .glo "row_text") rfl)
  have G_rows_text := He.glo_ok X G (c.fact 18 (f := .glo "rows_text") rfl)
  have G_unit_rows := He.glo_ok X G (c.fact 19 (f := .glo "unit_rows") rfl)
  have G_law_basis_so := He.glo_ok X G (c.fact 20 (f := .glo "_law_basis_so") rfl)
  have G_law_bent := He.glo_ok X G (c.fact 21 (f := .glo "_law_bent") rfl)
  have G_Whole := He.glo_ok X G (c.fact 22 (f := .glo "Whole") rfl)
  have W : Fr mg := ⟨He.free_ok X G (c.fact 23 (f := .free "int") rfl), He.free_ok X G (c.fact 24 (f := .free "list") rfl), He.free_ok X G (c.fact 25 (f := .free "len") rfl), He.free_ok X G (c.fact 26 (f := .free "range") rfl), He.free_ok X G (c.fact 27 (f := .free "tuple") rfl), He.free_ok X G (c.fact 28 (f := .free "zip") rfl), He.free_ok X G (c.fact 29 (f := .free "enumerate") rfl), He.free_ok X G (c.fact 30 (f := .free "abs") rfl), He.free_ok X G (c.fact 31 (f := .free "any") rfl), He.free_ok X G (c.fact 32 (f := .free "min") rfl), He.free_ok X G (c.fact 33 (f := .free "isinstance") rfl), He.free_ok X G (c.fact 34 (f := .free "bool") rfl), He.free_ok X G (c.fact 35 (f := .free "str") rfl), He.free_ok X G (c.fact 36 (f := .free "all") rfl)⟩
  have C_LIMIT := He.int_ok X G (c.fact 37 (f := .int "LIMIT" 1000000000000000000000000000000000000000000000000000000000000) rfl)
  have M_gcd : mg "gcd" = some (.builtin "math.gcd") := gcd_ok X G c.all.2.2.2
  have WF : WholeF K := whole_of c.all.2.2.2 (He.cls_ok (c.fact 39 (f := .cls "Whole") rfl)) (He.noat_ok (c.fact 41 (f := .noat "Whole" "deep") rfl)) (He.noat_ok (c.fact 42 (f := .noat "Whole" "_told") rfl)) (He.noat_ok (c.fact 43 (f := .noat "Whole" "text") rfl))
  have e := hfa.symm.trans G_law
  cases e
  have b := FunD.bindsA (ps := ["script"]) F_law fun _ _ _ _ _ _ us hl => match us, hl with | [_], _ => rfl
  refine ⟨fd_law, fun s v => b s [v] rfl, fun base _ _ => ?_⟩
  have D_law_bag : Fd (PySem.Challenge.rw_leastfetched_k18_bases_by_own_determinan).prog w K mg base CX0 "_law_bag" 1 ["script"] (sp_law_bag K) := U.fd_of (st := s_law_bag) F_law_bag (ok_law_bag W F_law_bag) G_law_bag (fun _ _ _ _ _ _ us hl => match us, hl with | [_], _ => rfl)
  have D_law_draw : Fd (PySem.Challenge.rw_leastfetched_k18_bases_by_own_determinan).prog w K mg base CX0 "_law_draw" 1 ["bag", "size"] (sp_law_draw K) := U.fd_of (st := s_law_draw) F_law_draw (ok_law_draw W F_law_draw) G_law_draw (fun _ _ _ _ _ _ us hl => match us, hl with | [_, _], _ => rfl)
  have D_law_of : Fd (PySem.Challenge.rw_leastfetched_k18_bases_by_own_determinan).prog w K mg base CX0 "_law_of" 2 ["bag", "things"] (sp_law_of K) := U.fd_of (st := s_law_of) F_law_of (ok_law_of W D_law_draw F_law_of) G_law_of (fun _ _ _ _ _ _ us hl => match us, hl with | [_, _], _ => rfl)
  have D_law_steps : Fd (PySem.Challenge.rw_leastfetched_k18_bases_by_own_determinan).prog w K mg base CX0 "_law_steps" 3 ["bag", "d"] (sp_law_steps K) := U.fd_of (st := s_law_steps) F_law_steps (ok_law_steps W D_law_of D_law_draw F_law_steps) G_law_steps (fun _ _ _ _ _ _ us hl => match us, hl with | [_, _], _ => rfl)
  have D_law_sum : Fd (PySem.Challenge.rw_leastfetched_k18_bases_by_own_determinan).prog w K mg base CX0 "_law_sum" (1 + 6) ["base"] (sp_law_sum K 6) := U.fd_of (st := s_law_sum) F_law_sum (ok_law_sum W F_law_sum G_law_sum 6) G_law_sum (fun _ _ _ _ _ _ us hl => match us, hl with | [_], _ => rfl)
  have D_determinant : Fd (PySem.Challenge.rw_leastfetched_k18_bases_by_own_determinan).prog w K mg base CX0 "determinant" 1 ["rows"] (sp_determinant K) := U.fd_of (st := s_determinant) F_determinant (ok_determinant W F_determinant) G_determinant (fun _ _ _ _ _ _ us hl => match us, hl with | [_], _ => rfl)
  have D_is_basis : Fd (PySem.Challenge.rw_leastfetched_k18_bases_by_own_determinan).prog w K mg base CX0 "is_basis" 2 ["deep", "rows"] (sp_is_basis K) := U.fd_of (st := s_is_basis) F_is_basis (ok_is_basis W D_determinant F_is_basis) G_is_basis (fun _ _ _ _ _ _ us hl => match us, hl with | [_, _], _ => rfl)
  have K_is_basis : Kd (PySem.Challenge.rw_leastfetched_k18_bases_by_own_determinan).prog w K mg base "is_basis" 2 ["deep", "rows"] ["rows", "deep"] gV_is_basis (sp_is_basis K) := U.kd_of (st := s_is_basis) (gg := gG_is_basis) F_is_basis (ok_is_basis W D_determinant F_is_basis) G_is_basis rl_is_basis (fun _ _ _ _ _ _ us ws hl => match us, ws, hl with | [], [_, _], _ => rfl)
  have D_law_some : Fd (PySem.Challenge.rw_leastfetched_k18_bases_by_own_determinan).prog w K mg base CX0 "_law_some" 2 ["bag", "things", "amount"] (sp_law_some K) := U.fd_of (st := s_law_some) F_law_some (ok_law_some W D_law_draw F_law_some) G_law_some (fun _ _ _ _ _ _ us hl => match us, hl with | [_, _, _], _ => rfl)
  have D_law_int : Fd (PySem.Challenge.rw_leastfetched_k18_bases_by_own_determinan).prog w K mg base CX0 "_law_int" 1 ["v"] (sp_law_int K) := U.fd_of (st := s_law_int) F_law_int (ok_law_int W F_law_int) G_law_int (fun _ _ _ _ _ _ us hl => match us, hl with | [_], _ => rfl)
  have D_law_like : Fd (PySem.Challenge.rw_leastfetched_k18_bases_by_own_determinan).prog w K mg base CX0 "_law_like" (2 + 12) ["told", "due"] (sp_law_like K 12) := U.fd_of (st := s_law_like) F_law_like (ok_law_like W D_law_int F_law_like G_law_like 12) G_law_like (fun _ _ _ _ _ _ us hl => match us, hl with | [_, _], _ => rfl)
  have D_primitive_row : Fd (PySem.Challenge.rw_leastfetched_k18_bases_by_own_determinan).prog w K mg base CX0 "primitive_row" 1 ["row"] (sp_primitive_row K) := U.fd_of (st := s_primitive_row) F_primitive_row (ok_primitive_row W M_gcd F_primitive_row) G_primitive_row (fun _ _ _ _ _ _ us hl => match us, hl with | [_], _ => rfl)
  have D_first_with : Fd (PySem.Challenge.rw_leastfetched_k18_bases_by_own_determinan).prog w K mg base CX0 "first_with" 1 ["rows", "place"] (sp_first_with K) := U.fd_of (st := s_first_with) F_first_with (ok_first_with W F_first_with) G_first_with (fun _ _ _ _ _ _ us hl => match us, hl with | [_, _], _ => rfl)
  have D_led_row : Fd (PySem.Challenge.rw_leastfetched_k18_bases_by_own_determinan).prog w K mg base CX0 "led_row" 1 ["row", "place"] (sp_led_row K) := U.fd_of (st := s_led_row) F_led_row (ok_led_row W F_led_row) G_led_row (fun _ _ _ _ _ _ us hl => match us, hl with | [_, _], _ => rfl)
  have D_struck : Fd (PySem.Challenge.rw_leastfetched_k18_bases_by_own_determinan).prog w K mg base CX0 "struck" 2 ["row", "lead", "place"] (sp_struck K) := U.fd_of (st := s_struck) F_struck (ok_struck W D_primitive_row F_struck) G_struck (fun _ _ _ _ _ _ us hl => match us, hl with | [_, _, _], _ => rfl)
  have D_echelon : Fd (PySem.Challenge.rw_leastfetched_k18_bases_by_own_determinan).prog w K mg base CX0 "echelon" 3 ["deep", "rows"] (sp_echelon K) := U.fd_of (st := s_echelon) F_echelon (ok_echelon W D_primitive_row D_first_with D_led_row D_struck F_echelon) G_echelon (fun _ _ _ _ _ _ us hl => match us, hl with | [_, _], _ => rfl)
  have D_integer_text : Fd (PySem.Challenge.rw_leastfetched_k18_bases_by_own_determinan).prog w K mg base CX0 "integer_text" 1 ["value"] (sp_integer_text K) := U.fd_of (st := s_integer_text) F_integer_text (ok_integer_text W C_LIMIT F_integer_text) G_integer_text (fun _ _ _ _ _ _ us hl => match us, hl with | [_], _ => rfl)
  have D_row_text : Fd (PySem.Challenge.rw_leastfetched_k18_bases_by_own_determinan).prog w K mg base CX0 "row_text" 2 ["row"] (sp_row_text K) := U.fd_of (st := s_row_text) F_row_text (ok_row_text W D_integer_text F_row_text) G_row_text (fun _ _ _ _ _ _ us hl => match us, hl with | [_], _ => rfl)
  have D_rows_text : Fd (PySem.Challenge.rw_leastfetched_k18_bases_by_own_determinan).prog w K mg base CX0 "rows_text" 3 ["rows"] (sp_rows_text K) := U.fd_of (st := s_rows_text) F_rows_text (ok_rows_text W D_row_text F_rows_text) G_rows_text (fun _ _ _ _ _ _ us hl => match us, hl with | [_], _ => rfl)
  have N_Whole : Nd (PySem.Challenge.rw_leastfetched_k18_bases_by_own_determinan).prog w K mg base "Whole" (He.ga K "Whole") 4 ["self", "deep", "rows"] (sp_Whole_init K) := ⟨⟨_, _, (ok_Whole_init W D_echelon D_rows_text WF F_Whole_init), G_Whole, He.mkr_ok (c.fact 38 (f := .mkr "Whole") rfl), (FunD.bindsN F_Whole_init (fun _ _ _ _ _ _ us hl => match us, hl with | [_, _, _], _ => rfl))⟩, by decide⟩
  have D_unit_rows : Fd (PySem.Challenge.rw_leastfetched_k18_bases_by_own_determinan).prog w K mg base CX0 "unit_rows" 1 ["deep"] (sp_unit_rows K) := U.fd_of (st := s_unit_rows) F_unit_rows (ok_unit_rows W F_unit_rows) G_unit_rows (fun _ _ _ _ _ _ us hl => match us, hl with | [_], _ => rfl)
  have S_Whole_everything : Sd (PySem.Challenge.rw_leastfetched_k18_bases_by_own_determinan).prog w K mg base (He.ga K "Whole") "everything" 6 ["deep"] (sp_Whole_everything K) := ⟨⟨_, _, (ok_Whole_everything W D_unit_rows N_Whole F_Whole_everything), SM_Whole_everything, SK_Whole_everything, (FunD.bindsN F_Whole_everything (fun _ _ _ _ _ _ us hl => match us, hl with | [_], _ => rfl))⟩⟩
  have M_Whole_eq : Md (PySem.Challenge.rw_leastfetched_k18_bases_by_own_determinan).prog w K mg base (He.ga K "Whole") "__eq__" 1 ["self", "other"] (sp_Whole_eq K) := ⟨⟨_, _, (ok_Whole_eq W G_Whole WF F_Whole_eq), He.cls_ok (c.fact 39 (f := .cls "Whole") rfl), He.meth_ok (c.fact 40 (f := .meth "Whole" "__eq__") rfl), (FunD.bindsN F_Whole_eq (fun _ _ _ _ _ _ us hl => match us, hl with | [_, _], _ => rfl))⟩⟩
  have D_law_basis_so : Fd (PySem.Challenge.rw_leastfetched_k18_bases_by_own_determinan).prog w K mg base CX0 "_law_basis_so" 15 ["bag", "base", "d"] (sp_law_basis_so K) := U.fd_of (st := s_law_basis_so) F_law_basis_so (ok_law_basis_so W G_Whole D_law_sum D_is_basis D_law_some D_law_like N_Whole S_Whole_everything M_Whole_eq K_is_basis F_law_basis_so) G_law_basis_so (fun _ _ _ _ _ _ us hl => match us, hl with | [_, _, _], _ => rfl)
  have D_law_bent : Fd (PySem.Challenge.rw_leastfetched_k18_bases_by_own_determinan).prog w K mg base CX0 "_law_bent" 3 ["bag", "base", "d"] (sp_law_bent K) := U.fd_of (st := s_law_bent) F_law_bent (ok_law_bent W D_law_draw D_law_of F_law_bent) G_law_bent (fun _ _ _ _ _ _ us hl => match us, hl with | [_, _, _], _ => rfl)
  exact ok_law W D_law_bag D_law_of D_law_steps D_law_basis_so D_law_bent F_law
end D
open PySem PySem.W PySem.Calls PyProof.Rows
theorem PySem.Challenge.cw_leastfetched_k18_bases_by_own_determinan_holds : PySem.Challenge.rw_leastfetched_k18_bases_by_own_determinan.Holds := by
  w_on; o_law
  refine HandSHeadRun.head_imp (r := OpenLaw.row PySem.Challenge.rw_leastfetched_k18_bases_by_own_determinan) (q := view (OpenLaw.row PySem.Challenge.rw_leastfetched_k18_bases_by_own_determinan).prog [0, 42]) (H := D.hk) (ob := D.ob) (M := 20000) (loose := D.loose) (d := HandSHeadRun.topDef (OpenLaw.row PySem.Challenge.rw_leastfetched_k18_bases_by_own_determinan).prog 42) (kwd := []) D.ob_eq
    D.run (by kernel_rfl) (by kernel_rfl) (by kernel_rfl) (by rfl) (by first | assumption | decide +kernel) (by decide +kernel) ⟨rfl, rfl, rfl, rfl, rfl, by decide +kernel⟩ ?hw ?hc
  case hw => w_witness2
  case hc =>
    refine L2.walk_ofE (l := PySem.Challenge.rw_leastfetched_k18_bases_by_own_determinan) (n := 63) (k := 16) (x := "script") (CX := L2.CX0) rfl (by decide) (by kernel_rfl) ⟨rfl, by decide, by decide⟩ ?F (fun _ _ _ _ z => z)
    intro w mg fa h Y G hmg0
    obtain ⟨K, KX, c⟩ := Y
    have hmg : mg ("law" : PySem.Str) = some (.ref fa) := by
      have e : (HandSHeadRun.topDef (OpenLaw.row PySem.Challenge.rw_leastfetched_k18_bases_by_own_determinan).prog 42).name = ("law" : PySem.Str) := by kernel_rfl
      rw [← e]
      exact hmg0
    obtain ⟨fd, hb, hF⟩ := D.facts (w := w) KX G hmg c
    exact ⟨K, fd, C.sp_law18 K, KX, hb, fun H a ns hl _ hS => ⟨a, ns, rfl, hS, fun _ => rfl⟩, hF⟩
end
