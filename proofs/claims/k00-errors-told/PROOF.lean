import PyProof.Rows.All
import Wide.All
import OpenK.AllK
import Wide.FinOn
import KE.KStateDown
import Lean
import HandS.ForSpec
import HandS.Defaults
import HandS.Head0
import HandS.Head1
import HandS.Head2
import HandS.HeadEnd
import HandS.HeadHook1
import HandS.HeadHook2
import KE.KExcSuper
import HandS.ExcInit
import KE.KExcIs
import HandS.IsInst
import HandS.ForMost
import HandS.Exc
import HandS.TryOnly
import HandS.TryMany
import HandS.ExcOwn
import HandS.WordsExc
import HandS.Flow
import HandS.Style
import HandS.Zip
import HandS.Wide
import HandS.RaiseOp
import HandS.Deep
import HandS.Walk
import HandS.Conv
import HandS.TupAny
import PySem.Challenge.RW_leastfetched_k00_errors_told
set_option Elab.async false
set_option linter.all false
set_option maxRecDepth 100000

section
set_option Elab.async false
set_option linter.all false
set_option maxRecDepth 100000
set_option maxHeartbeats 4000000
/-! Own exception classes whose __init__ is: super().__init__('text'), then self.f = f or self.f = 'text', one by one. -/
namespace FK
open PySem PySem.W PySem.Calls PyProof.Rows

/-- a family: the built-in class above -/
structure Fam (B newId initId : String) (bmB : List Value) : Prop where
  base : ExcBaseFacts B newId initId bmB
  kxs : KxsFacts B initId
  st : StoreFacts B bmB "object.__setattr__" "object"
abbrev bmV : List Value := [.type "ValueError", .type "Exception", .type "BaseException", .type "object"]
abbrev bmL : List Value := [.type "LookupError", .type "Exception", .type "BaseException", .type "object"]
abbrev bmR : List Value := [.type "RuntimeError", .type "Exception", .type "BaseException", .type "object"]
theorem famV : Fam "ValueError" "ValueError.__new__" "ValueError.__init__" bmV := ⟨F.excBase_ValueError, kxs_ValueError, F.store_ValueError⟩
theorem famL : Fam "LookupError" "LookupError.__new__" "LookupError.__init__" bmL := ⟨F.excBase_LookupError, kxs_LookupError, F.store_LookupError⟩
theorem famR : Fam "RuntimeError" "RuntimeError.__new__" "RuntimeError.__init__" bmR := ⟨F.excBase_RuntimeError, kxs_RuntimeError, F.store_RuntimeError⟩

/-- a field's value: the i-th parameter, or a text -/
inductive Src where
  | par (x : Str)
  | txt (x : Str)
  deriving DecidableEq
/-- self.f = x | self.f = 'text' -/
def fieldOf : Stmt → Option (Str × Src)
  | .Assign [.Attribute (.Name s _) f _] (.Name x _) _ => if s = "self" then some (f, .par x) else none
  | .Assign [.Attribute (.Name s _) f _] (.Constant (.str x) _ _) _ => if s = "self" then some (f, .txt x) else none
  | _ => none
/-- the statements' fields, all or none -/
def fieldsOf : List Stmt → Option (List (Str × Src))
  | [] => some []
  | st :: r => match fieldOf st, fieldsOf r with
    | some a, some l => some (a :: l)
    | _, _ => none
theorem fieldOf_cases {st : Stmt} {f : Str} {sr : Src} (h : fieldOf st = some (f, sr)) :
    (∃ x p1 p2 p3 p4, st = .Assign [.Attribute (.Name "self" p1) f p2] (.Name x p3) p4 ∧ sr = .par x) ∨
    (∃ x p1 p2 k p3 p4, st = .Assign [.Attribute (.Name "self" p1) f p2] (.Constant (.str x) k p3) p4 ∧ sr = .txt x) := by
  unfold fieldOf at h
  split at h
  · split at h
    · rename_i e
      subst e
      cases h
      exact .inl ⟨_, _, _, _, _, rfl, rfl⟩
    · cases h
  · split at h
    · rename_i e
      subst e
      cases h
      exact .inr ⟨_, _, _, _, _, _, rfl, rfl⟩
    · cases h
  · cases h

/-- what the written part says of the class at C -/
structure Cl (K : Frag) (C : Addr) (B newId : String) (bmB : List Value) : Prop where
  ini : excInitIn K C bmB newId = true
  over : excOver K C bmB = true
  sa : findIn K (.ref C) "__setattr__" = some (some (.builtin "object.__setattr__"))
  dict : hasDictIn K C = true
  subB : subIn K (.ref C) (.type B) = some true
  sup : ks_superIn K C C "__init__" = some (some (.builtin (B ++ ".__init__")))

section
variable {prog : Program} {w : World} {A : Around} {E : Value → Shared → Prop} {R : Result → Shared → Prop} {K : Frag} {C x : Addr} {B newId initId : String} {bmB : List Value} {g : Array GenState} {d : Drawn} {t : Nat} {os : OsState} {hp : Heap}

/-- an exception's record at x, its dict d -/
abbrev xo (C t0 : Addr) (d : Option Addr) : Obj := { cls := .ref C, dict := d, data := .fields #[.ref t0, .none, .none, .none, .bool false, .none] }

theorem taker_of {f : Str} (h : findIn K (.ref C) f = some none) : takerIn K C f = some none := L2.NoAttr.taker h

theorem set_first {t0 : Addr} {f : Str} {v : Value} {Q : Unit → Shared → Prop} (FM : Fam B newId initId bmB) (T : Cl K C B newId bmB) (X : K.In hp) (hx : hp.get? x = some (xo C t0 none)) (hno : findIn K (.ref C) f = some none)
    (hq : ∀ h' tk' dx, (∀ b o, b ≠ x → hp.get? b = some o → h'.get? b = some o) → hp.objs.size ≤ dx → dx ≠ x → h'.get? x = some (xo C t0 (some dx)) →
      h'.Ns1 dx (fun y => if y = f then some v else none) → Q () ⟨h', g, d, tk', os⟩) :
    wpAny (model prog w) A (setAttr (.ref x) f v) Q E ⟨hp, g, d, t, os⟩ := by
  have I : InstAt hp x (xo C t0 none) C none := ⟨hx, rfl, rfl, trivial⟩
  obtain ⟨cd, hc, hd⟩ := any_some T.dict
  have hxs : x ≠ hp.objs.size := Nat.ne_of_lt (Heap.lt_size hx)
  refine set_plain X I T.sa (osa_openX (od := none) FM.st X I T.over (taker_of hno) fun b => ?_)
  have hcls : Looks (model prog w) hp (classData C) cd := looks_clsIn X hc
  refine wpAny_bind (wpAny_pure (wpAny_bind (instanceDict_exc hx hcls hd ?_)))
  show wpAny _ _ (Builtin.ObjectAttr.storeInDict hp.objs.size (.str f t) f v) _ _ _
  refine PySem.HandSPX.store_in_new ⟨_, #[], _, (Heap.get?_update_ne _ _ _ _ hxs.symm).trans (Heap.get?_push_at rfl rfl), rfl, fun e he => absurd he (by simp), fun _ => rfl⟩ fun h' tk' hn' hs => ?_
  have hx1 : (hp.push { cls := .type "dict", data := .dict #[] }).get? x = some (xo C t0 none) := Heap.get?_push_of_some _ hx
  exact hq h' tk' hp.objs.size (fun b o hb ho => (hs.2 b (Nat.ne_of_lt (Heap.lt_size ho))).trans ((Heap.get?_update_ne _ _ _ _ hb).trans (Heap.get?_push_of_some _ ho))) (Nat.le_refl _) hxs.symm
    ((hs.2 x hxs).trans (Heap.get?_update_self _ hx1 rfl)) hn'
theorem set_next {t0 dx : Addr} {f : Str} {v : Value} {m0 : Str → Option Value} {nl : List Str} {Q : Unit → Shared → Prop} (FM : Fam B newId initId bmB) (T : Cl K C B newId bmB) (X : K.In hp) (hx : hp.get? x = some (xo C t0 (some dx))) (hns : hp.Ns1 dx m0) (hw : Within m0 nl) (hz : nl.length ≤ 900)
    (hno : findIn K (.ref C) f = some none)
    (hq : ∀ h' tk', (∀ b o, b ≠ dx → hp.get? b = some o → h'.get? b = some o) → h'.Ns1 dx (fun y => if y = f then some v else m0 y) → Q () ⟨h', g, d, tk', os⟩) :
    wpAny (model prog w) A (setAttr (.ref x) f v) Q E ⟨hp, g, d, t, os⟩ := by
  obtain ⟨oD, esD, epD, hoD, hdD, _⟩ := hns.count hw
  have I : InstAt hp x (xo C t0 (some dx)) C (some oD) := ⟨hx, rfl, rfl, hoD⟩
  obtain ⟨cd, hc, hd⟩ := any_some T.dict
  refine set_plain X I T.sa (osa_openX FM.st X I T.over (taker_of hno) fun b => ?_)
  have hcls : Looks (model prog w) hp (classData C) cd := looks_clsIn X hc
  refine wpAny_bind (wpAny_pure (wpAny_bind (wpAny_bind (wpAny_loadPart hx (wpAny_bind (hcls.here ?_))))))
  rw [hd]
  refine wpAny_pure (a := some dx) ?_
  refine PySem.OEX.store_in_old hns hw (by omega) fun h' tk' hn' hs => ?_
  exact hq h' tk' (fun b o hb ho => (hs.2 b hb).trans ho) hn'

/-! ### the stores, one behind the other -/
/-- the fields behind the statements, the last one first -/
def put (ev : Str → Option L2.V) : List (Str × Src) → List (Str × L2.V) → List (Str × L2.V)
  | [], fs => fs
  | (f, .par y) :: r, fs => put ev r ((f, (ev y).getD .non) :: fs)
  | (f, .txt c) :: r, fs => put ev r ((f, .str c) :: fs)
/-- while __init__ runs: hb the heap at its call, x the exception, d its dict so far -/
structure Cur (hb hp : Heap) (L x C : Addr) (ml : Str → Option Value) (d : Option Addr) (fs : List (Str × L2.V)) : Prop where
  keep : ∀ b o, b ≠ x → hb.get? b = some o → hp.get? b = some o
  ns : hp.Ns L ml
  obj : ∃ t0, hp.get? x = some (xo C t0 d)
  dic : match d with
    | none => fs = [] ∧ hb.objs.size ≤ hp.objs.size
    | some dx => hb.objs.size ≤ dx ∧ dx ≠ x ∧ dx ≠ L ∧ ∃ mA, hp.Ns1 dx mA ∧ ∀ f, L2.RelO (fs.lookup f) (mA f)
theorem in_but {hb hp : Heap} {x : Addr} (X : K.In hb) (hx : K.lookup x = none) (k : ∀ b o, b ≠ x → hb.get? b = some o → hp.get? b = some o) : K.In hp := fun a o e =>
  k a o (fun z => by rw [z, hx] at e; cases e) (X a o e)
theorem ns_at {h h' : Heap} {a : Addr} {m : Str → Option Value} (n : h.Ns a m) (k : ∀ o, h.get? a = some o → h'.get? a = some o) : h'.Ns a m := by
  obtain ⟨o, es, ep, e, r⟩ := n
  exact ⟨o, es, ep, k o e, r⟩
theorem ns_ne {h : Heap} {a x : Addr} {m : Str → Option Value} {C t0 : Addr} {d : Option Addr} (n : h.Ns a m) (hx : h.get? x = some (xo C t0 d)) : a ≠ x := fun z => by
  obtain ⟨o, es, ep, e, e2, r⟩ := n
  rw [z, hx] at e
  have z2 := Option.some.inj e
  subst z2
  cases e2
/-- one store -/
theorem cur_store {hb : Heap} {L : Addr} {ml : Str → Option Value} {dd : Option Addr} {fs : List (Str × L2.V)} {f : Str} {y : L2.V} {u : Value} {Q : Unit → Shared → Prop} (FM : Fam B newId initId bmB) (T : Cl K C B newId bmB)
    (X : K.In hb) (hnx : K.lookup x = none) (c : Cur hb hp L x C ml dd fs) (hz : fs.length ≤ 800) (hno : findIn K (.ref C) f = some none) (ry : L2.RelV y u)
    (hq : ∀ h' tk' dx, Cur hb h' L x C ml (some dx) ((f, y) :: fs) → Q () ⟨h', g, d, tk', os⟩) : wpAny (model prog w) A (setAttr (.ref x) f u) Q E ⟨hp, g, d, t, os⟩ := by
  obtain ⟨t0, hx⟩ := c.obj
  have X1 : K.In hp := in_but X hnx c.keep
  have nL := ns_ne c.ns hx
  have lL : L < hp.objs.size := c.ns.lt
  cases dd with
  | none =>
    obtain ⟨rfl, sz⟩ := c.dic
    refine set_first FM T X1 hx hno fun h' tk' dx k hd ne hx' hn' => hq h' tk' dx ⟨fun b o hb2 e => k b o hb2 (c.keep b o hb2 e), ns_at c.ns fun o e => k L o nL e, ⟨t0, hx'⟩, Nat.le_trans sz hd, ne, Nat.ne_of_gt (Nat.lt_of_lt_of_le lL hd), _, hn', ?_⟩
    exact L2.relO_put (fs := []) (mA := fun _ => none) ry fun g => True.intro
  | some dx =>
    obtain ⟨hd, ne, neL, mA, hn, rel⟩ := c.dic
    have hw := L2.within_of rel
    refine set_next FM T X1 hx hn hw (by rw [List.length_map]; omega) hno fun h' tk' k hn' => hq h' tk' dx ⟨fun b o hb2 e => ?_, ns_at c.ns fun o e => k L o (Ne.symm neL) e, ⟨t0, k x _ (Ne.symm ne) hx⟩, hd, ne, neL, _, hn', L2.relO_put ry rel⟩
    exact k b o (Nat.ne_of_lt (Nat.lt_of_lt_of_le (Heap.lt_size e) hd)) (c.keep b o hb2 e)
theorem run_fields {hb : Heap} {L : Addr} {ml : Str → Option Value} {ev : Str → Option L2.V} {env : Env} {Q : Flow → Shared → Prop} (FM : Fam B newId initId bmB) (T : Cl K C B newId bmB) (X : K.In hb) (hnx : K.lookup x = none)
    (hk : env.scope.kind = .function) (hL : env.locals = L) (hself : env.kindOf "self" = some .local) (hsv : ml "self" = some (.ref x)) :
    ∀ (l : List Stmt) (fl : List (Str × Src)), fieldsOf l = some fl → (∀ p ∈ fl, findIn K (.ref C) p.1 = some none) →
      (∀ p ∈ fl, ∀ y, p.2 = .par y → env.kindOf y = some .local ∧ (y == ("__debug__" : Str)) = false ∧ ∃ u v, ml y = some u ∧ ev y = some v ∧ L2.RelV v u) →
      ∀ (hp : Heap) (tk : Nat) (dd : Option Addr) (fs : List (Str × L2.V)), Cur hb hp L x C ml dd fs → fs.length + fl.length ≤ 800 →
      (∀ h' tk' d', Cur hb h' L x C ml d' (put ev fl fs) → Q .next ⟨h', g, d, tk', os⟩) → wpAny (model prog w) A (execs l env) Q E ⟨hp, g, d, tk, os⟩ := by
  intro l
  induction l with
  | nil =>
    intro fl e _ _ hp tk dd fs c _ hq
    cases e
    exact wpAny_execs_nil (hq hp tk dd c)
  | cons st r ih =>
    intro fl e hno hpar hp tk dd fs c hz hq
    unfold fieldsOf at e
    cases e1 : fieldOf st with
    | none => rw [e1] at e; cases e
    | some a =>
      cases e2 : fieldsOf r with
      | none => rw [e1, e2] at e; cases e
      | some lr =>
        rw [e1, e2] at e
        cases e
        obtain ⟨f, sr⟩ := a
        have hz1 : fs.length ≤ 800 := by omega
        have hz2 : (fs.length + 1) + lr.length ≤ 800 := by
          have : fs.length + (lr.length + 1) ≤ 800 := by simpa using hz
          omega
        have no1 := hno (f, sr) List.mem_cons_self
        have hno2 : ∀ p ∈ lr, findIn K (.ref C) p.1 = some none := fun p hp => hno p (List.mem_cons_of_mem _ hp)
        have hpar2 := fun p hp => hpar p (List.mem_cons_of_mem _ hp)
        rcases fieldOf_cases e1 with ⟨y, p1, p2, p3, p4, rfl, rfl⟩ | ⟨y, p1, p2, k, p3, p4, rfl, rfl⟩
        · obtain ⟨ky, dy, u, v, hu, hv, ruv⟩ := hpar (f, .par y) List.mem_cons_self y rfl
          refine wpAny_execs_cons (plainObj_wpAny_Assign_Attribute ?_)
          refine wpAny_Name (wpAny_loadName_local hk ky (hL ▸ c.ns) hu ?_) dy
          refine wpAny_Name (wpAny_loadName_local hk hself (hL ▸ c.ns) hsv ?_) (by decide)
          refine cur_store FM T X hnx c hz1 no1 ruv fun h' tk' dx c' => ?_
          refine ih lr e2 hno2 hpar2 h' tk' (some dx) _ c' hz2 fun h2 tk2 d2 c2 => ?_
          refine hq h2 tk2 d2 ?_
          show Cur hb h2 L x C ml d2 (put ev lr ((f, (ev y).getD .non) :: fs))
          rw [hv]
          exact c2
        · refine wpAny_execs_cons (plainObj_wpAny_Assign_Attribute ?_)
          refine Calls.Constant_str ?_
          refine wpAny_Name (wpAny_loadName_local hk hself (hL ▸ c.ns) hsv ?_) (by decide)
          refine cur_store (y := .str y) FM T X hnx c hz1 no1 ⟨_, rfl⟩ fun h' tk' dx c' => ?_
          exact ih lr e2 hno2 hpar2 h' tk' (some dx) _ c' hz2 fun h2 tk2 d2 c2 => hq h2 tk2 d2 c2

/-! ### super().__init__('text') -/
/-- super().__init__('text') -/
def superOf : Stmt → Bool
  | .Expr (.Call (.Attribute (.Call (.Name s _) [] [] _) f p) [.Constant (.str _) _ _] [] q) _ => (s = "super" && f = "__init__") && (p.endLine == q.line)
  | _ => false
theorem superOf_cases {st : Stmt} (h : superOf st = true) : ∃ p1 p2 p3 x k p4 p5 p6, st = .Expr (.Call (.Attribute (.Call (.Name "super" p1) [] [] p2) "__init__" p3) [.Constant (.str x) k p4] [] p5) p6 ∧ (p3.endLine == p5.line) = true := by
  unfold superOf at h
  split at h
  · rw [Bool.and_eq_true, Bool.and_eq_true] at h
    obtain ⟨⟨h1, h2⟩, h3⟩ := h
    have e1 := of_decide_eq_true h1
    have e2 := of_decide_eq_true h2
    subst e1 e2
    exact ⟨_, _, _, _, _, _, _, _, rfl, h3⟩
  · cases h

theorem super_call {o : Expr} {name tx : Str} {kk p4} {apos pos : Pos} {env : Env} (h : (apos.endLine == pos.line) = true) : eval (.Call (.Attribute o name apos) [.Constant (.str tx) kk p4] [] pos) env = (do
      let ov ← attributeBase o name env (eval o env)
      standAt apos.atName
      let (f, first) ← holding [ov] (getMethod ov name (do return (← importBound o env).getD true))
      callWith pos f first (backTo pos (starEach [.Constant (.str tx) kk p4] env)) []) := by
  rw [arm_eval_Call]
  have hf : methodCallForm ([Expr.Constant (.str tx) kk p4].length + ([] : List Keyword).length) (backTo pos (starEach [.Constant (.str tx) kk p4] env)) (backToKw pos (keywordEach [] env)) = true := by rfl
  unfold methodCall methodCallPos calleeOf
  rw [hf, h]
  rfl

theorem callWith_mw {M : Model} {s : Shared} {pos : Pos} {u : Addr} {i : String} {first : List Value} {args : List (Bool × Sem Value)} {Q : Value → Shared → Prop} (hplain : args.any (·.1) = false)
    (h : wpAny M A (evalArgs (.ref u) true args []) (fun ar s₁ => KxsAt i u x s₁.heap ∧ wpAny M A (call (.ref u) (first ++ ar.pos) ar.kw) Q E s₁) E s) : wpAny M A (callWith pos (.ref u) first args []) Q E s := kxs_callWith hplain h

/-- the wrapper called: the args are laid anew -/
theorem call_mw {u t0 : Addr} {rest : List Value} {Q : Value → Shared → Prop} (FM : Fam B newId initId bmB) (T : Cl K C B newId bmB) (X : K.In hp) (hx : hp.get? x = some (xo C t0 none)) (hu : hp.get? u = some (kxs_mw initId x)) (hz : rest.length ≤ sizeLine)
    (hq : ∀ h' t1, (∀ b o, b ≠ x → hp.get? b = some o → h'.get? b = some o) → h'.get? x = some (xo C t1 none) → hp.objs.size ≤ h'.objs.size → Q .none ⟨h', g, d, t, os⟩) :
    wpAny (model prog w) A (call (.ref u) rest) Q E ⟨hp, g, d, t, os⟩ := by
  obtain ⟨nm, N', qn, bs, bm, hdct, sn, sub, ab, col, dd, k0, k1, k2, k3, k5, hC, hT⟩ := excInit_of X T.ini
  refine wpAny_call (codeAny_of_tree ?_)
  show wpAny _ A.in1 (callAny (.ref u) ⟨rest, []⟩) _ _ _
  simp only [callAny]
  refine wpAny_bind (wpAny_load hu ?_)
  simp only [kxs_mw, show (Value.type "method-wrapper" == Value.type "method" || Value.type "method-wrapper" == Value.type "builtin_function_or_method" || Value.type "method-wrapper" == Value.type "method-wrapper") = true by decide, if_true]
  refine KFB.if_so (by decide) ?_
  refine wpAny_bind (check_bound_init FM.base.toExcCallFacts hC hx rfl ?_)
  refine wpAny_bind (wpAny_pure (wpAny_pure ?_))
  refine ⟨plainId_quiet FM.base.init.plain _, codeAny_builtin FM.base.initEntry ?_⟩
  refine exc_init_tree (cls := .ref C) (t0 := t0) (dv := none) (c2 := .none) (c3 := .none) (b4 := .bool false) hx hz fun h' k e1 e2 => ?_
  exact hq h' hp.objs.size k e1 (Nat.le_of_lt (Heap.lt_size e2))
end

/-- the function object of __init__ -/
structure IniFn (prog : Program) (K : Frag) (C f : Addr) (qual : Str) (st : Stmt) : Prop where
  ex : ∃ (oc : Value) (od : Option Addr) (doc pm ct : Value) (an : Option Addr) (osl : Array (Option Value)) (cda cc : Addr),
    K.lookup f = some ⟨oc, od, .func (ksFn "__init__" qual (L2.defArgs st) (L2.defBody st) (L2.defScope st) .none .none doc pm an (.ref cda) ct cc), osl⟩ ∧ codeIn K (.ref cda) qual = true ∧
    (∃ ccl cdd vs ccs file tf, K.lookup cda = some ⟨ccl, cdd, .fields vs, ccs⟩ ∧ vs[2]? = some (.str file tf) ∧ ((prog.main.file : Str) == file) = true) ∧
    (∃ cl cld csl, K.lookup cc = some ⟨cl, cld, .cell (some (.ref C)), csl⟩)
/-- what is read off the text of __init__: ps its parameters behind self -/
structure IniTx (prog : Program) (st : Stmt) (ps : List Str) (fl : List (Str × Src)) : Prop where
  head : ((L2.defArgs st).posonlyargs ++ (L2.defArgs st).args).head?.map (·.arg) = some "self"
  body : ∃ s1 r, L2.defBody st = s1 :: r ∧ superOf s1 = true ∧ fieldsOf r = some fl
  sup : (L2.defScope st).names.lookup ("super" : Str) = some .globalImplicit
  cls : (L2.defScope st).names.lookup ("__class__" : Str) = some .free
  loc : ∀ y ∈ ("self" : Str) :: ps, (L2.defScope st).names.lookup y = some .local ∧ (y == ("__debug__" : Str)) = false
  nd : (("self" : Str) :: ps).Nodup
  cells : ∀ y ∈ (L2.defScope st).names, y.2 ≠ .cell
  co : (L2.defScope st).isCoroutine = false
  gen : (L2.defScope st).isGenerator = false
  kind : (L2.defScope st).kind = .function
  pars : ∀ p ∈ fl, ∀ y, p.2 = .par y → y ∈ ps
  few : fl.length ≤ 100
  top : (prog.main.scope.names.lookup ("super" : Str)).isSome = false

section
variable {prog : Program} {w : World} {A : Around} {E : Value → Shared → Prop} {R : Result → Shared → Prop} {K : Frag} {C x fI : Addr} {B newId initId : String} {bmB : List Value} {s : Shared} {qual : Str} {st : Stmt} {ps : List Str} {fl : List (Str × Src)} {mg mb : Str → Option Value} {base : Heap}
theorem zip_fst : ∀ (ks : List Str) (us : List Value), ((ks.zip us).map (·.1)) <+: ks
  | [], us => by simp
  | k :: r, [] => by simp
  | k :: r, u :: us => by
    have := zip_fst r us
    simpa using this
theorem zip_look : ∀ {ks : List Str} {us : List Value} {i : Nat} {y : Str} {u : Value}, ks.Nodup → ks[i]? = some y → us[i]? = some u → (ks.zip us).reverse.lookup y = some u := by
  intro ks us i y u nd hy hu
  have h1 : ∀ (l : List (Str × Value)), (l.map (·.1)).Nodup → (y, u) ∈ l → l.lookup y = some u := by
    intro l
    induction l with
    | nil => intro _ h; cases h
    | cons a r ih =>
      intro n h
      obtain ⟨k, v⟩ := a
      rw [List.map_cons, List.nodup_cons] at n
      rcases List.mem_cons.mp h with h | h
      · cases h
        simp [List.lookup]
      · have ne : (y == k) = false := by
          simp only [beq_eq_false_iff_ne, ne_eq]
          exact fun z => n.1 (List.mem_map.mpr ⟨(y, u), h, z⟩)
        have e : List.lookup y ((k, v) :: r) = r.lookup y := by
          show (match y == k with | true => some v | false => r.lookup y) = r.lookup y
          rw [ne]
        rw [e]
        exact ih n.2 h
  refine h1 _ ?_ ?_
  · rw [List.map_reverse]
    refine (List.reverse_perm _).nodup_iff.mpr ?_
    have : ((ks.zip us).map (·.1)) <+: ks := by
      exact zip_fst ks us
    exact nd.sublist this.sublist
  · rw [List.mem_reverse]
    have : (ks.zip us)[i]? = some (y, u) := by
      rw [List.getElem?_zip_eq_some]
      exact ⟨hy, hu⟩
    exact List.mem_of_getElem? this
/-- what __init__ leaves of a fresh exception at x -/
structure End (h h' : Heap) (x C : Addr) (fs : List (Str × L2.V)) : Prop where
  keep : ∀ b o, b ≠ x → h.get? b = some o → h'.get? b = some o
  ex : ∃ t1 dx, h'.get? x = some (xo C t1 (some dx)) ∧ h.objs.size ≤ dx ∧ dx ≠ x ∧ ∃ mA, h'.Ns1 dx mA ∧ ∀ f, L2.RelO (fs.lookup f) (mA f)
theorem init_run (FM : Fam B newId initId bmB) (ei : initId = B ++ ".__init__") (T : Cl K C B newId bmB) (FI : IniFn prog K C fI qual st) (TX : IniTx prog st ps fl) (hne : fl ≠ [])
    (hsup : mg "super" = none) (hno : ∀ p ∈ fl, findIn K (.ref C) p.1 = some none) (hop : nsIn K cStatics "thirdparty.any" = some none)
    {t0 : Addr} {args : Args} {us : List Value} {vs : List L2.V} (hb : ∀ fd, K.lookup fI = some fd → ∀ fo, fd.data = .func fo → BindsTo s fo args ((("self" : Str) :: ps).zip (.ref x :: us))) (r : L2.Vals vs us) (hl : us.length = ps.length)
    (X : K.In s.heap) (G : s.heap.Ns mainGlobals mg) (Bt : s.heap.Ns builtinsNs mb) (hbt : mb "super" = some (.type "super"))
    (lim : s.heap.NoLimit) (hx : s.heap.get? x = some (xo C t0 none)) (hnx : K.lookup x = none) (hroom : A.depth < recursionLimit)
    (hq : ∀ h' tk, End s.heap h' x C (put (fun y => (ps.zip vs).lookup y) fl []) → R (.ok (.ret .none)) { s with heap := h', toks := tk }) :
    codeAny (model prog w) A (.call (.ref fI) args) R s := by
  obtain ⟨oc, od, doc, pm, ct, an, osl, cda, cc, lk, hcd, ⟨ccl, cdd, cvs, ccs, file, tf, lcd, hfile, hf2⟩, cl, cld, csl, lcc⟩ := FI.ex
  obtain ⟨s1, rst, hbody, hs1, hrst⟩ := TX.body
  obtain ⟨p1, p2, p3, tx, kk, p4, p5, p6, rfl, hpp⟩ := superOf_cases hs1
  have hbb := hb _ lk _ rfl
  have hxlt : x < s.heap.objs.size := Heap.lt_size hx
  refine ks_codeAny_call_defAt (fd := ksFn "__init__" qual (L2.defArgs st) (L2.defBody st) (L2.defScope st) .none .none doc pm an (.ref cda) ct cc) (body := L2.defBody st) hroom (X _ _ lk) rfl lim (codeRec_of X hcd) rfl hbb TX.cells (fun y hy => ?_) (fun h0 hns hk0 => ?_) TX.co TX.gen TX.kind
  · obtain ⟨n, v⟩ := y
    exact (TX.loc n (List.of_mem_zip hy).1).1
  have hself : ((("self" : Str) :: ps).zip (Value.ref x :: us)).reverse.lookup ("self" : Str) = some (Value.ref x) := zip_look (i := 0) TX.nd rfl rfl
  have X0 : K.In h0 := X.keeps hk0
  have hxC : x ≠ C := fun z => by
    obtain ⟨nm, N', qn, bs, bm, hdct, sn, sub, ab, col, dd, k0, k1, k2, k3, k5, hC, hT⟩ := excInit_of X T.ini
    rw [z, hC] at hx
    cases hx
  have hx0 := hk0 _ _ hx
  obtain ⟨cd, hcl, hcm⟩ : ∃ cd, clsIn K C = some cd ∧ alongIn K "__init__" ((cd.mro.dropWhile (· != .ref C)).drop 1) = some (some (.builtin initId)) := by
    have q := T.sup
    unfold ks_superIn at q
    cases e : clsIn K C with
    | none => rw [e] at q; cases q
    | some cd => rw [e] at q; exact ⟨cd, rfl, by rw [ei]; exact q⟩
  obtain ⟨oD, hD1, hD2⟩ : ∃ oD, h0.get? C = some oD ∧ oD.data = .cls cd := by
    unfold clsIn at hcl
    split at hcl
    · rename_i c d cd' sl ho
      cases hcl
      exact ⟨_, X0 _ _ ho, rfl⟩
    · cases hcl
  rw [hbody]
  refine ks_wpAt_execs_cons (ks_wpAt_Expr_any (ks_wpAt_MethodCall ?_ (super_call hpp)) (by unfold interactive; show ((L2.defScope st).kind == .module && _) = false; rw [TX.kind]; rfl))
  obtain ⟨ar, har, hear⟩ := Option.map_eq_some_iff.mp TX.head
  refine ks_wpAt_super_base (env := ksEnv qual (L2.defScope st) s.heap.objs.size fI (.ref cda) cc) TX.sup TX.cls (by decide) rfl (X0 _ _ lk) rfl har rfl (X0 _ _ lcd) rfl hfile hf2 TX.top ?_
  refine ks_loadName_global TX.kind TX.sup (loadGlobal_builtin (env := ksEnv qual (L2.defScope st) s.heap.objs.size fI (.ref cda) cc) (G.keeps hk0) hsup (Bt.keeps hk0) hbt ⟨rfl, ?_⟩)
  refine wpAny_loadName_free TX.kind TX.cls rfl ⟨_, X0 _ _ lcc, rfl⟩ ?_
  rw [hear]
  refine wpAny_loadName_local TX.kind (TX.loc "self" List.mem_cons_self).1 hns hself ?_
  refine ks_wpAny_isType_cls hD1 hD2 ⟨rfl, ?_⟩
  have hsubC : Looks (model prog w) h0 (isSubtype (.ref C) (.ref C)) true := by
    refine looks_mroIn X0 ?_
    obtain ⟨cd2, hc2, ho⟩ := any_some T.over
    unfold mroIn
    rw [hc2, Option.bind_some]
    (try dsimp only at ho)
    split at ho
    · rename_i C' bm hm
      rw [Bool.and_eq_true, beq_iff_eq] at ho
      obtain ⟨rfl, _⟩ := ho
      rw [hm]
      simp
    · cases ho
  refine ks_wpAny_call_super hD1 hD2 hx0 rfl (fun c e => by cases e) hsubC (fun h1 e1 k1 => ?_)
  have X1 : K.In h1 := X0.keeps k1
  have hx1 := k1 _ _ hx0
  have hI1 : Looks (model prog w) h1 (isInstance (.ref x) (.type B)) true := (show InstAt h1 x (xo C t0 none) C none from ⟨hx1, rfl, rfl, trivial⟩).type.andThen (looks_subIn X1 T.subB)
  refine kxs_getMethod FM.kxs e1 (looks_opaque X1 hop) (l₀ := cd.mro) (fun A Q E s k q => wpAny_bind ((looks_clsIn X1 hcl) A _ E s k (wpAny_pure q))) rfl X1 hcm hI1 hxC (by decide) ?_
  have k2 : ∀ b o, h1.get? b = some o → (h1.push (kxs_mw initId x)).get? b = some o := fun b o e => Heap.get?_push_of_some _ e
  have hu2 : (h1.push (kxs_mw initId x)).get? h1.objs.size = some (kxs_mw initId x) := Heap.get?_push_at rfl rfl
  refine callWith_mw (i := initId) (x := x) rfl (evalArgs_plain (Calls.spliced_cons ?_))
  rw [if_neg Bool.false_ne_true]
  refine Calls.Constant_str (Calls.spliced_nil ⟨hu2, ?_⟩)
  refine call_mw FM T (X1.keeps k2) (k2 _ _ hx1) hu2 (by show 1 ≤ sizeLine; decide) fun h3 t1 k3 hx3 sz3 => ?_
  refine wpAt_of_wpAny ?_
  have sz0 : s.heap.objs.size < h0.objs.size := hns.lt
  have kk : ∀ b o, b ≠ x → h0.get? b = some o → h3.get? b = some o := fun b o hb e => k3 b o hb (k2 b o (k1 b o e))
  have hLx : s.heap.objs.size ≠ x := Nat.ne_of_gt hxlt
  have c0 : Cur s.heap h3 s.heap.objs.size x C (fun y => ((("self" : Str) :: ps).zip (Value.ref x :: us)).reverse.lookup y) none [] :=
    ⟨fun b o hb e => kk b o hb (hk0 b o e), ns_at hns fun o e => kk _ o hLx e, ⟨t1, hx3⟩, rfl, by
      obtain ⟨o, es, ep, e, _⟩ := ns_at hns fun o e => kk _ o hLx e
      exact Nat.le_of_lt (Heap.lt_size e)⟩
  refine run_fields (env := ksEnv qual (L2.defScope st) s.heap.objs.size fI (.ref cda) cc) (ev := fun y => (ps.zip vs).lookup y) FM T X hnx TX.kind rfl (TX.loc "self" List.mem_cons_self).1 hself rst fl hrst hno (fun p hp y e => ?_) h3 _ none [] c0 (by have := TX.few; simp only [List.length_nil]; omega) fun h4 tk4 d4 c4 => ?_
  · have hy := TX.pars p hp y e
    obtain ⟨i, hi, hiy⟩ := List.getElem_of_mem hy
    have l1 := TX.loc y (List.mem_cons_of_mem _ hy)
    have hiu : i < us.length := by omega
    have hiv : i < vs.length := by have := r.length; omega
    have eu : us[i]? = some us[i] := List.getElem?_eq_getElem hiu
    have evv : vs[i]? = some vs[i] := List.getElem?_eq_getElem hiv
    obtain ⟨u, hu', ruv⟩ := L2.Vals.get r evv
    refine ⟨l1.1, l1.2, u, vs[i], ?_, ?_, ruv⟩
    · exact zip_look (i := i + 1) TX.nd (by simpa using (List.getElem?_eq_getElem hi).trans (congrArg some hiy)) (by simpa using hu')
    · have ndp : ps.Nodup := (List.nodup_cons.mp TX.nd).2
      have key : ∀ (ks : List Str) (ws : List L2.V) (i : Nat) (y : Str) (v : L2.V), ks.Nodup → ks[i]? = some y → ws[i]? = some v → (ks.zip ws).lookup y = some v := by
        intro ks
        induction ks with
        | nil => intro ws i y v _ h _; simp at h
        | cons k kr ih =>
          intro ws i y v n h1 h2
          cases ws with
          | nil => simp at h2
          | cons w0 wr =>
            cases i with
            | zero =>
              simp at h1 h2
              subst h1 h2
              simp [List.lookup]
            | succ j =>
              have h1' : kr[j]? = some y := by simpa using h1
              have h2' : wr[j]? = some v := by simpa using h2
              have ne : (y == k) = false := by
                simp only [beq_eq_false_iff_ne, ne_eq]
                intro z
                subst z
                exact (List.nodup_cons.mp n).1 (List.mem_of_getElem? h1')
              show (match y == k with | true => some w0 | false => (kr.zip wr).lookup y) = some v
              rw [ne]
              exact ih wr j y v (List.nodup_cons.mp n).2 h1' h2'
      exact key ps vs i y _ ndp ((List.getElem?_eq_getElem hi).trans (congrArg some hiy)) evv
  · refine hq h4 tk4 ⟨fun b o hb e => c4.keep b o hb e, ?_⟩
    cases d4 with
    | none =>
      exfalso
      have q := c4.dic.1
      cases fl with
      | nil => exact hne rfl
      | cons a l =>
        have lenp : ∀ (l : List (Str × Src)) (fs : List (Str × L2.V)), (put (fun y => (ps.zip vs).lookup y) l fs).length = l.length + fs.length := by
          intro l
          induction l with
          | nil => intro fs; simp [put]
          | cons b l ih =>
            intro fs
            obtain ⟨f, sr⟩ := b
            cases sr <;> (simp only [put, ih, List.length_cons]; omega)
        have := congrArg List.length q
        rw [lenp] at this
        simp at this
    | some dx =>
      obtain ⟨hd, ne, neL, mA, hn, rel⟩ := c4.dic
      obtain ⟨t2, e2⟩ := c4.obj
      exact ⟨t2, dx, e2, hd, ne, mA, hn, rel⟩
end
end FK
end
section
set_option Elab.async false
set_option linter.all false
set_option maxRecDepth 100000
set_option maxHeartbeats 4000000
namespace FK
open PySem PySem.W PySem.Calls PyProof.Rows

/-- how positional arguments bind to self and the parameters -/
def BindP (qual : Str) (st : Stmt) (ps : List Str) : Prop := ∀ (doc pm ct cda : Value) (an : Option Addr) (cc : Addr) (us : List Value), us.length = ps.length + 1 →
  bindArgs (ksFn "__init__" qual (L2.defArgs st) (L2.defBody st) (L2.defScope st) .none .none doc pm an cda ct cc) ⟨us, []⟩ = pure ((("self" : Str) :: ps).zip us)

/-- all that is told of one class x of the package -/
structure Flt (prog : Program) (K : Frag) (mg : Str → Option Value) (x : Str) (C : Addr) (fl : List (Str × Src)) (ps : List Str) : Prop where
  ex : ∃ (B newId initId : String) (bmB : List Value) (st : Stmt) (fI : Addr), Fam B newId initId bmB ∧ initId = B ++ ".__init__" ∧ Cl K C B newId bmB ∧ IniFn prog K C fI (x ++ ".__init__") st ∧ IniTx prog st ps fl ∧ BindP (x ++ ".__init__") st ps ∧
    findIn K (.ref C) "__init__" = some (some (.ref fI)) ∧ typeIn K (.ref fI) = some (.type "function")
  ne : fl ≠ []
  sup : mg "super" = none
  no : ∀ p ∈ fl, findIn K (.ref C) p.1 = some none
  opq : nsIn K cStatics "thirdparty.any" = some none
  kC : keepIn K (.ref C) = true
  gC : mg x = some (.ref C)
  exC : subIn K (.ref C) (.type "BaseException") = some true
  tyC : typeIn K (.ref C) = some (.type "type")
  ga : findIn K (.ref C) "__getattribute__" = some (some (.builtin "BaseException.__getattribute__"))
  gg : findIn K (.ref C) "__getattr__" = some none
  dict : hasDictIn K C = true
  clsA : findIn K (.ref C) "__class__" = some (some (.builtin "object.__class__"))
  clsG : specialIn K (.builtin "object.__class__") "__get__" = some (some (.builtin "getset_descriptor.__get__"))
  clsT : takesIn K (.builtin "object.__class__") = some true
  mrO : mroIn K C (.type "object") = some true
  db : (x == ("__debug__" : Str)) = false

/-- the fields of an error that was made of these values -/
abbrev flds (ps : List Str) (fl : List (Str × Src)) (vs : List L2.V) : List (Str × L2.V) := put (fun y => (ps.zip vs).lookup y) fl []

/-- a made error at e -/
structure Made (h h' : Heap) (e C : Addr) (fs : List (Str × L2.V)) : Prop where
  keep : ∀ b o, h.get? b = some o → h'.get? b = some o
  new : h.objs.size ≤ e
  ex : ∃ t1 d, h'.get? e = some (xo C t1 (some d)) ∧ h.objs.size ≤ d ∧ d ≠ e ∧ ∃ mA, h'.Ns1 d mA ∧ ∀ f, L2.RelO (fs.lookup f) (mA f)

section
variable {prog : Program} {w : World} {A : Around} {E : Value → Shared → Prop} {R : Result → Shared → Prop} {K : Frag} {C : Addr} {s : Shared} {x : Str} {ps : List Str} {fl : List (Str × Src)} {mg mb : Str → Option Value}
theorem made (T : Flt prog K mg x C fl ps) {us : List Value} {vs : List L2.V} (r : L2.Vals vs us) (hl : vs.length = ps.length)
    (X : K.In s.heap) (G : s.heap.Ns mainGlobals mg) (Bt : s.heap.Ns builtinsNs mb) (hbt : mb "super" = some (.type "super")) (lim : s.heap.NoLimit) (hroom : A.depth + 1 < recursionLimit) (hz : us.length ≤ sizeLine)
    (hq : ∀ h' tk e, Made s.heap h' e C (flds ps fl vs) → R (.ok (.ret (.ref e))) { s with heap := h', toks := tk }) :
    codeAny (model prog w) A (.call (.ref C) ⟨us, []⟩) R s := by
  obtain ⟨B, newId, initId, bmB, st, fI, FM, ei, TC, FI, TX, bd, hi, tI⟩ := T.ex
  obtain ⟨nm, N', qn, bs, bm, hdct, sn, sub, ab, col, dd, k0, k1, k2, k3, k5, hC, hT⟩ := excInit_of X TC.ini
  obtain ⟨hp, g, dr, tk, os⟩ := s
  have k : ∀ b o, hp.get? b = some o → ((hp.push (kdv_tup us)).push (PySem.HandSPX.excO C hp.objs.size)).get? b = some o := fun b o e => Heap.get?_push_of_some _ (Heap.get?_push_of_some _ e)
  have hget : ((hp.push (kdv_tup us)).push (PySem.HandSPX.excO C hp.objs.size)).get? (hp.objs.size + 1) = some (xo C hp.objs.size none) := by heap_get
  have hnx : K.lookup (hp.objs.size + 1) = none := by
    cases e : K.lookup (hp.objs.size + 1) with
    | none => rfl
    | some o =>
      have z : hp.get? (hp.objs.size + 1) = some o := X _ _ e
      exact absurd (Nat.lt_of_succ_lt (Heap.lt_size z)) (Nat.lt_irrefl _)
  refine PySem.HandSPX.call_own FM.base hT hC (looks_findIn X hi) (fun self => bind_fn X self tI) hz ?_
  refine init_run (s := ⟨(hp.push (kdv_tup us)).push (PySem.HandSPX.excO C hp.objs.size), g, dr, tk, os⟩) (us := us) (vs := vs) FM ei TC FI TX T.ne T.sup T.no T.opq (fun fd lk fo hfd => ?_) r (by rw [← r.length]; exact hl) (X.keeps k) (G.keeps k) (Bt.keeps k) hbt (lim.keeps k) hget hnx ?_ fun h' tk' EN => ?_
  · obtain ⟨oc, od, doc, pm, ct, an, osl, cda, cc, lk2, _⟩ := FI.ex
    rw [lk] at lk2
    cases lk2
    cases hfd
    exact BindsTo.of_eq (bd doc pm ct (.ref cda) an cc (.ref (hp.objs.size + 1) :: us) (by rw [List.length_cons, ← r.length, hl]))
  · show A.depth + 1 < recursionLimit
    exact hroom
  · obtain ⟨t1, d, e1, d1, d2, mA, n1, rel⟩ := EN.ex
    have old : ∀ b o, hp.get? b = some o → h'.get? b = some o := fun b o e => EN.keep b o (Nat.ne_of_lt (Nat.lt_succ_of_lt (Heap.lt_size e))) (k b o e)
    have z : hp.objs.size ≤ d := by
      have q := d1
      have q2 : hp.objs.size + 1 + 1 ≤ d := by
        simpa only [Heap.size_push] using q
      omega
    exact ⟨rfl, hq h' tk' (hp.objs.size + 1) ⟨old, Nat.le_succ _, t1, d, e1, z, d2, mA, n1, rel⟩⟩
end
end FK

namespace L2
open PySem PySem.Spec PyProof.Rows
section
variable {X : Cx} {x : Str} {C : Addr} {fl : List (Str × FK.Src)} {ps : List Str}
/-- C(e, ..) made to be raised -/
def tMkF (C : Addr) (ps : List Str) (fl : List (Str × FK.Src)) (ta : TA) : St → Hp → XK → Prop := fun σ H Q => ta σ H fun vs H1 => vs.length = ps.length ∧ ∀ d, H1 d = none → Q (.ref C) (some d) (upd H1 d (.xd (FK.flds ps fl vs)))
theorem mk_core {k : Nat} {pins : List (Addr × Obj)} {σ : St} {H1 : Hp} {s1 : Shared} {us : List Value} {vs : List V} {Q : Value → Shared → Prop} {E : Value → Shared → Prop} (T : FK.Flt X.prog X.K X.mg x C fl ps) (hr : Room (k + 1) X.A) (I1 : Inv X pins σ H1 s1) (r1 : Vals vs us) (hl : vs.length = ps.length) (hps : ps.length ≤ 1000)
    (hq : ∀ h' tk e, FK.Made s1.heap h' e C (FK.flds ps fl vs) → Q (.ref e) { s1 with heap := h', toks := tk }) : wpAny (model X.prog X.w) X.A (call (.ref C) us) Q E s1 := by
  obtain ⟨mb, hmb, hbt⟩ := I1.ok.mod.blt
  have hus : us.length ≤ sizeLine := by
    rw [← Paired.length r1, sizeLine_eq]
    omega
  refine wpAny_call (FK.made T r1 hl I1.kIn (I1.ok.mod.glob.keeps I1.bk) (hmb.keeps I1.bk) ((hbt "super" (by decide)).trans (by first | boot_by_name | rfl | kernel_rfl)) I1.nolimit ?_ hus fun h' tk e M => ?_)
  · have := hr.dp
    omega
  · exact hq h' tk e M
/-- it is raised: the object is let go, its dict stands as an exception's dict -/
theorem mk_raise {pins : List (Addr × Obj)} {σ : St} {H1 : Hp} {s1 : Shared} {h' : Heap} {tk : Nat} {e : Addr} {fs : List (Str × V)} {Q : XK} (T : FK.Flt X.prog X.K X.mg x C fl ps) (I1 : Inv X pins σ H1 s1) (M : FK.Made s1.heap h' e C fs) (q : ∀ d, H1 d = none → Q (.ref C) (some d) (upd H1 d (.xd fs))) :
    MkP X pins σ Q (.ref e) { s1 with heap := h', toks := tk } := by
  obtain ⟨hp, g, dr, t0, os⟩ := s1
  obtain ⟨t1, d, e1, d1, d2, mA, n1, rel⟩ := M.ex
  obtain ⟨G', g1, g2⟩ := restrict h' fun b => decide (b ≠ e)
  have gk : ∀ b, b ≠ e → G'.get? b = h'.get? b := fun b hb => g1 b (decide_eq_true hb)
  have ge : G'.get? e = none := g2 e (by simp)
  have old : ∀ b o, hp.get? b = some o → G'.get? b = some o := fun b o q => (gk b (Nat.ne_of_lt (Nat.lt_of_lt_of_le (Heap.lt_size q) M.new))).trans (M.keep b o q)
  have ob : ObjOk X.prog X.w (upd H1 d (.xd fs)) G' d (.xd fs) := ⟨_, n1.at (fun o q => (gk d d2).trans q), rel⟩
  have J : Inv X pins σ (upd H1 d (.xd fs)) ⟨G', g, dr, tk, os⟩ := I1.laid (t' := tk) old d1 ob
  refine ⟨e, _, _, ⟨G', g, dr, tk, os⟩, _, .ref C, some d, rfl, J, fun b o q => ?_, ge, e1, ⟨rfl, rfl⟩, rfl, rfl, ?_, rfl, I1.bare, raises_own T.exC T.tyC, q d (I1.hok.fresh d1)⟩
  · by_cases hb : b = e
    · have q' : G'.get? b = some o := q
      rw [hb, ge] at q'
      cases q'
    · exact (gk b hb).symm.trans q
  · rw [upd_ne (Ne.symm d2)]
    exact I1.hok.fresh M.new
theorem pmk_flt {e : Expr} {es : List Expr} {ta : TA} {p pos : Pos} {k : Nat} (T : FK.Flt X.prog X.K X.mg x C fl ps) (hr : Room (k + 1) X.A) (ha : PA X (e :: es) ta) (hps : ps.length ≤ 1000 := by decide) (hg : Gl X x := by rfl)
    (he : starEach (e :: es) X.env = (false, eval e X.env) :: starEach es X.env := by rfl) (hpl : (backTo pos (starEach es X.env)).any (·.1) = false := by rfl) :
    PMk X (.Call (.Name x p) (e :: es) [] pos) (tMkF C ps fl ta) := by
  intro pins s σ H Q I h
  refine wpAny_Call_Name_kw (ld_glob I hg T.gC ?_ T.db)
  refine PySem.W.callWith_K (h₀ := X.base) I.ok.mod.kin T.kC (thn (ha.run pos pins s σ H _ I h) fun us s1 ⟨vs, H1, I1, r1, hl, q1⟩ => ⟨I1.kIn, ?_⟩) he hpl
  exact mk_core T hr I1 r1 hl hps fun h' tk e M => mk_raise T I1 M q1
/-- raise C(e, ..) -/
def tRaiseF (C : Addr) (ps : List Str) (fl : List (Str × FK.Src)) (W : WX) (ta : TA) : TS := fun _ σ H => tMkF C ps fl ta σ H fun cls d H' => W cls d σ H'
theorem ps_raiseF {e : Expr} {es : List Expr} {ta : TA} {W : WX} {p pos pos2 : Pos} {k : Nat} (hc : X.calm = true) (T : FK.Flt X.prog X.K X.mg x C fl ps) (hr : Room (k + 1) X.A) (tk : Takes X W) (ha : PA X (e :: es) ta) (hps : ps.length ≤ 1000 := by decide) (hg : Gl X x := by rfl)
    (he : starEach (e :: es) X.env = (false, eval e X.env) :: starEach es X.env := by rfl) (hpl : (backTo pos (starEach es X.env)).any (·.1) = false := by rfl) :
    PS X (.Raise (some (.Call (.Name x p) (e :: es) [] pos)) none pos2) (tRaiseF C ps fl W ta) := ps_raise hc tk (pmk_flt T hr ha hps hg he hpl)

/-! ### errors held as values -/
/-- at a: an error of the class at C, its dict at d -/
abbrev ExV (H : Hp) (a C d : Addr) (fs : List (Str × V)) : Prop := H a = some (exo a C (some d)) ∧ H d = some (.xd fs)
theorem mk_value {pins : List (Addr × Obj)} {σ : St} {H1 : Hp} {s1 : Shared} {h' : Heap} {tk : Nat} {e : Addr} {fs : List (Str × V)} {Q : VK} (I1 : Inv X pins σ H1 s1) (M : FK.Made s1.heap h' e C fs)
    (q : ∀ a d, H1 a = none → H1 d = none → d ≠ a → Q (.ref a) (upd (upd H1 d (.xd fs)) a (exo a C (some d)))) : EP X pins σ Q (.ref e) { s1 with heap := h', toks := tk } := by
  obtain ⟨hp, g, dr, t0, os⟩ := s1
  obtain ⟨t1, d, e1, d1, d2, mA, n1, rel⟩ := M.ex
  have ob : ObjOk X.prog X.w (upd H1 d (.xd fs)) h' d (.xd fs) := ⟨_, n1, rel⟩
  have J : Inv X pins σ (upd H1 d (.xd fs)) ⟨h', g, dr, tk, os⟩ := I1.laid (t' := tk) M.keep d1 ob
  have na : H1 e = none := I1.hok.fresh M.new
  have nd : H1 d = none := I1.hok.fresh d1
  have na2 : upd H1 d (.xd fs) e = none := by rw [upd_ne (Ne.symm d2)]; exact na
  have Un1 : Un X.fs [] H1 (upd (upd H1 d (.xd fs)) e (exo e C (some d))) hp h' := {
    keep := fun b o q _ _ _ => M.keep b o q
    slot := fun b o q _ _ _ => ⟨o.slots, M.keep b o q⟩
    free := fun b o q n _ => by
      have lt := Heap.lt_size q
      rw [upd_ne (Nat.ne_of_lt (Nat.lt_of_lt_of_le lt M.new)), upd_ne (Nat.ne_of_lt (Nat.lt_of_lt_of_le lt d1))]
      exact n
    there := fun b o q _ => ⟨o, M.keep b o q⟩
    tups := fun b xs q => by rw [upd_ne (ne_of_none q na), upd_ne (ne_of_none q nd)]; exact q
    frzs := fun b o v q => by rw [upd_ne (ne_of_none q na), upd_ne (ne_of_none q nd)]; exact q
    tbls := fun b ps q => ⟨#[], by rw [upd_ne (ne_of_none q na), upd_ne (ne_of_none q nd), q]; simp⟩ }
  refine ⟨.ref e, _, I1.un (t' := tk) Un1 fun b o q => ?_, rfl, q e d na nd d2⟩
  by_cases hb : b = e
  · subst hb
    rw [upd_same] at q
    cases q
    exact exo_ok e1
  · rw [upd_ne hb] at q
    exact (J.hok b o q).stay (fun c v hc z => z) (fun c hc => by rw [upd_ne (ne_of_none hc na2)]; exact hc) (fun c xs hc => by rw [upd_ne (ne_of_none hc na2)]; exact hc)
/-- C(e, ..) as a value -/
def tMkV (C : Addr) (ps : List Str) (fl : List (Str × FK.Src)) (ta : TA) : TE := fun σ H Q => ta σ H fun vs H1 => vs.length = ps.length ∧ ∀ a d, H1 a = none → H1 d = none → d ≠ a → Q (.ref a) (upd (upd H1 d (.xd (FK.flds ps fl vs))) a (exo a C (some d)))
theorem pe_flt {e : Expr} {es : List Expr} {ta : TA} {p pos : Pos} {k : Nat} (T : FK.Flt X.prog X.K X.mg x C fl ps) (hr : Room (k + 1) X.A) (ha : PA X (e :: es) ta) (hps : ps.length ≤ 1000 := by decide) (hg : Gl X x := by rfl)
    (he : starEach (e :: es) X.env = (false, eval e X.env) :: starEach es X.env := by rfl) (hpl : (backTo pos (starEach es X.env)).any (·.1) = false := by rfl) :
    PE X (.Call (.Name x p) (e :: es) [] pos) (tMkV C ps fl ta) := by
  refine ⟨fun pins s σ H Q I h => ?_⟩
  refine wpAny_Call_Name_kw (ld_glob I hg T.gC ?_ T.db)
  refine PySem.W.callWith_K (h₀ := X.base) I.ok.mod.kin T.kC (thn (ha.run pos pins s σ H _ I h) fun us s1 ⟨vs, H1, I1, r1, hl, q1⟩ => ⟨I1.kIn, ?_⟩) he hpl
  exact mk_core T hr I1 r1 hl hps fun h' tk e M => mk_value I1 M q1
/-- e.f of an error that is held -/
def tXFld (K : PySem.W.Frag) (te : TE) (f : Str) : TE := fun σ H Q => te σ H fun x H1 => ∃ a C d fs v, x = .ref a ∧ ExV H1 a C d fs ∧ (∃ prog mg nm fl ps, FK.Flt prog K mg nm C fl ps) ∧ PySem.W.findIn K (.ref C) f = some none ∧ fs.lookup f = some v ∧ Q v H1
theorem pe_xfld {e : Expr} {te : TE} {f : Str} {pos : Pos} (he : PE X e te) (hb : attributeBase e f X.env (eval e X.env) = eval e X.env) : PE X (.Attribute e f pos) (tXFld X.K te f) := by
  refine ⟨fun pins s σ H Q I h => ?_⟩
  refine attr_of hb (thn (he.run pins s σ H _ I h) fun u s1 hh => ?_)
  obtain ⟨x, H1, I1, rx, a, C, d, fs, v, ex, ⟨ea, ed⟩, ⟨_, _, _, _, _, T⟩, hno, l, q⟩ := hh
  subst ex
  obtain rfl : u = Value.ref a := rx
  obtain ⟨t1, ho⟩ := exo_at I1.hok ea
  obtain ⟨mA, hns, hr⟩ := (show ObjOk X.prog X.w H1 s1.heap d (.xd fs) from I1.hok d _ ed)
  obtain ⟨od, hod, hl⟩ := lookIn_ns hns
  obtain ⟨u, hu, ru⟩ := RelO.some_of (v := v) (o := mA f) (by rw [← l]; exact hr f)
  have J : PySem.W.InstAt s1.heap a (FK.xo C t1 (some d)) C (some od) := ⟨ho, rfl, rfl, hod⟩
  exact PySem.HandSPX.exc_get I1.kIn J T.ga T.gg T.exC (PySem.W.findObj_own T.dict hno rfl (by rw [hl, hu])) (handed_of ru) ⟨v, H1, I1.tok _, ru, q⟩
end
end L2
end
section
set_option Elab.async false
set_option linter.all false
set_option maxRecDepth 100000
set_option maxHeartbeats 4000000
/-! The head's facts for a law over the package: defs, facts, exception classes, one Bool more. -/
namespace Hf
open PySem PySem.Spec PyProof.Rows L2 He
abbrev IniW : Type := Option (Str × Str × Arguments × FuncBody × Scope × Addr × List Str × Addr)
def iniW (K : PySem.W.Frag) (x : Str) : IniW := match K.lookup (ma K (ga K x) "__init__") with
  | some ⟨_, _, .func fd, _⟩ => some (fd.name, fd.qualname, fd.params, fd.body, fd.scope, fd.globals, fd.closure.map (·.1), fd.builtins)
  | _ => none
/-- one exception class: its name, its family (0 ValueError, 1 LookupError, 2 RuntimeError), its __init__, its parameters and fields -/
structure FltD where
  x : Str
  fam : Nat
  st : Stmt
  ps : List Str
  fl : List (Str × FK.Src)
def FltD.val (d : FltD) : IniW := some (("__init__" : Str), d.x ++ ".__init__", defArgs d.st, FuncBody.stmts (defBody d.st), defScope d.st, mainGlobals, [("__class__" : Str)], builtinsNs)
def famB : Nat → String
  | 0 => "ValueError"
  | 1 => "LookupError"
  | _ => "RuntimeError"
def famBm : Nat → List Value
  | 0 => FK.bmV
  | 1 => FK.bmL
  | _ => FK.bmR
def newB : Nat → String
  | 0 => "ValueError.__new__"
  | 1 => "LookupError.__new__"
  | _ => "RuntimeError.__new__"
def initB : Nat → String
  | 0 => "ValueError.__init__"
  | 1 => "LookupError.__init__"
  | _ => "RuntimeError.__init__"
theorem fam_ok : ∀ n : Nat, FK.Fam (famB n) (newB n) (initB n) (famBm n)
  | 0 => FK.famV
  | 1 => FK.famL
  | _ + 2 => FK.famR
theorem init_eq : ∀ n : Nat, initB n = famB n ++ ".__init__"
  | 0 => by decide
  | 1 => by decide
  | _ + 2 => by show "RuntimeError.__init__" = "RuntimeError" ++ ".__init__"; decide
/-- the closure's one cell holds the class; the code's file is the program's -/
def tieB (K : PySem.W.Frag) (file : Str) (q : Str) (C f : Addr) : Bool := match K.lookup f with
  | some ⟨_, _, .func fd, _⟩ => (match fd.defaults, fd.kwdefaults, fd.closure, fd.code with
    | .none, .none, [(_, cc)], .ref cda => PySem.W.codeIn K (.ref cda) q && ((match K.lookup cc with
      | some ⟨_, _, .cell (some (.ref D)), _⟩ => decide (D = C)
      | _ => false) && (match K.lookup cda with
      | some ⟨_, _, .fields vs, _⟩ => (match (vs[2]? : Option Value) with
        | some (.str fl _) => (file == fl)
        | _ => false)
      | _ => false))
    | _, _, _, _ => false)
  | _ => false
def FltD.ok (K : PySem.W.Frag) (file : Str) (d : FltD) : Bool :=
  let C := ga K d.x
  let f := ma K C "__init__"
  eqO (PySem.W.nsIn K mainGlobals d.x) (some (some (.ref C))) && (PySem.W.excInitIn K C (famBm d.fam) (newB d.fam) && (PySem.W.excOver K C (famBm d.fam) && (eqO (PySem.W.findIn K (.ref C) "__setattr__") (some (some (.builtin "object.__setattr__"))) &&
  (PySem.W.hasDictIn K C && (decide (PySem.W.subIn K (.ref C) (.type (famB d.fam)) = some true) && (eqO (PySem.W.ks_superIn K C C "__init__") (some (some (.builtin (initB d.fam)))) && ((d.fl.all fun p => eqO (PySem.W.findIn K (.ref C) p.1) (some none)) &&
  (eqO (PySem.W.nsIn K cStatics "thirdparty.any") (some none) && (PySem.W.keepIn K (.ref C) && (decide (PySem.W.subIn K (.ref C) (.type "BaseException") = some true) && (decide (PySem.W.typeIn K (.ref C) = some (.type "type")) &&
  (eqO (PySem.W.findIn K (.ref C) "__getattribute__") (some (some (.builtin "BaseException.__getattribute__"))) && (eqO (PySem.W.findIn K (.ref C) "__getattr__") (some none) && (eqO (PySem.W.findIn K (.ref C) "__class__") (some (some (.builtin "object.__class__"))) &&
  (eqO (PySem.W.specialIn K (.builtin "object.__class__") "__get__") (some (some (.builtin "getset_descriptor.__get__"))) && (decide (PySem.W.takesIn K (.builtin "object.__class__") = some true) && (decide (PySem.W.mroIn K C (.type "object") = some true) &&
  (eqO (PySem.W.findIn K (.ref C) "__init__") (some (some (.ref f))) && (decide (PySem.W.typeIn K (.ref f) = some (.type "function")) && (eqO (PySem.W.nsIn K mainGlobals "super") (some none) && tieB K file (d.x ++ ".__init__") C f))))))))))))))))))))
/-- what of the text is asked, beside -/
structure FltT (prog : Program) (d : FltD) : Prop where
  tx : FK.IniTx prog d.st d.ps d.fl
  bd : FK.BindP (d.x ++ ".__init__") d.st d.ps
  ne : d.fl ≠ []
  db : (d.x == ("__debug__" : Str)) = false
theorem tie_ok {K : PySem.W.Frag} {prog : Program} {C f : Addr} {q : Str} {st : Stmt} {x : Str} (h : tieB K prog.main.file q C f = true) (hf : f = ma K (ga K x) "__init__")
    (hw : iniW K x = (some (("__init__" : Str), q, defArgs st, FuncBody.stmts (defBody st), defScope st, mainGlobals, [("__class__" : Str)], builtinsNs) : IniW)) : FK.IniFn prog K C f q st := by
  subst hf
  unfold tieB at h
  unfold iniW at hw
  cases e : K.lookup (ma K (ga K x) "__init__") with
  | none =>
    rw [e] at h
    cases h
  | some o =>
    obtain ⟨oc, od, dt, osl⟩ := o
    rw [e] at h hw
    cases dt with
    | func fd =>
      obtain ⟨n1, n2, n3, n4, n5, n6, n7, n8, n9, n10, n11, n12, n13, n14, n15⟩ := fd
      have e2 : (some (n1, n2, n3, n4, n5, n6, n7.map (·.1), n15) : IniW) = some (("__init__" : Str), q, defArgs st, FuncBody.stmts (defBody st), defScope st, mainGlobals, [("__class__" : Str)], builtinsNs) := hw
      simp only [Option.some.injEq, Prod.mk.injEq] at e2
      obtain ⟨h1, h2, h3, h4, h5, h6, h7, h8⟩ := e2
      subst h1 h2 h3 h4 h5 h6 h8
      dsimp only at h
      split at h
      · rename_i nm cc cda
        have hn : nm = ("__class__" : Str) := by simpa using h7
        subst hn
        obtain ⟨c1, c2⟩ := ba h
        obtain ⟨c3, c4⟩ := ba c2
        split at c3
        · rename_i k1 k2 D k3 ek
          have eD : D = C := of_decide_eq_true c3
          subst eD
          split at c4
          · rename_i v1 v2 vs v3 ev
            split at c4
            · rename_i fl tk efl
              exact ⟨oc, od, n10, n11, n14, n12, osl, cda, cc, e, c1, ⟨_, _, vs, _, fl, tk, ev, efl, c4⟩, ⟨_, _, _, ek⟩⟩
            · cases c4
          · cases c4
        · cases c3
      · cases h
    | _ => cases h
theorem flt_ok {K : PySem.W.Frag} {prog : Program} {mg : Str → Option Value} {h : Heap} {d : FltD} (X : K.In h) (G : h.Ns mainGlobals mg) (c : d.ok K prog.main.file = true) (w : iniW K d.x = d.val) (t : FltT prog d) : FK.Flt prog K mg d.x (ga K d.x) d.fl d.ps := by
  unfold FltD.ok at c
  simp only [Bool.and_eq_true] at c
  obtain ⟨c1, c2, c3, c4, c5, c6, c7, c8, c9, c10, c11, c12, c13, c14, c15, c16, c17, c18, c19, c20, c21, c22⟩ := c
  refine ⟨⟨famB d.fam, newB d.fam, initB d.fam, famBm d.fam, d.st, ma K (ga K d.x) "__init__", fam_ok d.fam, init_eq d.fam, ⟨c2, c3, eqO_ok c4, c5, of_decide_eq_true c6, ?_⟩, tie_ok c22 rfl w, t.tx, t.bd, eqO_ok c19, of_decide_eq_true c20⟩,
    t.ne, PySem.W.mg_none_of X G (eqO_ok c21), fun p hp => eqO_ok (List.all_eq_true.mp c8 p hp), eqO_ok c9, c10, PySem.W.mg_of X G (eqO_ok c1), of_decide_eq_true c11, of_decide_eq_true c12, eqO_ok c13, eqO_ok c14, c5, eqO_ok c15, eqO_ok c16, of_decide_eq_true c17, of_decide_eq_true c18, t.db⟩
  rw [← init_eq]
  exact eqO_ok c7
/-! ### the Hook -/
abbrev AlF : Type := Bool × List FnW × List IniW
/-- what is looked at: facts, defs, exception classes, a Bool of one's own -/
structure Ask where
  file : Str
  fa : List Fa
  fn : List DefD
  fx : List FltD
  xt : PySem.W.Frag → Bool
def Ask.obs (a : Ask) (K : PySem.W.Frag) : AlF := ((a.fa.all fun f => f.ok K) && ((a.fn.all fun d => d.ok K) && ((a.fx.all fun d => d.ok K a.file) && a.xt K)), a.fn.map (fun d => fnW K d.at_), a.fx.map fun d => iniW K d.x)
def Ask.val (a : Ask) : AlF := (true, a.fn.map DefD.val, a.fx.map FltD.val)
def Says (a : Ask) (K : PySem.W.Frag) : Prop := a.obs K = a.val
def asF (g : Addr → Option Obj) (n : Nat) : List Addr := cStatics :: asD g n
def Ask.obsG (n : Nat) (a : Ask) (g : Addr → Option Obj) : AlF := a.obs (frG g (asF g n))
def hookF (n : Nat) (a : Ask) : PySem.W.Hook where
  α := AlF
  obs := fun s => a.obsG n s.heap.get?
  val := fun _ => a.val
  says := fun _ h => ∃ K : PySem.W.Frag, K.In h ∧ Says a K
  of := fun _ _ e => ⟨_, frG_in, e⟩
  keeps := fun _ _ _ ⟨K, hK, c⟩ k => ⟨K, PySem.W.Frag.In.keeps hK k, c⟩
theorem obsG_eq {n : Nat} {a : Ask} {g : Addr → Option Obj} {s : Shared} (h : ∀ b, g b = s.heap.get? b) : a.obsG n g = (hookF n a).obs s := by
  have e : g = s.heap.get? := funext h
  rw [e] <;> rfl
section
variable {a : Ask} {K : PySem.W.Frag}
theorem Says.all (c : Says a K) : (a.fa.all fun f => f.ok K) = true ∧ (a.fn.all fun d => d.ok K) = true ∧ (a.fx.all fun d => d.ok K a.file) = true ∧ a.xt K = true := by
  have c1 := ba (show ((a.fa.all fun f => f.ok K) && ((a.fn.all fun d => d.ok K) && ((a.fx.all fun d => d.ok K a.file) && a.xt K))) = true from congrArg (fun z : AlF => z.1) c)
  have c2 := ba c1.2
  have c3 := ba c2.2
  exact ⟨c1.1, c2.1, c3.1, c3.2⟩
theorem Says.fact (c : Says a K) (i : Nat) {f : Fa} (h : a.fa[i]? = some f := by rfl) : f.ok K = true := List.all_eq_true.mp c.all.1 f (List.mem_of_getElem? h)
theorem Says.glo {h : Heap} {mg : Str → Option Value} (c : Says a K) (X : K.In h) (G : h.Ns mainGlobals mg) {x : Str} (m : Fa.glo x ∈ a.fa) : mg x = some (.ref (ga K x)) := glo_ok X G (List.all_eq_true.mp c.all.1 _ m)
theorem Says.free {h : Heap} {mg : Str → Option Value} (c : Says a K) (X : K.In h) (G : h.Ns mainGlobals mg) {x : Str} (m : Fa.free x ∈ a.fa) : mg x = none := free_ok X G (List.all_eq_true.mp c.all.1 _ m)
theorem Says.def_ (c : Says a K) (i : Nat) {d : DefD} (h : a.fn[i]? = some d := by rfl) : ∃ fd, FunD K d.name d.qual d.params d.body d.scope (d.dvs K) (d.kws K) (fAd K d.at_) fd := by
  have e : a.fn.map (fun d => fnW K d.at_) = a.fn.map DefD.val := congrArg (fun z : AlF => z.2.1) c
  have e2 : (a.fn.map fun d => fnW K d.at_)[i]? = (a.fn.map DefD.val)[i]? := by rw [e]
  rw [List.getElem?_map, List.getElem?_map, h] at e2
  exact DefD.funD (Option.some.inj e2) (List.all_eq_true.mp c.all.2.1 d (List.mem_of_getElem? h))
theorem Says.flt {prog : Program} {h : Heap} {mg : Str → Option Value} (c : Says a K) (X : K.In h) (G : h.Ns mainGlobals mg) (ef : a.file = prog.main.file) (i : Nat) {d : FltD} (hd : a.fx[i]? = some d) (t : FltT prog d) : FK.Flt prog K mg d.x (ga K d.x) d.fl d.ps := by
  have e : a.fx.map (fun d => iniW K d.x) = a.fx.map FltD.val := congrArg (fun z : AlF => z.2.2) c
  have e2 : (a.fx.map fun d => iniW K d.x)[i]? = (a.fx.map FltD.val)[i]? := by rw [e]
  rw [List.getElem?_map, List.getElem?_map, hd] at e2
  exact flt_ok X G (ef ▸ List.all_eq_true.mp c.all.2.2.1 d (List.mem_of_getElem? hd)) (Option.some.inj e2) t
end
end Hf
end
section
namespace C
open PySem PySem.Spec PyProof.Rows L2 RZ
/-! ### the error classes, by number -/
abbrev flBadNest : List (Str × FK.Src) := [("line", .par "line"), ("why", .par "why"), ("code", .txt "BadNest")]
abbrev psBadNest : List Str := ["line", "why"]
abbrev ksBadNest : List Str := ["why", "line"]
abbrev ggBadNest : {α : Type} → List α → List α := fun l => match l with | [x, y] => [y, x] | l => l
abbrev flBadPaper : List (Str × FK.Src) := [("line", .par "line"), ("why", .par "why"), ("code", .txt "BadPaper")]
abbrev psBadPaper : List Str := ["line", "why"]
abbrev ksBadPaper : List Str := ["why", "line"]
abbrev ggBadPaper : {α : Type} → List α → List α := fun l => match l with | [x, y] => [y, x] | l => l
abbrev flBadLog : List (Str × FK.Src) := [("line", .par "line"), ("why", .par "why"), ("code", .txt "BadLog")]
abbrev psBadLog : List Str := ["line", "why"]
abbrev ksBadLog : List Str := ["why", "line"]
abbrev ggBadLog : {α : Type} → List α → List α := fun l => match l with | [x, y] => [y, x] | l => l
abbrev flBadScript : List (Str × FK.Src) := [("line", .par "line"), ("why", .par "why"), ("code", .txt "BadScript")]
abbrev psBadScript : List Str := ["line", "why"]
abbrev ksBadScript : List Str := ["why", "line"]
abbrev ggBadScript : {α : Type} → List α → List α := fun l => match l with | [x, y] => [y, x] | l => l
abbrev flInvalidText : List (Str × FK.Src) := [("text", .par "text"), ("code", .txt "InvalidText")]
abbrev psInvalidText : List Str := ["text"]
abbrev ksInvalidText : List Str := ["text"]
abbrev ggInvalidText : {α : Type} → List α → List α := fun l => l
abbrev flInvalidNumber : List (Str × FK.Src) := [("value", .par "value"), ("code", .txt "InvalidNumber")]
abbrev psInvalidNumber : List Str := ["value"]
abbrev ksInvalidNumber : List Str := ["value"]
abbrev ggInvalidNumber : {α : Type} → List α → List α := fun l => l
abbrev flInvalidPowers : List (Str × FK.Src) := [("at", .par "at"), ("code", .txt "InvalidPowers")]
abbrev psInvalidPowers : List Str := ["at"]
abbrev ksInvalidPowers : List Str := ["at"]
abbrev ggInvalidPowers : {α : Type} → List α → List α := fun l => l
abbrev flInvalidTouch : List (Str × FK.Src) := [("touch", .par "touch"), ("code", .txt "InvalidTouch")]
abbrev psInvalidTouch : List Str := ["touch"]
abbrev ksInvalidTouch : List Str := ["touch"]
abbrev ggInvalidTouch : {α : Type} → List α → List α := fun l => l
abbrev flInvalidPoint : List (Str × FK.Src) := [("point", .par "point"), ("code", .txt "InvalidPoint")]
abbrev psInvalidPoint : List Str := ["point"]
abbrev ksInvalidPoint : List Str := ["point"]
abbrev ggInvalidPoint : {α : Type} → List α → List α := fun l => l
abbrev flInvalidPoints : List (Str × FK.Src) := [("at", .par "at"), ("code", .txt "InvalidPoints")]
abbrev psInvalidPoints : List Str := ["at"]
abbrev ksInvalidPoints : List Str := ["at"]
abbrev ggInvalidPoints : {α : Type} → List α → List α := fun l => l
abbrev flInvalidCell : List (Str × FK.Src) := [("cell", .par "cell"), ("code", .txt "InvalidCell")]
abbrev psInvalidCell : List Str := ["cell"]
abbrev ksInvalidCell : List Str := ["cell"]
abbrev ggInvalidCell : {α : Type} → List α → List α := fun l => l
abbrev flInvalidRows : List (Str × FK.Src) := [("at", .par "at"), ("code", .txt "InvalidRows")]
abbrev psInvalidRows : List Str := ["at"]
abbrev ksInvalidRows : List Str := ["at"]
abbrev ggInvalidRows : {α : Type} → List α → List α := fun l => l
abbrev flInvalidWeights : List (Str × FK.Src) := [("at", .par "at"), ("code", .txt "InvalidWeights")]
abbrev psInvalidWeights : List Str := ["at"]
abbrev ksInvalidWeights : List Str := ["at"]
abbrev ggInvalidWeights : {α : Type} → List α → List α := fun l => l
abbrev flInvalidSides : List (Str × FK.Src) := [("at", .par "at"), ("code", .txt "InvalidSides")]
abbrev psInvalidSides : List Str := ["at"]
abbrev ksInvalidSides : List Str := ["at"]
abbrev ggInvalidSides : {α : Type} → List α → List α := fun l => l
abbrev flInvalidPieces : List (Str × FK.Src) := [("at", .par "at"), ("code", .txt "InvalidPieces")]
abbrev psInvalidPieces : List Str := ["at"]
abbrev ksInvalidPieces : List Str := ["at"]
abbrev ggInvalidPieces : {α : Type} → List α → List α := fun l => l
abbrev flInvalidEntries : List (Str × FK.Src) := [("at", .par "at"), ("code", .txt "InvalidEntries")]
abbrev psInvalidEntries : List Str := ["at"]
abbrev ksInvalidEntries : List Str := ["at"]
abbrev ggInvalidEntries : {α : Type} → List α → List α := fun l => l
abbrev flInvalidTables : List (Str × FK.Src) := [("at", .par "at"), ("code", .txt "InvalidTables")]
abbrev psInvalidTables : List Str := ["at"]
abbrev ksInvalidTables : List Str := ["at"]
abbrev ggInvalidTables : {α : Type} → List α → List α := fun l => l
abbrev flInvalidRooms : List (Str × FK.Src) := [("array", .par "array"), ("code", .txt "InvalidRooms")]
abbrev psInvalidRooms : List Str := ["array"]
abbrev ksInvalidRooms : List Str := ["array"]
abbrev ggInvalidRooms : {α : Type} → List α → List α := fun l => l
abbrev flInvalidName : List (Str × FK.Src) := [("name", .par "name"), ("code", .txt "InvalidName")]
abbrev psInvalidName : List Str := ["name"]
abbrev ksInvalidName : List Str := ["name"]
abbrev ggInvalidName : {α : Type} → List α → List α := fun l => l
abbrev flSharedName : List (Str × FK.Src) := [("name", .par "name"), ("code", .txt "SharedName")]
abbrev psSharedName : List Str := ["name"]
abbrev ksSharedName : List Str := ["name"]
abbrev ggSharedName : {α : Type} → List α → List α := fun l => l
abbrev flOtherNest : List (Str × FK.Src) := [("code", .txt "OtherNest")]
abbrev psOtherNest : List Str := []
abbrev ksOtherNest : List Str := []
abbrev ggOtherNest : {α : Type} → List α → List α := fun l => l
abbrev flOtherWidth : List (Str × FK.Src) := [("wide", .par "wide"), ("code", .txt "OtherWidth")]
abbrev psOtherWidth : List Str := ["wide"]
abbrev ksOtherWidth : List Str := ["wide"]
abbrev ggOtherWidth : {α : Type} → List α → List α := fun l => l
abbrev flUnseen : List (Str × FK.Src) := [("rows", .par "rows"), ("code", .txt "Unseen")]
abbrev psUnseen : List Str := ["rows"]
abbrev ksUnseen : List Str := ["rows"]
abbrev ggUnseen : {α : Type} → List α → List α := fun l => l
abbrev flLargeBook : List (Str × FK.Src) := [("code", .txt "LargeBook")]
abbrev psLargeBook : List Str := []
abbrev ksLargeBook : List Str := []
abbrev ggLargeBook : {α : Type} → List α → List α := fun l => l
abbrev flTooNarrow : List (Str × FK.Src) := [("room", .par "room"), ("code", .txt "TooNarrow")]
abbrev psTooNarrow : List Str := ["room"]
abbrev ksTooNarrow : List Str := ["room"]
abbrev ggTooNarrow : {α : Type} → List α → List α := fun l => l
abbrev flFull : List (Str × FK.Src) := [("room", .par "room"), ("code", .txt "Full")]
abbrev psFull : List Str := ["room"]
abbrev ksFull : List Str := ["room"]
abbrev ggFull : {α : Type} → List α → List α := fun l => l
abbrev flHeld : List (Str × FK.Src) := [("cell", .par "cell"), ("code", .txt "Held")]
abbrev psHeld : List Str := ["cell"]
abbrev ksHeld : List Str := ["cell"]
abbrev ggHeld : {α : Type} → List α → List α := fun l => l
abbrev flNotHeld : List (Str × FK.Src) := [("cell", .par "cell"), ("code", .txt "NotHeld")]
abbrev psNotHeld : List Str := ["cell"]
abbrev ksNotHeld : List Str := ["cell"]
abbrev ggNotHeld : {α : Type} → List α → List α := fun l => l
abbrev flDone : List (Str × FK.Src) := [("point", .par "point"), ("code", .txt "Done")]
abbrev psDone : List Str := ["point"]
abbrev ksDone : List Str := ["point"]
abbrev ggDone : {α : Type} → List α → List α := fun l => l
abbrev flUnknownName : List (Str × FK.Src) := [("name", .par "name"), ("code", .txt "UnknownName")]
abbrev psUnknownName : List Str := ["name"]
abbrev ksUnknownName : List Str := ["name"]
abbrev ggUnknownName : {α : Type} → List α → List α := fun l => l
abbrev flUnknownCounter : List (Str × FK.Src) := [("name", .par "name"), ("code", .txt "UnknownCounter")]
abbrev psUnknownCounter : List Str := ["name"]
abbrev ksUnknownCounter : List Str := ["name"]
abbrev ggUnknownCounter : {α : Type} → List α → List α := fun l => l
abbrev flNoRun : List (Str × FK.Src) := [("name", .par "name"), ("code", .txt "NoRun")]
abbrev psNoRun : List Str := ["name"]
abbrev ksNoRun : List Str := ["name"]
abbrev ggNoRun : {α : Type} → List α → List α := fun l => l
abbrev flNothingLeft : List (Str × FK.Src) := [("many", .par "many"), ("code", .txt "NothingLeft")]
abbrev psNothingLeft : List Str := ["many"]
abbrev ksNothingLeft : List Str := ["many"]
abbrev ggNothingLeft : {α : Type} → List α → List α := fun l => l
abbrev flNoTrial : List (Str × FK.Src) := [("code", .txt "NoTrial")]
abbrev psNoTrial : List Str := []
abbrev ksNoTrial : List Str := []
abbrev ggNoTrial : {α : Type} → List α → List α := fun l => l
structure EC where
  x : Str
  ps : List Str
  fl : List (Str × FK.Src)
def ec : Nat → EC
  | 0 => ⟨"BadNest", psBadNest, flBadNest⟩
  | 1 => ⟨"BadPaper", psBadPaper, flBadPaper⟩
  | 2 => ⟨"BadLog", psBadLog, flBadLog⟩
  | 3 => ⟨"BadScript", psBadScript, flBadScript⟩
  | 4 => ⟨"InvalidText", psInvalidText, flInvalidText⟩
  | 5 => ⟨"InvalidNumber", psInvalidNumber, flInvalidNumber⟩
  | 6 => ⟨"InvalidPowers", psInvalidPowers, flInvalidPowers⟩
  | 7 => ⟨"InvalidTouch", psInvalidTouch, flInvalidTouch⟩
  | 8 => ⟨"InvalidPoint", psInvalidPoint, flInvalidPoint⟩
  | 9 => ⟨"InvalidPoints", psInvalidPoints, flInvalidPoints⟩
  | 10 => ⟨"InvalidCell", psInvalidCell, flInvalidCell⟩
  | 11 => ⟨"InvalidRows", psInvalidRows, flInvalidRows⟩
  | 12 => ⟨"InvalidWeights", psInvalidWeights, flInvalidWeights⟩
  | 13 => ⟨"InvalidSides", psInvalidSides, flInvalidSides⟩
  | 14 => ⟨"InvalidPieces", psInvalidPieces, flInvalidPieces⟩
  | 15 => ⟨"InvalidEntries", psInvalidEntries, flInvalidEntries⟩
  | 16 => ⟨"InvalidTables", psInvalidTables, flInvalidTables⟩
  | 17 => ⟨"InvalidRooms", psInvalidRooms, flInvalidRooms⟩
  | 18 => ⟨"InvalidName", psInvalidName, flInvalidName⟩
  | 19 => ⟨"SharedName", psSharedName, flSharedName⟩
  | 20 => ⟨"OtherNest", psOtherNest, flOtherNest⟩
  | 21 => ⟨"OtherWidth", psOtherWidth, flOtherWidth⟩
  | 22 => ⟨"Unseen", psUnseen, flUnseen⟩
  | 23 => ⟨"LargeBook", psLargeBook, flLargeBook⟩
  | 24 => ⟨"TooNarrow", psTooNarrow, flTooNarrow⟩
  | 25 => ⟨"Full", psFull, flFull⟩
  | 26 => ⟨"Held", psHeld, flHeld⟩
  | 27 => ⟨"NotHeld", psNotHeld, flNotHeld⟩
  | 28 => ⟨"Done", psDone, flDone⟩
  | 29 => ⟨"UnknownName", psUnknownName, flUnknownName⟩
  | 30 => ⟨"UnknownCounter", psUnknownCounter, flUnknownCounter⟩
  | 31 => ⟨"NoRun", psNoRun, flNoRun⟩
  | 32 => ⟨"NothingLeft", psNothingLeft, flNothingLeft⟩
  | _ => ⟨"NoTrial", psNoTrial, flNoTrial⟩
abbrev exF (k : Nat) (a b : V) : List (Str × V) := FK.flds (ec k).ps (ec k).fl ([a, b].take (ec k).ps.length)
/-- at p: an error of the k-th class, its dict at d, its values the first of a, b -/
def ErAt (K : PySem.W.Frag) (H : Hp) (p d : Addr) (k : Nat) (a b : V) : Prop := ExV H p (He.ga K (ec k).x) d (exF k a b)
def Flts (K : PySem.W.Frag) : Prop := ∀ k, k < 34 → ∃ prog mg, FK.Flt prog K mg (ec k).x (He.ga K (ec k).x) (ec k).fl (ec k).ps
def kitsB (K : PySem.W.Frag) : Bool := (List.range 34).all fun k => ((List.range 34).all fun j => decide (PySem.W.kitOne K (.ref (He.ga K (ec k).x)) (.ref (He.ga K (ec j).x)) = some (decide (k = j)))) &&
  (decide (PySem.W.kitOne K (.ref (He.ga K (ec k).x)) (.ref (He.ga K "NestError")) = some (decide (k < 29))) && (decide (PySem.W.kitOne K (.ref (He.ga K (ec k).x)) (.ref (He.ga K "Unknown")) = some (decide (29 ≤ k ∧ k ≤ 31))) &&
  (decide (PySem.W.kitOne K (.ref (He.ga K (ec k).x)) (.type "ValueError") = some (decide (k < 29))) && (decide (PySem.W.kitOne K (.ref (He.ga K (ec k).x)) (.type "LookupError") = some (decide (29 ≤ k ∧ k ≤ 31))) && (decide (PySem.W.kitOne K (.ref (He.ga K (ec k).x)) (.type "RuntimeError") = some (decide (31 < k))) &&
  (["KeyError", "IndexError", "NotImplementedError", "ArithmeticError", "TypeError"].all fun t => decide (PySem.W.kitOne K (.ref (He.ga K (ec k).x)) (.type t) = some false)))))))

end C
end
section
set_option maxHeartbeats 0
namespace D
open PySem PySem.Spec PyProof.Rows L2
def topS (i : Nat) : Stmt := PySem.Challenge.pw_leastfetched_k00_errors_told.main.body.getD i (.Pass ⟨0, 0, 0, 0⟩)
abbrev s_law_bag : Stmt := topS 38
abbrev s_law_draw : Stmt := topS 39
abbrev s_law_of : Stmt := topS 40
abbrev s_law_any : Stmt := topS 53
abbrev s_law_place_one : Stmt := topS 44
abbrev s_law_place_two : Stmt := topS 45
abbrev s_law_made : Stmt := topS 54
abbrev s_law_some : Stmt := topS 41
abbrev s_law_int : Stmt := topS 42
abbrev s_law_like : Stmt := topS 43
abbrev s_law_marks : Stmt := topS 50
abbrev s_law_kept_one : Stmt := topS 48
abbrev s_law_kept_two : Stmt := topS 49
abbrev s_law_codes : Stmt := topS 51
abbrev s_law_many : Stmt := topS 52
abbrev s_law_is_one : Stmt := topS 56
abbrev s_law_name_one : Stmt := topS 46
abbrev s_law_name_two : Stmt := topS 47
abbrev s_law_named : Stmt := topS 55
abbrev s_law : Stmt := topS 57
end D
namespace D
open PySem PySem.Spec PyProof.Rows L2
abbrev iBadNest : Stmt := inClass (topS 3) 0
def xBadNest : Hf.FltD := ⟨"BadNest", 0, iBadNest, ["line", "why"], [("line", .par "line"), ("why", .par "why"), ("code", .txt "BadNest")]⟩
abbrev iBadPaper : Stmt := inClass (topS 4) 0
def xBadPaper : Hf.FltD := ⟨"BadPaper", 0, iBadPaper, ["line", "why"], [("line", .par "line"), ("why", .par "why"), ("code", .txt "BadPaper")]⟩
abbrev iBadLog : Stmt := inClass (topS 5) 0
def xBadLog : Hf.FltD := ⟨"BadLog", 0, iBadLog, ["line", "why"], [("line", .par "line"), ("why", .par "why"), ("code", .txt "BadLog")]⟩
abbrev iBadScript : Stmt := inClass (topS 6) 0
def xBadScript : Hf.FltD := ⟨"BadScript", 0, iBadScript, ["line", "why"], [("line", .par "line"), ("why", .par "why"), ("code", .txt "BadScript")]⟩
abbrev iInvalidText : Stmt := inClass (topS 7) 0
def xInvalidText : Hf.FltD := ⟨"InvalidText", 0, iInvalidText, ["text"], [("text", .par "text"), ("code", .txt "InvalidText")]⟩
abbrev iInvalidNumber : Stmt := inClass (topS 8) 0
def xInvalidNumber : Hf.FltD := ⟨"InvalidNumber", 0, iInvalidNumber, ["value"], [("value", .par "value"), ("code", .txt "InvalidNumber")]⟩
abbrev iInvalidPowers : Stmt := inClass (topS 9) 0
def xInvalidPowers : Hf.FltD := ⟨"InvalidPowers", 0, iInvalidPowers, ["at"], [("at", .par "at"), ("code", .txt "InvalidPowers")]⟩
abbrev iInvalidTouch : Stmt := inClass (topS 10) 0
def xInvalidTouch : Hf.FltD := ⟨"InvalidTouch", 0, iInvalidTouch, ["touch"], [("touch", .par "touch"), ("code", .txt "InvalidTouch")]⟩
abbrev iInvalidPoint : Stmt := inClass (topS 11) 0
def xInvalidPoint : Hf.FltD := ⟨"InvalidPoint", 0, iInvalidPoint, ["point"], [("point", .par "point"), ("code", .txt "InvalidPoint")]⟩
abbrev iInvalidPoints : Stmt := inClass (topS 12) 0
def xInvalidPoints : Hf.FltD := ⟨"InvalidPoints", 0, iInvalidPoints, ["at"], [("at", .par "at"), ("code", .txt "InvalidPoints")]⟩
abbrev iInvalidCell : Stmt := inClass (topS 13) 0
def xInvalidCell : Hf.FltD := ⟨"InvalidCell", 0, iInvalidCell, ["cell"], [("cell", .par "cell"), ("code", .txt "InvalidCell")]⟩
abbrev iInvalidRows : Stmt := inClass (topS 14) 0
def xInvalidRows : Hf.FltD := ⟨"InvalidRows", 0, iInvalidRows, ["at"], [("at", .par "at"), ("code", .txt "InvalidRows")]⟩
abbrev iInvalidWeights : Stmt := inClass (topS 15) 0
def xInvalidWeights : Hf.FltD := ⟨"InvalidWeights", 0, iInvalidWeights, ["at"], [("at", .par "at"), ("code", .txt "InvalidWeights")]⟩
abbrev iInvalidSides : Stmt := inClass (topS 16) 0
def xInvalidSides : Hf.FltD := ⟨"InvalidSides", 0, iInvalidSides, ["at"], [("at", .par "at"), ("code", .txt "InvalidSides")]⟩
abbrev iInvalidPieces : Stmt := inClass (topS 17) 0
def xInvalidPieces : Hf.FltD := ⟨"InvalidPieces", 0, iInvalidPieces, ["at"], [("at", .par "at"), ("code", .txt "InvalidPieces")]⟩
abbrev iInvalidEntries : Stmt := inClass (topS 18) 0
def xInvalidEntries : Hf.FltD := ⟨"InvalidEntries", 0, iInvalidEntries, ["at"], [("at", .par "at"), ("code", .txt "InvalidEntries")]⟩
abbrev iInvalidTables : Stmt := inClass (topS 19) 0
def xInvalidTables : Hf.FltD := ⟨"InvalidTables", 0, iInvalidTables, ["at"], [("at", .par "at"), ("code", .txt "InvalidTables")]⟩
abbrev iInvalidRooms : Stmt := inClass (topS 20) 0
def xInvalidRooms : Hf.FltD := ⟨"InvalidRooms", 0, iInvalidRooms, ["array"], [("array", .par "array"), ("code", .txt "InvalidRooms")]⟩
abbrev iInvalidName : Stmt := inClass (topS 21) 0
def xInvalidName : Hf.FltD := ⟨"InvalidName", 0, iInvalidName, ["name"], [("name", .par "name"), ("code", .txt "InvalidName")]⟩
abbrev iSharedName : Stmt := inClass (topS 22) 0
def xSharedName : Hf.FltD := ⟨"SharedName", 0, iSharedName, ["name"], [("name", .par "name"), ("code", .txt "SharedName")]⟩
abbrev iOtherNest : Stmt := inClass (topS 23) 0
def xOtherNest : Hf.FltD := ⟨"OtherNest", 0, iOtherNest, [], [("code", .txt "OtherNest")]⟩
abbrev iOtherWidth : Stmt := inClass (topS 24) 0
def xOtherWidth : Hf.FltD := ⟨"OtherWidth", 0, iOtherWidth, ["wide"], [("wide", .par "wide"), ("code", .txt "OtherWidth")]⟩
abbrev iUnseen : Stmt := inClass (topS 25) 0
def xUnseen : Hf.FltD := ⟨"Unseen", 0, iUnseen, ["rows"], [("rows", .par "rows"), ("code", .txt "Unseen")]⟩
abbrev iLargeBook : Stmt := inClass (topS 26) 0
def xLargeBook : Hf.FltD := ⟨"LargeBook", 0, iLargeBook, [], [("code", .txt "LargeBook")]⟩
abbrev iTooNarrow : Stmt := inClass (topS 27) 0
def xTooNarrow : Hf.FltD := ⟨"TooNarrow", 0, iTooNarrow, ["room"], [("room", .par "room"), ("code", .txt "TooNarrow")]⟩
abbrev iFull : Stmt := inClass (topS 28) 0
def xFull : Hf.FltD := ⟨"Full", 0, iFull, ["room"], [("room", .par "room"), ("code", .txt "Full")]⟩
abbrev iHeld : Stmt := inClass (topS 29) 0
def xHeld : Hf.FltD := ⟨"Held", 0, iHeld, ["cell"], [("cell", .par "cell"), ("code", .txt "Held")]⟩
abbrev iNotHeld : Stmt := inClass (topS 30) 0
def xNotHeld : Hf.FltD := ⟨"NotHeld", 0, iNotHeld, ["cell"], [("cell", .par "cell"), ("code", .txt "NotHeld")]⟩
abbrev iDone : Stmt := inClass (topS 31) 0
def xDone : Hf.FltD := ⟨"Done", 0, iDone, ["point"], [("point", .par "point"), ("code", .txt "Done")]⟩
abbrev iUnknownName : Stmt := inClass (topS 32) 0
def xUnknownName : Hf.FltD := ⟨"UnknownName", 1, iUnknownName, ["name"], [("name", .par "name"), ("code", .txt "UnknownName")]⟩
abbrev iUnknownCounter : Stmt := inClass (topS 33) 0
def xUnknownCounter : Hf.FltD := ⟨"UnknownCounter", 1, iUnknownCounter, ["name"], [("name", .par "name"), ("code", .txt "UnknownCounter")]⟩
abbrev iNoRun : Stmt := inClass (topS 34) 0
def xNoRun : Hf.FltD := ⟨"NoRun", 1, iNoRun, ["name"], [("name", .par "name"), ("code", .txt "NoRun")]⟩
abbrev iNothingLeft : Stmt := inClass (topS 35) 0
def xNothingLeft : Hf.FltD := ⟨"NothingLeft", 2, iNothingLeft, ["many"], [("many", .par "many"), ("code", .txt "NothingLeft")]⟩
abbrev iNoTrial : Stmt := inClass (topS 36) 0
def xNoTrial : Hf.FltD := ⟨"NoTrial", 2, iNoTrial, [], [("code", .txt "NoTrial")]⟩
def d_law_bag : He.DefD := ⟨("_law_bag", none), "_law_bag", "_law_bag", defArgs s_law_bag, defBody s_law_bag, defScope s_law_bag, [], []⟩
def d_law_draw : He.DefD := ⟨("_law_draw", none), "_law_draw", "_law_draw", defArgs s_law_draw, defBody s_law_draw, defScope s_law_draw, [], []⟩
def d_law_of : He.DefD := ⟨("_law_of", none), "_law_of", "_law_of", defArgs s_law_of, defBody s_law_of, defScope s_law_of, [], []⟩
def d_law_any : He.DefD := ⟨("_law_any", none), "_law_any", "_law_any", defArgs s_law_any, defBody s_law_any, defScope s_law_any, [], []⟩
def d_law_place_one : He.DefD := ⟨("_law_place_one", none), "_law_place_one", "_law_place_one", defArgs s_law_place_one, defBody s_law_place_one, defScope s_law_place_one, [], []⟩
def d_law_place_two : He.DefD := ⟨("_law_place_two", none), "_law_place_two", "_law_place_two", defArgs s_law_place_two, defBody s_law_place_two, defScope s_law_place_two, [], []⟩
def d_law_made : He.DefD := ⟨("_law_made", none), "_law_made", "_law_made", defArgs s_law_made, defBody s_law_made, defScope s_law_made, [], []⟩
def d_law_some : He.DefD := ⟨("_law_some", none), "_law_some", "_law_some", defArgs s_law_some, defBody s_law_some, defScope s_law_some, [], []⟩
def d_law_int : He.DefD := ⟨("_law_int", none), "_law_int", "_law_int", defArgs s_law_int, defBody s_law_int, defScope s_law_int, [], []⟩
def d_law_like : He.DefD := ⟨("_law_like", none), "_law_like", "_law_like", defArgs s_law_like, defBody s_law_like, defScope s_law_like, [], []⟩
def d_law_marks : He.DefD := ⟨("_law_marks", none), "_law_marks", "_law_marks", defArgs s_law_marks, defBody s_law_marks, defScope s_law_marks, [], []⟩
def d_law_kept_one : He.DefD := ⟨("_law_kept_one", none), "_law_kept_one", "_law_kept_one", defArgs s_law_kept_one, defBody s_law_kept_one, defScope s_law_kept_one, [], []⟩
def d_law_kept_two : He.DefD := ⟨("_law_kept_two", none), "_law_kept_two", "_law_kept_two", defArgs s_law_kept_two, defBody s_law_kept_two, defScope s_law_kept_two, [], []⟩
def d_law_codes : He.DefD := ⟨("_law_codes", none), "_law_codes", "_law_codes", defArgs s_law_codes, defBody s_law_codes, defScope s_law_codes, [], []⟩
def d_law_many : He.DefD := ⟨("_law_many", none), "_law_many", "_law_many", defArgs s_law_many, defBody s_law_many, defScope s_law_many, [], []⟩
def d_law_is_one : He.DefD := ⟨("_law_is_one", none), "_law_is_one", "_law_is_one", defArgs s_law_is_one, defBody s_law_is_one, defScope s_law_is_one, [], []⟩
def d_law_name_one : He.DefD := ⟨("_law_name_one", none), "_law_name_one", "_law_name_one", defArgs s_law_name_one, defBody s_law_name_one, defScope s_law_name_one, [], []⟩
def d_law_name_two : He.DefD := ⟨("_law_name_two", none), "_law_name_two", "_law_name_two", defArgs s_law_name_two, defBody s_law_name_two, defScope s_law_name_two, [], []⟩
def d_law_named : He.DefD := ⟨("_law_named", none), "_law_named", "_law_named", defArgs s_law_named, defBody s_law_named, defScope s_law_named, [], []⟩
def d_law : He.DefD := ⟨("law", none), "law", "law", defArgs s_law, defBody s_law, defScope s_law, [], []⟩
def fn : List He.DefD := [d_law_bag, d_law_draw, d_law_of, d_law_any, d_law_place_one, d_law_place_two, d_law_made, d_law_some, d_law_int, d_law_like, d_law_marks, d_law_kept_one, d_law_kept_two, d_law_codes, d_law_many, d_law_is_one, d_law_name_one, d_law_name_two, d_law_named, d_law]
def fx : List Hf.FltD := [xBadNest, xBadPaper, xBadLog, xBadScript, xInvalidText, xInvalidNumber, xInvalidPowers, xInvalidTouch, xInvalidPoint, xInvalidPoints, xInvalidCell, xInvalidRows, xInvalidWeights, xInvalidSides, xInvalidPieces, xInvalidEntries, xInvalidTables, xInvalidRooms, xInvalidName, xSharedName, xOtherNest, xOtherWidth, xUnseen, xLargeBook, xTooNarrow, xFull, xHeld, xNotHeld, xDone, xUnknownName, xUnknownCounter, xNoRun, xNothingLeft, xNoTrial]
def fa : List He.Fa := ([.glo "law", .glo "_law_bag", .glo "_law_draw", .glo "_law_of", .glo "_law_any", .glo "_law_place_one", .glo "_law_place_two", .glo "_law_made", .glo "_law_some", .glo "_law_int", .glo "_law_like", .glo "_law_marks", .glo "_law_kept_one", .glo "_law_kept_two", .glo "_law_codes", .glo "_law_many", .glo "_law_is_one", .glo "_law_name_one", .glo "_law_name_two", .glo "_law_named", .glo "BadNest", .glo "BadPaper", .glo "BadLog", .glo "BadScript", .glo "InvalidText", .glo "InvalidNumber", .glo "InvalidPowers", .glo "InvalidTouch", .glo "InvalidPoint", .glo "InvalidPoints"] : List He.Fa) ++ ([.glo "InvalidCell", .glo "InvalidRows", .glo "InvalidWeights", .glo "InvalidSides", .glo "InvalidPieces", .glo "InvalidEntries", .glo "InvalidTables", .glo "InvalidRooms", .glo "InvalidName", .glo "SharedName", .glo "OtherNest", .glo "OtherWidth", .glo "Unseen", .glo "LargeBook", .glo "TooNarrow", .glo "Full", .glo "Held", .glo "NotHeld", .glo "Done", .glo "UnknownName", .glo "UnknownCounter", .glo "NoRun", .glo "NothingLeft", .glo "NoTrial", .glo "NestError", .glo "Unknown", .free "int", .free "list", .free "len", .free "range"] : List He.Fa) ++ ([.free "tuple", .free "min", .free "isinstance", .free "bool", .free "str", .free "zip", .free "all", .free "ValueError", .free "LookupError", .free "RuntimeError", .free "KeyError", .free "IndexError", .free "NotImplementedError", .free "ArithmeticError", .free "TypeError"] : List He.Fa)
def ask : Hf.Ask := ⟨PySem.Challenge.pw_leastfetched_k00_errors_told.main.file, fa, fn, fx, C.kitsB⟩
abbrev R : PySem.W.OpenRow := PySem.W.OpenLaw.row PySem.Challenge.rw_leastfetched_k00_errors_told
abbrev hk : PySem.W.Hook := Hf.hookF 4 ask
def ob (s : PySem.W.SharedT) : Hf.AlF := Hf.Ask.obsG 4 ask (HandSHeadRun.getT s)
theorem ob_eq (s : PySem.W.SharedT) : ob s = hk.obs s.abs := Hf.obsG_eq (HandSHeadRun.getT_eq s)
def loose : List PySem.Str := (["NestError", "Unknown", "BadNest", "BadPaper", "BadLog", "BadScript", "InvalidText", "InvalidNumber", "InvalidPowers", "InvalidTouch", "InvalidPoint", "InvalidPoints", "InvalidCell", "InvalidRows", "InvalidWeights", "InvalidSides", "InvalidPieces", "InvalidEntries", "InvalidTables", "InvalidRooms", "InvalidName", "SharedName", "OtherNest", "OtherWidth", "Unseen", "LargeBook", "TooNarrow", "Full", "Held", "NotHeld"] : List PySem.Str) ++ (["Done", "UnknownName", "UnknownCounter", "NoRun", "NothingLeft", "NoTrial", "_law_bag", "_law_draw", "_law_of", "_law_some", "_law_int", "_law_like", "_law_place_one", "_law_place_two", "_law_name_one", "_law_name_two", "_law_kept_one", "_law_kept_two", "_law_marks", "_law_codes", "_law_many", "_law_any", "_law_made", "_law_named", "_law_is_one"] : List PySem.Str)
theorem run (w : World) : HandSHeadRun.RunEq R (PySem.W.view R.prog [57]) hk ob 20000 loose w := by
  intro os
  kernel_rfl
end D
end
section
set_option Elab.async false
set_option linter.all false
set_option maxRecDepth 100000
set_option maxHeartbeats 4000000
namespace FK
open PySem PySem.W PySem.Calls PyProof.Rows
section
variable {M : Model} {A : Around} {E : Value → Shared → Prop} {h : Heap} {g : Array GenState} {d : Drawn} {t : Nat} {os : OsState}
variable {nm q : Str} {C N : Addr} {bs bm bmB : List Value} {hdct : Bool} {sn : List Str} {sub : List Value} {ab : Bool} {col : Option Bool} {dd : Option Addr} {k0 k1 k2 k3 k5 : Option Value} {B newId initId : String} {kw : List (Str × Value)}
theorem new_checked (FM : ExcBaseFacts B newId initId bmB) (hT : ∀ X : String, bm.contains (.type X) = bmB.contains (.type X)) {rest : List Value} {Q : Unit → Shared → Prop}
    (hC : h.get? C = some (excClassObj nm q C N bs bm hdct sn sub ab col dd k0 k1 k2 k3 k5 newId)) (hq : Q () ⟨h, g, d, t, os⟩) : wpAny M A (checkBuiltinCall newId ⟨.ref C :: rest, kw⟩) Q E ⟨h, g, d, t, os⟩ := by
  have hin : (Value.ref C :: bm).contains (.type B) = true := by rw [List.contains_cons, hT, FM.hasB, Bool.or_true]
  have nostar := FM.noStar
  simp only [checkBuiltinCall, FM.newKind, FM.newSplit, FM.newRow]
  repeat (first | refine wpAny_loadPart_at hC ?_ | (refine wpAny_isSubtype_exc hC ?_; rw [hin]) | refine wpAny_staticBase_exc hC ?_ | refine wpAny_madeBy_exc hC ?_ | simp only [bne_self_eq_false, Bool.false_eq_true, if_false] | wp_step)
  exact hq
theorem typeCall_checked {M : Model} {rest : List Value} {Q : Unit → Shared → Prop} (hC : h.get? C = some (excClassObj nm q C N bs bm hdct sn sub ab col dd k0 k1 k2 k3 k5 newId)) (hq : Q () ⟨h, g, d, t, os⟩) :
    wpAny M A (checkBuiltinCall "type.__call__" ⟨.ref C :: rest, kw⟩) Q E ⟨h, g, d, t, os⟩ := by
  have f3 := tc_sub
  have ty : (⟨h, g, d, t, os⟩ : Shared).TypeIs (.ref C) "type" := ⟨_, hC, rfl⟩
  simp only [checkBuiltinCall, tc_kind, tc_split]
  repeat (any_goals (first | assumption | with_reducible refine wpAny_loadPart_at hC ?_ | with_reducible refine wpAny_onRaise ?_ | with_reducible refine wpAny_map ?_ | wp_step))
end
section
variable {prog : Program} {w : World} {A : Around} {E : Value → Shared → Prop} {R : Result → Shared → Prop} {h : Heap} {g : Array GenState} {d : Drawn} {t : Nat} {os : OsState}
variable {nm q : Str} {C N : Addr} {bs bm bmB : List Value} {hdct : Bool} {sn : List Str} {sub : List Value} {ab : Bool} {col : Option Bool} {dd : Option Addr} {k0 k1 k2 k3 k5 : Option Value} {B newId initId : String} {kw : List (Str × Value)}
theorem new_laid (FM : ExcBaseFacts B newId initId bmB) (hT : ∀ X : String, bm.contains (.type X) = bmB.contains (.type X)) {rest : List Value}
    (hC : h.get? C = some (excClassObj nm q C N bs bm hdct sn sub ab col dd k0 k1 k2 k3 k5 newId))
    (hq : R (.ok (.ret (.ref (h.objs.size + 1)))) ⟨(h.push (kdv_tup rest)).push (xo C h.objs.size none), g, d, t, os⟩) (hrest : rest.length ≤ sizeLine) :
    codeAny (model prog w) A (.builtin newId ⟨.ref C :: rest, kw⟩) R ⟨h, g, d, t, os⟩ := by
  have fin := FM.ends
  have cB : (Value.ref C :: bm).contains (.type B) = true := by rw [List.contains_cons, hT, FM.hasB, Bool.or_true]
  have cA : (Value.ref C :: bm).contains (.type "AttributeError") = false := by rw [List.contains_cons, hT, FM.noAttr]; rfl
  have cN : (Value.ref C :: bm).contains (.type "NameError") = false := by rw [List.contains_cons, hT, FM.noName]; rfl
  refine codeAny_builtinAt FM.entry ?_
  unfold Builtin.«BaseException.__new__»
  refine PySem.wpAt_bind ?_
  show PySem.wpAt _ _ _ (stack >>= _) _ _ _
  refine PySem.wpAt_bind (PySem.wpAt_stack fun p below => PySem.wpAt_of_wpAny ?_)
  wp_walk
  refine PySem.wpAt_of_wpAny ?_
  rw [FM.owner]
  repeat (first | with_reducible refine wpAny_madeHere_exc FM.canon hC ?_ | with_reducible refine wpAny_loadPart_at hC ?_ | (with_reducible refine wpAny_isSubtype_exc hC ?_; first | rw [cB] | rw [cA] | rw [cN]) | wp_step)
  show R _ _
  rw [Heap.size_push]
  exact hq
theorem typeCall_run (FM : ExcBaseFacts B newId initId bmB) (hT : ∀ X : String, bm.contains (.type X) = bmB.contains (.type X)) {rest : List Value} {fI : Addr} {Q : Fin → Shared → Prop}
    (hC : h.get? C = some (excClassObj nm q C N bs bm hdct sn sub ab col dd k0 k1 k2 k3 k5 newId))
    (hi : Looks (model prog w) h (typeLookup (.ref C) "__init__") (some (.ref fI))) (hb : ∀ self, Looks (model prog w) h (bindSpecial (.ref fI) self) (.ref fI, [self])) (hrest : rest.length ≤ sizeLine)
    (hq : codeAny (model prog w) A (.call (.ref fI) ⟨.ref (h.objs.size + 1) :: rest, kw⟩)
      (fun r s' => match r with | .ok (.ret v) => v = .none ∧ Q (.done (.ret (.ref (h.objs.size + 1)))) s' | .ok _ => False | .error e => E e s')
      ⟨(h.push (kdv_tup rest)).push (xo C h.objs.size none), g, d, t, os⟩) :
    wpAny (model prog w) A (Builtin.«type.__call__» ⟨.ref C :: rest, kw⟩) Q E ⟨h, g, d, t, os⟩ := by
  repeat (first | with_reducible refine wpAny_loadPart_at hC ?_ | with_reducible refine wpAny_madeBy_exc hC ?_ | wp_step)
  refine codeAny_call_builtin_code (Code.quiet_builtin _ FM.quiet) (new_checked FM hT hC ?_)
  refine new_laid FM hT hC ?_ hrest
  show wpAny _ _ _ _ _ _
  have k : ∀ b o, h.get? b = some o → ((h.push (kdv_tup rest)).push (xo C h.objs.size none)).get? b = some o := fun b o e => Heap.get?_push_of_some _ (Heap.get?_push_of_some _ e)
  have C1 := k _ _ hC
  have e1 : ((h.push (kdv_tup rest)).push (xo C h.objs.size none)).get? (h.objs.size + 1) = some (xo C h.objs.size none) := by heap_get
  have cC : (Value.ref C :: bm).contains (.ref C) = true := by simp
  have i1 := hi.keeps k
  have b1 := (hb (.ref (h.objs.size + 1))).keeps k
  unfold isInstance
  repeat (first | with_reducible refine wpAny_loadPart_at e1 ?_ | (with_reducible refine wpAny_isSubtype_exc C1 ?_; rw [cC]) | wp_step)
  show wpAny _ _ (typeLookup (.ref C) _) _ _ _
  refine i1.at ?_
  refine wpAny_holding (wpAny_bind (b1.at ?_))
  refine wpAny_bind (wpAny_call (codeAny_mono hq fun r s' z => ?_))
  rcases r with e | (v | _ | _ | _) <;> first | exact z | exact z.elim | skip
  obtain ⟨rfl, z⟩ := z
  first
    | exact wpAny_pure (wpAny_pure z)
    | (wp_walk; exact z)
theorem call_ownK (FM : ExcBaseFacts B newId initId bmB) (hT : ∀ X : String, bm.contains (.type X) = bmB.contains (.type X)) {rest : List Value} {fI : Addr}
    (hC : h.get? C = some (excClassObj nm q C N bs bm hdct sn sub ab col dd k0 k1 k2 k3 k5 newId))
    (hi : Looks (model prog w) h (typeLookup (.ref C) "__init__") (some (.ref fI))) (hb : ∀ self, Looks (model prog w) h (bindSpecial (.ref fI) self) (.ref fI, [self])) (hrest : rest.length ≤ sizeLine)
    (hq : codeAny (model prog w) (A.under (.builtin "type.__call__" ⟨.ref C :: rest, kw⟩)) (.call (.ref fI) ⟨.ref (h.objs.size + 1) :: rest, kw⟩) (InitBack (h.objs.size + 1) R)
      ⟨(h.push (kdv_tup rest)).push (xo C h.objs.size none), g, d, t, os⟩) :
    codeAny (model prog w) A (.call (.ref C) ⟨rest, kw⟩) R ⟨h, g, d, t, os⟩ := by
  have f1 := tc_lookup
  have f2 := tc_bind (.ref C)
  have ty : (⟨h, g, d, t, os⟩ : Shared).TypeIs (.ref C) "type" := ⟨_, hC, rfl⟩
  refine codeAny_of_tree ?_
  show wpAny _ _ (callAny (.ref C) _) _ _ _
  repeat (any_goals (first | assumption | with_reducible refine wpAny_loadPart_at hC ?_ | wp_step))
  refine ⟨rfl, ?_⟩
  refine codeAny_call_builtin_at (Code.quiet_builtin _ (by decide +kernel)) entry_typeCall (typeCall_checked hC (typeCall_run FM hT hC hi hb hrest ?_))
  refine codeAny_mono hq fun r s' z => ?_
  rcases r with e | (v | _ | _ | _) <;> exact z
end
/-- how keywords bind: ks in their order at the call, the parameters' values are the i-th of them -/
def BindK (qual : Str) (st : Stmt) (ps ks : List Str) (g : {α : Type} → List α → List α) : Prop := ∀ (doc pm ct cda : Value) (an : Option Addr) (cc : Addr) (self : Value) (us : List Value), us.length = ks.length →
  bindArgs (ksFn "__init__" qual (L2.defArgs st) (L2.defBody st) (L2.defScope st) .none .none doc pm an cda ct cc) ⟨[self], ks.zip us⟩ = pure ((("self" : Str) :: ps).zip (self :: g us))
section
variable {prog : Program} {w : World} {A : Around} {E : Value → Shared → Prop} {R : Result → Shared → Prop} {K : Frag} {C : Addr} {s : Shared} {x : Str} {ps ks : List Str} {fl : List (Str × Src)} {mg mb : Str → Option Value} {gg : {α : Type} → List α → List α}
/-- the same as a Flt, and how these keywords bind -/
structure FltK (prog : Program) (K : Frag) (mg : Str → Option Value) (x : Str) (C : Addr) (fl : List (Str × Src)) (ps ks : List Str) (gg : {α : Type} → List α → List α) : Prop where
  ex : ∃ (B newId initId : String) (bmB : List Value) (st : Stmt) (fI : Addr), Fam B newId initId bmB ∧ initId = B ++ ".__init__" ∧ Cl K C B newId bmB ∧ IniFn prog K C fI (x ++ ".__init__") st ∧ IniTx prog st ps fl ∧ BindK (x ++ ".__init__") st ps ks gg ∧
    findIn K (.ref C) "__init__" = some (some (.ref fI)) ∧ typeIn K (.ref fI) = some (.type "function")
  T : Flt prog K mg x C fl ps
  rel : ∀ (vs : List L2.V) (us : List Value), L2.Vals vs us → L2.Vals (gg vs) (gg us)
  len : ∀ vs : List L2.V, vs.length = ks.length → (gg vs).length = ps.length
theorem madeK (T : FltK prog K mg x C fl ps ks gg) {us : List Value} {vs : List L2.V} (r : L2.Vals vs us) (hl : vs.length = ks.length)
    (X : K.In s.heap) (G : s.heap.Ns mainGlobals mg) (Bt : s.heap.Ns builtinsNs mb) (hbt : mb "super" = some (.type "super")) (lim : s.heap.NoLimit) (hroom : A.depth + 1 < recursionLimit)
    (hq : ∀ h' tk e, Made s.heap h' e C (flds ps fl (gg vs)) → R (.ok (.ret (.ref e))) { s with heap := h', toks := tk }) :
    codeAny (model prog w) A (.call (.ref C) ⟨[], ks.zip us⟩) R s := by
  obtain ⟨B, newId, initId, bmB, st, fI, FM, ei, TC, FI, TX, bd, hi, tI⟩ := T.ex
  obtain ⟨nm, N', qn, bs, bm, hdct, sn, sub, ab, col, dd, k0, k1, k2, k3, k5, hC, hT⟩ := excInit_of X TC.ini
  obtain ⟨hp, g, dr, tk, os⟩ := s
  have k : ∀ b o, hp.get? b = some o → ((hp.push (kdv_tup [])).push (xo C hp.objs.size none)).get? b = some o := fun b o e => Heap.get?_push_of_some _ (Heap.get?_push_of_some _ e)
  have hget : ((hp.push (kdv_tup [])).push (xo C hp.objs.size none)).get? (hp.objs.size + 1) = some (xo C hp.objs.size none) := by heap_get
  have hnx : K.lookup (hp.objs.size + 1) = none := by
    cases e : K.lookup (hp.objs.size + 1) with
    | none => rfl
    | some o =>
      have z : hp.get? (hp.objs.size + 1) = some o := X _ _ e
      exact absurd (Nat.lt_of_succ_lt (Heap.lt_size z)) (Nat.lt_irrefl _)
  have r2 := T.rel vs us r
  have l2 := T.len vs hl
  have lu : us.length = ks.length := by rw [← r.length]; exact hl
  refine call_ownK FM.base hT hC (looks_findIn X hi) (fun self => bind_fn X self tI) (Nat.zero_le _) ?_
  refine init_run (s := ⟨(hp.push (kdv_tup [])).push (xo C hp.objs.size none), g, dr, tk, os⟩) (us := gg us) (vs := gg vs) FM ei TC FI TX T.T.ne T.T.sup T.T.no T.T.opq (fun fd lk fo hfd => ?_) r2 (by rw [← r2.length]; exact l2) (X.keeps k) (G.keeps k) (Bt.keeps k) hbt (lim.keeps k) hget hnx ?_ fun h' tk' EN => ?_
  · obtain ⟨oc, od, doc, pm, ct, an, osl, cda, cc, lk2, _⟩ := FI.ex
    rw [lk] at lk2
    cases lk2
    cases hfd
    exact BindsTo.of_eq (bd doc pm ct (.ref cda) an cc (.ref (hp.objs.size + 1)) us lu)
  · show A.depth + 1 < recursionLimit
    exact hroom
  · obtain ⟨t1, d, e1, d1, d2, mA, n1, rel⟩ := EN.ex
    have old : ∀ b o, hp.get? b = some o → h'.get? b = some o := fun b o e => EN.keep b o (Nat.ne_of_lt (Nat.lt_succ_of_lt (Heap.lt_size e))) (k b o e)
    have z : hp.objs.size ≤ d := by
      have q2 : hp.objs.size + 1 + 1 ≤ d := by simpa only [Heap.size_push] using d1
      omega
    exact ⟨rfl, hq h' tk' (hp.objs.size + 1) ⟨old, Nat.le_succ _, t1, d, e1, z, d2, mA, n1, rel⟩⟩
end
end FK
namespace L2
open PySem PySem.Spec PyProof.Rows
section
variable {X : Cx} {x : Str} {C : Addr} {fl : List (Str × FK.Src)} {ps ks : List Str} {gg : {α : Type} → List α → List α}
/-- C(k = e, ..) as a value -/
def tMkVK (C : Addr) (ps ks : List Str) (gg : {α : Type} → List α → List α) (fl : List (Str × FK.Src)) (tk : TA) : TE := fun σ H Q => tk σ H fun vs H1 => vs.length = ks.length ∧ ∀ a d, H1 a = none → H1 d = none → d ≠ a → Q (.ref a) (upd (upd H1 d (.xd (FK.flds ps fl (gg vs)))) a (exo a C (some d)))
theorem pe_fltK {kws : List Keyword} {tk : TA} {p pos : Pos} {k : Nat} (T : FK.FltK X.prog X.K X.mg x C fl ps ks gg) (hr : Room (k + 1) X.A) (hkw : PK X kws tk) (hall : (backToKw pos (keywordEach kws X.env)).all (·.1.isSome) = true := by rfl)
    (hks : (backToKw pos (keywordEach kws X.env)).filterMap (·.1) = ks := by rfl) (hg : Gl X x := by rfl) (hne : kws ≠ [] := by decide)
    (hpl : ((backTo pos (starEach [] X.env)).any (·.1) || (backToKw pos (keywordEach kws X.env)).any (·.1.isNone)) = false := by rfl) :
    PE X (.Call (.Name x p) [] kws pos) (tMkVK C ps ks gg fl tk) := by
  refine ⟨fun pins s σ H Q I h => ?_⟩
  refine wpAny_Call_Name_kw (ld_glob I hg T.T.gC ?_ T.T.db)
  refine PySem.W.callWith_KW0 (h₀ := X.base) I.ok.mod.kin T.T.kC hall (thn (hkw.run pos pins s σ H _ I h) fun us s1 ⟨vs, H1, I1, r1, hl, q1⟩ => ⟨I1.kIn, ?_⟩) hpl
  rw [hks]
  obtain ⟨mb, hmb, hbt⟩ := I1.ok.mod.blt
  refine wpAny_call (FK.madeK T r1 hl I1.kIn (I1.ok.mod.glob.keeps I1.bk) (hmb.keeps I1.bk) ((hbt "super" (by decide)).trans (by first | boot_by_name | rfl | kernel_rfl)) I1.nolimit ?_ fun h' tk e M => ?_)
  · have := hr.dp
    omega
  · exact mk_value I1 M q1
end
/-! ### isinstance of an error -/
/-- isinstance(e, c), e an error that is held -/
def rIsiX (K : PySem.W.Frag) : List V → Hp → VK → Prop := fun xs H Q => ∃ (a C d : Addr) (fs : List (Str × V)) (c : V) (u : Value) (b : Bool), xs = [.ref a, c] ∧ ExV H a C d fs ∧ (∃ prog mg nm fl ps, FK.Flt prog K mg nm C fl ps) ∧ ClsV c u ∧ PySem.W.kitOne K (.ref C) u = some b ∧ Q (.bl b) H
theorem call_isiX {X : Cx} : CallR X (.builtin "isinstance") (rIsiX X.K) := by
  intro pins s σ H xs us Q I r h
  obtain ⟨a, C, d, fs, c, u, b, rfl, ⟨ea, ed⟩, ⟨_, _, _, _, _, T⟩, k, e, q⟩ := h
  obtain ⟨u1, u2, rfl, r1, r2⟩ := vals2 r
  have e2 := k.eq r2
  subst e2
  obtain rfl : u1 = Value.ref a := r1
  obtain ⟨t1, ho⟩ := exo_at I.hok ea
  obtain ⟨mA, hns, hr⟩ := (show ObjOk X.prog X.w H s.heap d (.xd fs) from I.hok d _ ed)
  obtain ⟨od, hod, hl⟩ := lookIn_ns hns
  have J : PySem.W.InstAt s.heap a (FK.xo C t1 (some d)) C (some od) := ⟨ho, rfl, rfl, hod⟩
  have hcl : (PySem.W.clsIn X.K C).isSome = true := by
    obtain ⟨cd, hc, _⟩ := PySem.W.any_some T.dict
    rw [hc] <;> rfl
  exact PySem.W.kia_one (PySem.W.kitx_exc hcl T.ga T.gg T.exC T.clsA T.clsG T.clsT T.mrO) I.kIn J e (fun z => nomatch z) fun tk => ⟨.bl b, H, I.tok tk, rfl, q⟩
def rIsiU (K : PySem.W.Frag) : List V → Hp → VK → Prop := fun xs H Q => rIsi K xs H Q ∨ rIsiX K xs H Q
theorem c_isi {X : Cx} : CallR X (.builtin "isinstance") (rIsiU X.K) := CallR.or call_isi call_isiX
end L2
end
section
set_option Elab.async false
set_option linter.all false
set_option maxRecDepth 100000
set_option maxHeartbeats 4000000
/-! Rules of the layer joined by their operands' kinds; readings opened one step at a time. -/
namespace U
open PySem PySem.Spec PyProof.Rows L2 RZ

/-! ### one def called by name -/
/-- a def: its promise sp (level k), where its name stands, how it binds -/
structure Fd (P : Program) (w : World) (K : PySem.W.Frag) (mg : Str → Option Value) (base : Heap) (CX : CXT) (x : Str) (k : Nat) (ps : List Str) (sp : Sp) : Prop where
  ex : ∃ (f : Addr) (fd : FuncData), FnOk P w K mg base CX k f fd ps sp ∧ mg x = some (.ref f) ∧ PySem.W.keepIn K (.ref f) = true ∧ Binds K fd ps []
  nd : (x == ("__debug__" : Str)) = false
theorem Fd.mono {P : Program} {w : World} {K : PySem.W.Frag} {mg : Str → Option Value} {base : Heap} {CX : CXT} {x : Str} {j k : Nat} {ps : List Str} {sp : Sp} (D : Fd P w K mg base CX x j ps sp) (h : j ≤ k) : Fd P w K mg base CX x k ps sp := by
  obtain ⟨f, fd, F, a, b, c⟩ := D.ex
  exact ⟨⟨f, fd, F.mono h, a, b, c⟩, D.nd⟩
theorem fd_of {P : Program} {w : World} {K : PySem.W.Frag} {mg : Str → Option Value} {base : Heap} {CX : CXT} {x : Str} {k : Nat} {ps : List Str} {sp : Sp} {st : Stmt} {f : Addr} {fd : FuncData}
    (F : FunD K x x (defArgs st) (defBody st) (defScope st) [] [] f fd) (ok : FnOk P w K mg base CX k f fd ps sp) (g : mg x = some (.ref f))
    (h : ∀ (kV doc pm : Value) (an : Option Addr) (cdv ct : Value) (us : List Value), us.length = ps.length → bindArgs (PySem.W.fnOf x x (defArgs st) (defBody st) (defScope st) .none kV doc pm an cdv ct) ⟨us, []⟩ = pure (ps.zip us)) (nd : (x == ("__debug__" : Str)) = false := by decide) :
    Fd P w K mg base CX x k ps sp := ⟨⟨f, fd, ok, g, F.kp, FunD.bindsN F h⟩, nd⟩
section
variable {X : Cx} {x : Str} {p pos : Pos} {e : Expr} {es : List Expr} {t : TA} {k : Nat} {ps : List Str} {sp : Sp}
theorem pe_fd (D : Fd X.prog X.w X.K X.mg X.base CX0 x k ps sp) (hr : Room k X.A) (ha : PA X (e :: es) t) (hg : Gl X x := by rfl)
    (he : starEach (e :: es) X.env = (false, eval e X.env) :: starEach es X.env := by rfl) (hpl : (backTo pos (starEach es X.env)).any (·.1) = false := by rfl) :
    PE X (.Call (.Name x p) (e :: es) [] pos) (tCall sp [] E0 t) := by
  obtain ⟨f, fd, F, m, kp, b⟩ := D.ex
  exact pe_call F hr hg m kp b .nil pass0 ha D.nd he hpl
theorem pe_fd0 (D : Fd X.prog X.w X.K X.mg X.base CX0 x k ps sp) (hr : Room k X.A) (hg : Gl X x := by rfl) : PE X (.Call (.Name x p) [] [] pos) (tCall sp [] E0 tNil) := by
  obtain ⟨f, fd, F, m, kp, b⟩ := D.ex
  exact pe_call0 F hr hg m kp b .nil pass0 D.nd
end

/-! ### operators by their operands' kinds -/
def rAddS : R2 := fun x y H Q => ∃ i j, x = .str i ∧ y = .str j ∧ i.length + j.length ≤ sizeLine ∧ Q (.str (i ++ j)) H
def rAddI : R2 := rI0 fun i j => .int (i + j)
def rSubI : R2 := rI0 fun i j => .int (i - j)
def rAddU (K : PySem.W.Frag) : R2 := fun x y H Q => rAddI x y H Q ∨ (rAddS x y H Q ∨ (rCat x y H Q ∨ rCatT K x y H Q))
def rMulU : R2 := fun x y H Q => rI CMul (fun i j => .int (i * j)) x y H Q ∨ (rI CMulW (fun i j => .int (i * j)) x y H Q ∨ rRep x y H Q)
def rDivU : R2 := fun x y H Q => rI CDivW (fun i j => .int (i / j)) x y H Q ∨ rI CDivN (fun i j => .int (i.fdiv j)) x y H Q
def rModU : R2 := fun x y H Q => rI (fun _ j => 0 < j) (fun i j => .int (i % j)) x y H Q ∨ rI (fun _ j => j ≠ 0) (fun i j => .int (i.fmod j)) x y H Q
def rPowU : R2 := rI CPow fun i j => .int (i ^ j.toNat)
def rEqU (K : PySem.W.Frag) : R2 := fun x y H Q => rEq x y H Q ∨ rEqD K x y H Q
def rNeU (K : PySem.W.Frag) : R2 := fun x y H Q => rNe x y H Q ∨ rNeD K x y H Q
def rLtI : R2 := rI0 fun i j => .bl (decide (i < j))
def rLeI : R2 := rI0 fun i j => .bl (decide (i ≤ j))
def rGtI : R2 := rI0 fun i j => .bl (decide (j < i))
def rGeI : R2 := rI0 fun i j => .bl (decide (j ≤ i))
def rInStr : R2 := fun x y H Q => ∃ i j, x = .str i ∧ y = .str j ∧ Q (.bl (!(Builtin.Str.occurrences j i 0 j.length 1).isEmpty)) H
def rNInStr : R2 := fun x y H Q => ∃ i j, x = .str i ∧ y = .str j ∧ Q (.bl (!(!(Builtin.Str.occurrences j i 0 j.length 1).isEmpty))) H
def rInU (K : PySem.W.Frag) : R2 := fun x y H Q => rIn K false x y H Q ∨ (rInStr x y H Q ∨ rInD K x y H Q)
def rNInU (K : PySem.W.Frag) : R2 := fun x y H Q => rIn K true x y H Q ∨ (rNInStr x y H Q ∨ rNotInD K x y H Q)
def rIsN : R2 := fun x y H Q => y = .non ∧ Q (.bl (decide (x = .non))) H
def rNotN : R2 := fun x y H Q => y = .non ∧ Q (.bl (!decide (x = .non))) H
def rNegI : V → Hp → VK → Prop := rU fun i => .int (-i)
section
variable {X : Cx}
theorem o_add : OpR X (binaryOp .Add) (rAddU X.K) := OpR.or op_add (OpR.or op_add_str (OpR.or op_cat op_catT))
theorem o_sub : OpR X (binaryOp .Sub) rSubI := op_sub
theorem o_mul : OpR X (binaryOp .Mult) rMulU := OpR.or op_mul (OpR.or op_mulW op_rep)
theorem o_div : OpR X (binaryOp .FloorDiv) rDivU := OpR.or op_fdivW op_fdivN
theorem o_mod : OpR X (binaryOp .Mod) rModU := OpR.or op_mod op_modN
theorem o_pow : OpR X (binaryOp .Pow) rPowU := op_pow
theorem o_eq (hu : X.A.units + 64 < cLine) : OpR X (compareOp .Eq) (rEqU X.K) := OpR.or op_eq (op_eqD hu)
theorem o_ne (hu : X.A.units + 64 < cLine) : OpR X (compareOp .NotEq) (rNeU X.K) := OpR.or op_ne (op_neD hu)
theorem o_lt : OpR X (compareOp .Lt) rLtI := op_lt
theorem o_le : OpR X (compareOp .LtE) rLeI := op_le
theorem o_gt : OpR X (compareOp .Gt) rGtI := op_gt
theorem o_ge : OpR X (compareOp .GtE) rGeI := op_ge
theorem o_in (hu : X.A.units + 65 < cLine) : OpR X (compareOp .In) (rInU X.K) := OpR.or op_in_seq (OpR.or op_in_str (op_inD hu))
theorem o_nin (hu : X.A.units + 65 < cLine) : OpR X (compareOp .NotIn) (rNInU X.K) := OpR.or op_notIn_seq (OpR.or op_notIn_str (op_notInD hu))
theorem o_is : OpR X (compareOp .Is) rIsN := op_isN
theorem o_isnot : OpR X (compareOp .IsNot) rNotN := op_notN
theorem o_neg : UnR X (unaryOp .USub) rNegI := un_neg
end
def rSlU (K : PySem.W.Frag) : V → Option Int → Option Int → Hp → VK → Prop := fun x lo hi H Q => rSlL K x lo hi H Q ∨ (rSlS x lo hi H Q ∨ rSlA K x lo hi H Q)
theorem o_sl {X : Cx} : SlR X (rSlU X.K) := SlR.or sl_list (SlR.or sl_str sl_tupA)
def rLen (K : PySem.W.Frag) : List V → Hp → VK → Prop := fun xs H Q => ∃ x n, xs = [x] ∧ LenV K x H n ∧ Q (.int n) H
def rAbs : List V → Hp → VK → Prop := fun xs H Q => ∃ i, xs = [.int i] ∧ Q (.int (if i < 0 then -i else i)) H
def rMin2 : List V → Hp → VK → Prop := fun xs H Q => ∃ i j, xs = [.int i, .int j] ∧ Q (.int (if j < i then j else i)) H
def rMax2 : List V → Hp → VK → Prop := fun xs H Q => ∃ i j, xs = [.int i, .int j] ∧ Q (.int (if j > i then j else i)) H
def rInt1 : List V → Hp → VK → Prop := fun xs H Q => (∃ i, xs = [.int i] ∧ Q (.int i) H) ∨ ∃ k, xs = [.bl k] ∧ Q (.int (if k then 1 else 0)) H
def rListOf (K : PySem.W.Frag) : List V → Hp → VK → Prop := fun xs H Q => ∃ p ys, xs = [.ref p] ∧ (SqL K H p ys ∨ SqT K H p ys) ∧ ∀ l, H l = none → Q (.ref l) (upd H l (.lst ys))
def rTupOf (K : PySem.W.Frag) : List V → Hp → VK → Prop := fun xs H Q => ∃ p ys, xs = [.ref p] ∧ ((SqL K H p ys ∧ ∀ l, H l = none → Q (.ref l) (upd H l (.tup ys))) ∨ (SqT K H p ys ∧ Q (.ref p) H))
section
variable {X : Cx}
theorem c_len : CallR X (.builtin "len") (rLen X.K) := call_len
theorem c_abs : CallR X (.builtin "abs") rAbs := call_abs
theorem c_min2 (hc : X.calm = true) : CallR X (.builtin "min") rMin2 := call_min2 hc
theorem c_max2 (hc : X.calm = true) : CallR X (.builtin "max") rMax2 := call_max2 hc
theorem c_int1 : CallR X (.type "int") rInt1 := call_int1
theorem c_list : CallR X (.type "list") (rListOf X.K) := call_list_of
theorem c_tuple : CallR X (.type "tuple") (rTupOf X.K) := call_tuple_of
end

/-! ### readings opened -/
section
variable {K : PySem.W.Frag} {σ σ' : L2.St} {H : Hp} {Q : VK} {D : Ends} {ta tb te to tc : TE} {tt tu : TT} {ta' t tk : TA} {r r' : R2} {i j : Nat} {v w x y : V} {sp : Sp} {E : XK} {s u : TS} {g : TG} {gs : TGs} {vs : List V} {Qb : Bool → Hp → Prop} {Qs : List V → Hp → Prop} {Qσ : L2.St → Hp → Prop} {R : It → Hp → Prop}
theorem v_var (h : σ[i]? = some (some v)) (q : Q v H) : tVar i σ H Q := ⟨v, h, q⟩
theorem v_c (q : Q v H) : tC v σ H Q := q
theorem v_op (q : ta σ H fun x H1 => tb σ H1 fun y H2 => r x y H2 Q) : tOp r ta tb σ H Q := q
theorem v_un {r : V → Hp → VK → Prop} (q : ta σ H fun x H1 => r x H1 Q) : tUn r ta σ H Q := q
theorem v_cb {r : List V → Hp → VK → Prop} (q : t σ H fun vs H1 => r vs H1 Q) : tCB r t σ H Q := q
theorem v_nil (q : Qs [] H) : tNil σ H Qs := q
theorem v_cons (q : ta σ H fun x H1 => t σ H1 fun xs H2 => Qs (x :: xs) H2) : tCons ta t σ H Qs := q
theorem v_if (q : tt σ H fun c H1 => if c = true then ta σ H1 Q else tb σ H1 Q) : tIf tt ta tb σ H Q := q
theorem v_test (q : ta σ H fun x H1 => ∃ k, x = .bl k ∧ Qb k H1) : tTest ta σ H Qb := q
theorem v_b (q : ta σ H fun x H1 => ∃ k, x = .bl k ∧ Qb k H1) : tB ta σ H Qb := q
theorem v_bl {b : Bool} {P : Bool → Prop} (q : P b) : ∃ k, V.bl b = .bl k ∧ P k := ⟨b, rfl, q⟩
theorem v_and (q : tt σ H fun c H1 => if c = true then tu σ H1 Qb else Qb false H1) : tAnd tt tu σ H Qb := q
theorem v_or (q : tt σ H fun c H1 => if c = true then Qb true H1 else tu σ H1 Qb) : tOr tt tu σ H Qb := q
theorem v_not (q : tt σ H fun c H1 => Qb (!c) H1) : tNot tt σ H Qb := q
theorem v_andV (q : ta σ H fun x H1 => ∃ c, x = .bl c ∧ if c = true then tb σ H1 Q else Q (.bl false) H1) : tAndV ta tb σ H Q := q
theorem v_orV (q : ta σ H fun x H1 => ∃ c, x = .bl c ∧ if c = true then Q (.bl true) H1 else tb σ H1 Q) : tOrV ta tb σ H Q := q
theorem v_notV (q : ta σ H fun x H1 => ∃ c, x = .bl c ∧ Q (.bl (!c)) H1) : tNotV ta σ H Q := q
theorem v_tup (q : t σ H fun xs H1 => xs.length ≤ sizeLine ∧ ∀ p, H1 p = none → Q (.ref p) (upd H1 p (.tup xs))) : tTup t σ H Q := q
theorem v_lst (q : t σ H fun xs H1 => xs.length ≤ sizeLine ∧ ∀ p, H1 p = none → Q (.ref p) (upd H1 p (.lst xs))) : tLst t σ H Q := q
theorem v_call (q : t σ H fun vs H1 => sp vs H1 Q E) : tCall sp [] E t σ H Q := by
  have e : (fun vs H1 => sp (vs ++ []) H1 Q E) = fun vs H1 => sp vs H1 Q E := by
    funext vs H1
    rw [List.append_nil]
  show t σ H fun vs H1 => sp (vs ++ []) H1 Q E
  rw [e]
  exact q
theorem v_sl {r : V → Option Int → Option Int → Hp → VK → Prop} {tl th : TO} (q : te σ H fun x H1 => tl σ H1 fun l H2 => th σ H2 fun u H3 => r x l u H3 Q) : tSl r te tl th σ H Q := q
theorem v_nopart {Qo : Option Int → Hp → Prop} (q : Qo none H) : tNoPart σ H Qo := q
theorem v_part {Qo : Option Int → Hp → Prop} (q : te σ H fun x H1 => ∃ i, x = .int i ∧ Qo (some i) H1) : tPart te σ H Qo := q
theorem v_xi {n : Int} {P : Int → Prop} (q : P n) : ∃ k, V.int n = .int k ∧ P k := ⟨n, rfl, q⟩
/-! statements -/
theorem v_next (q : D.nx σ H) : tNext D σ H := q
theorem v_seq (q : s { D with nx := u D } σ H) : tSeq s u D σ H := q
theorem v_drop (q : te σ H fun _ H1 => D.nx σ H1) : tDrop te D σ H := q
theorem v_ret (q : te σ H D.rt) : tRet te D σ H := q
theorem v_retn (q : D.rt .non H) : tRetN D σ H := q
theorem v_ifs (q : tt σ H fun b H1 => if b = true then s D σ H1 else u D σ H1) : tIfS tt s u D σ H := q
theorem v_asg (q : te σ H fun x H1 => g x σ H1 D.nx) : tAsg te g D σ H := q
theorem v_name (q : Qσ (σ.set i (some v)) H) : gName i v σ H Qσ := q
theorem v_par (q : t σ H fun vs H1 => ∃ v w, vs = [v, w] ∧ D.nx ((σ.set i (some v)).set j (some w)) H1) : tPar i j t D σ H := q
theorem v_x2 {P : V → V → Prop} (q : P v w) : ∃ a b, [v, w] = [a, b] ∧ P a b := ⟨v, w, rfl, q⟩
theorem v_sub {ts : TSet} (q : ta σ H fun o H1 => tb σ H1 fun i H2 => ts o i v H2 fun H3 => Qσ σ H3) : gSub ta tb ts v σ H Qσ := q
theorem v_gtup {a : Addr} {n : Nat} (h : SqT K H a vs) (l : vs.length = n) (q : gs vs σ H Qσ) : gTup K n gs (.ref a) σ H Qσ := ⟨a, vs, rfl, h, l, q⟩
theorem v_gcons (q : g v σ H fun σ' H' => gs vs σ' H' Qσ) : gCons g gs (v :: vs) σ H Qσ := ⟨v, vs, rfl, q⟩
theorem v_gnil (q : Qσ σ H) : gNil [] σ H Qσ := ⟨rfl, q⟩
/-! operators at their kinds -/
theorem v_i0 {f : Int → Int → V} {a b : Int} (q : Q (f a b) H) : rI0 f (.int a) (.int b) H Q := ⟨a, b, rfl, rfl, q⟩
theorem v_i {C : Int → Int → Prop} {f : Int → Int → V} {a b : Int} (c : C a b) (q : Q (f a b) H) : rI C f (.int a) (.int b) H Q := ⟨a, b, rfl, rfl, c, q⟩
theorem v_addi {a b : Int} (q : Q (.int (a + b)) H) : rAddU K (.int a) (.int b) H Q := .inl (v_i0 q)
theorem v_adds {a b : Str} (l : a.length + b.length ≤ sizeLine) (q : Q (.str (a ++ b)) H) : rAddU K (.str a) (.str b) H Q := .inr (.inl ⟨a, b, rfl, rfl, l, q⟩)
theorem v_addl {a b : Addr} {xs ys : List V} (ha : H a = some (.lst xs)) (hb : H b = some (.lst ys)) (l : xs.length + ys.length ≤ sizeLine) (q : ∀ p, H p = none → Q (.ref p) (upd H p (.lst (xs ++ ys)))) : rAddU K (.ref a) (.ref b) H Q :=
  .inr (.inr (.inl ⟨a, b, xs, ys, rfl, rfl, ha, hb, l, q⟩))
theorem v_subi {a b : Int} (q : Q (.int (a - b)) H) : rSubI (.int a) (.int b) H Q := v_i0 q
theorem v_muli {a b : Int} (c : CMul a b) (q : Q (.int (a * b)) H) : rMulU (.int a) (.int b) H Q := .inl (v_i c q)
theorem v_mulw {a b : Int} (c : CMulW a b) (q : Q (.int (a * b)) H) : rMulU (.int a) (.int b) H Q := .inr (.inl (v_i c q))
theorem v_divi {a b : Int} (c : CDivW a b) (q : Q (.int (a / b)) H) : rDivU (.int a) (.int b) H Q := .inl (v_i c q)
theorem v_modi {a b : Int} (c : 0 < b) (q : Q (.int (a % b)) H) : rModU (.int a) (.int b) H Q := .inl (v_i (C := fun _ j => 0 < j) c q)
theorem v_pow {a b : Int} (c : CPow a b) (q : Q (.int (a ^ b.toNat)) H) : rPowU (.int a) (.int b) H Q := v_i c q
theorem v_neg {a : Int} (q : Q (.int (-a)) H) : rNegI (.int a) H Q := ⟨a, rfl, q⟩
theorem v_eqi {a b : Int} (q : Q (.bl (decide (a = b))) H) : rEqU K (.int a) (.int b) H Q := .inl ⟨rfl, by rw [show decide (V.int a = V.int b) = decide (a = b) from by rw [decide_eq_decide]; exact ⟨fun z => V.int.inj z, fun z => by rw [z]⟩]; exact q⟩
theorem v_eqs {a b : Str} (q : Q (.bl (decide (a = b))) H) : rEqU K (.str a) (.str b) H Q := .inl ⟨rfl, by rw [show decide (V.str a = V.str b) = decide (a = b) from by rw [decide_eq_decide]; exact ⟨fun z => V.str.inj z, fun z => by rw [z]⟩]; exact q⟩
theorem v_eqb {a b : Bool} (q : Q (.bl (decide (a = b))) H) : rEqU K (.bl a) (.bl b) H Q := .inl ⟨rfl, by rw [show decide (V.bl a = V.bl b) = decide (a = b) from by rw [decide_eq_decide]; exact ⟨fun z => V.bl.inj z, fun z => by rw [z]⟩]; exact q⟩
theorem v_eqd {d e : PyData} (hd : Dp K H x d) (he : Dp K H y e) (sd : SeqAt.shaped d = true) (se : SeqAt.shaped e = true) (q : Q (.bl (PyData.eqv d e)) H) : rEqU K x y H Q := .inr ⟨d, e, hd, he, sd, se, q⟩
theorem v_nei {a b : Int} (q : Q (.bl (!decide (a = b))) H) : rNeU K (.int a) (.int b) H Q := .inl ⟨rfl, by rw [show decide (V.int a = V.int b) = decide (a = b) from by rw [decide_eq_decide]; exact ⟨fun z => V.int.inj z, fun z => by rw [z]⟩]; exact q⟩
theorem v_nes {a b : Str} (q : Q (.bl (!decide (a = b))) H) : rNeU K (.str a) (.str b) H Q := .inl ⟨rfl, by rw [show decide (V.str a = V.str b) = decide (a = b) from by rw [decide_eq_decide]; exact ⟨fun z => V.str.inj z, fun z => by rw [z]⟩]; exact q⟩
theorem v_lti {a b : Int} (q : Q (.bl (decide (a < b))) H) : rLtI (.int a) (.int b) H Q := v_i0 q
theorem v_lei {a b : Int} (q : Q (.bl (decide (a ≤ b))) H) : rLeI (.int a) (.int b) H Q := v_i0 q
theorem v_gti {a b : Int} (q : Q (.bl (decide (b < a))) H) : rGtI (.int a) (.int b) H Q := v_i0 q
theorem v_gei {a b : Int} (q : Q (.bl (decide (b ≤ a))) H) : rGeI (.int a) (.int b) H Q := v_i0 q
theorem v_isn (q : Q (.bl (decide (x = .non))) H) : rIsN x .non H Q := ⟨rfl, q⟩
theorem v_notn (q : Q (.bl (!decide (x = .non))) H) : rNotN x .non H Q := ⟨rfl, q⟩
theorem v_inl {p : Addr} {xs : List V} (h : SqL K H p xs) (fx : flatV x = true) (fs : xs.all flatV = true) (q : Q (.bl (inV x xs)) H) : rInU K x (.ref p) H Q := .inl ⟨p, xs, rfl, .inl h, fx, fs, q⟩
theorem v_ixl {p : Addr} {xs : List V} {n : Int} (h : SqL K H p xs) (ha : atI xs n = some v) (q : Q v H) : rIx K (.ref p) (.int n) H Q := .inl ⟨p, xs, n, v, rfl, rfl, h, ha, q⟩
theorem v_ixt {p : Addr} {xs : List V} {n : Int} (h : SqT K H p xs) (ha : atI xs n = some v) (q : Q v H) : rIx K (.ref p) (.int n) H Q := .inr (.inl ⟨p, xs, n, v, rfl, rfl, h, ha, q⟩)
theorem v_setl {p : Addr} {xs : List V} {n : Int} {k : Nat} {Qh : Hp → Prop} (h : H p = some (.lst xs)) (hk : ixN xs.length n = some k) (q : Qh (upd H p (.lst (xs.set k v)))) : rSetL (.ref p) (.int n) v H Qh := ⟨p, xs, n, k, rfl, rfl, h, hk, q⟩
theorem v_lenl {p : Addr} {xs : List V} (h : SqL K H p xs) (q : Q (.int xs.length) H) : rLen K [.ref p] H Q := ⟨_, _, rfl, .inl ⟨xs, h, rfl⟩, q⟩
theorem v_lent {p : Addr} {xs : List V} (h : SqT K H p xs) (q : Q (.int xs.length) H) : rLen K [.ref p] H Q := ⟨_, _, rfl, .inr ⟨xs, h, rfl⟩, q⟩
theorem v_lens {z : Str} (h : z.length ≤ sizeLine) (q : Q (.int z.length) H) : rLen K [.str z] H Q := ⟨_, _, rfl, ⟨h, rfl⟩, q⟩
theorem v_abs {a : Int} (q : Q (.int (if a < 0 then -a else a)) H) : rAbs [.int a] H Q := ⟨a, rfl, q⟩
theorem v_min2 {a b : Int} (q : Q (.int (if b < a then b else a)) H) : rMin2 [.int a, .int b] H Q := ⟨a, b, rfl, q⟩
theorem v_max2 {a b : Int} (q : Q (.int (if b > a then b else a)) H) : rMax2 [.int a, .int b] H Q := ⟨a, b, rfl, q⟩
theorem v_int {a : Int} (q : Q (.int a) H) : rInt1 [.int a] H Q := .inl ⟨a, rfl, q⟩
theorem v_list {p : Addr} {xs : List V} (h : SqL K H p xs) (q : ∀ l, H l = none → Q (.ref l) (upd H l (.lst xs))) : rListOf K [.ref p] H Q := ⟨p, xs, rfl, .inl h, q⟩
theorem v_listt {p : Addr} {xs : List V} (h : SqT K H p xs) (q : ∀ l, H l = none → Q (.ref l) (upd H l (.lst xs))) : rListOf K [.ref p] H Q := ⟨p, xs, rfl, .inr h, q⟩
theorem v_tuple {p : Addr} {xs : List V} (h : SqL K H p xs) (q : ∀ l, H l = none → Q (.ref l) (upd H l (.tup xs))) : rTupOf K [.ref p] H Q := ⟨p, xs, rfl, .inl ⟨h, q⟩⟩
theorem v_sll {p : Addr} {xs : List V} {lo hi : Option Int} (h : SqL K H p xs) (q : ∀ l, H l = none → Q (.ref l) (upd H l (.lst (cutV xs lo hi)))) : rSlU K (.ref p) lo hi H Q := .inl ⟨p, xs, rfl, h, q⟩
theorem v_bm {T : String} {r : V → List V → Hp → VK → Prop} (q : to σ H fun x H1 => tyV K T x H1 ∧ t σ H1 fun xs H2 => r x xs H2 Q) : tBM K T r to t σ H Q := q
theorem v_bm0 {T : String} {r : V → List V → Hp → VK → Prop} (q : to σ H fun x H1 => tyV K T x H1 ∧ r x [] H1 Q) : tBM0 K T r to σ H Q := q
theorem ty_list {p : Addr} {xs : List V} (h : SqL K H p xs) : tyV K "list" (.ref p) H := .inl ⟨rfl, xs, h⟩
theorem ty_str {z : Str} : tyV K "str" (.str z) H := rfl
theorem v_append {p : Addr} {xs : List V} (h : H p = some (.lst xs)) (l : xs.length < sizeLine) (q : Q .non (upd H p (.lst (xs ++ [x])))) : rAppend (.ref p) [x] H Q := ⟨p, xs, x, rfl, rfl, h, l, q⟩
/-! walked things -/
theorem v_ilist {p : Addr} {xs : List V} (h : SqL K H p xs) (q : R (Itl K p) H) (hx : ta σ H = fun Q => Q (.ref p) H) : iList K ta σ H R := by
  show ta σ H fun x H1 => ∃ a, x = .ref a ∧ (∃ xs, SqL K H1 a xs) ∧ R (Itl K a) H1
  rw [hx]
  exact ⟨p, rfl, ⟨xs, h⟩, q⟩
/-! ints as scalars -/
theorem two64 {n : Int} (h0 : -18446744073709551616 < n) (h1 : n < 18446744073709551616) : -(2 ^ 64) < n ∧ n < 2 ^ 64 := by
  have e : (2 : Int) ^ 64 = 18446744073709551616 := by decide
  rw [e]
  exact ⟨h0, h1⟩
theorem cmul_l {a b : Int} (h0 : -18446744073709551616 < a) (h1 : a < 18446744073709551616) : CMul a b := .inl (two64 h0 h1)
theorem cmul_r {a b : Int} (h0 : -18446744073709551616 < b) (h1 : b < 18446744073709551616) : CMul a b := .inr (two64 h0 h1)
theorem cdiv_small {a b : Int} (h0 : 0 < b) (h1 : b < 1267650600228229401496703205376) : CDivW a b := by
  refine wide_div (b := 100) h0 ?_ (by decide) (by decide)
  have e : (2 : Nat) ^ 100 = 1267650600228229401496703205376 := by decide
  rw [e]
  omega
end
/-! ### loops and comprehensions: what is walked, then the turns -/
/-- something that is walked already -/
abbrev iIs (J : It) : TI := fun _ H R => R J H
/-- what comes behind the walked thing -/
def ilK (K : PySem.W.Frag) (R : It → Hp → Prop) : VK := fun x H1 => ∃ a, x = .ref a ∧ (∃ xs, SqL K H1 a xs) ∧ R (Itl K a) H1
def itK (K : PySem.W.Frag) (R : It → Hp → Prop) : VK := fun x H1 => ∃ a, x = .ref a ∧ (∃ xs, SqT K H1 a xs) ∧ R (Itt K a) H1
def irK (R : It → Hp → Prop) : List V → Hp → Prop := fun vs H1 => ∃ j : Int, vs = [.int j] ∧ -(2 ^ 62) ≤ j ∧ j < 2 ^ 62 ∧ R (Itr 0 j.toNat) H1
def izK (K : PySem.W.Frag) (R : It → Hp → Prop) : List V → Hp → Prop := fun vs H1 => ∃ a b xs ys, vs = [.ref a, .ref b] ∧ ((SqL K H1 a xs ∧ SqL K H1 b ys ∧ R (Itz K a b) H1) ∨ (SqT K H1 a xs ∧ SqT K H1 b ys ∧ R (ItzT K a b) H1))
/-- a for over J; a comprehension over J -/
def forI (J : It) (g : TG) (tb : TS) : TS := fun D σ H => tFor (iIs J) g tb D σ H
def lcI (J : It) (g : TG) (tt : TT) (te : TE) (vs : List Nat) : TE := fun σ H Q => tLc (iIs J) g tt te vs σ H Q
section
variable {K : PySem.W.Frag} {σ : L2.St} {H : Hp} {Q : VK} {D : Ends} {ta te : TE} {tt : TT} {t : TA} {tb : TS} {g : TG} {wi : TI} {vs : List Nat} {R : It → Hp → Prop} {J : It} {n : Nat} {G : Hp → Prop} {Y : Nat → Hp → V → Hp → Prop} {a b : Addr} {xs ys : List V}
theorem v_for (q : wi σ H fun J H1 => forI J g tb D σ H1) : tFor wi g tb D σ H := q
theorem v_lc (q : wi σ H fun J H1 => lcI J g tt te vs σ H1 Q) : tLc wi g tt te vs σ H Q := q
theorem v_il (q : ta σ H (ilK K R)) : iList K ta σ H R := q
theorem v_ilr (h : SqL K H a xs) (q : R (Itl K a) H) : ilK K R (.ref a) H := ⟨a, rfl, ⟨xs, h⟩, q⟩
theorem v_it (q : ta σ H (itK K R)) : iTup K ta σ H R := q
theorem v_itr (h : SqT K H a xs) (q : R (Itt K a) H) : itK K R (.ref a) H := ⟨a, rfl, ⟨xs, h⟩, q⟩
theorem v_ir (q : t σ H (irK R)) : iRng1 t σ H R := q
theorem v_irr {j : Int} (h : -4611686018427387904 ≤ j ∧ j < 4611686018427387904) (q : R (Itr 0 j.toNat) H) : irK R [.int j] H := by
  have e : (2 : Int) ^ 62 = 4611686018427387904 := by decide
  exact ⟨j, rfl, by rw [e]; exact h.1, by rw [e]; exact h.2, q⟩
theorem v_iz (q : t σ H (izK K R)) : iZipA K t σ H R := q
theorem v_izl (ha : SqL K H a xs) (hb : SqL K H b ys) (q : R (Itz K a b) H) : izK K R [.ref a, .ref b] H := ⟨a, b, xs, ys, rfl, .inl ⟨ha, hb, q⟩⟩
theorem v_izt (ha : SqT K H a xs) (hb : SqT K H b ys) (q : R (ItzT K a b) H) : izK K R [.ref a, .ref b] H := ⟨a, b, xs, ys, rfl, .inr ⟨ha, hb, q⟩⟩
theorem for_w (w : Walk J n G Y) (Pv : Nat → L2.St → Hp → Prop) (h0 : Pv 0 σ H) (hG : ∀ i σ H, i ≤ n → Pv i σ H → G H)
    (hs : ∀ i x σ H H', i < n → Pv i σ H → Y i H x H' → g x σ H' fun σ2 H2 => tb { D with nx := Pv (i + 1), ct := Pv (i + 1), bk := D.nx } σ2 H2) (hd : ∀ σ H, Pv n σ H → D.nx σ H) : forI J g tb D σ H := for_it w Pv h0 hG hs hd
theorem for_l (Pv : Nat → L2.St → Hp → Prop) (h0 : Pv 0 σ H) (hG : ∀ i σ H, i ≤ xs.length → Pv i σ H → SqL K H a xs)
    (hs : ∀ i x σ H, xs[i]? = some x → Pv i σ H → g x σ H fun σ2 H2 => tb { D with nx := Pv (i + 1), ct := Pv (i + 1), bk := D.nx } σ2 H2) (hd : ∀ σ H, Pv xs.length σ H → D.nx σ H) : forI (Itl K a) g tb D σ H :=
  for_w walk_list Pv h0 hG (fun i x σ H H' hi p ⟨e, q⟩ => by subst e; exact hs i x σ H' q p) hd
theorem for_r {lo : Int} (Pv : Nat → L2.St → Hp → Prop) (h0 : Pv 0 σ H)
    (hs : ∀ i σ H, i < n → Pv i σ H → g (.int (lo + i)) σ H fun σ2 H2 => tb { D with nx := Pv (i + 1), ct := Pv (i + 1), bk := D.nx } σ2 H2) (hd : ∀ σ H, Pv n σ H → D.nx σ H) : forI (Itr lo n) g tb D σ H :=
  for_w walk_range Pv h0 (fun _ _ _ _ _ => trivial) (fun i x σ H H' hi p ⟨e, q⟩ => by subst e q; exact hs i σ H' hi p) hd
theorem lc_w (w : Walk J n G Y) (Pv : Addr → Nat → Hp → Prop) (h0 : ∀ D, H D = none → Pv D 0 (upd H D (.lst []))) (hG : ∀ D i H, i ≤ n → Pv D i H → G H)
    (hs : ∀ D i x H1 H', H D = none → i < n → Pv D i H1 → Y i H1 x H' → g x (wipe σ vs) H' fun σ2 H2 => wipe σ2 vs = wipe σ vs ∧ tt σ2 H2 fun b H3 =>
      if b = true then te σ2 H3 fun y H4 => ∃ acc, H4 D = some (.lst acc) ∧ acc.length < sizeLine ∧ Pv D (i + 1) (upd H4 D (.lst (acc ++ [y]))) else Pv D (i + 1) H3) (hd : ∀ D H1, H D = none → Pv D n H1 → Q (.ref D) H1) :
    lcI J g tt te vs σ H Q := fun D hD => lc_it w (Pv D) (h0 D hD) (hG D) (fun i x H1 H' => hs D i x H1 H' hD) fun H1 => hd D H1 hD
end
/-! ### truth -/
def tTruth (K : PySem.W.Frag) (ta : TE) : TT := fun σ H Q => ta σ H fun x H' => ∃ k, TruV K x H' k ∧ Q k H'
theorem p_truth {X : Cx} {a : Expr} {ta : TE} (ha : PE X a ta) (he : ∀ whole, isTrue a X.env whole = (do let v ← whole; standAt a.pos; holding [v] (truthy v))) : PT X a (tTruth X.K ta) := pt_truth ha he
section
variable {K : PySem.W.Frag} {σ : L2.St} {H : Hp} {Qb : Bool → Hp → Prop} {ta : TE}
theorem v_truth (q : ta σ H fun x H' => ∃ k, TruV K x H' k ∧ Qb k H') : tTruth K ta σ H Qb := q
theorem v_trub {b : Bool} (q : Qb b H) : ∃ k, TruV K (.bl b) H k ∧ Qb k H := ⟨b, rfl, q⟩
theorem v_trul {p : Addr} {xs : List V} (h : SqL K H p xs) (q : Qb (!xs.isEmpty) H) : ∃ k, TruV K (.ref p) H k ∧ Qb k H := ⟨_, .inl ⟨xs, h, rfl⟩, q⟩
end
/-! ### ways that meet again -/
/-- s, then r, with a word between them -/
def tMid (s r : TS) : TS := fun D σ H => ∃ W : L2.St → Hp → Prop, s { D with nx := W } σ H ∧ ∀ σ' H', W σ' H' → r D σ' H'
theorem pss_mid {X : Cx} {st : Stmt} {rest : List Stmt} {s r : TS} (h1 : PS X st s) (h2 : PSs X rest r) : PSs X (st :: rest) (tMid s r) := by
  refine ⟨fun pins sh σ H D I ⟨W, hs, hr⟩ => wpAny_execs_cons (thn (h1.run pins sh σ H _ I hs) fun f s1 q => ?_)⟩
  cases f with
  | next =>
    obtain ⟨σ', H', J, w⟩ := q
    exact h2.run pins s1 σ' H' D J (hr σ' H' w)
  | _ => exact q
theorem v_mid {s r : TS} {D : Ends} {σ : L2.St} {H : Hp} (W : L2.St → Hp → Prop) (h1 : s { D with nx := W } σ H) (h2 : ∀ σ' H', W σ' H' → r D σ' H') : tMid s r D σ H := ⟨W, h1, h2⟩
/-! ### what stands at an address -/
theorem h_ne {H : Hp} {a b : Addr} {o u : HO} (h : b ≠ a) (q : H b = some u) : upd H a o b = some u := by rw [upd_ne h]; exact q
theorem ne_new {H : Hp} {a b : Addr} {o : HO} (h : H b = some o) (n : H a = none) : b ≠ a := ne_of_none h n
theorem ne_new' {H : Hp} {a b : Addr} {o : HO} (h : H b = some o) (n : H a = none) : a ≠ b := Ne.symm (ne_of_none h n)
theorem n_new {H : Hp} {a b : Addr} {o : HO} (h : b ≠ a) (q : H b = none) : upd H a o b = none := by rw [upd_ne h]; exact q
theorem upd_none {H : Hp} {a b : Addr} {o : HO} (h : upd H a o b = none) : b ≠ a ∧ H b = none := by
  by_cases e : b = a
  · subst e
    rw [upd_same] at h
    cases h
  · rw [upd_ne e] at h
    exact ⟨e, h⟩
/-! ### heaps without some addresses -/
/-- H without the addresses S -/
def wo (S : List Addr) (H : Hp) : Hp := fun a => if a ∈ S then none else H a
theorem wo_in {S : List Addr} {H : Hp} {a : Addr} (h : a ∈ S) : wo S H a = none := if_pos h
theorem wo_out {S : List Addr} {H : Hp} {a : Addr} (h : a ∉ S) : wo S H a = H a := if_neg h
theorem wo_get {S : List Addr} {H : Hp} {a : Addr} {o : HO} (h : wo S H a = some o) : a ∉ S ∧ H a = some o := by
  by_cases ha : a ∈ S
  · rw [wo_in ha] at h
    cases h
  · rw [wo_out ha] at h
    exact ⟨ha, h⟩
theorem wo_le {S : List Addr} {H : Hp} : Same (wo S H) H := fun a o h => (wo_get h).2
theorem wo_sub {S T : List Addr} {H : Hp} (h : ∀ a, a ∈ T → a ∈ S) : Same (wo S H) (wo T H) := fun a o e => by
  obtain ⟨h1, h2⟩ := wo_get e
  rw [wo_out fun z => h1 (h a z)]
  exact h2
theorem wo_same {S : List Addr} {H H' : Hp} (h : ∀ a, a ∉ S → ∀ o, H a = some o → H' a = some o) : Same (wo S H) (wo S H') := fun a o e => by
  obtain ⟨h1, h2⟩ := wo_get e
  rw [wo_out h1]
  exact h a h1 o h2
theorem wo_upd {S : List Addr} {H : Hp} {a : Addr} {o : HO} (h : a ∈ S) : Same (wo S H) (wo S (upd H a o)) := wo_same fun b hb u e => by
  have ne : b ≠ a := fun z => by
    subst z
    exact hb h
  rw [upd_ne ne]
  exact e
theorem wo_new {S : List Addr} {H : Hp} {a : Addr} {o : HO} (h : H a = none) : Same (wo S H) (wo S (upd H a o)) := wo_same fun b hb u e => by
  rw [upd_ne (ne_of_none e h)]
  exact e
theorem wo_mono {S : List Addr} {H H' : Hp} (h : Same H H') : Same (wo S H) (wo S H') := wo_same fun a _ o e => h a o e
theorem same_new {H : Hp} {a : Addr} {o : HO} (h : H a = none) : Same H (upd H a o) := fun b u e => by
  rw [upd_ne (ne_of_none e h)]
  exact e
theorem same_sql {K : PySem.W.Frag} {H H' : Hp} {a : Addr} {xs : List V} (e : Same H H') (h : SqL K H a xs) : SqL K H' a xs := e.seq h
theorem same_sqt {K : PySem.W.Frag} {H H' : Hp} {a : Addr} {xs : List V} (e : Same H H') (h : SqT K H a xs) : SqT K H' a xs := by
  rcases h with (h | ⟨o, h⟩) | h
  · exact .inl (.inl (e _ _ h))
  · exact .inl (.inr ⟨o, e _ _ h⟩)
  · exact .inr h
mutual
theorem same_dp {K : PySem.W.Frag} {H H' : Hp} (e : Same H H') : ∀ {v : V} {d : PyData}, Dp K H v d → Dp K H' v d
  | _, _, .non => .non
  | _, _, .bl b => .bl b
  | _, _, .int i => .int i
  | _, _, .str x => .str x
  | _, _, .lst h r => .lst (same_sql e h) (same_dps e r)
  | _, _, .tup h r => .tup (same_sqt e h) (same_dps e r)
theorem same_dps {K : PySem.W.Frag} {H H' : Hp} (e : Same H H') : ∀ {vs : List V} {ds : List PyData}, DpAll K H vs ds → DpAll K H' vs ds
  | _, _, .nil => .nil
  | _, _, .cons h r => .cons (same_dp e h) (same_dps e r)
end
/-! ### a promise by what is asked and what is given -/
/-- g: what the caller names besides the arguments -/
def spOf {G : Type} (pre : G → List V → Hp → Prop) (post : G → Hp → V → Hp → Prop) : Sp := fun vs H Q _ => ∃ g, pre g vs H ∧ ∀ v H', post g H v H' → Q v H'
end U
end
section
set_option Elab.async false
set_option linter.all false
set_option maxRecDepth 100000
set_option maxHeartbeats 4000000
namespace L2
open PySem PySem.Spec PyProof.Rows
section
variable {X : Cx} {x : Str} {C : Addr} {ps : List Str} {fl : List (Str × FK.Src)}
/-- C(): no parameter -/
theorem pe_flt0 {p pos : Pos} {k : Nat} (T : FK.Flt X.prog X.K X.mg x C fl ps) (hr : Room (k + 1) X.A) (hps : ps = [] := by rfl) (hg : Gl X x := by rfl) :
    PE X (.Call (.Name x p) [] [] pos) (tMkV C ps fl tNil) := by
  refine ⟨fun pins s σ H Q I h => ?_⟩
  obtain ⟨hl, q1⟩ : ([] : List V).length = ps.length ∧ ∀ a d, H a = none → H d = none → d ≠ a → Q (.ref a) (upd (upd H d (.xd (FK.flds ps fl []))) a (exo a C (some d))) := h
  refine wpAny_Call_Name_kw (ld_glob I hg T.gC ?_ T.db)
  refine PySem.W.callWith_K0 I.kIn T.kC ?_
  exact mk_core T hr I .nil hl (by rw [hps]; decide) fun h' tk e M => mk_value I M q1
end
end L2
namespace FK
open PySem
def parsB (fl : List (Str × Src)) (ps : List Str) : Bool := fl.all fun p => match p.2 with
  | .par y => decide (y ∈ ps)
  | _ => true
theorem pars_of {fl : List (Str × Src)} {ps : List Str} (h : parsB fl ps = true) : ∀ p ∈ fl, ∀ y, p.2 = .par y → y ∈ ps := fun p hp y e => by
  have q := List.all_eq_true.mp h p hp
  rw [e] at q
  exact of_decide_eq_true q
end FK
namespace Hf
open PySem PySem.Spec PyProof.Rows L2 He
theorem fltK_ok {K : PySem.W.Frag} {prog : Program} {mg : Str → Option Value} {h : Heap} {d : FltD} {ks : List Str} {gg : {α : Type} → List α → List α} (X : K.In h) (G : h.Ns mainGlobals mg) (c : d.ok K prog.main.file = true) (w : iniW K d.x = d.val) (t : FltT prog d)
    (bk : FK.BindK (d.x ++ ".__init__") d.st d.ps ks gg) (rel : ∀ (vs : List L2.V) (us : List Value), L2.Vals vs us → L2.Vals (gg vs) (gg us)) (len : ∀ vs : List L2.V, vs.length = ks.length → (gg vs).length = d.ps.length) : FK.FltK prog K mg d.x (ga K d.x) d.fl d.ps ks gg := by
  have T := flt_ok X G c w t
  unfold FltD.ok at c
  simp only [Bool.and_eq_true] at c
  obtain ⟨c1, c2, c3, c4, c5, c6, c7, c8, c9, c10, c11, c12, c13, c14, c15, c16, c17, c18, c19, c20, c21, c22⟩ := c
  refine ⟨⟨famB d.fam, newB d.fam, initB d.fam, famBm d.fam, d.st, ma K (ga K d.x) "__init__", fam_ok d.fam, init_eq d.fam, ⟨c2, c3, eqO_ok c4, c5, of_decide_eq_true c6, ?_⟩, tie_ok c22 rfl w, t.tx, bk, eqO_ok c19, of_decide_eq_true c20⟩, T, rel, len⟩
  rw [← init_eq]
  exact eqO_ok c7
section
variable {a : Ask} {K : PySem.W.Frag}
theorem Says.fltK {prog : Program} {h : Heap} {mg : Str → Option Value} (c : Says a K) (X : K.In h) (G : h.Ns mainGlobals mg) (ef : a.file = prog.main.file) (i : Nat) {d : FltD} {ks : List Str} {gg : {α : Type} → List α → List α} (hd : a.fx[i]? = some d) (t : FltT prog d)
    (bk : FK.BindK (d.x ++ ".__init__") d.st d.ps ks gg) (rel : ∀ (vs : List L2.V) (us : List Value), L2.Vals vs us → L2.Vals (gg vs) (gg us)) (len : ∀ vs : List L2.V, vs.length = ks.length → (gg vs).length = d.ps.length) : FK.FltK prog K mg d.x (ga K d.x) d.fl d.ps ks gg := by
  have e : a.fx.map (fun d => iniW K d.x) = a.fx.map FltD.val := congrArg (fun z : AlF => z.2.2) c
  have e2 : (a.fx.map fun d => iniW K d.x)[i]? = (a.fx.map FltD.val)[i]? := by rw [e]
  rw [List.getElem?_map, List.getElem?_map, hd] at e2
  exact fltK_ok X G (ef ▸ List.all_eq_true.mp c.all.2.2.1 d (List.mem_of_getElem? hd)) (Option.some.inj e2) t bk rel len
end
/-- isinstance by class, told of the frag: (class, asked, told) -/
def kitsOk (K : PySem.W.Frag) (xs : List Str) (ys : List (Value × (Str → Bool))) : Bool := xs.all fun x => ys.all fun y => decide (PySem.W.kitOne K (.ref (ga K x)) y.1 = some (y.2 x))
theorem kits_ok {K : PySem.W.Frag} {xs : List Str} {ys : List (Value × (Str → Bool))} (h : kitsOk K xs ys = true) {x : Str} {y : Value × (Str → Bool)} (hx : x ∈ xs) (hy : y ∈ ys) : PySem.W.kitOne K (.ref (ga K x)) y.1 = some (y.2 x) :=
  of_decide_eq_true (List.all_eq_true.mp (List.all_eq_true.mp h x hx) y hy)
end Hf
end
section
set_option maxHeartbeats 4000000
namespace C
open PySem PySem.Spec PyProof.Rows L2 RZ U
local macro_rules | `(tactic| walk_at "vc1") => `(tactic| first
  | (with_reducible refine v_seq ?_) | (with_reducible refine v_asg ?_) | ((with_reducible refine' v_var ?vch ?_); (case vch => exact rfl)) | (with_reducible refine v_c ?_) | (with_reducible refine v_op ?_)
  | (with_reducible refine v_cons ?_) | (with_reducible refine v_nil ?_) | (with_reducible refine v_name ?_) | (with_reducible refine v_cb ?_) | (with_reducible refine v_test ?_) | (with_reducible refine v_b ?_)
  | (with_reducible refine v_bl ?_) | (with_reducible refine v_ifs ?_) | (with_reducible refine v_if ?_) | (with_reducible refine v_ret ?_) | (with_reducible refine v_next ?_) | (with_reducible refine v_drop ?_)
  | (with_reducible refine v_and ?_) | (with_reducible refine v_or ?_) | (with_reducible refine v_not ?_) | (with_reducible refine v_andV ?_) | (with_reducible refine v_orV ?_) | (with_reducible refine v_notV ?_)
  | (with_reducible refine v_sub ?_) | (with_reducible refine v_un ?_) | (with_reducible refine v_tup ?_) | (with_reducible refine v_lst ?_) | (with_reducible refine v_call ?_) | (with_reducible refine v_sl ?_) | (with_reducible refine v_nopart ?_)
  | (with_reducible refine v_part ?_) | (with_reducible refine v_xi ?_) | (with_reducible refine v_par ?_) | (with_reducible refine v_x2 ?_) | (with_reducible refine v_bm ?_) | (with_reducible refine v_bm0 ?_) | (with_reducible refine v_retn ?_) | (with_reducible refine v_truth ?_)
  | (with_reducible refine v_addi ?_) | (with_reducible refine v_subi ?_) | (with_reducible refine v_lti ?_) | (with_reducible refine v_lei ?_) | (with_reducible refine v_gti ?_) | (with_reducible refine v_gei ?_) | (with_reducible refine v_eqi ?_) | (with_reducible refine v_eqs ?_) | (with_reducible refine v_nei ?_) | (with_reducible refine v_nes ?_)
  | (with_reducible refine v_int ?_) | (with_reducible refine v_neg ?_) | (with_reducible refine v_isn ?_) | (with_reducible refine v_notn ?_) | (with_reducible refine v_abs ?_) | (with_reducible refine v_min2 ?_) | (with_reducible refine v_max2 ?_) | (with_reducible refine v_gnil ?_) | (with_reducible refine v_gcons ?_)
  | (with_reducible refine v_for ?_) | (with_reducible refine v_lc ?_) | (with_reducible refine v_il ?_) | (with_reducible refine v_it ?_) | (with_reducible refine v_ir ?_) | (with_reducible refine v_iz ?_)
  | ((with_reducible refine' v_ilr ?vch ?_); (case vch => walk_at "sql")) | ((with_reducible refine' v_sll ?vch ?_); (case vch => walk_at "sql")) | ((with_reducible refine' v_list ?vch ?_); (case vch => walk_at "sql"))
  | ((with_reducible refine' v_muli ?vcm ?_); (case vcm => first | exact cmul_r (by decide) (by decide) | exact cmul_l (by decide) (by decide)))
  | ((with_reducible refine' v_modi ?vcm ?_); (case vcm => first | decide | assumption))
  | ((with_reducible refine' v_divi ?vcm ?_); (case vcm => first | exact cdiv_small (by decide) (by decide) | assumption))
  | ((with_reducible refine' v_pow ?vcm ?_); (case vcm => exact ⟨by decide, by decide, by decide⟩))
  | ((with_reducible refine' v_ixl ?vch ?vci ?_); (case vch => walk_at "sql"); (case vci => exact rfl))
  | ((with_reducible refine' v_setl ?vch ?vci ?_); (case vch => walk_at "hat"); (case vci => exact rfl))
  | ((with_reducible refine' v_lenl ?vch ?_); (case vch => walk_at "sql")))
local macro_rules | `(tactic| walk_at "hat") => `(tactic| first | assumption | exact upd_same | ((with_reducible refine' h_ne ?vcn ?vcq); (case vcq => walk_at "hat"); (case vcn => walk_at "ne")))
local macro_rules | `(tactic| walk_at "ne") => `(tactic| first | assumption | exact Ne.symm (by assumption) | exact ne_new (by assumption) (by assumption) | exact ne_new' (by assumption) (by assumption))
local macro_rules | `(tactic| walk_at "sql") => `(tactic| first | assumption | exact SqL.of (by walk_at "hat"))
local macro_rules | `(tactic| walk_at "vc") => `(tactic| repeat (walk_at "vc1"))

section

/-- the bag at b: its cells, the next one's place, the rest of a great one, the mixed number, the draws -/
structure BagAt (K : PySem.W.Frag) (H : Hp) (b c : Addr) (p r m n : Int) (xs : List Int) : Prop where
  at_ : H b = some (.lst [.ref c, .int p, .int r, .int m, .int n])
  cells : SqL K (wo [b] H) c (xs.map V.int)
  p0 : 0 ≤ p
  r0 : 0 ≤ r
  m0 : 0 ≤ m
  m1 : m < 2147483647
/-- g: where the cells stand, which they are -/
def Bag (K : PySem.W.Frag) (H : Hp) (b : Addr) (g : Addr × List Int) : Prop := ∃ p r m n, BagAt K H b g.1 p r m n g.2
abbrev Kp (b : Addr) (H H' : Hp) : Prop := Same (wo [b] H) (wo [b] H')
theorem BagAt.put {K : PySem.W.Frag} {H : Hp} {b c : Addr} {p r m n : Int} {xs : List Int} {p' r' m' n' : Int} (B : BagAt K H b c p r m n xs) (p0 : 0 ≤ p') (r0 : 0 ≤ r') (m0 : 0 ≤ m') (m1 : m' < 2147483647) :
    BagAt K (upd H b (.lst [.ref c, .int p', .int r', .int m', .int n'])) b c p' r' m' n' xs :=
  ⟨upd_same, same_sql (wo_upd (by simp)) B.cells, p0, r0, m0, m1⟩
theorem kp_upd {b : Addr} {H H' : Hp} {o : HO} (k : Kp b H H') : Kp b H (upd H' b o) := k.trans (wo_upd (by simp))
theorem atI_in {xs : List Int} {i : Int} (h0 : 0 ≤ i) (h1 : i < xs.length) : ∃ z, atI (xs.map V.int) i = some (.int z) := by
  have hl : i.toNat < xs.length := by omega
  refine ⟨xs[i.toNat], ?_⟩
  unfold atI ixN
  rw [if_pos h0, if_pos (by rw [List.length_map]; exact h1), Option.bind_some, List.getElem?_map, List.getElem?_eq_getElem hl]
  rfl

theorem kp_get {b a : Addr} {H H' : Hp} {o : HO} (k : Kp b H H') (ne : a ≠ b) (h : H a = some o) : H' a = some o := by
  have q := k a o (by rw [wo_out (by simpa using ne)]; exact h)
  exact (wo_get q).2
theorem kp_trans {b : Addr} {H H1 H2 : Hp} (a : Kp b H H1) (c : Kp b H1 H2) : Kp b H H2 := a.trans c
theorem kp_same {b : Addr} {H H' : Hp} (h : Same H H') : Kp b H H' := wo_mono h
theorem kp_new {b a : Addr} {H H' : Hp} {o : HO} (k : Kp b H H') (h : H' a = none) : Kp b H (upd H' a o) := k.trans (wo_new h)
/-- a write to what H did not know -/
theorem kp_mut {b a : Addr} {H H' : Hp} {o : HO} (k : Kp b H H') (h : H a = none) : Kp b H (upd H' a o) := wo_same fun x hx u e => by
  rw [upd_ne (ne_of_none e h)]
  exact kp_get k (by simpa using hx) e
theorem Bag.ne {K : PySem.W.Frag} {H : Hp} {b : Addr} {g : Addr × List Int} (B : Bag K H b g) {a : Addr} (h : H a = none) : a ≠ b := fun z => by
  obtain ⟨p, r, m, n, B⟩ := B
  rw [z, B.at_] at h
  cases h
theorem Bag.get {K : PySem.W.Frag} {H : Hp} {b : Addr} {g : Addr × List Int} (B : Bag K H b g) : ∃ o, H b = some o := by
  obtain ⟨p, r, m, n, B⟩ := B
  exact ⟨_, B.at_⟩
theorem Bag.cells {K : PySem.W.Frag} {H : Hp} {b : Addr} {g : Addr × List Int} (B : Bag K H b g) : SqL K (wo [b] H) g.1 (g.2.map V.int) := by
  obtain ⟨p, r, m, n, B⟩ := B
  exact B.cells
/-- the bag elsewhere: as it was at b, its cells by an elder heap -/
theorem Bag.move {K : PySem.W.Frag} {H0 H H' : Hp} {b : Addr} {g : Addr × List Int} (B : Bag K H b g) (hc : SqL K (wo [b] H0) g.1 (g.2.map V.int)) (k : Kp b H0 H') (e : H' b = H b) : Bag K H' b g := by
  obtain ⟨p, r, m, n, B⟩ := B
  exact ⟨p, r, m, n, e.trans B.at_, same_sql k hc, B.p0, B.r0, B.m0, B.m1⟩
theorem Bag.new {K : PySem.W.Frag} {H : Hp} {b a : Addr} {g : Addr × List Int} {o : HO} (B : Bag K H b g) (h : H a = none) : Bag K (upd H a o) b g :=
  B.move B.cells (wo_new h) (upd_ne (Ne.symm (B.ne h)))
/-- a write to a place that an elder heap (with the bag's cells) does not know -/
theorem Bag.mut {K : PySem.W.Frag} {H0 H : Hp} {b a : Addr} {g : Addr × List Int} {o : HO} (B : Bag K H b g) (hc : SqL K (wo [b] H0) g.1 (g.2.map V.int)) (k : Kp b H0 H) (h : H0 a = none) (ne : a ≠ b) : Bag K (upd H a o) b g :=
  B.move hc (kp_mut k h) (upd_ne (Ne.symm ne))
theorem size_small2 {n : Nat} (h : n ≤ 1000000000) : (n : Int) < 1267650600228229401496703205376 := by omega

end
section

/-! ### data: kinds, depth, likeness -/
def tyD : PyData → String
  | .none => "NoneType"
  | .bool _ => "bool"
  | .int _ => "int"
  | .str _ => "str"
  | .list _ => "list"
  | .tuple _ => "tuple"
  | .dict _ => "dict"
theorem sql_ty {K : PySem.W.Frag} {H : Hp} {a : Addr} {xs : List V} (h : SqL K H a xs) : TyX K H (.ref a) (.type "list") := by
  rcases h with (h | ⟨o, h⟩) | ⟨o, its, n, h1, h2, _⟩
  · exact .base (.lst h)
  · exact .base (.frz h)
  · exact .kList h1 h2
theorem sqt_ty {K : PySem.W.Frag} {H : Hp} {a : Addr} {xs : List V} (h : SqT K H a xs) : TyX K H (.ref a) (.type "tuple") := by
  rcases h with (h | ⟨o, h⟩) | ⟨o, its, n, h1, h2, _⟩
  · exact .base (.tup h)
  · exact .fTuple h
  · exact .kTuple h1 h2
theorem dp_ty {K : PySem.W.Frag} {H : Hp} {v : V} {d : PyData} (h : Dp K H v d) : TyX K H v (.type (tyD d)) := by
  cases h with
  | non => exact .base .non
  | bl b => exact .base (.bl b)
  | int i => exact .base (.int i)
  | str x => exact .base (.str x)
  | lst h _ => exact sql_ty h
  | tup h _ => exact sqt_ty h
theorem v_isi {K : PySem.W.Frag} {H : Hp} {Q : VK} {x : V} {d : PyData} {T : String} {b : Bool} (h : Dp K H x d) (hk : kitB (tyD d) T = some b) (q : Q (.bl b) H) : rIsiU K [x, .ty T] H Q :=
  .inl ⟨x, .ty T, _, .type T, b, rfl, .ty T, dp_ty h, kit_ty hk, q⟩
def isInt : PyData → Bool
  | .int _ => true
  | _ => false
def isBool : PyData → Bool
  | .bool _ => true
  | _ => false
def isStr : PyData → Bool
  | .str _ => true
  | _ => false
def isList : PyData → Bool
  | .list _ => true
  | _ => false
def isTuple : PyData → Bool
  | .tuple _ => true
  | _ => false
theorem kit_int (d : PyData) : kitB (tyD d) "int" = some (isInt d || isBool d) := by
  cases d
  · exact (show kitB "NoneType" "int" = some false by decide +kernel)
  · exact (show kitB "bool" "int" = some true by decide +kernel)
  · exact (show kitB "int" "int" = some true by decide +kernel)
  · exact (show kitB "str" "int" = some false by decide +kernel)
  · exact (show kitB "list" "int" = some false by decide +kernel)
  · exact (show kitB "tuple" "int" = some false by decide +kernel)
  · exact (show kitB "dict" "int" = some false by decide +kernel)
theorem kit_bool (d : PyData) : kitB (tyD d) "bool" = some (isBool d) := by
  cases d
  · exact (show kitB "NoneType" "bool" = some false by decide +kernel)
  · exact (show kitB "bool" "bool" = some true by decide +kernel)
  · exact (show kitB "int" "bool" = some false by decide +kernel)
  · exact (show kitB "str" "bool" = some false by decide +kernel)
  · exact (show kitB "list" "bool" = some false by decide +kernel)
  · exact (show kitB "tuple" "bool" = some false by decide +kernel)
  · exact (show kitB "dict" "bool" = some false by decide +kernel)
theorem kit_str (d : PyData) : kitB (tyD d) "str" = some (isStr d) := by
  cases d
  · exact (show kitB "NoneType" "str" = some false by decide +kernel)
  · exact (show kitB "bool" "str" = some false by decide +kernel)
  · exact (show kitB "int" "str" = some false by decide +kernel)
  · exact (show kitB "str" "str" = some true by decide +kernel)
  · exact (show kitB "list" "str" = some false by decide +kernel)
  · exact (show kitB "tuple" "str" = some false by decide +kernel)
  · exact (show kitB "dict" "str" = some false by decide +kernel)
theorem kit_list (d : PyData) : kitB (tyD d) "list" = some (isList d) := by
  cases d
  · exact (show kitB "NoneType" "list" = some false by decide +kernel)
  · exact (show kitB "bool" "list" = some false by decide +kernel)
  · exact (show kitB "int" "list" = some false by decide +kernel)
  · exact (show kitB "str" "list" = some false by decide +kernel)
  · exact (show kitB "list" "list" = some true by decide +kernel)
  · exact (show kitB "tuple" "list" = some false by decide +kernel)
  · exact (show kitB "dict" "list" = some false by decide +kernel)
theorem kit_tuple (d : PyData) : kitB (tyD d) "tuple" = some (isTuple d) := by
  cases d
  · exact (show kitB "NoneType" "tuple" = some false by decide +kernel)
  · exact (show kitB "bool" "tuple" = some false by decide +kernel)
  · exact (show kitB "int" "tuple" = some false by decide +kernel)
  · exact (show kitB "str" "tuple" = some false by decide +kernel)
  · exact (show kitB "list" "tuple" = some false by decide +kernel)
  · exact (show kitB "tuple" "tuple" = some true by decide +kernel)
  · exact (show kitB "dict" "tuple" = some false by decide +kernel)
mutual
def dep : PyData → Nat
  | .list xs => depAll xs + 1
  | .tuple xs => depAll xs + 1
  | _ => 0
def depAll : List PyData → Nat
  | [] => 0
  | d :: r => max (dep d) (depAll r)
end
theorem dep_mem {d : PyData} : ∀ {xs : List PyData}, d ∈ xs → dep d ≤ depAll xs
  | a :: r, h => by
    show dep d ≤ max (dep a) (depAll r)
    rcases List.mem_cons.mp h with h | h
    · subst h
      omega
    · have := dep_mem h
      omega
mutual
/-- the same value, of the same kinds -/
def like : PyData → PyData → Bool
  | .none, .none => true
  | .bool a, .bool b => a == b
  | .int a, .int b => a == b
  | .str a, .str b => a == b
  | .list xs, .list ys => likeAll xs ys
  | .tuple xs, .tuple ys => likeAll xs ys
  | _, _ => false
def likeAll : List PyData → List PyData → Bool
  | [], [] => true
  | x :: xs, y :: ys => like x y && likeAll xs ys
  | _, _ => false
end
mutual
def dictFree : PyData → Bool
  | .list xs => dictFreeAll xs
  | .tuple xs => dictFreeAll xs
  | .dict _ => false
  | _ => true
def dictFreeAll : List PyData → Bool
  | [] => true
  | d :: r => dictFree d && dictFreeAll r
end
mutual
theorem like_refl : ∀ d : PyData, (∀ kvs, d ≠ .dict kvs) → dictFree d = true → like d d = true
  | .none, _, _ => rfl
  | .bool a, _, _ => by simp [like]
  | .int a, _, _ => by simp [like]
  | .str a, _, _ => by simp [like]
  | .list xs, _, h => likeAll_refl xs h
  | .tuple xs, _, h => likeAll_refl xs h
  | .dict kvs, h, _ => absurd rfl (h kvs)
theorem likeAll_refl : ∀ xs : List PyData, dictFreeAll xs = true → likeAll xs xs = true
  | [], _ => rfl
  | d :: r, h => by
    have h2 : (dictFree d && dictFreeAll r) = true := h
    rw [Bool.and_eq_true] at h2
    show (like d d && likeAll r r) = true
    rw [like_refl d (fun kvs e => by rw [e] at h2; exact absurd h2.1 (by simp [dictFree])) h2.1, likeAll_refl r h2.2]
    rfl
end
mutual
theorem dp_free {K : PySem.W.Frag} {H : Hp} : ∀ {v : V} {d : PyData}, Dp K H v d → dictFree d = true
  | _, _, .non => rfl
  | _, _, .bl _ => rfl
  | _, _, .int _ => rfl
  | _, _, .str _ => rfl
  | _, _, .lst _ r => dps_free r
  | _, _, .tup _ r => dps_free r
theorem dps_free {K : PySem.W.Frag} {H : Hp} : ∀ {vs : List V} {ds : List PyData}, DpAll K H vs ds → dictFreeAll ds = true
  | _, _, .nil => rfl
  | _, _, .cons h r => by
    show (dictFree _ && dictFreeAll _) = true
    rw [dp_free h, dps_free r]
    rfl
end
theorem like_self {K : PySem.W.Frag} {H : Hp} {v : V} {d : PyData} (h : Dp K H v d) : like d d = true := like_refl d (fun kvs e => by subst e; cases h) (dp_free h)
theorem dps_get {K : PySem.W.Frag} {H : Hp} : ∀ {vs : List V} {ds : List PyData} {i : Nat} {v : V}, DpAll K H vs ds → vs[i]? = some v → ∃ d, ds[i]? = some d ∧ Dp K H v d
  | _, _, i, v, .nil, h => by simp at h
  | _, _, 0, v, .cons h r, e => by
    simp at e
    subst e
    exact ⟨_, rfl, h⟩
  | _, _, i + 1, v, .cons h r, e => by
    obtain ⟨d, h1, h2⟩ := dps_get (i := i) r (by simpa using e)
    exact ⟨d, by simpa using h1, h2⟩
theorem dps_len {K : PySem.W.Frag} {H : Hp} : ∀ {vs : List V} {ds : List PyData}, DpAll K H vs ds → vs.length = ds.length
  | _, _, .nil => rfl
  | _, _, .cons _ r => congrArg Nat.succ (dps_len r)
theorem likeAll_zip : ∀ (xs ys : List PyData), likeAll xs ys = (decide (xs.length = ys.length) && (List.zipWith like xs ys).all id)
  | [], [] => rfl
  | [], _ :: _ => rfl
  | _ :: _, [] => rfl
  | x :: xs, y :: ys => by
    show (like x y && likeAll xs ys) = _
    rw [likeAll_zip xs ys]
    simp only [List.length_cons, List.zipWith_cons_cons, List.all_cons, id_eq, Nat.add_right_cancel_iff]
    cases like x y <;> simp
theorem walk_zipT {K : PySem.W.Frag} {a b : Addr} {xs ys : List V} {n : Nat} (hn : n = min xs.length ys.length) : Walk (ItzT K a b) n (fun H => SqT K H a xs ∧ SqT K H b ys) (YPair (fun i => xs[i]?) (fun i => ys[i]?)) := by
  subst hn
  refine ⟨fun i _ hi q => ?_, fun _ q => ⟨xs, ys, q.1, q.2, by omega⟩, fun i H v H' _ q y => ?_⟩
  · have h1 : i < xs.length := by omega
    have h2 : i < ys.length := by omega
    exact ⟨xs, ys, xs[i], ys[i], q.1, q.2, by simp [h1], by simp [h2]⟩
  · obtain ⟨T, x, z, h1, h2, h3, h4, h5⟩ := y
    exact ⟨T, x, z, h1, h2, h3, h4 xs q.1, h5 ys q.2⟩

/-- at most n deep, no sequence too long -/
def fit : Nat → PyData → Prop
  | 0, _ => False
  | n + 1, .list xs => xs.length ≤ 1000000 ∧ ∀ d, d ∈ xs → fit n d
  | n + 1, .tuple xs => xs.length ≤ 1000000 ∧ ∀ d, d ∈ xs → fit n d
  | _ + 1, _ => True
theorem fit_up : ∀ {n : Nat} {d : PyData}, fit n d → fit (n + 1) d
  | 0, _, h => h.elim
  | n + 1, .none, _ => trivial
  | n + 1, .bool _, _ => trivial
  | n + 1, .int _, _ => trivial
  | n + 1, .str _, _ => trivial
  | n + 1, .dict _, _ => trivial
  | n + 1, .list xs, h => ⟨h.1, fun d hd => fit_up (h.2 d hd)⟩
  | n + 1, .tuple xs, h => ⟨h.1, fun d hd => fit_up (h.2 d hd)⟩
theorem fit_mono {n m : Nat} {d : PyData} (h : n ≤ m) (f : fit n d) : fit m d := by
  obtain ⟨k, rfl⟩ := Nat.le.dest h
  induction k with
  | zero => exact f
  | succ k ih => exact fit_up (ih (Nat.le_add_right _ _))
theorem same_mut {H H' : Hp} {a : Addr} {o : HO} (e : Same H H') (h : H a = none) : Same H (upd H' a o) := fun b u q => by
  rw [upd_ne (ne_of_none q h)]
  exact e b u q
theorem sqt_of {K : PySem.W.Frag} {H : Hp} {a : Addr} {xs : List V} (h : H a = some (.tup xs)) : SqT K H a xs := .inl (.inl h)
theorem v_yes {σ : L2.St} {H : Hp} {Qb : Bool → Hp → Prop} (q : Qb true H) : tYes σ H Qb := q
theorem take_succ_get {α : Type} {xs : List α} {i : Nat} {x : α} (h : xs[i]? = some x) : xs.take (i + 1) = xs.take i ++ [x] := by
  rw [List.take_add_one, h]
  rfl
theorem iT {c A B : Prop} [Decidable c] (h : c) (q : A) : if c then A else B := by
  rw [if_pos h]
  exact q
theorem iF {c A B : Prop} [Decidable c] (h : ¬c) (q : B) : if c then A else B := by
  rw [if_neg h]
  exact q
theorem nt {b : Bool} (h : b = false) : ¬b = true := by rw [h]; decide

end
section
abbrev N_law_int : List Str := ["v"]
def t_law_int (K : PySem.W.Frag) : TS :=
  (tRet (tAndV (tCB (rIsiU K) (tCons (tVar 0) (tCons (tC (.ty "int")) tNil))) (tNotV (tCB (rIsiU K) (tCons (tVar 0) (tCons (tC (.ty "bool")) tNil))))))
def sp_law_int (K : PySem.W.Frag) : Sp := fun vs H Q _ => ∃ x d, vs = [x] ∧ Dp K H x d ∧ Q (.bl (isInt d)) H
theorem pure_law_int {K : PySem.W.Frag} (vs : List V) (H : Hp) (Q : VK) (E : XK) (h : sp_law_int K vs H Q E) : t_law_int K { nx := fun _ H' => Q .non H', rt := Q } (start N_law_int vs) H := by
  obtain ⟨x, d, rfl, h, k⟩ := h
  show t_law_int K _ [some x] H
  unfold t_law_int
  walk_at "vc"
  refine v_isi h (kit_int d) ⟨_, rfl, ?_⟩
  have e : isInt d = ((isInt d || isBool d) && !isBool d) := by cases d <;> rfl
  refine ite2 (fun c => ?_) (fun c => ?_)
  · walk_at "vc"
    refine v_isi h (kit_bool d) ⟨_, rfl, ?_⟩
    rw [e, c] at k
    exact k
  · rw [e, Bool.eq_false_iff.mpr c] at k
    exact k

end
section

def sp_law_like (K : PySem.W.Frag) (n : Nat) : Sp := fun vs H Q _ => ∃ x y d e, vs = [x, y] ∧ Dp K H x d ∧ Dp K H y e ∧ fit n e ∧ ∀ H', Same H H' → Q (.bl (like d e)) H'
abbrev N_law_like : List Str := ["told", "due", "x", "y"]
def t_law_like (K : PySem.W.Frag) (n : Nat) : TS :=
  (tSeq (tIfS (tTest (tOp rIsN (tVar 1) (tC .non))) (tRet (tOp rIsN (tVar 0) (tC .non))) tNext)
    (tSeq (tIfS (tB (tCB (rIsiU K) (tCons (tVar 1) (tCons (tC (.ty "bool")) tNil)))) (tRet (tAndV (tCB (rIsiU K) (tCons (tVar 0) (tCons (tC (.ty "bool")) tNil))) (tOp (rEqU K) (tVar 0) (tVar 1)))) tNext)
    (tSeq (tIfS (tB (tCall (sp_law_int K) [] E0 (tCons (tVar 1) tNil))) (tRet (tAndV (tCall (sp_law_int K) [] E0 (tCons (tVar 0) tNil)) (tOp (rEqU K) (tVar 0) (tVar 1)))) tNext)
    (tSeq (tIfS (tB (tCB (rIsiU K) (tCons (tVar 1) (tCons (tC (.ty "str")) tNil)))) (tRet (tAndV (tCB (rIsiU K) (tCons (tVar 0) (tCons (tC (.ty "str")) tNil))) (tOp (rEqU K) (tVar 0) (tVar 1)))) tNext)
    (tSeq (tIfS (tOr (tAnd (tB (tCB (rIsiU K) (tCons (tVar 1) (tCons (tC (.ty "list")) tNil)))) (tNot (tB (tCB (rIsiU K) (tCons (tVar 0) (tCons (tC (.ty "list")) tNil)))))) (tAnd (tB (tCB (rIsiU K) (tCons (tVar 1) (tCons (tC (.ty "tuple")) tNil)))) (tNot (tB (tCB (rIsiU K) (tCons (tVar 0) (tCons (tC (.ty "tuple")) tNil))))))) (tRet (tC (.bl false))) tNext)
    (tRet (tAndV (tOp (rEqU K) (tCB (rLen K) (tCons (tVar 0) tNil)) (tCB (rLen K) (tCons (tVar 1) tNil))) (tCB (rAll K) (tCons (tLc (iZipA K (tCons (tVar 0) (tCons (tVar 1) tNil))) (gTup K 2 (gCons (gName 2) (gCons (gName 3) gNil))) tYes (tCall (sp_law_like K n) [] E0 (tCons (tVar 2) (tCons (tVar 3) tNil))) [2, 3]) tNil)))))))))
theorem no_law_like {K : PySem.W.Frag} {vs : List V} {H : Hp} {Q : VK} {E : XK} (h : sp_law_like K 0 vs H Q E) : False := by
  obtain ⟨_, _, _, _, _, _, _, h, _⟩ := h
  exact h
theorem like_lc {K : PySem.W.Frag} {n m : Nat} {J : It} {G : Hp → Prop} {xs ys : List V} {ds es : List PyData} {H : Hp} {a b : V} {Q : VK} (w : Walk J m G (YPair (fun i => xs[i]?) (fun i => ys[i]?))) (hG : ∀ H', Same H H' → G H') (hx : DpAll K H xs ds) (hy : DpAll K H ys es)
    (hm : m = ds.length) (hm2 : es.length = ds.length) (hl : ds.length ≤ 1000000) (hn : ∀ e, e ∈ es → fit n e) (k : ∀ l H', Same H H' → H' l = some (.lst ((List.zipWith like ds es).map V.bl)) → Q (.ref l) H') :
    lcI J (gTup K 2 (gCons (gName 2) (gCons (gName 3) gNil))) tYes (tCall (sp_law_like K n) [] E0 (tCons (tVar 2) (tCons (tVar 3) tNil))) [2, 3] [some a, some b, none, none] H Q := by
  refine lc_w w (fun D i H' => Same H H' ∧ H D = none ∧ H' D = some (.lst (((List.zipWith like ds es).take i).map V.bl))) (fun D hD => ⟨same_new hD, hD, upd_same⟩) (fun D i H' _ h => hG H' h.1) ?_ ?_
  · rintro D i x H1 H' hD hi ⟨s1, _, h2⟩ ⟨T, u, v, rfl, hT, rfl, hu, hv⟩
    obtain ⟨d, hd, du⟩ := dps_get hx hu
    obtain ⟨e, he, dv⟩ := dps_get hy hv
    have nTD := ne_new' h2 hT
    refine v_gtup (sqt_of upd_same) rfl ?_
    walk_at "vc"
    refine ⟨rfl, v_yes ?_⟩
    refine iT rfl ?_
    walk_at "vc"
    have s2 : Same H (upd H1 T (.tup [u, v])) := s1.trans (same_new hT)
    refine ⟨u, v, d, e, rfl, same_dp s2 du, same_dp s2 dv, hn e (List.mem_of_getElem? he), fun H4 s4 => ?_⟩
    have h4 := s4 _ _ (h_ne (Ne.symm nTD) h2)
    refine ⟨_, h4, ?_, same_mut (s2.trans s4) hD, hD, ?_⟩
    · rw [sizeLine_eq]
      simp
      omega
    · rw [upd_same, take_succ_get (x := like d e) (by rw [List.getElem?_zipWith, hd, he]), List.map_append]
      rfl
  · rintro D H1 hD ⟨s1, _, h2⟩
    refine k D H1 s1 ?_
    rw [h2, List.take_of_length_le (by rw [List.length_zipWith]; omega)]
theorem pure_law_like {K : PySem.W.Frag} (n : Nat) (vs : List V) (H : Hp) (Q : VK) (E : XK) (h : sp_law_like K (n + 1) vs H Q E) : t_law_like K n { nx := fun _ H' => Q .non H', rt := Q } (start N_law_like vs) H := by
  obtain ⟨x, y, d, e, rfl, hd, he, hn, k⟩ := h
  show t_law_like K n _ [some x, some y, none, none] H
  have k0 := k H (Same.refl H)
  unfold t_law_like
  walk_at "vc"
  cases he with
  | non =>
    refine iT (by decide) ?_
    walk_at "vc"
    show Q _ _
    cases hd <;> exact k0
  | bl b =>
    refine iF (by simp) ?_
    walk_at "vc"
    refine v_isi (.bl b) (kit_bool _) ⟨_, rfl, ?_⟩
    refine iT rfl ?_
    walk_at "vc"
    refine v_isi hd (kit_bool _) ⟨_, rfl, ?_⟩
    refine ite2 (fun c => ?_) (fun c => ?_)
    · cases hd <;> first | cases c | skip
      walk_at "vc"
      exact v_eqb k0
    · have z : like d (.bool b) = isBool d := by cases d <;> first | rfl | exact absurd rfl c
      rw [z, Bool.eq_false_iff.mpr c] at k0
      exact k0
  | int i =>
    refine iF (by simp) ?_
    walk_at "vc"
    refine v_isi (.int i) (kit_bool _) ⟨_, rfl, ?_⟩
    refine iF (nt rfl) ?_
    walk_at "vc"
    refine ⟨_, _, rfl, .int i, _, rfl, ?_⟩
    refine iT rfl ?_
    walk_at "vc"
    refine ⟨_, _, rfl, hd, _, rfl, ?_⟩
    refine ite2 (fun c => ?_) (fun c => ?_)
    · cases hd <;> first | cases c | skip
      walk_at "vc"
      exact k0
    · have z : like d (.int i) = isInt d := by cases d <;> first | rfl | exact absurd rfl c
      rw [z, Bool.eq_false_iff.mpr c] at k0
      exact k0
  | str z =>
    refine iF (by simp) ?_
    walk_at "vc"
    refine v_isi (.str z) (kit_bool _) ⟨_, rfl, ?_⟩
    refine iF (nt rfl) ?_
    walk_at "vc"
    refine ⟨_, _, rfl, .str z, _, rfl, ?_⟩
    refine iF (nt rfl) ?_
    walk_at "vc"
    refine v_isi (.str z) (kit_str _) ⟨_, rfl, ?_⟩
    refine iT rfl ?_
    walk_at "vc"
    refine v_isi hd (kit_str _) ⟨_, rfl, ?_⟩
    refine ite2 (fun c => ?_) (fun c => ?_)
    · cases hd <;> first | cases c | skip
      walk_at "vc"
      exact k0
    · have z : like d (.str z) = isStr d := by cases d <;> first | rfl | exact absurd rfl c
      rw [z, Bool.eq_false_iff.mpr c] at k0
      exact k0
  | lst hs ha =>
    rename_i q ys es
    have he := Dp.lst hs ha
    refine iF (by simp) ?_
    walk_at "vc"
    refine v_isi he (kit_bool _) ⟨_, rfl, ?_⟩
    refine iF (nt rfl) ?_
    walk_at "vc"
    refine ⟨_, _, rfl, he, _, rfl, ?_⟩
    refine iF (nt rfl) ?_
    walk_at "vc"
    refine v_isi he (kit_str _) ⟨_, rfl, ?_⟩
    refine iF (nt rfl) ?_
    walk_at "vc"
    refine v_isi he (kit_list _) ⟨_, rfl, ?_⟩
    refine iT rfl ?_
    walk_at "vc"
    refine v_isi hd (kit_list _) ⟨_, rfl, ?_⟩
    refine ite2 (fun c => ?_) (fun c => ?_)
    · walk_at "vc"
      have z : like d (.list es) = isList d := by cases d <;> first | rfl | cases c
      rw [z, show isList d = false from by simpa using c] at k0
      exact k0
    · walk_at "vc"
      refine v_isi he (kit_tuple _) ⟨_, rfl, ?_⟩
      refine iF (nt rfl) ?_
      walk_at "vc"
      refine iF (nt rfl) ?_
      cases hd <;> first | exact absurd rfl c | skip
      rename_i p xs ds hx hp
      have lx := dps_len hp
      have ly := dps_len ha
      walk_at "vc"
      have kz := likeAll_zip ds es
      refine ite2 (fun c2 => ?_) (fun c2 => ?_)
      · have c3 : xs.length = ys.length := by have := of_decide_eq_true c2; omega
        rw [decide_eq_true (by omega), Bool.true_and] at kz
        walk_at "vc"
        refine v_izl hx hs ?_
        refine like_lc (walk_zip rfl) (fun H' e => ⟨same_sql e hx, same_sql e hs⟩) hp ha (by omega) (by omega) (by have := hn.1; omega) hn.2 fun l H' e hl => ?_
        walk_at "vc"
        refine ⟨l, _, rfl, SqL.of hl, ?_⟩
        have k1 := k H' e
        rw [show like (.list ds) (.list es) = likeAll ds es from rfl, kz] at k1
        exact k1
      · rw [decide_eq_false (by intro c3; exact c2 (by simp; omega)), Bool.false_and] at kz
        rw [show like (.list ds) (.list es) = likeAll ds es from rfl, kz] at k0
        exact k0
  | tup hs ha =>
    rename_i q ys es
    have he := Dp.tup hs ha
    refine iF (by simp) ?_
    walk_at "vc"
    refine v_isi he (kit_bool _) ⟨_, rfl, ?_⟩
    refine iF (nt rfl) ?_
    walk_at "vc"
    refine ⟨_, _, rfl, he, _, rfl, ?_⟩
    refine iF (nt rfl) ?_
    walk_at "vc"
    refine v_isi he (kit_str _) ⟨_, rfl, ?_⟩
    refine iF (nt rfl) ?_
    walk_at "vc"
    refine v_isi he (kit_list _) ⟨_, rfl, ?_⟩
    refine iF (nt rfl) ?_
    refine iF (nt rfl) ?_
    walk_at "vc"
    refine v_isi he (kit_tuple _) ⟨_, rfl, ?_⟩
    refine iT rfl ?_
    walk_at "vc"
    refine v_isi hd (kit_tuple _) ⟨_, rfl, ?_⟩
    refine ite2 (fun c => ?_) (fun c => ?_)
    · walk_at "vc"
      have z : like d (.tuple es) = isTuple d := by cases d <;> first | rfl | cases c
      rw [z, show isTuple d = false from by simpa using c] at k0
      exact k0
    · walk_at "vc"
      cases hd <;> first | exact absurd rfl c | skip
      rename_i p xs ds hx hp
      have lx := dps_len hp
      have ly := dps_len ha
      walk_at "vc"
      refine v_lent hx ?_
      walk_at "vc"
      refine v_lent hs ?_
      walk_at "vc"
      have kz := likeAll_zip ds es
      refine ite2 (fun c2 => ?_) (fun c2 => ?_)
      · have c3 : xs.length = ys.length := by have := of_decide_eq_true c2; omega
        rw [decide_eq_true (by omega), Bool.true_and] at kz
        walk_at "vc"
        refine v_izt hx hs ?_
        refine like_lc (walk_zipT rfl) (fun H' e => ⟨same_sqt e hx, same_sqt e hs⟩) hp ha (by omega) (by omega) (by have := hn.1; omega) hn.2 fun l H' e hl => ?_
        walk_at "vc"
        refine ⟨l, _, rfl, SqL.of hl, ?_⟩
        have k1 := k H' e
        rw [show like (.tuple ds) (.tuple es) = likeAll ds es from rfl, kz] at k1
        exact k1
      · rw [decide_eq_false (by intro c3; exact c2 (by simp; omega)), Bool.false_and] at kz
        rw [show like (.tuple ds) (.tuple es) = likeAll ds es from rfl, kz] at k0
        exact k0

end
section

theorem er_same {K : PySem.W.Frag} {H H' : Hp} {p d : Addr} {k : Nat} {a b : V} (e : Same H H') (h : ErAt K H p d k a b) : ErAt K H' p d k a b := ⟨e _ _ h.1, e _ _ h.2⟩
theorem er_wo {K : PySem.W.Frag} {H : Hp} {c p d : Addr} {k : Nat} {a b : V} (h : ErAt K H p d k a b) (h1 : p ≠ c) (h2 : d ≠ c) : ErAt K (wo [c] H) p d k a b := ⟨by rw [wo_out (by simpa using h1)]; exact h.1, by rw [wo_out (by simpa using h2)]; exact h.2⟩
theorem er_made {K : PySem.W.Frag} {H : Hp} {p d : Addr} {k : Nat} {a b : V} (hp : H p = none) (hd : H d = none) (ne : d ≠ p) : ErAt K (upd (upd H d (.xd (exF k a b))) p (exo p (He.ga K (ec k).x) (some d))) p d k a b := ⟨upd_same, h_ne ne upd_same⟩
theorem same_made {H : Hp} {p d : Addr} {o u : HO} (hp : H p = none) (hd : H d = none) : Same H (upd (upd H d o) p u) := same_mut (same_new hd) hp
theorem v_mk {C : Addr} {ps : List Str} {fl : List (Str × FK.Src)} {t : TA} {σ : L2.St} {H : Hp} {Q : VK} (q : t σ H fun vs H1 => vs.length = ps.length ∧ ∀ a d, H1 a = none → H1 d = none → d ≠ a → Q (.ref a) (upd (upd H1 d (.xd (FK.flds ps fl vs))) a (exo a C (some d)))) : tMkV C ps fl t σ H Q := q
theorem v_mkK {C : Addr} {ps ks : List Str} {gg : {α : Type} → List α → List α} {fl : List (Str × FK.Src)} {t : TA} {σ : L2.St} {H : Hp} {Q : VK} (q : t σ H fun vs H1 => vs.length = ks.length ∧ ∀ a d, H1 a = none → H1 d = none → d ≠ a → Q (.ref a) (upd (upd H1 d (.xd (FK.flds ps fl (gg vs)))) a (exo a C (some d)))) : tMkVK C ps ks gg fl t σ H Q := q
/-- an error made -/
def sp_made (K : PySem.W.Frag) (lo hi : Nat) : Sp := fun vs H Q _ => ∃ (k : Nat) (a b : V), vs = [.int k, a, b] ∧ lo ≤ k ∧ k < hi ∧ ∀ p d H', H p = none → H d = none → Same H H' → ErAt K H' p d k a b → Q (.ref p) H'
theorem v_fldA {K : PySem.W.Frag} {H : Hp} {p d : Addr} {k : Nat} {a b v : V} {f : Str} {te : TE} {σ : L2.St} {Q : VK} (FT : Flts K) (h : ErAt K H p d k a b) (hk : k < 34) (hf : (ec k).fl.any (fun q => decide (q.1 = f)) = true) (l : (exF k a b).lookup f = some v) (q : Q v H) : (fun x H1 => ∃ a C d fs v, x = V.ref a ∧ ExV H1 a C d fs ∧ (∃ prog mg nm fl ps, FK.Flt prog K mg nm C fl ps) ∧ PySem.W.findIn K (.ref C) f = some none ∧ fs.lookup f = some v ∧ Q v H1) (.ref p) H := by
  obtain ⟨prog, mg, T⟩ := FT k hk
  refine ⟨p, _, d, _, v, rfl, h, ⟨prog, mg, _, _, _, T⟩, ?_, l, q⟩
  obtain ⟨z, hz, e⟩ := List.any_eq_true.mp hf
  rw [← of_decide_eq_true e]
  exact T.no z hz
theorem v_fld {K : PySem.W.Frag} {H : Hp} {p d : Addr} {k : Nat} {a b v : V} {f : Str} {i : Nat} {σ : L2.St} {Q : VK} (FT : Flts K) (h : ErAt K H p d k a b) (hk : k < 34) (hi : σ[i]? = some (some (.ref p))) (hf : (ec k).fl.any (fun q => decide (q.1 = f)) = true) (l : (exF k a b).lookup f = some v) (q : Q v H) : tXFld K (tVar i) f σ H Q :=
  ⟨.ref p, hi, v_fldA (te := tVar i) (σ := σ) FT h hk hf l q⟩
theorem v_isx {K : PySem.W.Frag} {H : Hp} {p d : Addr} {k : Nat} {a b c : V} {u : Value} {t : Bool} {Q : VK} (FT : Flts K) (h : ErAt K H p d k a b) (hk : k < 34) (hc : ClsV c u) (e : PySem.W.kitOne K (.ref (He.ga K (ec k).x)) u = some t) (q : Q (.bl t) H) : rIsiU K [.ref p, c] H Q := by
  obtain ⟨prog, mg, T⟩ := FT k hk
  exact .inr ⟨p, _, d, _, c, u, t, rfl, h, ⟨prog, mg, _, _, _, T⟩, hc, e, q⟩
theorem kits_of {K : PySem.W.Frag} (h : kitsB K = true) {k : Nat} (hk : k < 34) : (∀ j, j < 34 → PySem.W.kitOne K (.ref (He.ga K (ec k).x)) (.ref (He.ga K (ec j).x)) = some (decide (k = j))) ∧
  PySem.W.kitOne K (.ref (He.ga K (ec k).x)) (.ref (He.ga K "NestError")) = some (decide (k < 29)) ∧ PySem.W.kitOne K (.ref (He.ga K (ec k).x)) (.ref (He.ga K "Unknown")) = some (decide (29 ≤ k ∧ k ≤ 31)) ∧
  PySem.W.kitOne K (.ref (He.ga K (ec k).x)) (.type "ValueError") = some (decide (k < 29)) ∧ PySem.W.kitOne K (.ref (He.ga K (ec k).x)) (.type "LookupError") = some (decide (29 ≤ k ∧ k ≤ 31)) ∧ PySem.W.kitOne K (.ref (He.ga K (ec k).x)) (.type "RuntimeError") = some (decide (31 < k)) ∧
  ∀ t, t ∈ (["KeyError", "IndexError", "NotImplementedError", "ArithmeticError", "TypeError"] : List String) → PySem.W.kitOne K (.ref (He.ga K (ec k).x)) (.type t) = some false := by
  have a := List.all_eq_true.mp h k (List.mem_range.mpr hk)
  simp only [Bool.and_eq_true] at a
  obtain ⟨a1, a2, a3, a4, a5, a6, a7⟩ := a
  exact ⟨fun j hj => of_decide_eq_true (List.all_eq_true.mp a1 j (List.mem_range.mpr hj)), of_decide_eq_true a2, of_decide_eq_true a3, of_decide_eq_true a4, of_decide_eq_true a5, of_decide_eq_true a6, fun t ht => of_decide_eq_true (List.all_eq_true.mp a7 t ht)⟩

end
section
abbrev N_law_marks : List Str := ["e"]
def t_law_marks (K : PySem.W.Frag) : TS :=
  (tRet (tLst (tCons (tCB (rIsiU K) (tCons (tVar 0) (tCons (tC (.ref (He.ga K "BadNest"))) tNil))) (tCons (tCB (rIsiU K) (tCons (tVar 0) (tCons (tC (.ref (He.ga K "BadPaper"))) tNil))) (tCons (tCB (rIsiU K) (tCons (tVar 0) (tCons (tC (.ref (He.ga K "BadLog"))) tNil))) (tCons (tCB (rIsiU K) (tCons (tVar 0) (tCons (tC (.ref (He.ga K "BadScript"))) tNil))) (tCons (tCB (rIsiU K) (tCons (tVar 0) (tCons (tC (.ref (He.ga K "InvalidText"))) tNil))) (tCons (tCB (rIsiU K) (tCons (tVar 0) (tCons (tC (.ref (He.ga K "InvalidNumber"))) tNil))) (tCons (tCB (rIsiU K) (tCons (tVar 0) (tCons (tC (.ref (He.ga K "InvalidPowers"))) tNil))) (tCons (tCB (rIsiU K) (tCons (tVar 0) (tCons (tC (.ref (He.ga K "InvalidTouch"))) tNil))) (tCons (tCB (rIsiU K) (tCons (tVar 0) (tCons (tC (.ref (He.ga K "InvalidPoint"))) tNil))) (tCons (tCB (rIsiU K) (tCons (tVar 0) (tCons (tC (.ref (He.ga K "InvalidPoints"))) tNil))) (tCons (tCB (rIsiU K) (tCons (tVar 0) (tCons (tC (.ref (He.ga K "InvalidCell"))) tNil))) (tCons (tCB (rIsiU K) (tCons (tVar 0) (tCons (tC (.ref (He.ga K "InvalidRows"))) tNil))) (tCons (tCB (rIsiU K) (tCons (tVar 0) (tCons (tC (.ref (He.ga K "InvalidWeights"))) tNil))) (tCons (tCB (rIsiU K) (tCons (tVar 0) (tCons (tC (.ref (He.ga K "InvalidSides"))) tNil))) (tCons (tCB (rIsiU K) (tCons (tVar 0) (tCons (tC (.ref (He.ga K "InvalidPieces"))) tNil))) (tCons (tCB (rIsiU K) (tCons (tVar 0) (tCons (tC (.ref (He.ga K "InvalidEntries"))) tNil))) (tCons (tCB (rIsiU K) (tCons (tVar 0) (tCons (tC (.ref (He.ga K "InvalidTables"))) tNil))) (tCons (tCB (rIsiU K) (tCons (tVar 0) (tCons (tC (.ref (He.ga K "InvalidRooms"))) tNil))) (tCons (tCB (rIsiU K) (tCons (tVar 0) (tCons (tC (.ref (He.ga K "InvalidName"))) tNil))) (tCons (tCB (rIsiU K) (tCons (tVar 0) (tCons (tC (.ref (He.ga K "SharedName"))) tNil))) (tCons (tCB (rIsiU K) (tCons (tVar 0) (tCons (tC (.ref (He.ga K "OtherNest"))) tNil))) (tCons (tCB (rIsiU K) (tCons (tVar 0) (tCons (tC (.ref (He.ga K "OtherWidth"))) tNil))) (tCons (tCB (rIsiU K) (tCons (tVar 0) (tCons (tC (.ref (He.ga K "Unseen"))) tNil))) (tCons (tCB (rIsiU K) (tCons (tVar 0) (tCons (tC (.ref (He.ga K "LargeBook"))) tNil))) (tCons (tCB (rIsiU K) (tCons (tVar 0) (tCons (tC (.ref (He.ga K "TooNarrow"))) tNil))) (tCons (tCB (rIsiU K) (tCons (tVar 0) (tCons (tC (.ref (He.ga K "Full"))) tNil))) (tCons (tCB (rIsiU K) (tCons (tVar 0) (tCons (tC (.ref (He.ga K "Held"))) tNil))) (tCons (tCB (rIsiU K) (tCons (tVar 0) (tCons (tC (.ref (He.ga K "NotHeld"))) tNil))) (tCons (tCB (rIsiU K) (tCons (tVar 0) (tCons (tC (.ref (He.ga K "Done"))) tNil))) (tCons (tCB (rIsiU K) (tCons (tVar 0) (tCons (tC (.ref (He.ga K "UnknownName"))) tNil))) (tCons (tCB (rIsiU K) (tCons (tVar 0) (tCons (tC (.ref (He.ga K "UnknownCounter"))) tNil))) (tCons (tCB (rIsiU K) (tCons (tVar 0) (tCons (tC (.ref (He.ga K "NoRun"))) tNil))) (tCons (tCB (rIsiU K) (tCons (tVar 0) (tCons (tC (.ref (He.ga K "NothingLeft"))) tNil))) (tCons (tCB (rIsiU K) (tCons (tVar 0) (tCons (tC (.ref (He.ga K "NoTrial"))) tNil))) tNil))))))))))))))))))))))))))))))))))))
def sp_law_marks (K : PySem.W.Frag) : Sp := fun vs H Q _ => ∃ (k : Nat) (p d : Addr) (a b : V), vs = [.ref p] ∧ k < 34 ∧ ErAt K H p d k a b ∧ ∀ q, H q = none → Q (.ref q) (upd H q (.lst ((List.range 34).map fun j => .bl (decide (k = j)))))
theorem pure_law_marks {K : PySem.W.Frag} (FT : Flts K) (KB : kitsB K = true) (vs : List V) (H : Hp) (Q : VK) (E : XK) (h : sp_law_marks K vs H Q E) : t_law_marks K { nx := fun _ H' => Q .non H', rt := Q } (start N_law_marks vs) H := by
  obtain ⟨k, p, d, a, b, rfl, hk, er, q⟩ := h
  have ki := (kits_of KB hk).1
  show t_law_marks K _ [some (.ref p)] H
  unfold t_law_marks
  walk_at "vc"
  refine v_isx FT er hk (.own _) (ki 0 (by decide)) ?_
  walk_at "vc"
  refine v_isx FT er hk (.own _) (ki 1 (by decide)) ?_
  walk_at "vc"
  refine v_isx FT er hk (.own _) (ki 2 (by decide)) ?_
  walk_at "vc"
  refine v_isx FT er hk (.own _) (ki 3 (by decide)) ?_
  walk_at "vc"
  refine v_isx FT er hk (.own _) (ki 4 (by decide)) ?_
  walk_at "vc"
  refine v_isx FT er hk (.own _) (ki 5 (by decide)) ?_
  walk_at "vc"
  refine v_isx FT er hk (.own _) (ki 6 (by decide)) ?_
  walk_at "vc"
  refine v_isx FT er hk (.own _) (ki 7 (by decide)) ?_
  walk_at "vc"
  refine v_isx FT er hk (.own _) (ki 8 (by decide)) ?_
  walk_at "vc"
  refine v_isx FT er hk (.own _) (ki 9 (by decide)) ?_
  walk_at "vc"
  refine v_isx FT er hk (.own _) (ki 10 (by decide)) ?_
  walk_at "vc"
  refine v_isx FT er hk (.own _) (ki 11 (by decide)) ?_
  walk_at "vc"
  refine v_isx FT er hk (.own _) (ki 12 (by decide)) ?_
  walk_at "vc"
  refine v_isx FT er hk (.own _) (ki 13 (by decide)) ?_
  walk_at "vc"
  refine v_isx FT er hk (.own _) (ki 14 (by decide)) ?_
  walk_at "vc"
  refine v_isx FT er hk (.own _) (ki 15 (by decide)) ?_
  walk_at "vc"
  refine v_isx FT er hk (.own _) (ki 16 (by decide)) ?_
  walk_at "vc"
  refine v_isx FT er hk (.own _) (ki 17 (by decide)) ?_
  walk_at "vc"
  refine v_isx FT er hk (.own _) (ki 18 (by decide)) ?_
  walk_at "vc"
  refine v_isx FT er hk (.own _) (ki 19 (by decide)) ?_
  walk_at "vc"
  refine v_isx FT er hk (.own _) (ki 20 (by decide)) ?_
  walk_at "vc"
  refine v_isx FT er hk (.own _) (ki 21 (by decide)) ?_
  walk_at "vc"
  refine v_isx FT er hk (.own _) (ki 22 (by decide)) ?_
  walk_at "vc"
  refine v_isx FT er hk (.own _) (ki 23 (by decide)) ?_
  walk_at "vc"
  refine v_isx FT er hk (.own _) (ki 24 (by decide)) ?_
  walk_at "vc"
  refine v_isx FT er hk (.own _) (ki 25 (by decide)) ?_
  walk_at "vc"
  refine v_isx FT er hk (.own _) (ki 26 (by decide)) ?_
  walk_at "vc"
  refine v_isx FT er hk (.own _) (ki 27 (by decide)) ?_
  walk_at "vc"
  refine v_isx FT er hk (.own _) (ki 28 (by decide)) ?_
  walk_at "vc"
  refine v_isx FT er hk (.own _) (ki 29 (by decide)) ?_
  walk_at "vc"
  refine v_isx FT er hk (.own _) (ki 30 (by decide)) ?_
  walk_at "vc"
  refine v_isx FT er hk (.own _) (ki 31 (by decide)) ?_
  walk_at "vc"
  refine v_isx FT er hk (.own _) (ki 32 (by decide)) ?_
  walk_at "vc"
  refine v_isx FT er hk (.own _) (ki 33 (by decide)) ?_
  walk_at "vc"
  exact ⟨by show 34 ≤ sizeLine; rw [sizeLine_eq]; decide, q⟩

end
section
abbrev N_law_kept_one : List Str := ["k", "e"]
def t_law_kept_one (K : PySem.W.Frag) : TS :=
  (tSeq (tIfS (tTest (tOp (rEqU K) (tVar 0) (tC (.int 0)))) (tRet (tLst (tCons (tXFld K (tVar 1) "line") (tCons (tXFld K (tVar 1) "why") tNil)))) tNext)
    (tSeq (tIfS (tTest (tOp (rEqU K) (tVar 0) (tC (.int 1)))) (tRet (tLst (tCons (tXFld K (tVar 1) "line") (tCons (tXFld K (tVar 1) "why") tNil)))) tNext)
    (tSeq (tIfS (tTest (tOp (rEqU K) (tVar 0) (tC (.int 2)))) (tRet (tLst (tCons (tXFld K (tVar 1) "line") (tCons (tXFld K (tVar 1) "why") tNil)))) tNext)
    (tSeq (tIfS (tTest (tOp (rEqU K) (tVar 0) (tC (.int 3)))) (tRet (tLst (tCons (tXFld K (tVar 1) "line") (tCons (tXFld K (tVar 1) "why") tNil)))) tNext)
    (tSeq (tIfS (tTest (tOp (rEqU K) (tVar 0) (tC (.int 4)))) (tRet (tLst (tCons (tXFld K (tVar 1) "text") tNil))) tNext)
    (tSeq (tIfS (tTest (tOp (rEqU K) (tVar 0) (tC (.int 5)))) (tRet (tLst (tCons (tXFld K (tVar 1) "value") tNil))) tNext)
    (tSeq (tIfS (tTest (tOp (rEqU K) (tVar 0) (tC (.int 6)))) (tRet (tLst (tCons (tXFld K (tVar 1) "at") tNil))) tNext)
    (tSeq (tIfS (tTest (tOp (rEqU K) (tVar 0) (tC (.int 7)))) (tRet (tLst (tCons (tXFld K (tVar 1) "touch") tNil))) tNext)
    (tSeq (tIfS (tTest (tOp (rEqU K) (tVar 0) (tC (.int 8)))) (tRet (tLst (tCons (tXFld K (tVar 1) "point") tNil))) tNext)
    (tSeq (tIfS (tTest (tOp (rEqU K) (tVar 0) (tC (.int 9)))) (tRet (tLst (tCons (tXFld K (tVar 1) "at") tNil))) tNext)
    (tSeq (tIfS (tTest (tOp (rEqU K) (tVar 0) (tC (.int 10)))) (tRet (tLst (tCons (tXFld K (tVar 1) "cell") tNil))) tNext)
    (tSeq (tIfS (tTest (tOp (rEqU K) (tVar 0) (tC (.int 11)))) (tRet (tLst (tCons (tXFld K (tVar 1) "at") tNil))) tNext)
    (tSeq (tIfS (tTest (tOp (rEqU K) (tVar 0) (tC (.int 12)))) (tRet (tLst (tCons (tXFld K (tVar 1) "at") tNil))) tNext)
    (tSeq (tIfS (tTest (tOp (rEqU K) (tVar 0) (tC (.int 13)))) (tRet (tLst (tCons (tXFld K (tVar 1) "at") tNil))) tNext)
    (tSeq (tIfS (tTest (tOp (rEqU K) (tVar 0) (tC (.int 14)))) (tRet (tLst (tCons (tXFld K (tVar 1) "at") tNil))) tNext)
    (tSeq (tIfS (tTest (tOp (rEqU K) (tVar 0) (tC (.int 15)))) (tRet (tLst (tCons (tXFld K (tVar 1) "at") tNil))) tNext)
    (tRet (tLst (tCons (tXFld K (tVar 1) "at") tNil)))))))))))))))))))
def sp_law_kept_one (K : PySem.W.Frag) : Sp := fun vs H Q _ => ∃ (k : Nat) (p d : Addr) (a b : V), vs = [.int k, .ref p] ∧ 0 ≤ k ∧ k < 17 ∧ ErAt K H p d k a b ∧ ∀ q, H q = none → Q (.ref q) (upd H q (.lst ([a, b].take (ec k).ps.length)))
theorem pure_law_kept_one {K : PySem.W.Frag} (FT : Flts K) (vs : List V) (H : Hp) (Q : VK) (E : XK) (h : sp_law_kept_one K vs H Q E) : t_law_kept_one K { nx := fun _ H' => Q .non H', rt := Q } (start N_law_kept_one vs) H := by
  obtain ⟨k, p, d, a, b, rfl, h1, h2, er, q⟩ := h
  show t_law_kept_one K _ [some (.int k), some (.ref p)] H
  unfold t_law_kept_one
  walk_at "vc"
  refine ite2 (fun c => ?_) (fun c => ?_)
  · have e : k = 0 := by have := of_decide_eq_true c; omega
    subst e
    walk_at "vc"
    refine v_fld FT er (by decide) rfl (by decide) rfl ?_
    walk_at "vc"
    refine v_fld FT er (by decide) rfl (by decide) rfl ?_
    walk_at "vc"
    exact ⟨by show 2 ≤ sizeLine; rw [sizeLine_eq]; decide, q⟩
  have e0 : k ≠ 0 := by intro z; exact c (by simp [z])
  clear c
  walk_at "vc"
  refine ite2 (fun c => ?_) (fun c => ?_)
  · have e : k = 1 := by have := of_decide_eq_true c; omega
    subst e
    walk_at "vc"
    refine v_fld FT er (by decide) rfl (by decide) rfl ?_
    walk_at "vc"
    refine v_fld FT er (by decide) rfl (by decide) rfl ?_
    walk_at "vc"
    exact ⟨by show 2 ≤ sizeLine; rw [sizeLine_eq]; decide, q⟩
  have e1 : k ≠ 1 := by intro z; exact c (by simp [z])
  clear c
  walk_at "vc"
  refine ite2 (fun c => ?_) (fun c => ?_)
  · have e : k = 2 := by have := of_decide_eq_true c; omega
    subst e
    walk_at "vc"
    refine v_fld FT er (by decide) rfl (by decide) rfl ?_
    walk_at "vc"
    refine v_fld FT er (by decide) rfl (by decide) rfl ?_
    walk_at "vc"
    exact ⟨by show 2 ≤ sizeLine; rw [sizeLine_eq]; decide, q⟩
  have e2 : k ≠ 2 := by intro z; exact c (by simp [z])
  clear c
  walk_at "vc"
  refine ite2 (fun c => ?_) (fun c => ?_)
  · have e : k = 3 := by have := of_decide_eq_true c; omega
    subst e
    walk_at "vc"
    refine v_fld FT er (by decide) rfl (by decide) rfl ?_
    walk_at "vc"
    refine v_fld FT er (by decide) rfl (by decide) rfl ?_
    walk_at "vc"
    exact ⟨by show 2 ≤ sizeLine; rw [sizeLine_eq]; decide, q⟩
  have e3 : k ≠ 3 := by intro z; exact c (by simp [z])
  clear c
  walk_at "vc"
  refine ite2 (fun c => ?_) (fun c => ?_)
  · have e : k = 4 := by have := of_decide_eq_true c; omega
    subst e
    walk_at "vc"
    refine v_fld FT er (by decide) rfl (by decide) rfl ?_
    walk_at "vc"
    exact ⟨by show 1 ≤ sizeLine; rw [sizeLine_eq]; decide, q⟩
  have e4 : k ≠ 4 := by intro z; exact c (by simp [z])
  clear c
  walk_at "vc"
  refine ite2 (fun c => ?_) (fun c => ?_)
  · have e : k = 5 := by have := of_decide_eq_true c; omega
    subst e
    walk_at "vc"
    refine v_fld FT er (by decide) rfl (by decide) rfl ?_
    walk_at "vc"
    exact ⟨by show 1 ≤ sizeLine; rw [sizeLine_eq]; decide, q⟩
  have e5 : k ≠ 5 := by intro z; exact c (by simp [z])
  clear c
  walk_at "vc"
  refine ite2 (fun c => ?_) (fun c => ?_)
  · have e : k = 6 := by have := of_decide_eq_true c; omega
    subst e
    walk_at "vc"
    refine v_fld FT er (by decide) rfl (by decide) rfl ?_
    walk_at "vc"
    exact ⟨by show 1 ≤ sizeLine; rw [sizeLine_eq]; decide, q⟩
  have e6 : k ≠ 6 := by intro z; exact c (by simp [z])
  clear c
  walk_at "vc"
  refine ite2 (fun c => ?_) (fun c => ?_)
  · have e : k = 7 := by have := of_decide_eq_true c; omega
    subst e
    walk_at "vc"
    refine v_fld FT er (by decide) rfl (by decide) rfl ?_
    walk_at "vc"
    exact ⟨by show 1 ≤ sizeLine; rw [sizeLine_eq]; decide, q⟩
  have e7 : k ≠ 7 := by intro z; exact c (by simp [z])
  clear c
  walk_at "vc"
  refine ite2 (fun c => ?_) (fun c => ?_)
  · have e : k = 8 := by have := of_decide_eq_true c; omega
    subst e
    walk_at "vc"
    refine v_fld FT er (by decide) rfl (by decide) rfl ?_
    walk_at "vc"
    exact ⟨by show 1 ≤ sizeLine; rw [sizeLine_eq]; decide, q⟩
  have e8 : k ≠ 8 := by intro z; exact c (by simp [z])
  clear c
  walk_at "vc"
  refine ite2 (fun c => ?_) (fun c => ?_)
  · have e : k = 9 := by have := of_decide_eq_true c; omega
    subst e
    walk_at "vc"
    refine v_fld FT er (by decide) rfl (by decide) rfl ?_
    walk_at "vc"
    exact ⟨by show 1 ≤ sizeLine; rw [sizeLine_eq]; decide, q⟩
  have e9 : k ≠ 9 := by intro z; exact c (by simp [z])
  clear c
  walk_at "vc"
  refine ite2 (fun c => ?_) (fun c => ?_)
  · have e : k = 10 := by have := of_decide_eq_true c; omega
    subst e
    walk_at "vc"
    refine v_fld FT er (by decide) rfl (by decide) rfl ?_
    walk_at "vc"
    exact ⟨by show 1 ≤ sizeLine; rw [sizeLine_eq]; decide, q⟩
  have e10 : k ≠ 10 := by intro z; exact c (by simp [z])
  clear c
  walk_at "vc"
  refine ite2 (fun c => ?_) (fun c => ?_)
  · have e : k = 11 := by have := of_decide_eq_true c; omega
    subst e
    walk_at "vc"
    refine v_fld FT er (by decide) rfl (by decide) rfl ?_
    walk_at "vc"
    exact ⟨by show 1 ≤ sizeLine; rw [sizeLine_eq]; decide, q⟩
  have e11 : k ≠ 11 := by intro z; exact c (by simp [z])
  clear c
  walk_at "vc"
  refine ite2 (fun c => ?_) (fun c => ?_)
  · have e : k = 12 := by have := of_decide_eq_true c; omega
    subst e
    walk_at "vc"
    refine v_fld FT er (by decide) rfl (by decide) rfl ?_
    walk_at "vc"
    exact ⟨by show 1 ≤ sizeLine; rw [sizeLine_eq]; decide, q⟩
  have e12 : k ≠ 12 := by intro z; exact c (by simp [z])
  clear c
  walk_at "vc"
  refine ite2 (fun c => ?_) (fun c => ?_)
  · have e : k = 13 := by have := of_decide_eq_true c; omega
    subst e
    walk_at "vc"
    refine v_fld FT er (by decide) rfl (by decide) rfl ?_
    walk_at "vc"
    exact ⟨by show 1 ≤ sizeLine; rw [sizeLine_eq]; decide, q⟩
  have e13 : k ≠ 13 := by intro z; exact c (by simp [z])
  clear c
  walk_at "vc"
  refine ite2 (fun c => ?_) (fun c => ?_)
  · have e : k = 14 := by have := of_decide_eq_true c; omega
    subst e
    walk_at "vc"
    refine v_fld FT er (by decide) rfl (by decide) rfl ?_
    walk_at "vc"
    exact ⟨by show 1 ≤ sizeLine; rw [sizeLine_eq]; decide, q⟩
  have e14 : k ≠ 14 := by intro z; exact c (by simp [z])
  clear c
  walk_at "vc"
  refine ite2 (fun c => ?_) (fun c => ?_)
  · have e : k = 15 := by have := of_decide_eq_true c; omega
    subst e
    walk_at "vc"
    refine v_fld FT er (by decide) rfl (by decide) rfl ?_
    walk_at "vc"
    exact ⟨by show 1 ≤ sizeLine; rw [sizeLine_eq]; decide, q⟩
  have e15 : k ≠ 15 := by intro z; exact c (by simp [z])
  clear c
  walk_at "vc"
  have e : k = 16 := by omega
  clear e0 e1 e2 e3 e4 e5 e6 e7 e8 e9 e10 e11 e12 e13 e14 e15
  subst e
  walk_at "vc"
  refine v_fld FT er (by decide) rfl (by decide) rfl ?_
  walk_at "vc"
  exact ⟨by show 1 ≤ sizeLine; rw [sizeLine_eq]; decide, q⟩

end
section
abbrev N_law_kept_two : List Str := ["k", "e"]
def t_law_kept_two (K : PySem.W.Frag) : TS :=
  (tSeq (tIfS (tTest (tOp (rEqU K) (tVar 0) (tC (.int 17)))) (tRet (tLst (tCons (tXFld K (tVar 1) "array") tNil))) tNext)
    (tSeq (tIfS (tTest (tOp (rEqU K) (tVar 0) (tC (.int 18)))) (tRet (tLst (tCons (tXFld K (tVar 1) "name") tNil))) tNext)
    (tSeq (tIfS (tTest (tOp (rEqU K) (tVar 0) (tC (.int 19)))) (tRet (tLst (tCons (tXFld K (tVar 1) "name") tNil))) tNext)
    (tSeq (tIfS (tTest (tOp (rEqU K) (tVar 0) (tC (.int 20)))) (tRet (tLst tNil)) tNext)
    (tSeq (tIfS (tTest (tOp (rEqU K) (tVar 0) (tC (.int 21)))) (tRet (tLst (tCons (tXFld K (tVar 1) "wide") tNil))) tNext)
    (tSeq (tIfS (tTest (tOp (rEqU K) (tVar 0) (tC (.int 22)))) (tRet (tLst (tCons (tXFld K (tVar 1) "rows") tNil))) tNext)
    (tSeq (tIfS (tTest (tOp (rEqU K) (tVar 0) (tC (.int 23)))) (tRet (tLst tNil)) tNext)
    (tSeq (tIfS (tTest (tOp (rEqU K) (tVar 0) (tC (.int 24)))) (tRet (tLst (tCons (tXFld K (tVar 1) "room") tNil))) tNext)
    (tSeq (tIfS (tTest (tOp (rEqU K) (tVar 0) (tC (.int 25)))) (tRet (tLst (tCons (tXFld K (tVar 1) "room") tNil))) tNext)
    (tSeq (tIfS (tTest (tOp (rEqU K) (tVar 0) (tC (.int 26)))) (tRet (tLst (tCons (tXFld K (tVar 1) "cell") tNil))) tNext)
    (tSeq (tIfS (tTest (tOp (rEqU K) (tVar 0) (tC (.int 27)))) (tRet (tLst (tCons (tXFld K (tVar 1) "cell") tNil))) tNext)
    (tSeq (tIfS (tTest (tOp (rEqU K) (tVar 0) (tC (.int 28)))) (tRet (tLst (tCons (tXFld K (tVar 1) "point") tNil))) tNext)
    (tSeq (tIfS (tTest (tOp (rEqU K) (tVar 0) (tC (.int 29)))) (tRet (tLst (tCons (tXFld K (tVar 1) "name") tNil))) tNext)
    (tSeq (tIfS (tTest (tOp (rEqU K) (tVar 0) (tC (.int 30)))) (tRet (tLst (tCons (tXFld K (tVar 1) "name") tNil))) tNext)
    (tSeq (tIfS (tTest (tOp (rEqU K) (tVar 0) (tC (.int 31)))) (tRet (tLst (tCons (tXFld K (tVar 1) "name") tNil))) tNext)
    (tSeq (tIfS (tTest (tOp (rEqU K) (tVar 0) (tC (.int 32)))) (tRet (tLst (tCons (tXFld K (tVar 1) "many") tNil))) tNext)
    (tRet (tLst tNil))))))))))))))))))
def sp_law_kept_two (K : PySem.W.Frag) : Sp := fun vs H Q _ => ∃ (k : Nat) (p d : Addr) (a b : V), vs = [.int k, .ref p] ∧ 17 ≤ k ∧ k < 34 ∧ ErAt K H p d k a b ∧ ∀ q, H q = none → Q (.ref q) (upd H q (.lst ([a, b].take (ec k).ps.length)))
theorem pure_law_kept_two {K : PySem.W.Frag} (FT : Flts K) (vs : List V) (H : Hp) (Q : VK) (E : XK) (h : sp_law_kept_two K vs H Q E) : t_law_kept_two K { nx := fun _ H' => Q .non H', rt := Q } (start N_law_kept_two vs) H := by
  obtain ⟨k, p, d, a, b, rfl, h1, h2, er, q⟩ := h
  show t_law_kept_two K _ [some (.int k), some (.ref p)] H
  unfold t_law_kept_two
  walk_at "vc"
  refine ite2 (fun c => ?_) (fun c => ?_)
  · have e : k = 17 := by have := of_decide_eq_true c; omega
    subst e
    walk_at "vc"
    refine v_fld FT er (by decide) rfl (by decide) rfl ?_
    walk_at "vc"
    exact ⟨by show 1 ≤ sizeLine; rw [sizeLine_eq]; decide, q⟩
  have e17 : k ≠ 17 := by intro z; exact c (by simp [z])
  clear c
  walk_at "vc"
  refine ite2 (fun c => ?_) (fun c => ?_)
  · have e : k = 18 := by have := of_decide_eq_true c; omega
    subst e
    walk_at "vc"
    refine v_fld FT er (by decide) rfl (by decide) rfl ?_
    walk_at "vc"
    exact ⟨by show 1 ≤ sizeLine; rw [sizeLine_eq]; decide, q⟩
  have e18 : k ≠ 18 := by intro z; exact c (by simp [z])
  clear c
  walk_at "vc"
  refine ite2 (fun c => ?_) (fun c => ?_)
  · have e : k = 19 := by have := of_decide_eq_true c; omega
    subst e
    walk_at "vc"
    refine v_fld FT er (by decide) rfl (by decide) rfl ?_
    walk_at "vc"
    exact ⟨by show 1 ≤ sizeLine; rw [sizeLine_eq]; decide, q⟩
  have e19 : k ≠ 19 := by intro z; exact c (by simp [z])
  clear c
  walk_at "vc"
  refine ite2 (fun c => ?_) (fun c => ?_)
  · have e : k = 20 := by have := of_decide_eq_true c; omega
    subst e
    walk_at "vc"
    exact ⟨by show 0 ≤ sizeLine; rw [sizeLine_eq]; decide, q⟩
  have e20 : k ≠ 20 := by intro z; exact c (by simp [z])
  clear c
  walk_at "vc"
  refine ite2 (fun c => ?_) (fun c => ?_)
  · have e : k = 21 := by have := of_decide_eq_true c; omega
    subst e
    walk_at "vc"
    refine v_fld FT er (by decide) rfl (by decide) rfl ?_
    walk_at "vc"
    exact ⟨by show 1 ≤ sizeLine; rw [sizeLine_eq]; decide, q⟩
  have e21 : k ≠ 21 := by intro z; exact c (by simp [z])
  clear c
  walk_at "vc"
  refine ite2 (fun c => ?_) (fun c => ?_)
  · have e : k = 22 := by have := of_decide_eq_true c; omega
    subst e
    walk_at "vc"
    refine v_fld FT er (by decide) rfl (by decide) rfl ?_
    walk_at "vc"
    exact ⟨by show 1 ≤ sizeLine; rw [sizeLine_eq]; decide, q⟩
  have e22 : k ≠ 22 := by intro z; exact c (by simp [z])
  clear c
  walk_at "vc"
  refine ite2 (fun c => ?_) (fun c => ?_)
  · have e : k = 23 := by have := of_decide_eq_true c; omega
    subst e
    walk_at "vc"
    exact ⟨by show 0 ≤ sizeLine; rw [sizeLine_eq]; decide, q⟩
  have e23 : k ≠ 23 := by intro z; exact c (by simp [z])
  clear c
  walk_at "vc"
  refine ite2 (fun c => ?_) (fun c => ?_)
  · have e : k = 24 := by have := of_decide_eq_true c; omega
    subst e
    walk_at "vc"
    refine v_fld FT er (by decide) rfl (by decide) rfl ?_
    walk_at "vc"
    exact ⟨by show 1 ≤ sizeLine; rw [sizeLine_eq]; decide, q⟩
  have e24 : k ≠ 24 := by intro z; exact c (by simp [z])
  clear c
  walk_at "vc"
  refine ite2 (fun c => ?_) (fun c => ?_)
  · have e : k = 25 := by have := of_decide_eq_true c; omega
    subst e
    walk_at "vc"
    refine v_fld FT er (by decide) rfl (by decide) rfl ?_
    walk_at "vc"
    exact ⟨by show 1 ≤ sizeLine; rw [sizeLine_eq]; decide, q⟩
  have e25 : k ≠ 25 := by intro z; exact c (by simp [z])
  clear c
  walk_at "vc"
  refine ite2 (fun c => ?_) (fun c => ?_)
  · have e : k = 26 := by have := of_decide_eq_true c; omega
    subst e
    walk_at "vc"
    refine v_fld FT er (by decide) rfl (by decide) rfl ?_
    walk_at "vc"
    exact ⟨by show 1 ≤ sizeLine; rw [sizeLine_eq]; decide, q⟩
  have e26 : k ≠ 26 := by intro z; exact c (by simp [z])
  clear c
  walk_at "vc"
  refine ite2 (fun c => ?_) (fun c => ?_)
  · have e : k = 27 := by have := of_decide_eq_true c; omega
    subst e
    walk_at "vc"
    refine v_fld FT er (by decide) rfl (by decide) rfl ?_
    walk_at "vc"
    exact ⟨by show 1 ≤ sizeLine; rw [sizeLine_eq]; decide, q⟩
  have e27 : k ≠ 27 := by intro z; exact c (by simp [z])
  clear c
  walk_at "vc"
  refine ite2 (fun c => ?_) (fun c => ?_)
  · have e : k = 28 := by have := of_decide_eq_true c; omega
    subst e
    walk_at "vc"
    refine v_fld FT er (by decide) rfl (by decide) rfl ?_
    walk_at "vc"
    exact ⟨by show 1 ≤ sizeLine; rw [sizeLine_eq]; decide, q⟩
  have e28 : k ≠ 28 := by intro z; exact c (by simp [z])
  clear c
  walk_at "vc"
  refine ite2 (fun c => ?_) (fun c => ?_)
  · have e : k = 29 := by have := of_decide_eq_true c; omega
    subst e
    walk_at "vc"
    refine v_fld FT er (by decide) rfl (by decide) rfl ?_
    walk_at "vc"
    exact ⟨by show 1 ≤ sizeLine; rw [sizeLine_eq]; decide, q⟩
  have e29 : k ≠ 29 := by intro z; exact c (by simp [z])
  clear c
  walk_at "vc"
  refine ite2 (fun c => ?_) (fun c => ?_)
  · have e : k = 30 := by have := of_decide_eq_true c; omega
    subst e
    walk_at "vc"
    refine v_fld FT er (by decide) rfl (by decide) rfl ?_
    walk_at "vc"
    exact ⟨by show 1 ≤ sizeLine; rw [sizeLine_eq]; decide, q⟩
  have e30 : k ≠ 30 := by intro z; exact c (by simp [z])
  clear c
  walk_at "vc"
  refine ite2 (fun c => ?_) (fun c => ?_)
  · have e : k = 31 := by have := of_decide_eq_true c; omega
    subst e
    walk_at "vc"
    refine v_fld FT er (by decide) rfl (by decide) rfl ?_
    walk_at "vc"
    exact ⟨by show 1 ≤ sizeLine; rw [sizeLine_eq]; decide, q⟩
  have e31 : k ≠ 31 := by intro z; exact c (by simp [z])
  clear c
  walk_at "vc"
  refine ite2 (fun c => ?_) (fun c => ?_)
  · have e : k = 32 := by have := of_decide_eq_true c; omega
    subst e
    walk_at "vc"
    refine v_fld FT er (by decide) rfl (by decide) rfl ?_
    walk_at "vc"
    exact ⟨by show 1 ≤ sizeLine; rw [sizeLine_eq]; decide, q⟩
  have e32 : k ≠ 32 := by intro z; exact c (by simp [z])
  clear c
  walk_at "vc"
  have e : k = 33 := by omega
  clear e17 e18 e19 e20 e21 e22 e23 e24 e25 e26 e27 e28 e29 e30 e31 e32
  subst e
  walk_at "vc"
  exact ⟨by show 0 ≤ sizeLine; rw [sizeLine_eq]; decide, q⟩

end
section
abbrev N_law_draw : List Str := ["bag", "size", "item", "digit", "mix"]
def t_law_draw (K : PySem.W.Frag) : TS :=
  (tSeq (tIfS (tTest (tOp rLtI (tVar 1) (tC (.int 2)))) (tRet (tC (.int 0))) tNext)
    (tSeq (tAsg (tOp (rAddU K) (tOp (rIx K) (tVar 0) (tC (.int 4))) (tC (.int 1))) (gSub (tVar 0) (tC (.int 4)) rSetL))
    (tMid (tIfS (tAnd (tTest (tOp (rEqU K) (tOp (rIx K) (tVar 0) (tC (.int 2))) (tC (.int 0)))) (tTest (tOp rLtI (tOp (rIx K) (tVar 0) (tC (.int 1))) (tCB (rLen K) (tCons (tOp (rIx K) (tVar 0) (tC (.int 0))) tNil))))) (tSeq (tAsg (tCB rInt1 (tCons (tOp (rIx K) (tOp (rIx K) (tVar 0) (tC (.int 0))) (tOp (rIx K) (tVar 0) (tC (.int 1)))) tNil)) (gName 2))
    (tSeq (tAsg (tOp (rAddU K) (tOp (rIx K) (tVar 0) (tC (.int 1))) (tC (.int 1))) (gSub (tVar 0) (tC (.int 1)) rSetL))
    (tIfS (tTest (tOp rGeI (tVar 2) (tOp rPowU (tC (.int 10)) (tC (.int 18))))) (tAsg (tVar 2) (gSub (tVar 0) (tC (.int 2)) rSetL)) (tAsg (tOp rModU (tCB rInt1 (tCons (tOp (rAddU K) (tOp (rAddU K) (tOp rMulU (tOp (rIx K) (tVar 0) (tC (.int 3))) (tC (.int 50021))) (tOp rMulU (tOp rModU (tCB rInt1 (tCons (tVar 2) tNil)) (tC (.int 2147483563))) (tC (.int 30013)))) (tC (.int 223))) tNil)) (tC (.int 2147483647))) (gSub (tVar 0) (tC (.int 3)) rSetL))))) tNext)
    (tSeq (tIfS (tTest (tOp rGtI (tOp (rIx K) (tVar 0) (tC (.int 2))) (tC (.int 0)))) (tSeq (tAsg (tOp rModU (tCB rInt1 (tCons (tOp (rIx K) (tVar 0) (tC (.int 2))) tNil)) (tVar 1)) (gName 3))
    (tSeq (tAsg (tOp rDivU (tCB rInt1 (tCons (tOp (rIx K) (tVar 0) (tC (.int 2))) tNil)) (tVar 1)) (gSub (tVar 0) (tC (.int 2)) rSetL))
    (tRet (tVar 3)))) tNext)
    (tSeq (tAsg (tCB rInt1 (tCons (tOp (rIx K) (tVar 0) (tC (.int 3))) tNil)) (gName 4))
    (tSeq (tAsg (tOp rModU (tCB rInt1 (tCons (tOp (rAddU K) (tOp (rAddU K) (tOp (rAddU K) (tOp rPowU (tVar 4) (tC (.int 3))) (tOp rMulU (tVar 4) (tC (.int 49999)))) (tOp rMulU (tOp (rIx K) (tVar 0) (tC (.int 4))) (tC (.int 1299721)))) (tC (.int 70001))) tNil)) (tC (.int 2147483647))) (gSub (tVar 0) (tC (.int 3)) rSetL))
    (tRet (tOp rModU (tCB rInt1 (tCons (tOp (rAddU K) (tOp rDivU (tOp (rIx K) (tVar 0) (tC (.int 3))) (tC (.int 103))) (tOp rMulU (tOp rModU (tCB rInt1 (tCons (tOp (rIx K) (tVar 0) (tC (.int 3))) tNil)) (tC (.int 7901))) (tC (.int 71)))) tNil)) (tVar 1)))))))))
def sp_law_draw (K : PySem.W.Frag) : Sp := fun vs H Q _ => ∃ b n g, vs = [.ref b, .int n] ∧ Bag K H b g ∧ n < 1267650600228229401496703205376 ∧ ∀ d H', 0 ≤ d → (d < n ∨ d = 0) → Bag K H' b g → Kp b H H' → Q (.int d) H'
theorem pure_law_draw {K : PySem.W.Frag} (vs : List V) (H : Hp) (Q : VK) (E : XK) (h : sp_law_draw K vs H Q E) : t_law_draw K { nx := fun _ H' => Q .non H', rt := Q } (start N_law_draw vs) H := by
  obtain ⟨b, z, ⟨c, xs⟩, rfl, ⟨p, r, m, n, B⟩, hz, k⟩ := h
  simp only at B
  have hb2 := B.at_
  show t_law_draw K _ [some (.ref b), some (.int z), none, none, none] H
  unfold t_law_draw
  walk_at "vc"
  refine ite2 (fun h0 => ?_) (fun h0 => ?_)
  · walk_at "vc"
    exact k 0 H (by decide) (.inr rfl) ⟨p, r, m, n, B⟩ (Same.refl _)
  have hz2 : 2 ≤ z := by simpa using h0
  have hz0 : 0 < z := by omega
  have hdz : CDivW (0 : Int) z := cdiv_small hz0 hz
  walk_at "vc"
  refine v_mid (fun σ' H' => ∃ x p' r' m', σ' = [some (.ref b), some (.int z), x, none, none] ∧ BagAt K H' b c p' r' m' (n + 1) xs ∧ Kp b H H') ?_ ?_
  · have B1 := B.put (n' := n + 1) B.p0 B.r0 B.m0 B.m1
    have K1 : Kp b H (upd H b (.lst [.ref c, .int p, .int r, .int m, .int (n + 1)])) := wo_upd (by simp)
    generalize hH : upd H b (HO.lst ([V.ref c, V.int p, V.int r, V.int m, V.int n].set (Int.toNat 4) (V.int (n + 1)))) = H1
    have B2 : BagAt K H1 b c p r m (n + 1) xs := hH ▸ B1
    have K2 : Kp b H H1 := hH ▸ K1
    have hb3 := B2.at_
    have hc3 : SqL K H1 c (xs.map V.int) := same_sql wo_le B2.cells
    clear hH B1 K1
    walk_at "vc"
    refine ite2 (fun h1 => ?_) (fun h1 => ?_)
    · walk_at "vc"
      refine ite2 (fun h2 => ?_) (fun h2 => ?_)
      · walk_at "vc"
        obtain ⟨it, hit⟩ := atI_in B2.p0 (by simpa using h2)
        refine v_ixl hc3 hit ?_
        walk_at "vc"
        refine ite2 (fun h3 => ?_) (fun h3 => ?_)
        · walk_at "vc"
          have h4 : (10 : Int) ^ (18 : Int).toNat ≤ it := of_decide_eq_true h3
          have h5 : (0 : Int) ≤ it := Int.le_trans (by decide) h4
          refine ⟨some (.int it), p + 1, it, m, rfl, ?_, kp_upd (kp_upd K2)⟩
          exact (B2.put (by have := B2.p0; omega) B2.r0 B2.m0 B2.m1).put (by have := B2.p0; omega) h5 B2.m0 B2.m1
        · walk_at "vc"
          refine ⟨some (.int it), p + 1, r, (m * 50021 + it % 2147483563 * 30013 + 223) % 2147483647, rfl, ?_, kp_upd (kp_upd K2)⟩
          exact (B2.put (by have := B2.p0; omega) B2.r0 B2.m0 B2.m1).put (by have := B2.p0; omega) B2.r0 (Int.emod_nonneg _ (by decide)) (Int.emod_lt_of_pos _ (by decide))
      · walk_at "vc"
        exact ⟨none, p, r, m, rfl, B2, K2⟩
    · walk_at "vc"
      refine ite2 (fun h2 => absurd h2 (by decide)) (fun h2 => ?_)
      walk_at "vc"
      exact ⟨none, p, r, m, rfl, B2, K2⟩
  · rintro σ' H1 ⟨x, p', r', m', rfl, B2, K2⟩
    have hb3 := B2.at_
    walk_at "vc"
    refine ite2 (fun h1 => ?_) (fun h1 => ?_)
    · walk_at "vc"
      refine k (r' % z) _ (Int.emod_nonneg _ (by omega)) (.inl (Int.emod_lt_of_pos _ hz0)) ⟨p', r' / z, m', n + 1, B2.put B2.p0 (Int.ediv_nonneg B2.r0 (by omega)) B2.m0 B2.m1⟩ (kp_upd K2)
    · walk_at "vc"
      have hm0 := B2.m0
      have hm1 := B2.m1
      refine v_pow ⟨by decide, by decide, by omega⟩ ?_
      walk_at "vc"
      exact k _ _ (Int.emod_nonneg _ (by omega)) (.inl (Int.emod_lt_of_pos _ hz0)) ⟨p', r', _, n + 1, B2.put B2.p0 B2.r0 (Int.emod_nonneg _ (by decide)) (Int.emod_lt_of_pos _ (by decide))⟩ (kp_upd K2)

end
section
abbrev N_law_some : List Str := ["bag", "things", "amount", "left", "drawn", "k"]
def t_law_some (K : PySem.W.Frag) : TS :=
  (tSeq (tPar 3 4 (tCons (tCB (rListOf K) (tCons (tVar 1) tNil)) (tCons (tLst tNil) tNil)))
    (tSeq (tFor (iRng1 (tCons (tCB rMin2 (tCons (tVar 2) (tCons (tCB (rLen K) (tCons (tVar 1) tNil)) tNil))) tNil)) (gName 5)
    (tDrop (tBM K "list" rAppend (tVar 4) (tCons (tBM K "list" rPopAt (tVar 3) (tCons (tCall (sp_law_draw K) [] E0 (tCons (tVar 0) (tCons (tCB (rLen K) (tCons (tVar 3) tNil)) tNil))) tNil)) tNil))))
    (tRet (tVar 4))))
theorem seqIndex_nat {d : Int} {n : Nat} (h0 : 0 ≤ d) (h1 : d < n) : seqIndex? d n = some d.toNat := by
  exact PySem.seqIndex_of h0 h1
theorem erase_perm {α : Type} : ∀ (l : List α) (k : Nat) (h : k < l.length), (l[k] :: l.eraseIdx k).Perm l
  | a :: r, 0, _ => List.Perm.refl _
  | a :: r, k + 1, h => by
    have h' : k < r.length := by simpa using h
    have ih := erase_perm r k h'
    show (r[k] :: a :: r.eraseIdx k).Perm (a :: r)
    exact (List.Perm.swap a r[k] _).trans (ih.cons a)
theorem perm_take {α : Type} {ys rest xs : List α} {k : Nat} {y : α} (h : rest[k]? = some y) (p : (ys ++ rest).Perm xs) : (ys ++ [y] ++ rest.eraseIdx k).Perm xs := by
  have hk : k < rest.length := (List.getElem?_eq_some_iff.mp h).1
  have e : rest[k] = y := (List.getElem?_eq_some_iff.mp h).2
  have q : (y :: rest.eraseIdx k).Perm rest := by
    rw [← e]
    exact erase_perm rest k hk
  rw [List.append_assoc]
  exact ((List.Perm.refl ys).append q).trans p
def sp_law_some (K : PySem.W.Frag) : Sp := fun vs H Q _ => ∃ b t n g xs, vs = [.ref b, .ref t, .int n] ∧ Bag K H b g ∧ (SqL K (wo [b] H) t xs ∨ SqT K (wo [b] H) t xs) ∧ xs.length ≤ 1000000 ∧ -1000000 ≤ n ∧ n ≤ 1000000 ∧
  ∀ q H' ys rest, H q = none → H' q = some (.lst ys) → Bag K H' b g → Kp b H H' → (ys ++ rest).Perm xs → (ys.length : Int) = max 0 (min n xs.length) → Q (.ref q) H'
theorem pure_law_some {K : PySem.W.Frag} (vs : List V) (H : Hp) (Q : VK) (E : XK) (h : sp_law_some K vs H Q E) : t_law_some K { nx := fun _ H' => Q .non H', rt := Q } (start N_law_some vs) H := by
  obtain ⟨b, t, n, g, xs, rfl, B, hs, hl, hn0, hn1, k⟩ := h
  show t_law_some K _ [some (.ref b), some (.ref t), some (.int n), none, none, none] H
  unfold t_law_some
  walk_at "vc"
  have lst : ∀ {R : VK}, (∀ l, H l = none → R (.ref l) (upd H l (.lst xs))) → rListOf K [.ref t] H R := fun q => hs.elim (fun h => v_list (same_sql wo_le h) q) (fun h => v_listt (same_sqt wo_le h) q)
  have ln : ∀ {H' : Hp} {R : VK}, Same (wo [b] H) H' → R (.int xs.length) H' → rLen K [.ref t] H' R := fun e q => hs.elim (fun h => v_lenl (same_sql e h) q) (fun h => v_lent (same_sqt e h) q)
  refine lst fun p hp => ?_
  walk_at "vc"
  refine ⟨Nat.zero_le _, fun q hq => ?_⟩
  have hq2 := upd_none hq
  have npb := B.ne hp
  have nqb := B.ne hq2.2
  have B1 := (B.new (o := .lst xs) hp).new (o := .lst []) hq
  have K1 : Kp b H (upd (upd H p (.lst xs)) q (.lst [])) := kp_new (kp_new (Same.refl _) hp) hq
  have hc := B.cells
  walk_at "vc"
  refine ln (K1.trans wo_le) ?_
  walk_at "vc"
  refine v_irr ?rg ?_
  case rg => constructor <;> split <;> omega
  refine for_r (fun i σ H' => ∃ x ys rest, σ = [some (.ref b), some (.ref t), some (.int n), some (.ref p), some (.ref q), x] ∧ H' p = some (.lst rest) ∧ H' q = some (.lst ys) ∧ ys.length = i ∧ (ys ++ rest).Perm xs ∧ Bag K H' b g ∧ Kp b H H')
    ⟨none, [], xs, rfl, h_ne (Ne.symm hq2.1) upd_same, upd_same, rfl, List.Perm.refl _, B1, K1⟩ ?_ ?_
  · rintro i σ H' hi ⟨x, ys, rest, rfl, h1, h2, h3, h4, h5, h6⟩
    have hlen := h4.length_eq
    rw [List.length_append] at hlen
    walk_at "vc"
    refine ⟨ty_list (SqL.of h2), ?_⟩
    walk_at "vc"
    refine ⟨ty_list (SqL.of h1), ?_⟩
    walk_at "vc"
    refine ⟨b, _, g, rfl, h5, size_small2 (by omega), fun d H2 d0 d1 B2 K2 => ?_⟩
    have hpos : (i : Int) < xs.length := by
      have : i < (if (xs.length : Int) < n then (xs.length : Int) else n).toNat := hi
      split at this <;> omega
    have d2 : d < rest.length := by omega
    have g1 := kp_get K2 npb h1
    have g2 := kp_get K2 nqb h2
    have hy : rest[d.toNat]? = some rest[d.toNat] := List.getElem?_eq_getElem (by omega)
    walk_at "vc"
    have p63 : (2 : Int) ^ 63 = 9223372036854775808 := by decide
    refine ⟨p, rest, d, d.toNat, _, rfl, rfl, g1, by rw [p63]; omega, by rw [p63]; omega, seqIndex_nat d0 d2, hy, ?_⟩
    walk_at "vc"
    have g3 : upd H2 p (.lst (rest.eraseIdx d.toNat)) q = some (.lst ys) := h_ne (Ne.symm (fun z => hq2.1 z.symm)) g2
    refine v_append g3 (by rw [sizeLine_eq]; omega) ?_
    walk_at "vc"
    have K3 : Kp b H (upd H2 p (.lst (rest.eraseIdx d.toNat))) := kp_mut (h6.trans K2) hp
    refine ⟨some (.int (0 + i)), ys ++ [rest[d.toNat]], rest.eraseIdx d.toNat, rfl, h_ne (fun z => hq2.1 z.symm) upd_same, upd_same, by simp [h3], perm_take hy h4, ?_, kp_mut K3 hq2.2⟩
    exact (B2.mut hc (h6.trans K2) hp npb).mut hc K3 hq2.2 nqb
  · rintro σ H' ⟨x, ys, rest, rfl, h1, h2, h3, h4, h5, h6⟩
    walk_at "vc"
    refine k q H' ys rest hq2.2 h2 h5 h6 h4 ?_
    rw [h3]
    split <;> omega

end
section
abbrev N_law_of : List Str := ["bag", "things"]
def t_law_of (K : PySem.W.Frag) : TS :=
  (tRet (tOp (rIx K) (tVar 1) (tCall (sp_law_draw K) [] E0 (tCons (tVar 0) (tCons (tCB (rLen K) (tCons (tVar 1) tNil)) tNil)))))
theorem atI_of {xs : List V} {i : Int} (h0 : 0 ≤ i) (h1 : i < xs.length) : ∃ y, atI xs i = some y ∧ xs[i.toNat]? = some y := by
  have hl : i.toNat < xs.length := by omega
  refine ⟨xs[i.toNat], ?_, List.getElem?_eq_getElem hl⟩
  unfold atI ixN
  rw [if_pos h0, if_pos h1, Option.bind_some, List.getElem?_eq_getElem hl]
theorem size_small {n : Nat} (h : n ≤ sizeLine) : (n : Int) < 1267650600228229401496703205376 := by
  rw [sizeLine_eq] at h
  omega
def sp_law_of (K : PySem.W.Frag) : Sp := fun vs H Q _ => ∃ b x g, vs = [.ref b, x] ∧ Bag K H b g ∧
  ((∃ t xs, x = .ref t ∧ (SqL K (wo [b] H) t xs ∨ SqT K (wo [b] H) t xs) ∧ 0 < xs.length ∧ xs.length ≤ sizeLine ∧ ∀ (i : Nat) y H', xs[i]? = some y → Bag K H' b g → Kp b H H' → Q y H') ∨
   ∃ z : Str, x = .str z ∧ 0 < z.length ∧ z.length ≤ sizeLine ∧ ∀ (i : Nat) c H', z.cps.toList[i]? = some c → Bag K H' b g → Kp b H H' → Q (.str ⟨#[c]⟩) H')
theorem pure_law_of {K : PySem.W.Frag} (vs : List V) (H : Hp) (Q : VK) (E : XK) (h : sp_law_of K vs H Q E) : t_law_of K { nx := fun _ H' => Q .non H', rt := Q } (start N_law_of vs) H := by
  obtain ⟨b, x, g, rfl, B, h⟩ := h
  show t_law_of K _ [some (.ref b), some x] H
  unfold t_law_of
  walk_at "vc"
  rcases h with ⟨t, xs, rfl, hs, h0, h1, k⟩ | ⟨z, rfl, h0, h1, k⟩
  · have hb : ∀ {P : Prop}, (SqL K H t xs → P) → (SqT K H t xs → P) → P := fun a b => hs.elim (fun h => a (same_sql wo_le h)) (fun h => b (same_sqt wo_le h))
    have ln : ∀ {Q : VK}, Q (.int xs.length) H → rLen K [.ref t] H Q := fun q => hb (fun h => v_lenl h q) fun h => v_lent h q
    refine ln ?_
    walk_at "vc"
    refine ⟨b, _, g, rfl, B, size_small h1, fun d H' d0 d1 B' KP => ?_⟩
    have d2 : d < xs.length := by omega
    obtain ⟨y, hy, hy2⟩ := atI_of d0 d2
    rcases hs with hs | hs
    · exact v_ixl (same_sql (KP.trans wo_le) hs) hy (k _ y H' hy2 B' KP)
    · exact v_ixt (same_sqt (KP.trans wo_le) hs) hy (k _ y H' hy2 B' KP)
  · refine v_lens h1 ?_
    walk_at "vc"
    refine ⟨b, _, g, rfl, B, size_small h1, fun d H' d0 d1 B' KP => ?_⟩
    have d2 : d < z.length := by omega
    have hl : d.toNat < z.cps.toList.length := by
      have : z.cps.toList.length = z.length := by simp [Str.length]
      omega
    have e : z.cps.toList[d.toNat]? = some z.cps.toList[d.toNat] := List.getElem?_eq_getElem hl
    refine .inr (.inr ⟨z, d, z.cps.toList[d.toNat], rfl, rfl, h1, ?_, k _ _ H' e B' KP⟩)
    unfold atI ixN
    have hz : z.cps.toList.length = z.length := by simp [Str.length]
    rw [if_pos d0, if_pos (by rw [hz]; exact d2), Option.bind_some, e]

end
section

/-! ### what is new in a heap -/
/-- what H' has and H has not -/
def nw (H H' : Hp) : Hp := fun a => match H a with
  | none => H' a
  | some _ => none
def Em : Hp := fun _ => none
theorem nw_em {H : Hp} : nw Em H = H := rfl
theorem nw_get {H H' : Hp} {a : Addr} {o : HO} (h : nw H H' a = some o) : H a = none ∧ H' a = some o := by
  unfold nw at h
  cases e : H a with
  | none => rw [e] at h; exact ⟨rfl, h⟩
  | some u => rw [e] at h; cases h
theorem nw_at {H H' : Hp} {a : Addr} (h : H a = none) : nw H H' a = H' a := by
  unfold nw
  rw [h]
theorem nw_le {H H' : Hp} : Same (nw H H') H' := fun a o h => (nw_get h).2
/-- the known places do not go -/
def Gr (H H' : Hp) : Prop := ∀ a, H' a = none → H a = none
theorem Gr.refl {H : Hp} : Gr H H := fun _ h => h
theorem Gr.trans {A B C : Hp} (h : Gr A B) (k : Gr B C) : Gr A C := fun a e => h a (k a e)
theorem gr_em {H : Hp} : Gr Em H := fun _ _ => rfl
theorem gr_upd {H : Hp} {a : Addr} {o : HO} : Gr H (upd H a o) := fun b h => by
  by_cases e : b = a
  · subst e
    rw [upd_same] at h
    cases h
  · rwa [upd_ne e] at h
theorem gr_same {H H' : Hp} (h : Same H H') : Gr H H' := fun a e => by
  cases q : H a with
  | none => rfl
  | some o => rw [h a o q] at e; cases e
theorem gr_kp {b : Addr} {H H' : Hp} (h : Kp b H H') (hb : H' b ≠ none) : Gr H H' := fun a e => by
  cases q : H a with
  | none => rfl
  | some o =>
    by_cases z : a = b
    · subst z
      exact absurd e hb
    · rw [kp_get h z q] at e
      cases e
theorem Bag.some {K : PySem.W.Frag} {H : Hp} {b : Addr} {g : Addr × List Int} (B : Bag K H b g) : H b ≠ none := by
  obtain ⟨o, h⟩ := B.get
  rw [h]
  exact fun z => nomatch z
theorem ne_some {H : Hp} {a : Addr} {o : HO} (h : H a = some o) : H a ≠ none := by
  rw [h]
  exact fun z => nomatch z
theorem ne_up {H H' : Hp} {a : Addr} (h : Gr H H') (e : H a ≠ none) : H' a ≠ none := fun z => e (h a z)
/-- the new of H1 to H2 stands in the new of H0 to H3, without S -/
theorem nw_into {S : List Addr} {H0 H1 H2 : Hp} (g : Gr H0 H1) (hs : ∀ a, a ∈ S → H1 a ≠ none) : Same (nw H1 H2) (wo S (nw H0 H2)) := fun a o h => by
  obtain ⟨h1, h2⟩ := nw_get h
  rw [wo_out fun z => hs a z h1, nw_at (g a h1)]
  exact h2
theorem nw_step {S : List Addr} {b : Addr} {H0 H1 H2 : Hp} (k : Kp b H1 H2) (hb : b ∈ S ∨ H0 b ≠ none) : Same (wo S (nw H0 H1)) (wo S (nw H0 H2)) := wo_same fun a ha o h => by
  obtain ⟨h1, h2⟩ := nw_get h
  have ne : a ≠ b := fun z => by
    subst z
    exact hb.elim ha fun q => q h1
  rw [nw_at h1]
  exact kp_get k ne h2
theorem nw_stepW {b : Addr} {H0 H1 H2 : Hp} (k : Kp b H1 H2) (hb : H0 b ≠ none) : Same (nw H0 H1) (nw H0 H2) := fun a o h => by
  obtain ⟨h1, h2⟩ := nw_get h
  have ne : a ≠ b := fun z => by
    subst z
    exact hb h1
  rw [nw_at h1]
  exact kp_get k ne h2
theorem nw_upd {S : List Addr} {H0 H1 : Hp} {a : Addr} {o : HO} (h : a ∈ S) : Same (wo S (nw H0 H1)) (wo S (nw H0 (upd H1 a o))) := wo_same fun x hx u e => by
  obtain ⟨h1, h2⟩ := nw_get e
  have ne : x ≠ a := fun z => by
    subst z
    exact hx h
  rw [nw_at h1, upd_ne ne]
  exact h2
theorem same_sub {S T : List Addr} {H : Hp} (h : ∀ a, a ∈ T → a ∈ S) : Same (wo S H) (wo T H) := wo_sub h
theorem kp_new1 {b a : Addr} {H : Hp} {o : HO} (h : H a = none) : Kp b H (upd H a o) := kp_new (Same.refl _) h
/-- the bag in a greater heap -/
theorem Bag.same {K : PySem.W.Frag} {H H' : Hp} {b : Addr} {g : Addr × List Int} (B : Bag K H b g) (e : Same H H') : Bag K H' b g := by
  obtain ⟨o, h⟩ := B.get
  exact B.move B.cells (kp_same e) (by rw [e _ _ h, h])
/-- a comprehension over range(n), its item drawn from the bag at b: El tells of the items -/
theorem lc_bag {K : PySem.W.Frag} {El : Nat → V → Hp → Prop} {H0 H : Hp} {b : Addr} {g : Addr × List Int} {n v : Nat} {te : TE} {σ : L2.St} {Q : VK} (mono : ∀ i x A B, Same A B → El i x A → El i x B) (B : Bag K H b g) (g0 : Gr H0 H) (hn : n ≤ 1000000)
    (hs : ∀ D i H1, i < n → H D = none → H1 D ≠ none → Bag K H1 b g → Kp b H H1 → ∀ R : VK, (∀ y H2, El i y (wo [b, D] (nw H0 H2)) → Bag K H2 b g → Kp b H1 H2 → R y H2) → te ((wipe σ [v]).set v (some (.int (0 + (i : Nat))))) H1 R)
    (hw : ∀ x : V, wipe ((wipe σ [v]).set v (some x)) [v] = wipe σ [v])
    (hd : ∀ D H' vs, H D = none → Bag K H' b g → Kp b H H' → H' D = some (.lst vs) → vs.length = n → (∀ i x, vs[i]? = some x → El i x (wo [b, D] (nw H0 H'))) → Q (.ref D) H') :
    lcI (Itr 0 n) (gName v) tYes te [v] σ H Q := by
  have hc := B.cells
  refine lc_w walk_range (fun D i H1 => H D = none ∧ Bag K H1 b g ∧ Kp b H H1 ∧ ∃ vs, H1 D = some (.lst vs) ∧ vs.length = i ∧ ∀ i x, vs[i]? = some x → El i x (wo [b, D] (nw H0 H1))) (fun D hD => ⟨hD, B.new hD, kp_new1 hD, ([] : List V), upd_same, rfl, fun i x h => by simp at h⟩) (fun _ _ _ _ _ => trivial) ?_ ?_
  · rintro D i x H1 H' hD hi ⟨_, B1, K1, vs, h1, h2, h3⟩ ⟨rfl, rfl⟩
    refine v_name ⟨hw _, v_yes (iT rfl ?_)⟩
    refine hs D i H' hi hD (ne_some h1) B1 K1 _ fun y H2 e1 B2 K2 => ?_
    have nDb := B.ne hD
    have h4 := kp_get K2 nDb h1
    refine ⟨vs, h4, by rw [sizeLine_eq]; omega, hD, B2.mut hc (K1.trans K2) hD nDb, kp_mut (K1.trans K2) hD, vs ++ [y], upd_same, by simp [h2], fun j z hj => ?_⟩
    have up : Same (wo [b, D] (nw H0 H2)) (wo [b, D] (nw H0 (upd H2 D (.lst (vs ++ [y]))))) := nw_upd (by simp)
    rw [List.getElem?_append] at hj
    split at hj
    · exact mono _ _ _ _ ((nw_step K2 (.inl (by simp))).trans up) (h3 j z hj)
    · rename_i hlt
      have e : j = i := by
        by_cases q : j - vs.length = 0
        · omega
        · rw [List.getElem?_eq_none (by simp; omega)] at hj
          cases hj
      subst e
      have ez : z = y := by simpa [h2] using hj.symm
      subst ez
      exact mono _ _ _ _ up e1
  · rintro D H1 hD ⟨_, B1, K1, vs, h1, h2, h3⟩
    exact hd D H1 vs hD B1 K1 h1 h2 h3
theorem str_of {ys : List Str} {i : Nat} {y : V} (h : (ys.map V.str)[i]? = some y) : ∃ s, y = .str s := by
  rw [List.getElem?_map] at h
  cases e : ys[i]? with
  | none => rw [e] at h; cases h
  | some s =>
    rw [e] at h
    exact ⟨s, (Option.some.inj h).symm⟩
/-- items one by one -/
theorem dps_of {K : PySem.W.Frag} {H : Hp} {P : PyData → Prop} : ∀ {vs : List V}, (∀ (i : Nat) (x : V), vs[i]? = some x → ∃ d, Dp K H x d ∧ P d) → ∃ ds, DpAll K H vs ds ∧ ∀ d, d ∈ ds → P d
  | [], _ => ⟨[], .nil, fun _ h => nomatch h⟩
  | v :: r, h => by
    obtain ⟨d, hd, p⟩ := h 0 v rfl
    obtain ⟨ds, hs, ps⟩ := dps_of (vs := r) fun i x e => h (i + 1) x (by simpa using e)
    refine ⟨d :: ds, .cons hd hs, fun e he => ?_⟩
    rcases List.mem_cons.mp he with z | z
    · subst z; exact p
    · exact ps e z
theorem upd_upd {H : Hp} {a : Addr} {o u : HO} : upd (upd H a o) a u = upd H a u := by
  funext x
  by_cases e : x = a
  · subst e
    rw [upd_same, upd_same]
  · rw [upd_ne e, upd_ne e, upd_ne e]
/-- a comprehension over range(n) whose items touch no heap -/
theorem lc_fn {H : Hp} {n v : Nat} {te : TE} {σ : L2.St} {Q : VK} (f : Nat → V) (hn : n ≤ 1000000) (hs : ∀ (i : Nat) (H1 : Hp) (R : VK), i < n → R (f i) H1 → te ((wipe σ [v]).set v (some (.int (0 + (i : Nat))))) H1 R)
    (hw : ∀ x : V, wipe ((wipe σ [v]).set v (some x)) [v] = wipe σ [v]) (hd : ∀ D, H D = none → Q (.ref D) (upd H D (.lst ((List.range n).map f)))) : lcI (Itr 0 n) (gName v) tYes te [v] σ H Q := by
  refine lc_w walk_range (fun D i H1 => H1 = upd H D (.lst ((List.range i).map f))) (fun D hD => rfl) (fun _ _ _ _ _ => trivial) ?_ ?_
  · rintro D i x H1 H' hD hi rfl ⟨rfl, rfl⟩
    refine v_name ⟨hw _, v_yes (iT rfl ?_)⟩
    refine hs i _ _ hi ⟨_, upd_same, by rw [sizeLine_eq]; simp; omega, ?_⟩
    rw [upd_upd, List.range_succ, List.map_append]
    rfl
  · rintro D H1 hD rfl
    exact hd D hD
theorem dps_bl {K : PySem.W.Frag} {H : Hp} : ∀ {bs : List Bool}, DpAll K H (bs.map V.bl) (bs.map PyData.bool)
  | [] => .nil
  | b :: r => .cons (.bl b) dps_bl
theorem like_true {K : PySem.W.Frag} {n : Nat} {H : Hp} {x y : V} {d : PyData} {Q : VK} {E : XK} (hx : Dp K H x d) (hy : Dp K H y d) (f : fit n d) (q : ∀ H', Same H H' → Q (.bl true) H') : sp_law_like K n [x, y] H Q E :=
  ⟨x, y, d, d, rfl, hx, hy, f, by rw [like_self hx]; exact q⟩
theorem like_bls {K : PySem.W.Frag} {n : Nat} {H : Hp} {x y : Addr} {bs : List Bool} {Q : VK} {E : XK} (hx : SqL K H x (bs.map V.bl)) (hy : SqL K H y (bs.map V.bl)) (l : bs.length ≤ 1000000) (q : ∀ H', Same H H' → Q (.bl true) H') : sp_law_like K (n + 2) [.ref x, .ref y] H Q E :=
  like_true (.lst hx dps_bl) (.lst hy dps_bl) ⟨by rw [List.length_map]; exact l, fun d hd => by
    obtain ⟨b, _, rfl⟩ := List.mem_map.mp hd
    trivial⟩ q
theorem dps_take {K : PySem.W.Frag} {H : Hp} : ∀ {vs : List V} {ds : List PyData} (n : Nat), DpAll K H vs ds → DpAll K H (vs.take n) (ds.take n)
  | _, _, 0, _ => .nil
  | _, _, _ + 1, .nil => .nil
  | _, _, n + 1, .cons h r => .cons h (dps_take n r)
theorem atI_nat {xs : List V} {i : Nat} {x : V} (h : xs[i]? = some x) : atI xs (i : Int) = some x := by
  have hl : i < xs.length := (List.getElem?_eq_some_iff.mp h).1
  unfold atI ixN
  rw [if_pos (by omega), if_pos (by omega), Option.bind_some]
  exact h
theorem v_lrg {ta : TE} {σ : L2.St} {H : Hp} {Q : VK} (q : ta σ H fun x H1 => ∃ n : Nat, x = .int n ∧ n ≤ 1000000 ∧ ∀ q, H1 q = none → Q (.ref q) (upd H1 q (.lst ((List.range n).map fun i => .int (i : Nat))))) (m : ∀ (H : Hp) (P P' : VK), (∀ y H2, P y H2 → P' y H2) → ta σ H P → ta σ H P') : tLstRg (tRg1 ta) σ H Q := by
  refine m _ _ _ ?_ q
  rintro y H2 ⟨n, rfl, hn, h⟩
  refine ⟨n, rfl, RgOk.of_le (by omega) (by omega) (by omega) (by omega), fun p hp => ?_⟩
  have e : rgV 0 (n : Int) = (List.range n).map fun i => V.int (i : Nat) := by
    unfold rgV
    rw [show ((n : Int) - 0).toNat = n by omega]
    refine List.map_congr_left fun i _ => ?_
    rw [Int.zero_add]
  rw [e]
  exact h p hp
theorem v_lrgc {n : Nat} {σ : L2.St} {H : Hp} {Q : VK} (hn : n ≤ 1000000) (q : ∀ q, H q = none → Q (.ref q) (upd H q (.lst ((List.range n).map fun i => .int (i : Nat))))) : tLstRg (tRg1 (tC (.int (n : Nat)))) σ H Q :=
  v_lrg ⟨n, rfl, hn, q⟩ fun _ _ _ h q => h _ _ q
theorem wo_at {S : List Addr} {H : Hp} {a : Addr} {o : HO} (h : H a = some o) (hs : a ∉ S) : wo S H a = some o := by rw [wo_out hs]; exact h
theorem not_two {H : Hp} {a b c : Addr} (ha : H a = none) (hb : H b ≠ none) (hc : H c ≠ none) : a ∉ [b, c] := fun z => by
  rcases List.mem_cons.mp z with e | e
  · subst e; exact hb ha
  · rw [List.mem_singleton.mp e] at ha
    exact hc ha

end
section
abbrev N_law_codes : List Str := []
def t_law_codes (K : PySem.W.Frag) : TS :=
  (tRet (tLst (tCons (tC (.str "BadNest")) (tCons (tC (.str "BadPaper")) (tCons (tC (.str "BadLog")) (tCons (tC (.str "BadScript")) (tCons (tC (.str "InvalidText")) (tCons (tC (.str "InvalidNumber")) (tCons (tC (.str "InvalidPowers")) (tCons (tC (.str "InvalidTouch")) (tCons (tC (.str "InvalidPoint")) (tCons (tC (.str "InvalidPoints")) (tCons (tC (.str "InvalidCell")) (tCons (tC (.str "InvalidRows")) (tCons (tC (.str "InvalidWeights")) (tCons (tC (.str "InvalidSides")) (tCons (tC (.str "InvalidPieces")) (tCons (tC (.str "InvalidEntries")) (tCons (tC (.str "InvalidTables")) (tCons (tC (.str "InvalidRooms")) (tCons (tC (.str "InvalidName")) (tCons (tC (.str "SharedName")) (tCons (tC (.str "OtherNest")) (tCons (tC (.str "OtherWidth")) (tCons (tC (.str "Unseen")) (tCons (tC (.str "LargeBook")) (tCons (tC (.str "TooNarrow")) (tCons (tC (.str "Full")) (tCons (tC (.str "Held")) (tCons (tC (.str "NotHeld")) (tCons (tC (.str "Done")) (tCons (tC (.str "UnknownName")) (tCons (tC (.str "UnknownCounter")) (tCons (tC (.str "NoRun")) (tCons (tC (.str "NothingLeft")) (tCons (tC (.str "NoTrial")) tNil))))))))))))))))))))))))))))))))))))
def codes : List V := (List.range 34).map fun k => .str (ec k).x
def sp_law_codes (K : PySem.W.Frag) : Sp := fun vs H Q _ => vs = [] ∧ ∀ q, H q = none → Q (.ref q) (upd H q (.lst codes))
theorem pure_law_codes {K : PySem.W.Frag} (vs : List V) (H : Hp) (Q : VK) (E : XK) (h : sp_law_codes K vs H Q E) : t_law_codes K { nx := fun _ H' => Q .non H', rt := Q } (start N_law_codes vs) H := by
  obtain ⟨rfl, q⟩ := h
  show t_law_codes K _ [] H
  unfold t_law_codes
  walk_at "vc"
  exact ⟨by rw [sizeLine_eq]; decide, q⟩

end
section

theorem code_at : ∀ (k : Nat) (a b : V), k < 34 → (exF k a b).lookup ("code" : Str) = some (V.str (ec k).x)
  | 0, _, _, _ => rfl
  | 1, _, _, _ => rfl
  | 2, _, _, _ => rfl
  | 3, _, _, _ => rfl
  | 4, _, _, _ => rfl
  | 5, _, _, _ => rfl
  | 6, _, _, _ => rfl
  | 7, _, _, _ => rfl
  | 8, _, _, _ => rfl
  | 9, _, _, _ => rfl
  | 10, _, _, _ => rfl
  | 11, _, _, _ => rfl
  | 12, _, _, _ => rfl
  | 13, _, _, _ => rfl
  | 14, _, _, _ => rfl
  | 15, _, _, _ => rfl
  | 16, _, _, _ => rfl
  | 17, _, _, _ => rfl
  | 18, _, _, _ => rfl
  | 19, _, _, _ => rfl
  | 20, _, _, _ => rfl
  | 21, _, _, _ => rfl
  | 22, _, _, _ => rfl
  | 23, _, _, _ => rfl
  | 24, _, _, _ => rfl
  | 25, _, _, _ => rfl
  | 26, _, _, _ => rfl
  | 27, _, _, _ => rfl
  | 28, _, _, _ => rfl
  | 29, _, _, _ => rfl
  | 30, _, _, _ => rfl
  | 31, _, _, _ => rfl
  | 32, _, _, _ => rfl
  | 33, _, _, _ => rfl
  | k + 34, _, _, h => absurd h (by omega)
theorem code_in {k : Nat} (hk : k < 34) : (ec k).fl.any (fun q => decide (q.1 = "code")) = true := (by decide +kernel : ∀ k, k < 34 → (ec k).fl.any (fun q => decide (q.1 = "code")) = true) k hk
theorem codes_at {k : Nat} (hk : k < 34) : atI codes k = some (.str (ec k).x) := by
  unfold atI ixN
  rw [if_pos (by omega), if_pos (by show (k : Int) < (34 : Nat); omega), Option.bind_some]
  show ((List.range 34).map fun k => V.str (ec k).x)[k]? = _
  rw [List.getElem?_map, List.getElem?_range (by omega)]
  rfl
theorem many_le {k : Nat} (hk : k < 34) : (ec k).ps.length ≤ 2 := (by decide +kernel : ∀ k, k < 34 → (ec k).ps.length ≤ 2) k hk
theorem many_is {k : Nat} (hk : k < 34) : (ec k).ps.length = if k < 4 then 2 else if inV (.int k) [.int 20, .int 23, .int 33] = true then 0 else 1 := (by decide +kernel : ∀ k, k < 34 → (ec k).ps.length = if k < 4 then 2 else if inV (.int (k : Nat)) [.int 20, .int 23, .int 33] = true then 0 else 1) k hk
theorem in_three {k : Nat} (hk : k < 34) : inV (.int k) [.int 29, .int 30, .int 31] = decide (29 ≤ k ∧ k ≤ 31) := (by decide +kernel : ∀ k, k < 34 → inV (.int (k : Nat)) [.int 29, .int 30, .int 31] = decide (29 ≤ k ∧ k ≤ 31)) k hk
theorem cut_two {a b : V} : ∀ {n : Nat}, n ≤ 2 → cutV [a, b] none (some (n : Int)) = [a, b].take n
  | 0, _ => rfl
  | 1, _ => rfl
  | 2, _ => rfl
  | n + 3, h => absurd h (by omega)

end
section
abbrev N_law_many : List Str := ["k"]
def t_law_many (K : PySem.W.Frag) : TS :=
  (tSeq (tIfS (tTest (tOp rLtI (tVar 0) (tC (.int 4)))) (tRet (tC (.int 2))) tNext)
    (tRet (tIf (tTest (tOp (rInU K) (tVar 0) (tLst (tCons (tC (.int 20)) (tCons (tC (.int 23)) (tCons (tC (.int 33)) tNil)))))) (tC (.int 0)) (tC (.int 1)))))
def sp_law_many (K : PySem.W.Frag) : Sp := fun vs H Q _ => ∃ k : Nat, vs = [.int k] ∧ k < 34 ∧ ∀ H', Same H H' → Q (.int (ec k).ps.length) H'
theorem pure_law_many {K : PySem.W.Frag} (vs : List V) (H : Hp) (Q : VK) (E : XK) (h : sp_law_many K vs H Q E) : t_law_many K { nx := fun _ H' => Q .non H', rt := Q } (start N_law_many vs) H := by
  obtain ⟨k, rfl, hk, q⟩ := h
  rw [many_is hk] at q
  show t_law_many K _ [some (.int k)] H
  unfold t_law_many
  walk_at "vc"
  refine ite2 (fun c => ?_) (fun c => ?_)
  · walk_at "vc"
    have c2 : k < 4 := by have := of_decide_eq_true c; omega
    rw [if_pos c2] at q
    exact q _ (Same.refl _)
  · walk_at "vc"
    have c2 : ¬k < 4 := by intro z; exact c (decide_eq_true (by omega))
    rw [if_neg c2] at q
    refine ⟨by rw [sizeLine_eq]; decide, fun p hp => ?_⟩
    refine v_inl (SqL.of upd_same) rfl rfl ?_
    walk_at "vc"
    refine ite2 (fun d => ?_) (fun d => ?_)
    · rw [if_pos d] at q
      exact q _ (same_new hp)
    · rw [if_neg d] at q
      exact q _ (same_new hp)

end
section
abbrev N_law_is_one : List Str := ["k", "e", "a", "b", "bases", "strange", "held", "j"]
def t_law_is_one (K : PySem.W.Frag) : TS :=
  (tSeq (tIfS (tNot (tB (tCall (sp_law_like K 12) [] E0 (tCons (tCall (sp_law_marks K) [] E0 (tCons (tVar 1) tNil)) (tCons (tLc (iRng1 (tCons (tC (.int 34)) tNil)) (gName 7) tYes (tOp (rEqU K) (tVar 7) (tVar 0)) [7]) tNil))))) (tRet (tC (.bl false))) tNext)
    (tSeq (tAsg (tLst (tCons (tCB (rIsiU K) (tCons (tVar 1) (tCons (tC (.ref (He.ga K "NestError"))) tNil))) (tCons (tCB (rIsiU K) (tCons (tVar 1) (tCons (tC (.ty "ValueError")) tNil))) (tCons (tCB (rIsiU K) (tCons (tVar 1) (tCons (tC (.ref (He.ga K "Unknown"))) tNil))) (tCons (tCB (rIsiU K) (tCons (tVar 1) (tCons (tC (.ty "LookupError")) tNil))) (tCons (tCB (rIsiU K) (tCons (tVar 1) (tCons (tC (.ty "RuntimeError")) tNil))) tNil)))))) (gName 4))
    (tSeq (tIfS (tNot (tB (tCall (sp_law_like K 12) [] E0 (tCons (tVar 4) (tCons (tLst (tCons (tOp rLtI (tVar 0) (tC (.int 29))) (tCons (tOp rLtI (tVar 0) (tC (.int 29))) (tCons (tOp (rInU K) (tVar 0) (tLst (tCons (tC (.int 29)) (tCons (tC (.int 30)) (tCons (tC (.int 31)) tNil))))) (tCons (tOp (rInU K) (tVar 0) (tLst (tCons (tC (.int 29)) (tCons (tC (.int 30)) (tCons (tC (.int 31)) tNil))))) (tCons (tOp rGtI (tVar 0) (tC (.int 31))) tNil)))))) tNil))))) (tRet (tC (.bl false))) tNext)
    (tSeq (tAsg (tLst (tCons (tCB (rIsiU K) (tCons (tVar 1) (tCons (tC (.ty "KeyError")) tNil))) (tCons (tCB (rIsiU K) (tCons (tVar 1) (tCons (tC (.ty "IndexError")) tNil))) (tCons (tCB (rIsiU K) (tCons (tVar 1) (tCons (tC (.ty "NotImplementedError")) tNil))) (tCons (tCB (rIsiU K) (tCons (tVar 1) (tCons (tC (.ty "ArithmeticError")) tNil))) tNil))))) (gName 5))
    (tSeq (tIfS (tNot (tB (tCall (sp_law_like K 12) [] E0 (tCons (tOp (rAddU K) (tVar 5) (tLst (tCons (tCB (rIsiU K) (tCons (tVar 1) (tCons (tC (.ty "TypeError")) tNil))) tNil))) (tCons (tLst (tCons (tC (.bl false)) (tCons (tC (.bl false)) (tCons (tC (.bl false)) (tCons (tC (.bl false)) (tCons (tC (.bl false)) tNil)))))) tNil))))) (tRet (tC (.bl false))) tNext)
    (tSeq (tAsg (tIf (tTest (tOp rLtI (tVar 0) (tC (.int 17)))) (tCall (sp_law_kept_one K) [] E0 (tCons (tVar 0) (tCons (tVar 1) tNil))) (tCall (sp_law_kept_two K) [] E0 (tCons (tVar 0) (tCons (tVar 1) tNil)))) (gName 6))
    (tRet (tCall (sp_law_like K 12) [] E0 (tCons (tLst (tCons (tXFld K (tVar 1) "code") (tCons (tVar 6) tNil))) (tCons (tLst (tCons (tOp (rIx K) (tCall (sp_law_codes K) [] E0 tNil) (tVar 0)) (tCons (tSl (rSlU K) (tLst (tCons (tVar 2) (tCons (tVar 3) tNil))) tNoPart (tPart (tCall (sp_law_many K) [] E0 (tCons (tVar 0) tNil)))) tNil))) tNil))))))))))
def sp_law_is_one (K : PySem.W.Frag) : Sp := fun vs H Q _ => ∃ (k : Nat) (p d : Addr) (a b : V) (da db : PyData), vs = [.int k, .ref p, a, b] ∧ k < 34 ∧ ErAt K H p d k a b ∧ Dp K H a da ∧ Dp K H b db ∧ fit 4 da ∧ fit 4 db ∧ ∀ H', Same H H' → Q (.bl true) H'
theorem pure_law_is_one {K : PySem.W.Frag} (FT : Flts K) (KB : kitsB K = true) (vs : List V) (H : Hp) (Q : VK) (E : XK) (h : sp_law_is_one K vs H Q E) : t_law_is_one K { nx := fun _ H' => Q .non H', rt := Q } (start N_law_is_one vs) H := by
  obtain ⟨k, p, d, a, b, da, db, rfl, hk, er, ha, hb, fa, fb, q⟩ := h
  obtain ⟨_, ki1, ki2, ki3, ki4, ki5, ki6⟩ := kits_of KB hk
  show t_law_is_one K _ [some (.int k), some (.ref p), some a, some b, none, none, none, none] H
  unfold t_law_is_one
  walk_at "vc"
  refine ⟨k, p, d, a, b, rfl, hk, er, fun q1 hq1 => ?_⟩
  have S1 := same_new (o := .lst ((List.range 34).map fun j => V.bl (decide (k = j)))) hq1
  walk_at "vc"
  refine v_irr (j := 34) (by decide) ?_
  refine lc_fn (fun j => .bl (decide (((0 : Int) + (j : Nat)) = k))) (by decide) (fun i H1 R hi r => ?_) (fun _ => rfl) fun q2 hq2 => ?_
  · walk_at "vc"
    exact r
  have S2 := S1.trans (same_new (o := .lst ((List.range 34).map fun (j : Nat) => V.bl (decide (((0 : Int) + (j : Nat)) = k)))) hq2)
  walk_at "vc"
  have e1 : ((List.range 34).map fun (j : Nat) => V.bl (decide (((0 : Int) + (j : Nat)) = k))) = (((List.range 34).map fun j => decide (k = j)).map V.bl) := by
    rw [List.map_map]
    refine List.map_congr_left fun j _ => ?_
    show V.bl _ = V.bl _
    congr 1
    rw [decide_eq_decide]
    omega
  refine like_bls (n := 10) (bs := (List.range 34).map fun j => decide (k = j)) (SqL.of ?_) (SqL.of (upd_same.trans (congrArg (fun z => some (HO.lst z)) e1))) (by rw [List.length_map, List.length_range]; decide) fun H3 s3 => ?_
  · rw [h_ne (ne_new upd_same hq2) upd_same, List.map_map]
    rfl
  have S3 := S2.trans s3
  walk_at "vc"
  refine iF (by decide) ?_
  walk_at "vc"
  refine v_isx FT (er_same S3 er) hk (.own _) ki1 ?_
  walk_at "vc"
  refine v_isx FT (er_same S3 er) hk (.ty _) ki3 ?_
  walk_at "vc"
  refine v_isx FT (er_same S3 er) hk (.own _) ki2 ?_
  walk_at "vc"
  refine v_isx FT (er_same S3 er) hk (.ty _) ki4 ?_
  walk_at "vc"
  refine v_isx FT (er_same S3 er) hk (.ty _) ki5 ?_
  walk_at "vc"
  refine ⟨by show 5 ≤ sizeLine; rw [sizeLine_eq]; decide, fun q4 hq4 => ?_⟩
  have S4 := S3.trans (same_new (o := .lst ([decide (k < 29), decide (k < 29), decide (29 ≤ k ∧ k ≤ 31), decide (29 ≤ k ∧ k ≤ 31), decide (31 < k)].map V.bl)) hq4)
  walk_at "vc"
  refine ⟨by rw [sizeLine_eq]; decide, fun q5 hq5 => ?_⟩
  refine v_inl (SqL.of upd_same) rfl rfl ?_
  walk_at "vc"
  refine ⟨by rw [sizeLine_eq]; decide, fun q6 hq6 => ?_⟩
  refine v_inl (SqL.of upd_same) rfl rfl ?_
  walk_at "vc"
  refine ⟨by show 5 ≤ sizeLine; rw [sizeLine_eq]; decide, fun q7 hq7 => ?_⟩
  walk_at "vc"
  have S7 := (same_new (o := .lst [.int 29, .int 30, .int 31]) hq5).trans ((same_new (o := .lst [.int 29, .int 30, .int 31]) hq6).trans (same_new (o := .lst [V.bl (decide ((k : Int) < 29)), V.bl (decide ((k : Int) < 29)), V.bl (inV (.int k) [.int 29, .int 30, .int 31]), V.bl (inV (.int k) [.int 29, .int 30, .int 31]), V.bl (decide (31 < (k : Int)))]) hq7))
  have e2 : [V.bl (decide ((k : Int) < 29)), V.bl (decide ((k : Int) < 29)), V.bl (inV (.int k) [.int 29, .int 30, .int 31]), V.bl (inV (.int k) [.int 29, .int 30, .int 31]), V.bl (decide (31 < (k : Int)))] = [decide (k < 29), decide (k < 29), decide (29 ≤ k ∧ k ≤ 31), decide (29 ≤ k ∧ k ≤ 31), decide (31 < k)].map V.bl := by
    rw [in_three hk, show decide ((k : Int) < 29) = decide (k < 29) by rw [decide_eq_decide]; omega, show decide (31 < (k : Int)) = decide (31 < k) by rw [decide_eq_decide]; omega]
    rfl
  refine like_bls (n := 10) (bs := [decide (k < 29), decide (k < 29), decide (29 ≤ k ∧ k ≤ 31), decide (29 ≤ k ∧ k ≤ 31), decide (31 < k)]) (SqL.of (S7 _ _ upd_same)) (SqL.of ?_) (by show 5 ≤ 1000000; decide) fun H8 s8 => ?_
  · rw [upd_same, e2]
  have S8 := (S4.trans S7).trans s8
  walk_at "vc"
  refine iF (by decide) ?_
  walk_at "vc"
  refine v_isx FT (er_same S8 er) hk (.ty _) (ki6 _ (by decide)) ?_
  walk_at "vc"
  refine v_isx FT (er_same S8 er) hk (.ty _) (ki6 _ (by decide)) ?_
  walk_at "vc"
  refine v_isx FT (er_same S8 er) hk (.ty _) (ki6 _ (by decide)) ?_
  walk_at "vc"
  refine v_isx FT (er_same S8 er) hk (.ty _) (ki6 _ (by decide)) ?_
  walk_at "vc"
  refine ⟨by rw [sizeLine_eq]; decide, fun q9 hq9 => ?_⟩
  have S9 := S8.trans (same_new (o := .lst [.bl false, .bl false, .bl false, .bl false]) hq9)
  walk_at "vc"
  refine v_isx FT (er_same S9 er) hk (.ty _) (ki6 _ (by decide)) ?_
  walk_at "vc"
  refine ⟨by rw [sizeLine_eq]; decide, fun q10 hq10 => ?_⟩
  have S10 := S9.trans (same_new (o := .lst [.bl false]) hq10)
  refine v_addl (h_ne (ne_new upd_same hq10) upd_same) upd_same (by rw [sizeLine_eq]; decide) fun q11 hq11 => ?_
  have S11 := S10.trans (same_new (o := .lst [.bl false, .bl false, .bl false, .bl false, .bl false]) hq11)
  walk_at "vc"
  refine ⟨by rw [sizeLine_eq]; decide, fun q12 hq12 => ?_⟩
  have S12 := S11.trans (same_new (o := .lst [.bl false, .bl false, .bl false, .bl false, .bl false]) hq12)
  walk_at "vc"
  refine like_bls (n := 10) (bs := [false, false, false, false, false]) (SqL.of (h_ne (ne_new upd_same hq12) upd_same)) (SqL.of upd_same) (by decide) fun H13 s13 => ?_
  have S13 := S12.trans s13
  walk_at "vc"
  refine iF (by decide) ?_
  walk_at "vc"
  have er13 := er_same S13 er
  refine ite2 (fun c => ?_) (fun c => ?_)
  all_goals
    walk_at "vc"
    refine ⟨k, p, d, a, b, rfl, by simp only [decide_eq_true_eq] at c; omega, by simp only [decide_eq_true_eq] at c; omega, er13, fun q14 hq14 => ?_⟩
    have S14 := S13.trans (same_new (o := .lst ([a, b].take (ec k).ps.length)) hq14)
    walk_at "vc"
    refine v_fld FT (er_same S14 er) hk rfl (code_in hk) (code_at k a b hk) ?_
    walk_at "vc"
    refine ⟨by show 2 ≤ sizeLine; rw [sizeLine_eq]; decide, fun q15 hq15 => ?_⟩
    have S15 := S14.trans (same_new (o := .lst [.str (ec k).x, .ref q14]) hq15)
    walk_at "vc"
    refine ⟨rfl, fun q16 hq16 => ?_⟩
    have S16 := S15.trans (same_new (o := .lst codes) hq16)
    walk_at "vc"
    refine v_ixl (SqL.of upd_same) (codes_at hk) ?_
    walk_at "vc"
    refine ⟨by show 2 ≤ sizeLine; rw [sizeLine_eq]; decide, fun q17 hq17 => ?_⟩
    have S17 := S16.trans (same_new (o := .lst [a, b]) hq17)
    walk_at "vc"
    refine ⟨k, rfl, hk, fun H18 s18 => ?_⟩
    walk_at "vc"
    refine v_sll (SqL.of (s18 _ _ upd_same)) fun q19 hq19 => ?_
    rw [cut_two (many_le hk)]
    have S19 := (S17.trans s18).trans (same_new (o := .lst ([a, b].take (ec k).ps.length)) hq19)
    walk_at "vc"
    refine ⟨by show 2 ≤ sizeLine; rw [sizeLine_eq]; decide, fun q20 hq20 => ?_⟩
    have S20 := S19.trans (same_new (o := .lst [.str (ec k).x, .ref q19]) hq20)
    walk_at "vc"
    have T15 := (same_new (o := .lst [.str (ec k).x, .ref q14]) hq15).trans ((same_new (o := .lst codes) hq16).trans ((same_new (o := .lst [a, b]) hq17).trans (s18.trans ((same_new (o := .lst ([a, b].take (ec k).ps.length)) hq19).trans (same_new (o := .lst [.str (ec k).x, .ref q19]) hq20)))))
    have T16 := (same_new (o := .lst codes) hq16).trans ((same_new (o := .lst [a, b]) hq17).trans (s18.trans ((same_new (o := .lst ([a, b].take (ec k).ps.length)) hq19).trans (same_new (o := .lst [.str (ec k).x, .ref q19]) hq20))))
    have T20 := same_new (o := .lst [.str (ec k).x, .ref q19]) hq20
    have dv := dps_take (ec k).ps.length (DpAll.cons (same_dp S20 ha) (.cons (same_dp S20 hb) .nil))
    refine like_true (d := .list [.str (ec k).x, .list ([da, db].take (ec k).ps.length)]) (.lst (SqL.of (T16 _ _ upd_same)) (.cons (.str _) (.cons (.lst (SqL.of (T15 _ _ upd_same)) dv) .nil))) (.lst (SqL.of upd_same) (.cons (.str _) (.cons (.lst (SqL.of (T20 _ _ upd_same)) dv) .nil))) ?_ fun H21 s21 => q _ (S20.trans s21)
    refine ⟨by show 2 ≤ 1000000; decide, fun d hd => ?_⟩
    rcases List.mem_cons.mp hd with z | z
    · subst z
      trivial
    · rw [List.mem_singleton.mp z]
      refine ⟨by rw [List.length_take]; exact Nat.le_trans (Nat.min_le_right _ _) (by show 2 ≤ 1000000; decide), fun e he => ?_⟩
      rcases List.mem_cons.mp (List.mem_of_mem_take he) with z | z
      · rw [z]
        exact fit_mono (by decide) fa
      · rw [List.mem_singleton.mp z]
        exact fit_mono (by decide) fb

end
section
abbrev N_law_place_one : List Str := ["k", "a", "b"]
def t_law_place_one (K : PySem.W.Frag) : TS :=
  (tSeq (tIfS (tTest (tOp (rEqU K) (tVar 0) (tC (.int 0)))) (tRet (tMkV (He.ga K "BadNest") psBadNest flBadNest (tCons (tVar 1) (tCons (tVar 2) tNil)))) tNext)
    (tSeq (tIfS (tTest (tOp (rEqU K) (tVar 0) (tC (.int 1)))) (tRet (tMkV (He.ga K "BadPaper") psBadPaper flBadPaper (tCons (tVar 1) (tCons (tVar 2) tNil)))) tNext)
    (tSeq (tIfS (tTest (tOp (rEqU K) (tVar 0) (tC (.int 2)))) (tRet (tMkV (He.ga K "BadLog") psBadLog flBadLog (tCons (tVar 1) (tCons (tVar 2) tNil)))) tNext)
    (tSeq (tIfS (tTest (tOp (rEqU K) (tVar 0) (tC (.int 3)))) (tRet (tMkV (He.ga K "BadScript") psBadScript flBadScript (tCons (tVar 1) (tCons (tVar 2) tNil)))) tNext)
    (tSeq (tIfS (tTest (tOp (rEqU K) (tVar 0) (tC (.int 4)))) (tRet (tMkV (He.ga K "InvalidText") psInvalidText flInvalidText (tCons (tVar 1) tNil))) tNext)
    (tSeq (tIfS (tTest (tOp (rEqU K) (tVar 0) (tC (.int 5)))) (tRet (tMkV (He.ga K "InvalidNumber") psInvalidNumber flInvalidNumber (tCons (tVar 1) tNil))) tNext)
    (tSeq (tIfS (tTest (tOp (rEqU K) (tVar 0) (tC (.int 6)))) (tRet (tMkV (He.ga K "InvalidPowers") psInvalidPowers flInvalidPowers (tCons (tVar 1) tNil))) tNext)
    (tSeq (tIfS (tTest (tOp (rEqU K) (tVar 0) (tC (.int 7)))) (tRet (tMkV (He.ga K "InvalidTouch") psInvalidTouch flInvalidTouch (tCons (tVar 1) tNil))) tNext)
    (tSeq (tIfS (tTest (tOp (rEqU K) (tVar 0) (tC (.int 8)))) (tRet (tMkV (He.ga K "InvalidPoint") psInvalidPoint flInvalidPoint (tCons (tVar 1) tNil))) tNext)
    (tSeq (tIfS (tTest (tOp (rEqU K) (tVar 0) (tC (.int 9)))) (tRet (tMkV (He.ga K "InvalidPoints") psInvalidPoints flInvalidPoints (tCons (tVar 1) tNil))) tNext)
    (tSeq (tIfS (tTest (tOp (rEqU K) (tVar 0) (tC (.int 10)))) (tRet (tMkV (He.ga K "InvalidCell") psInvalidCell flInvalidCell (tCons (tVar 1) tNil))) tNext)
    (tSeq (tIfS (tTest (tOp (rEqU K) (tVar 0) (tC (.int 11)))) (tRet (tMkV (He.ga K "InvalidRows") psInvalidRows flInvalidRows (tCons (tVar 1) tNil))) tNext)
    (tSeq (tIfS (tTest (tOp (rEqU K) (tVar 0) (tC (.int 12)))) (tRet (tMkV (He.ga K "InvalidWeights") psInvalidWeights flInvalidWeights (tCons (tVar 1) tNil))) tNext)
    (tSeq (tIfS (tTest (tOp (rEqU K) (tVar 0) (tC (.int 13)))) (tRet (tMkV (He.ga K "InvalidSides") psInvalidSides flInvalidSides (tCons (tVar 1) tNil))) tNext)
    (tSeq (tIfS (tTest (tOp (rEqU K) (tVar 0) (tC (.int 14)))) (tRet (tMkV (He.ga K "InvalidPieces") psInvalidPieces flInvalidPieces (tCons (tVar 1) tNil))) tNext)
    (tSeq (tIfS (tTest (tOp (rEqU K) (tVar 0) (tC (.int 15)))) (tRet (tMkV (He.ga K "InvalidEntries") psInvalidEntries flInvalidEntries (tCons (tVar 1) tNil))) tNext)
    (tRet (tMkV (He.ga K "InvalidTables") psInvalidTables flInvalidTables (tCons (tVar 1) tNil)))))))))))))))))))
abbrev sp_law_place_one (K : PySem.W.Frag) : Sp := sp_made K 0 17
theorem pure_law_place_one {K : PySem.W.Frag} (vs : List V) (H : Hp) (Q : VK) (E : XK) (h : sp_law_place_one K vs H Q E) : t_law_place_one K { nx := fun _ H' => Q .non H', rt := Q } (start N_law_place_one vs) H := by
  obtain ⟨k, a, b, rfl, h1, h2, q⟩ := h
  show t_law_place_one K _ [some (.int k), some a, some b] H
  unfold t_law_place_one
  walk_at "vc"
  refine ite2 (fun c => ?_) (fun c => ?_)
  · have e : k = 0 := by have := of_decide_eq_true c; omega
    subst e
    walk_at "vc"
    refine v_mk ?_
    walk_at "vc"
    exact ⟨rfl, fun p d hp hd ne => q p d _ hp hd (same_made hp hd) (er_made (k := 0) hp hd ne)⟩
  have e0 : k ≠ 0 := by intro z; exact c (by simp [z])
  clear c
  walk_at "vc"
  refine ite2 (fun c => ?_) (fun c => ?_)
  · have e : k = 1 := by have := of_decide_eq_true c; omega
    subst e
    walk_at "vc"
    refine v_mk ?_
    walk_at "vc"
    exact ⟨rfl, fun p d hp hd ne => q p d _ hp hd (same_made hp hd) (er_made (k := 1) hp hd ne)⟩
  have e1 : k ≠ 1 := by intro z; exact c (by simp [z])
  clear c
  walk_at "vc"
  refine ite2 (fun c => ?_) (fun c => ?_)
  · have e : k = 2 := by have := of_decide_eq_true c; omega
    subst e
    walk_at "vc"
    refine v_mk ?_
    walk_at "vc"
    exact ⟨rfl, fun p d hp hd ne => q p d _ hp hd (same_made hp hd) (er_made (k := 2) hp hd ne)⟩
  have e2 : k ≠ 2 := by intro z; exact c (by simp [z])
  clear c
  walk_at "vc"
  refine ite2 (fun c => ?_) (fun c => ?_)
  · have e : k = 3 := by have := of_decide_eq_true c; omega
    subst e
    walk_at "vc"
    refine v_mk ?_
    walk_at "vc"
    exact ⟨rfl, fun p d hp hd ne => q p d _ hp hd (same_made hp hd) (er_made (k := 3) hp hd ne)⟩
  have e3 : k ≠ 3 := by intro z; exact c (by simp [z])
  clear c
  walk_at "vc"
  refine ite2 (fun c => ?_) (fun c => ?_)
  · have e : k = 4 := by have := of_decide_eq_true c; omega
    subst e
    walk_at "vc"
    refine v_mk ?_
    walk_at "vc"
    exact ⟨rfl, fun p d hp hd ne => q p d _ hp hd (same_made hp hd) (er_made (k := 4) hp hd ne)⟩
  have e4 : k ≠ 4 := by intro z; exact c (by simp [z])
  clear c
  walk_at "vc"
  refine ite2 (fun c => ?_) (fun c => ?_)
  · have e : k = 5 := by have := of_decide_eq_true c; omega
    subst e
    walk_at "vc"
    refine v_mk ?_
    walk_at "vc"
    exact ⟨rfl, fun p d hp hd ne => q p d _ hp hd (same_made hp hd) (er_made (k := 5) hp hd ne)⟩
  have e5 : k ≠ 5 := by intro z; exact c (by simp [z])
  clear c
  walk_at "vc"
  refine ite2 (fun c => ?_) (fun c => ?_)
  · have e : k = 6 := by have := of_decide_eq_true c; omega
    subst e
    walk_at "vc"
    refine v_mk ?_
    walk_at "vc"
    exact ⟨rfl, fun p d hp hd ne => q p d _ hp hd (same_made hp hd) (er_made (k := 6) hp hd ne)⟩
  have e6 : k ≠ 6 := by intro z; exact c (by simp [z])
  clear c
  walk_at "vc"
  refine ite2 (fun c => ?_) (fun c => ?_)
  · have e : k = 7 := by have := of_decide_eq_true c; omega
    subst e
    walk_at "vc"
    refine v_mk ?_
    walk_at "vc"
    exact ⟨rfl, fun p d hp hd ne => q p d _ hp hd (same_made hp hd) (er_made (k := 7) hp hd ne)⟩
  have e7 : k ≠ 7 := by intro z; exact c (by simp [z])
  clear c
  walk_at "vc"
  refine ite2 (fun c => ?_) (fun c => ?_)
  · have e : k = 8 := by have := of_decide_eq_true c; omega
    subst e
    walk_at "vc"
    refine v_mk ?_
    walk_at "vc"
    exact ⟨rfl, fun p d hp hd ne => q p d _ hp hd (same_made hp hd) (er_made (k := 8) hp hd ne)⟩
  have e8 : k ≠ 8 := by intro z; exact c (by simp [z])
  clear c
  walk_at "vc"
  refine ite2 (fun c => ?_) (fun c => ?_)
  · have e : k = 9 := by have := of_decide_eq_true c; omega
    subst e
    walk_at "vc"
    refine v_mk ?_
    walk_at "vc"
    exact ⟨rfl, fun p d hp hd ne => q p d _ hp hd (same_made hp hd) (er_made (k := 9) hp hd ne)⟩
  have e9 : k ≠ 9 := by intro z; exact c (by simp [z])
  clear c
  walk_at "vc"
  refine ite2 (fun c => ?_) (fun c => ?_)
  · have e : k = 10 := by have := of_decide_eq_true c; omega
    subst e
    walk_at "vc"
    refine v_mk ?_
    walk_at "vc"
    exact ⟨rfl, fun p d hp hd ne => q p d _ hp hd (same_made hp hd) (er_made (k := 10) hp hd ne)⟩
  have e10 : k ≠ 10 := by intro z; exact c (by simp [z])
  clear c
  walk_at "vc"
  refine ite2 (fun c => ?_) (fun c => ?_)
  · have e : k = 11 := by have := of_decide_eq_true c; omega
    subst e
    walk_at "vc"
    refine v_mk ?_
    walk_at "vc"
    exact ⟨rfl, fun p d hp hd ne => q p d _ hp hd (same_made hp hd) (er_made (k := 11) hp hd ne)⟩
  have e11 : k ≠ 11 := by intro z; exact c (by simp [z])
  clear c
  walk_at "vc"
  refine ite2 (fun c => ?_) (fun c => ?_)
  · have e : k = 12 := by have := of_decide_eq_true c; omega
    subst e
    walk_at "vc"
    refine v_mk ?_
    walk_at "vc"
    exact ⟨rfl, fun p d hp hd ne => q p d _ hp hd (same_made hp hd) (er_made (k := 12) hp hd ne)⟩
  have e12 : k ≠ 12 := by intro z; exact c (by simp [z])
  clear c
  walk_at "vc"
  refine ite2 (fun c => ?_) (fun c => ?_)
  · have e : k = 13 := by have := of_decide_eq_true c; omega
    subst e
    walk_at "vc"
    refine v_mk ?_
    walk_at "vc"
    exact ⟨rfl, fun p d hp hd ne => q p d _ hp hd (same_made hp hd) (er_made (k := 13) hp hd ne)⟩
  have e13 : k ≠ 13 := by intro z; exact c (by simp [z])
  clear c
  walk_at "vc"
  refine ite2 (fun c => ?_) (fun c => ?_)
  · have e : k = 14 := by have := of_decide_eq_true c; omega
    subst e
    walk_at "vc"
    refine v_mk ?_
    walk_at "vc"
    exact ⟨rfl, fun p d hp hd ne => q p d _ hp hd (same_made hp hd) (er_made (k := 14) hp hd ne)⟩
  have e14 : k ≠ 14 := by intro z; exact c (by simp [z])
  clear c
  walk_at "vc"
  refine ite2 (fun c => ?_) (fun c => ?_)
  · have e : k = 15 := by have := of_decide_eq_true c; omega
    subst e
    walk_at "vc"
    refine v_mk ?_
    walk_at "vc"
    exact ⟨rfl, fun p d hp hd ne => q p d _ hp hd (same_made hp hd) (er_made (k := 15) hp hd ne)⟩
  have e15 : k ≠ 15 := by intro z; exact c (by simp [z])
  clear c
  walk_at "vc"
  have e : k = 16 := by omega
  clear e0 e1 e2 e3 e4 e5 e6 e7 e8 e9 e10 e11 e12 e13 e14 e15
  subst e
  walk_at "vc"
  refine v_mk ?_
  walk_at "vc"
  exact ⟨rfl, fun p d hp hd ne => q p d _ hp hd (same_made hp hd) (er_made (k := 16) hp hd ne)⟩

end
section
abbrev N_law_place_two : List Str := ["k", "a", "b"]
def t_law_place_two (K : PySem.W.Frag) : TS :=
  (tSeq (tIfS (tTest (tOp (rEqU K) (tVar 0) (tC (.int 17)))) (tRet (tMkV (He.ga K "InvalidRooms") psInvalidRooms flInvalidRooms (tCons (tVar 1) tNil))) tNext)
    (tSeq (tIfS (tTest (tOp (rEqU K) (tVar 0) (tC (.int 18)))) (tRet (tMkV (He.ga K "InvalidName") psInvalidName flInvalidName (tCons (tVar 1) tNil))) tNext)
    (tSeq (tIfS (tTest (tOp (rEqU K) (tVar 0) (tC (.int 19)))) (tRet (tMkV (He.ga K "SharedName") psSharedName flSharedName (tCons (tVar 1) tNil))) tNext)
    (tSeq (tIfS (tTest (tOp (rEqU K) (tVar 0) (tC (.int 20)))) (tRet (tMkV (He.ga K "OtherNest") psOtherNest flOtherNest tNil)) tNext)
    (tSeq (tIfS (tTest (tOp (rEqU K) (tVar 0) (tC (.int 21)))) (tRet (tMkV (He.ga K "OtherWidth") psOtherWidth flOtherWidth (tCons (tVar 1) tNil))) tNext)
    (tSeq (tIfS (tTest (tOp (rEqU K) (tVar 0) (tC (.int 22)))) (tRet (tMkV (He.ga K "Unseen") psUnseen flUnseen (tCons (tVar 1) tNil))) tNext)
    (tSeq (tIfS (tTest (tOp (rEqU K) (tVar 0) (tC (.int 23)))) (tRet (tMkV (He.ga K "LargeBook") psLargeBook flLargeBook tNil)) tNext)
    (tSeq (tIfS (tTest (tOp (rEqU K) (tVar 0) (tC (.int 24)))) (tRet (tMkV (He.ga K "TooNarrow") psTooNarrow flTooNarrow (tCons (tVar 1) tNil))) tNext)
    (tSeq (tIfS (tTest (tOp (rEqU K) (tVar 0) (tC (.int 25)))) (tRet (tMkV (He.ga K "Full") psFull flFull (tCons (tVar 1) tNil))) tNext)
    (tSeq (tIfS (tTest (tOp (rEqU K) (tVar 0) (tC (.int 26)))) (tRet (tMkV (He.ga K "Held") psHeld flHeld (tCons (tVar 1) tNil))) tNext)
    (tSeq (tIfS (tTest (tOp (rEqU K) (tVar 0) (tC (.int 27)))) (tRet (tMkV (He.ga K "NotHeld") psNotHeld flNotHeld (tCons (tVar 1) tNil))) tNext)
    (tSeq (tIfS (tTest (tOp (rEqU K) (tVar 0) (tC (.int 28)))) (tRet (tMkV (He.ga K "Done") psDone flDone (tCons (tVar 1) tNil))) tNext)
    (tSeq (tIfS (tTest (tOp (rEqU K) (tVar 0) (tC (.int 29)))) (tRet (tMkV (He.ga K "UnknownName") psUnknownName flUnknownName (tCons (tVar 1) tNil))) tNext)
    (tSeq (tIfS (tTest (tOp (rEqU K) (tVar 0) (tC (.int 30)))) (tRet (tMkV (He.ga K "UnknownCounter") psUnknownCounter flUnknownCounter (tCons (tVar 1) tNil))) tNext)
    (tSeq (tIfS (tTest (tOp (rEqU K) (tVar 0) (tC (.int 31)))) (tRet (tMkV (He.ga K "NoRun") psNoRun flNoRun (tCons (tVar 1) tNil))) tNext)
    (tSeq (tIfS (tTest (tOp (rEqU K) (tVar 0) (tC (.int 32)))) (tRet (tMkV (He.ga K "NothingLeft") psNothingLeft flNothingLeft (tCons (tVar 1) tNil))) tNext)
    (tRet (tMkV (He.ga K "NoTrial") psNoTrial flNoTrial tNil))))))))))))))))))
abbrev sp_law_place_two (K : PySem.W.Frag) : Sp := sp_made K 17 34
theorem pure_law_place_two {K : PySem.W.Frag} (vs : List V) (H : Hp) (Q : VK) (E : XK) (h : sp_law_place_two K vs H Q E) : t_law_place_two K { nx := fun _ H' => Q .non H', rt := Q } (start N_law_place_two vs) H := by
  obtain ⟨k, a, b, rfl, h1, h2, q⟩ := h
  show t_law_place_two K _ [some (.int k), some a, some b] H
  unfold t_law_place_two
  walk_at "vc"
  refine ite2 (fun c => ?_) (fun c => ?_)
  · have e : k = 17 := by have := of_decide_eq_true c; omega
    subst e
    walk_at "vc"
    refine v_mk ?_
    walk_at "vc"
    exact ⟨rfl, fun p d hp hd ne => q p d _ hp hd (same_made hp hd) (er_made (k := 17) hp hd ne)⟩
  have e17 : k ≠ 17 := by intro z; exact c (by simp [z])
  clear c
  walk_at "vc"
  refine ite2 (fun c => ?_) (fun c => ?_)
  · have e : k = 18 := by have := of_decide_eq_true c; omega
    subst e
    walk_at "vc"
    refine v_mk ?_
    walk_at "vc"
    exact ⟨rfl, fun p d hp hd ne => q p d _ hp hd (same_made hp hd) (er_made (k := 18) hp hd ne)⟩
  have e18 : k ≠ 18 := by intro z; exact c (by simp [z])
  clear c
  walk_at "vc"
  refine ite2 (fun c => ?_) (fun c => ?_)
  · have e : k = 19 := by have := of_decide_eq_true c; omega
    subst e
    walk_at "vc"
    refine v_mk ?_
    walk_at "vc"
    exact ⟨rfl, fun p d hp hd ne => q p d _ hp hd (same_made hp hd) (er_made (k := 19) hp hd ne)⟩
  have e19 : k ≠ 19 := by intro z; exact c (by simp [z])
  clear c
  walk_at "vc"
  refine ite2 (fun c => ?_) (fun c => ?_)
  · have e : k = 20 := by have := of_decide_eq_true c; omega
    subst e
    walk_at "vc"
    refine v_mk ?_
    walk_at "vc"
    exact ⟨rfl, fun p d hp hd ne => q p d _ hp hd (same_made hp hd) (er_made (k := 20) hp hd ne)⟩
  have e20 : k ≠ 20 := by intro z; exact c (by simp [z])
  clear c
  walk_at "vc"
  refine ite2 (fun c => ?_) (fun c => ?_)
  · have e : k = 21 := by have := of_decide_eq_true c; omega
    subst e
    walk_at "vc"
    refine v_mk ?_
    walk_at "vc"
    exact ⟨rfl, fun p d hp hd ne => q p d _ hp hd (same_made hp hd) (er_made (k := 21) hp hd ne)⟩
  have e21 : k ≠ 21 := by intro z; exact c (by simp [z])
  clear c
  walk_at "vc"
  refine ite2 (fun c => ?_) (fun c => ?_)
  · have e : k = 22 := by have := of_decide_eq_true c; omega
    subst e
    walk_at "vc"
    refine v_mk ?_
    walk_at "vc"
    exact ⟨rfl, fun p d hp hd ne => q p d _ hp hd (same_made hp hd) (er_made (k := 22) hp hd ne)⟩
  have e22 : k ≠ 22 := by intro z; exact c (by simp [z])
  clear c
  walk_at "vc"
  refine ite2 (fun c => ?_) (fun c => ?_)
  · have e : k = 23 := by have := of_decide_eq_true c; omega
    subst e
    walk_at "vc"
    refine v_mk ?_
    walk_at "vc"
    exact ⟨rfl, fun p d hp hd ne => q p d _ hp hd (same_made hp hd) (er_made (k := 23) hp hd ne)⟩
  have e23 : k ≠ 23 := by intro z; exact c (by simp [z])
  clear c
  walk_at "vc"
  refine ite2 (fun c => ?_) (fun c => ?_)
  · have e : k = 24 := by have := of_decide_eq_true c; omega
    subst e
    walk_at "vc"
    refine v_mk ?_
    walk_at "vc"
    exact ⟨rfl, fun p d hp hd ne => q p d _ hp hd (same_made hp hd) (er_made (k := 24) hp hd ne)⟩
  have e24 : k ≠ 24 := by intro z; exact c (by simp [z])
  clear c
  walk_at "vc"
  refine ite2 (fun c => ?_) (fun c => ?_)
  · have e : k = 25 := by have := of_decide_eq_true c; omega
    subst e
    walk_at "vc"
    refine v_mk ?_
    walk_at "vc"
    exact ⟨rfl, fun p d hp hd ne => q p d _ hp hd (same_made hp hd) (er_made (k := 25) hp hd ne)⟩
  have e25 : k ≠ 25 := by intro z; exact c (by simp [z])
  clear c
  walk_at "vc"
  refine ite2 (fun c => ?_) (fun c => ?_)
  · have e : k = 26 := by have := of_decide_eq_true c; omega
    subst e
    walk_at "vc"
    refine v_mk ?_
    walk_at "vc"
    exact ⟨rfl, fun p d hp hd ne => q p d _ hp hd (same_made hp hd) (er_made (k := 26) hp hd ne)⟩
  have e26 : k ≠ 26 := by intro z; exact c (by simp [z])
  clear c
  walk_at "vc"
  refine ite2 (fun c => ?_) (fun c => ?_)
  · have e : k = 27 := by have := of_decide_eq_true c; omega
    subst e
    walk_at "vc"
    refine v_mk ?_
    walk_at "vc"
    exact ⟨rfl, fun p d hp hd ne => q p d _ hp hd (same_made hp hd) (er_made (k := 27) hp hd ne)⟩
  have e27 : k ≠ 27 := by intro z; exact c (by simp [z])
  clear c
  walk_at "vc"
  refine ite2 (fun c => ?_) (fun c => ?_)
  · have e : k = 28 := by have := of_decide_eq_true c; omega
    subst e
    walk_at "vc"
    refine v_mk ?_
    walk_at "vc"
    exact ⟨rfl, fun p d hp hd ne => q p d _ hp hd (same_made hp hd) (er_made (k := 28) hp hd ne)⟩
  have e28 : k ≠ 28 := by intro z; exact c (by simp [z])
  clear c
  walk_at "vc"
  refine ite2 (fun c => ?_) (fun c => ?_)
  · have e : k = 29 := by have := of_decide_eq_true c; omega
    subst e
    walk_at "vc"
    refine v_mk ?_
    walk_at "vc"
    exact ⟨rfl, fun p d hp hd ne => q p d _ hp hd (same_made hp hd) (er_made (k := 29) hp hd ne)⟩
  have e29 : k ≠ 29 := by intro z; exact c (by simp [z])
  clear c
  walk_at "vc"
  refine ite2 (fun c => ?_) (fun c => ?_)
  · have e : k = 30 := by have := of_decide_eq_true c; omega
    subst e
    walk_at "vc"
    refine v_mk ?_
    walk_at "vc"
    exact ⟨rfl, fun p d hp hd ne => q p d _ hp hd (same_made hp hd) (er_made (k := 30) hp hd ne)⟩
  have e30 : k ≠ 30 := by intro z; exact c (by simp [z])
  clear c
  walk_at "vc"
  refine ite2 (fun c => ?_) (fun c => ?_)
  · have e : k = 31 := by have := of_decide_eq_true c; omega
    subst e
    walk_at "vc"
    refine v_mk ?_
    walk_at "vc"
    exact ⟨rfl, fun p d hp hd ne => q p d _ hp hd (same_made hp hd) (er_made (k := 31) hp hd ne)⟩
  have e31 : k ≠ 31 := by intro z; exact c (by simp [z])
  clear c
  walk_at "vc"
  refine ite2 (fun c => ?_) (fun c => ?_)
  · have e : k = 32 := by have := of_decide_eq_true c; omega
    subst e
    walk_at "vc"
    refine v_mk ?_
    walk_at "vc"
    exact ⟨rfl, fun p d hp hd ne => q p d _ hp hd (same_made hp hd) (er_made (k := 32) hp hd ne)⟩
  have e32 : k ≠ 32 := by intro z; exact c (by simp [z])
  clear c
  walk_at "vc"
  have e : k = 33 := by omega
  clear e17 e18 e19 e20 e21 e22 e23 e24 e25 e26 e27 e28 e29 e30 e31 e32
  subst e
  walk_at "vc"
  refine v_mk ?_
  walk_at "vc"
  exact ⟨rfl, fun p d hp hd ne => q p d _ hp hd (same_made hp hd) (er_made (k := 33) hp hd ne)⟩

end
section
abbrev N_law_made : List Str := ["k", "a", "b"]
def t_law_made (K : PySem.W.Frag) : TS :=
  (tRet (tIf (tTest (tOp rLtI (tVar 0) (tC (.int 17)))) (tCall (sp_law_place_one K) [] E0 (tCons (tVar 0) (tCons (tVar 1) (tCons (tVar 2) tNil)))) (tCall (sp_law_place_two K) [] E0 (tCons (tVar 0) (tCons (tVar 1) (tCons (tVar 2) tNil))))))
abbrev sp_law_made (K : PySem.W.Frag) : Sp := sp_made K 0 34
theorem pure_law_made {K : PySem.W.Frag} (vs : List V) (H : Hp) (Q : VK) (E : XK) (h : sp_law_made K vs H Q E) : t_law_made K { nx := fun _ H' => Q .non H', rt := Q } (start N_law_made vs) H := by
  obtain ⟨k, a, b, rfl, h1, h2, q⟩ := h
  show t_law_made K _ [some (.int k), some a, some b] H
  unfold t_law_made
  walk_at "vc"
  refine ite2 (fun c => ?_) (fun c => ?_)
  · walk_at "vc"
    have c2 : k < 17 := by have := of_decide_eq_true c; omega
    exact ⟨k, a, b, rfl, h1, c2, q⟩
  · walk_at "vc"
    have c2 : 17 ≤ k := by
      refine Nat.le_of_not_lt fun z => c (decide_eq_true (by omega))
    exact ⟨k, a, b, rfl, c2, h2, q⟩

end
section
abbrev N_law_name_one : List Str := ["k", "a", "b"]
def t_law_name_one (K : PySem.W.Frag) : TS :=
  (tSeq (tIfS (tTest (tOp (rEqU K) (tVar 0) (tC (.int 0)))) (tRet (tMkVK (He.ga K "BadNest") psBadNest ksBadNest ggBadNest flBadNest (tCons (tVar 2) (tCons (tVar 1) tNil)))) tNext)
    (tSeq (tIfS (tTest (tOp (rEqU K) (tVar 0) (tC (.int 1)))) (tRet (tMkVK (He.ga K "BadPaper") psBadPaper ksBadPaper ggBadPaper flBadPaper (tCons (tVar 2) (tCons (tVar 1) tNil)))) tNext)
    (tSeq (tIfS (tTest (tOp (rEqU K) (tVar 0) (tC (.int 2)))) (tRet (tMkVK (He.ga K "BadLog") psBadLog ksBadLog ggBadLog flBadLog (tCons (tVar 2) (tCons (tVar 1) tNil)))) tNext)
    (tSeq (tIfS (tTest (tOp (rEqU K) (tVar 0) (tC (.int 3)))) (tRet (tMkVK (He.ga K "BadScript") psBadScript ksBadScript ggBadScript flBadScript (tCons (tVar 2) (tCons (tVar 1) tNil)))) tNext)
    (tSeq (tIfS (tTest (tOp (rEqU K) (tVar 0) (tC (.int 4)))) (tRet (tMkVK (He.ga K "InvalidText") psInvalidText ksInvalidText ggInvalidText flInvalidText (tCons (tVar 1) tNil))) tNext)
    (tSeq (tIfS (tTest (tOp (rEqU K) (tVar 0) (tC (.int 5)))) (tRet (tMkVK (He.ga K "InvalidNumber") psInvalidNumber ksInvalidNumber ggInvalidNumber flInvalidNumber (tCons (tVar 1) tNil))) tNext)
    (tSeq (tIfS (tTest (tOp (rEqU K) (tVar 0) (tC (.int 6)))) (tRet (tMkVK (He.ga K "InvalidPowers") psInvalidPowers ksInvalidPowers ggInvalidPowers flInvalidPowers (tCons (tVar 1) tNil))) tNext)
    (tSeq (tIfS (tTest (tOp (rEqU K) (tVar 0) (tC (.int 7)))) (tRet (tMkVK (He.ga K "InvalidTouch") psInvalidTouch ksInvalidTouch ggInvalidTouch flInvalidTouch (tCons (tVar 1) tNil))) tNext)
    (tSeq (tIfS (tTest (tOp (rEqU K) (tVar 0) (tC (.int 8)))) (tRet (tMkVK (He.ga K "InvalidPoint") psInvalidPoint ksInvalidPoint ggInvalidPoint flInvalidPoint (tCons (tVar 1) tNil))) tNext)
    (tSeq (tIfS (tTest (tOp (rEqU K) (tVar 0) (tC (.int 9)))) (tRet (tMkVK (He.ga K "InvalidPoints") psInvalidPoints ksInvalidPoints ggInvalidPoints flInvalidPoints (tCons (tVar 1) tNil))) tNext)
    (tSeq (tIfS (tTest (tOp (rEqU K) (tVar 0) (tC (.int 10)))) (tRet (tMkVK (He.ga K "InvalidCell") psInvalidCell ksInvalidCell ggInvalidCell flInvalidCell (tCons (tVar 1) tNil))) tNext)
    (tSeq (tIfS (tTest (tOp (rEqU K) (tVar 0) (tC (.int 11)))) (tRet (tMkVK (He.ga K "InvalidRows") psInvalidRows ksInvalidRows ggInvalidRows flInvalidRows (tCons (tVar 1) tNil))) tNext)
    (tSeq (tIfS (tTest (tOp (rEqU K) (tVar 0) (tC (.int 12)))) (tRet (tMkVK (He.ga K "InvalidWeights") psInvalidWeights ksInvalidWeights ggInvalidWeights flInvalidWeights (tCons (tVar 1) tNil))) tNext)
    (tSeq (tIfS (tTest (tOp (rEqU K) (tVar 0) (tC (.int 13)))) (tRet (tMkVK (He.ga K "InvalidSides") psInvalidSides ksInvalidSides ggInvalidSides flInvalidSides (tCons (tVar 1) tNil))) tNext)
    (tSeq (tIfS (tTest (tOp (rEqU K) (tVar 0) (tC (.int 14)))) (tRet (tMkVK (He.ga K "InvalidPieces") psInvalidPieces ksInvalidPieces ggInvalidPieces flInvalidPieces (tCons (tVar 1) tNil))) tNext)
    (tSeq (tIfS (tTest (tOp (rEqU K) (tVar 0) (tC (.int 15)))) (tRet (tMkVK (He.ga K "InvalidEntries") psInvalidEntries ksInvalidEntries ggInvalidEntries flInvalidEntries (tCons (tVar 1) tNil))) tNext)
    (tRet (tMkVK (He.ga K "InvalidTables") psInvalidTables ksInvalidTables ggInvalidTables flInvalidTables (tCons (tVar 1) tNil)))))))))))))))))))
abbrev sp_law_name_one (K : PySem.W.Frag) : Sp := sp_made K 0 17
theorem pure_law_name_one {K : PySem.W.Frag} (vs : List V) (H : Hp) (Q : VK) (E : XK) (h : sp_law_name_one K vs H Q E) : t_law_name_one K { nx := fun _ H' => Q .non H', rt := Q } (start N_law_name_one vs) H := by
  obtain ⟨k, a, b, rfl, h1, h2, q⟩ := h
  show t_law_name_one K _ [some (.int k), some a, some b] H
  unfold t_law_name_one
  walk_at "vc"
  refine ite2 (fun c => ?_) (fun c => ?_)
  · have e : k = 0 := by have := of_decide_eq_true c; omega
    subst e
    walk_at "vc"
    refine v_mkK ?_
    walk_at "vc"
    exact ⟨rfl, fun p d hp hd ne => q p d _ hp hd (same_made hp hd) (er_made (k := 0) hp hd ne)⟩
  have e0 : k ≠ 0 := by intro z; exact c (by simp [z])
  clear c
  walk_at "vc"
  refine ite2 (fun c => ?_) (fun c => ?_)
  · have e : k = 1 := by have := of_decide_eq_true c; omega
    subst e
    walk_at "vc"
    refine v_mkK ?_
    walk_at "vc"
    exact ⟨rfl, fun p d hp hd ne => q p d _ hp hd (same_made hp hd) (er_made (k := 1) hp hd ne)⟩
  have e1 : k ≠ 1 := by intro z; exact c (by simp [z])
  clear c
  walk_at "vc"
  refine ite2 (fun c => ?_) (fun c => ?_)
  · have e : k = 2 := by have := of_decide_eq_true c; omega
    subst e
    walk_at "vc"
    refine v_mkK ?_
    walk_at "vc"
    exact ⟨rfl, fun p d hp hd ne => q p d _ hp hd (same_made hp hd) (er_made (k := 2) hp hd ne)⟩
  have e2 : k ≠ 2 := by intro z; exact c (by simp [z])
  clear c
  walk_at "vc"
  refine ite2 (fun c => ?_) (fun c => ?_)
  · have e : k = 3 := by have := of_decide_eq_true c; omega
    subst e
    walk_at "vc"
    refine v_mkK ?_
    walk_at "vc"
    exact ⟨rfl, fun p d hp hd ne => q p d _ hp hd (same_made hp hd) (er_made (k := 3) hp hd ne)⟩
  have e3 : k ≠ 3 := by intro z; exact c (by simp [z])
  clear c
  walk_at "vc"
  refine ite2 (fun c => ?_) (fun c => ?_)
  · have e : k = 4 := by have := of_decide_eq_true c; omega
    subst e
    walk_at "vc"
    refine v_mkK ?_
    walk_at "vc"
    exact ⟨rfl, fun p d hp hd ne => q p d _ hp hd (same_made hp hd) (er_made (k := 4) hp hd ne)⟩
  have e4 : k ≠ 4 := by intro z; exact c (by simp [z])
  clear c
  walk_at "vc"
  refine ite2 (fun c => ?_) (fun c => ?_)
  · have e : k = 5 := by have := of_decide_eq_true c; omega
    subst e
    walk_at "vc"
    refine v_mkK ?_
    walk_at "vc"
    exact ⟨rfl, fun p d hp hd ne => q p d _ hp hd (same_made hp hd) (er_made (k := 5) hp hd ne)⟩
  have e5 : k ≠ 5 := by intro z; exact c (by simp [z])
  clear c
  walk_at "vc"
  refine ite2 (fun c => ?_) (fun c => ?_)
  · have e : k = 6 := by have := of_decide_eq_true c; omega
    subst e
    walk_at "vc"
    refine v_mkK ?_
    walk_at "vc"
    exact ⟨rfl, fun p d hp hd ne => q p d _ hp hd (same_made hp hd) (er_made (k := 6) hp hd ne)⟩
  have e6 : k ≠ 6 := by intro z; exact c (by simp [z])
  clear c
  walk_at "vc"
  refine ite2 (fun c => ?_) (fun c => ?_)
  · have e : k = 7 := by have := of_decide_eq_true c; omega
    subst e
    walk_at "vc"
    refine v_mkK ?_
    walk_at "vc"
    exact ⟨rfl, fun p d hp hd ne => q p d _ hp hd (same_made hp hd) (er_made (k := 7) hp hd ne)⟩
  have e7 : k ≠ 7 := by intro z; exact c (by simp [z])
  clear c
  walk_at "vc"
  refine ite2 (fun c => ?_) (fun c => ?_)
  · have e : k = 8 := by have := of_decide_eq_true c; omega
    subst e
    walk_at "vc"
    refine v_mkK ?_
    walk_at "vc"
    exact ⟨rfl, fun p d hp hd ne => q p d _ hp hd (same_made hp hd) (er_made (k := 8) hp hd ne)⟩
  have e8 : k ≠ 8 := by intro z; exact c (by simp [z])
  clear c
  walk_at "vc"
  refine ite2 (fun c => ?_) (fun c => ?_)
  · have e : k = 9 := by have := of_decide_eq_true c; omega
    subst e
    walk_at "vc"
    refine v_mkK ?_
    walk_at "vc"
    exact ⟨rfl, fun p d hp hd ne => q p d _ hp hd (same_made hp hd) (er_made (k := 9) hp hd ne)⟩
  have e9 : k ≠ 9 := by intro z; exact c (by simp [z])
  clear c
  walk_at "vc"
  refine ite2 (fun c => ?_) (fun c => ?_)
  · have e : k = 10 := by have := of_decide_eq_true c; omega
    subst e
    walk_at "vc"
    refine v_mkK ?_
    walk_at "vc"
    exact ⟨rfl, fun p d hp hd ne => q p d _ hp hd (same_made hp hd) (er_made (k := 10) hp hd ne)⟩
  have e10 : k ≠ 10 := by intro z; exact c (by simp [z])
  clear c
  walk_at "vc"
  refine ite2 (fun c => ?_) (fun c => ?_)
  · have e : k = 11 := by have := of_decide_eq_true c; omega
    subst e
    walk_at "vc"
    refine v_mkK ?_
    walk_at "vc"
    exact ⟨rfl, fun p d hp hd ne => q p d _ hp hd (same_made hp hd) (er_made (k := 11) hp hd ne)⟩
  have e11 : k ≠ 11 := by intro z; exact c (by simp [z])
  clear c
  walk_at "vc"
  refine ite2 (fun c => ?_) (fun c => ?_)
  · have e : k = 12 := by have := of_decide_eq_true c; omega
    subst e
    walk_at "vc"
    refine v_mkK ?_
    walk_at "vc"
    exact ⟨rfl, fun p d hp hd ne => q p d _ hp hd (same_made hp hd) (er_made (k := 12) hp hd ne)⟩
  have e12 : k ≠ 12 := by intro z; exact c (by simp [z])
  clear c
  walk_at "vc"
  refine ite2 (fun c => ?_) (fun c => ?_)
  · have e : k = 13 := by have := of_decide_eq_true c; omega
    subst e
    walk_at "vc"
    refine v_mkK ?_
    walk_at "vc"
    exact ⟨rfl, fun p d hp hd ne => q p d _ hp hd (same_made hp hd) (er_made (k := 13) hp hd ne)⟩
  have e13 : k ≠ 13 := by intro z; exact c (by simp [z])
  clear c
  walk_at "vc"
  refine ite2 (fun c => ?_) (fun c => ?_)
  · have e : k = 14 := by have := of_decide_eq_true c; omega
    subst e
    walk_at "vc"
    refine v_mkK ?_
    walk_at "vc"
    exact ⟨rfl, fun p d hp hd ne => q p d _ hp hd (same_made hp hd) (er_made (k := 14) hp hd ne)⟩
  have e14 : k ≠ 14 := by intro z; exact c (by simp [z])
  clear c
  walk_at "vc"
  refine ite2 (fun c => ?_) (fun c => ?_)
  · have e : k = 15 := by have := of_decide_eq_true c; omega
    subst e
    walk_at "vc"
    refine v_mkK ?_
    walk_at "vc"
    exact ⟨rfl, fun p d hp hd ne => q p d _ hp hd (same_made hp hd) (er_made (k := 15) hp hd ne)⟩
  have e15 : k ≠ 15 := by intro z; exact c (by simp [z])
  clear c
  walk_at "vc"
  have e : k = 16 := by omega
  clear e0 e1 e2 e3 e4 e5 e6 e7 e8 e9 e10 e11 e12 e13 e14 e15
  subst e
  walk_at "vc"
  refine v_mkK ?_
  walk_at "vc"
  exact ⟨rfl, fun p d hp hd ne => q p d _ hp hd (same_made hp hd) (er_made (k := 16) hp hd ne)⟩

end
section
abbrev N_law_name_two : List Str := ["k", "a", "b"]
def t_law_name_two (K : PySem.W.Frag) : TS :=
  (tSeq (tIfS (tTest (tOp (rEqU K) (tVar 0) (tC (.int 17)))) (tRet (tMkVK (He.ga K "InvalidRooms") psInvalidRooms ksInvalidRooms ggInvalidRooms flInvalidRooms (tCons (tVar 1) tNil))) tNext)
    (tSeq (tIfS (tTest (tOp (rEqU K) (tVar 0) (tC (.int 18)))) (tRet (tMkVK (He.ga K "InvalidName") psInvalidName ksInvalidName ggInvalidName flInvalidName (tCons (tVar 1) tNil))) tNext)
    (tSeq (tIfS (tTest (tOp (rEqU K) (tVar 0) (tC (.int 19)))) (tRet (tMkVK (He.ga K "SharedName") psSharedName ksSharedName ggSharedName flSharedName (tCons (tVar 1) tNil))) tNext)
    (tSeq (tIfS (tTest (tOp (rEqU K) (tVar 0) (tC (.int 20)))) (tRet (tMkV (He.ga K "OtherNest") psOtherNest flOtherNest tNil)) tNext)
    (tSeq (tIfS (tTest (tOp (rEqU K) (tVar 0) (tC (.int 21)))) (tRet (tMkVK (He.ga K "OtherWidth") psOtherWidth ksOtherWidth ggOtherWidth flOtherWidth (tCons (tVar 1) tNil))) tNext)
    (tSeq (tIfS (tTest (tOp (rEqU K) (tVar 0) (tC (.int 22)))) (tRet (tMkVK (He.ga K "Unseen") psUnseen ksUnseen ggUnseen flUnseen (tCons (tVar 1) tNil))) tNext)
    (tSeq (tIfS (tTest (tOp (rEqU K) (tVar 0) (tC (.int 23)))) (tRet (tMkV (He.ga K "LargeBook") psLargeBook flLargeBook tNil)) tNext)
    (tSeq (tIfS (tTest (tOp (rEqU K) (tVar 0) (tC (.int 24)))) (tRet (tMkVK (He.ga K "TooNarrow") psTooNarrow ksTooNarrow ggTooNarrow flTooNarrow (tCons (tVar 1) tNil))) tNext)
    (tSeq (tIfS (tTest (tOp (rEqU K) (tVar 0) (tC (.int 25)))) (tRet (tMkVK (He.ga K "Full") psFull ksFull ggFull flFull (tCons (tVar 1) tNil))) tNext)
    (tSeq (tIfS (tTest (tOp (rEqU K) (tVar 0) (tC (.int 26)))) (tRet (tMkVK (He.ga K "Held") psHeld ksHeld ggHeld flHeld (tCons (tVar 1) tNil))) tNext)
    (tSeq (tIfS (tTest (tOp (rEqU K) (tVar 0) (tC (.int 27)))) (tRet (tMkVK (He.ga K "NotHeld") psNotHeld ksNotHeld ggNotHeld flNotHeld (tCons (tVar 1) tNil))) tNext)
    (tSeq (tIfS (tTest (tOp (rEqU K) (tVar 0) (tC (.int 28)))) (tRet (tMkVK (He.ga K "Done") psDone ksDone ggDone flDone (tCons (tVar 1) tNil))) tNext)
    (tSeq (tIfS (tTest (tOp (rEqU K) (tVar 0) (tC (.int 29)))) (tRet (tMkVK (He.ga K "UnknownName") psUnknownName ksUnknownName ggUnknownName flUnknownName (tCons (tVar 1) tNil))) tNext)
    (tSeq (tIfS (tTest (tOp (rEqU K) (tVar 0) (tC (.int 30)))) (tRet (tMkVK (He.ga K "UnknownCounter") psUnknownCounter ksUnknownCounter ggUnknownCounter flUnknownCounter (tCons (tVar 1) tNil))) tNext)
    (tSeq (tIfS (tTest (tOp (rEqU K) (tVar 0) (tC (.int 31)))) (tRet (tMkVK (He.ga K "NoRun") psNoRun ksNoRun ggNoRun flNoRun (tCons (tVar 1) tNil))) tNext)
    (tSeq (tIfS (tTest (tOp (rEqU K) (tVar 0) (tC (.int 32)))) (tRet (tMkVK (He.ga K "NothingLeft") psNothingLeft ksNothingLeft ggNothingLeft flNothingLeft (tCons (tVar 1) tNil))) tNext)
    (tRet (tMkV (He.ga K "NoTrial") psNoTrial flNoTrial tNil))))))))))))))))))
abbrev sp_law_name_two (K : PySem.W.Frag) : Sp := sp_made K 17 34
theorem pure_law_name_two {K : PySem.W.Frag} (vs : List V) (H : Hp) (Q : VK) (E : XK) (h : sp_law_name_two K vs H Q E) : t_law_name_two K { nx := fun _ H' => Q .non H', rt := Q } (start N_law_name_two vs) H := by
  obtain ⟨k, a, b, rfl, h1, h2, q⟩ := h
  show t_law_name_two K _ [some (.int k), some a, some b] H
  unfold t_law_name_two
  walk_at "vc"
  refine ite2 (fun c => ?_) (fun c => ?_)
  · have e : k = 17 := by have := of_decide_eq_true c; omega
    subst e
    walk_at "vc"
    refine v_mkK ?_
    walk_at "vc"
    exact ⟨rfl, fun p d hp hd ne => q p d _ hp hd (same_made hp hd) (er_made (k := 17) hp hd ne)⟩
  have e17 : k ≠ 17 := by intro z; exact c (by simp [z])
  clear c
  walk_at "vc"
  refine ite2 (fun c => ?_) (fun c => ?_)
  · have e : k = 18 := by have := of_decide_eq_true c; omega
    subst e
    walk_at "vc"
    refine v_mkK ?_
    walk_at "vc"
    exact ⟨rfl, fun p d hp hd ne => q p d _ hp hd (same_made hp hd) (er_made (k := 18) hp hd ne)⟩
  have e18 : k ≠ 18 := by intro z; exact c (by simp [z])
  clear c
  walk_at "vc"
  refine ite2 (fun c => ?_) (fun c => ?_)
  · have e : k = 19 := by have := of_decide_eq_true c; omega
    subst e
    walk_at "vc"
    refine v_mkK ?_
    walk_at "vc"
    exact ⟨rfl, fun p d hp hd ne => q p d _ hp hd (same_made hp hd) (er_made (k := 19) hp hd ne)⟩
  have e19 : k ≠ 19 := by intro z; exact c (by simp [z])
  clear c
  walk_at "vc"
  refine ite2 (fun c => ?_) (fun c => ?_)
  · have e : k = 20 := by have := of_decide_eq_true c; omega
    subst e
    walk_at "vc"
    refine v_mk ?_
    walk_at "vc"
    exact ⟨rfl, fun p d hp hd ne => q p d _ hp hd (same_made hp hd) (er_made (k := 20) hp hd ne)⟩
  have e20 : k ≠ 20 := by intro z; exact c (by simp [z])
  clear c
  walk_at "vc"
  refine ite2 (fun c => ?_) (fun c => ?_)
  · have e : k = 21 := by have := of_decide_eq_true c; omega
    subst e
    walk_at "vc"
    refine v_mkK ?_
    walk_at "vc"
    exact ⟨rfl, fun p d hp hd ne => q p d _ hp hd (same_made hp hd) (er_made (k := 21) hp hd ne)⟩
  have e21 : k ≠ 21 := by intro z; exact c (by simp [z])
  clear c
  walk_at "vc"
  refine ite2 (fun c => ?_) (fun c => ?_)
  · have e : k = 22 := by have := of_decide_eq_true c; omega
    subst e
    walk_at "vc"
    refine v_mkK ?_
    walk_at "vc"
    exact ⟨rfl, fun p d hp hd ne => q p d _ hp hd (same_made hp hd) (er_made (k := 22) hp hd ne)⟩
  have e22 : k ≠ 22 := by intro z; exact c (by simp [z])
  clear c
  walk_at "vc"
  refine ite2 (fun c => ?_) (fun c => ?_)
  · have e : k = 23 := by have := of_decide_eq_true c; omega
    subst e
    walk_at "vc"
    refine v_mk ?_
    walk_at "vc"
    exact ⟨rfl, fun p d hp hd ne => q p d _ hp hd (same_made hp hd) (er_made (k := 23) hp hd ne)⟩
  have e23 : k ≠ 23 := by intro z; exact c (by simp [z])
  clear c
  walk_at "vc"
  refine ite2 (fun c => ?_) (fun c => ?_)
  · have e : k = 24 := by have := of_decide_eq_true c; omega
    subst e
    walk_at "vc"
    refine v_mkK ?_
    walk_at "vc"
    exact ⟨rfl, fun p d hp hd ne => q p d _ hp hd (same_made hp hd) (er_made (k := 24) hp hd ne)⟩
  have e24 : k ≠ 24 := by intro z; exact c (by simp [z])
  clear c
  walk_at "vc"
  refine ite2 (fun c => ?_) (fun c => ?_)
  · have e : k = 25 := by have := of_decide_eq_true c; omega
    subst e
    walk_at "vc"
    refine v_mkK ?_
    walk_at "vc"
    exact ⟨rfl, fun p d hp hd ne => q p d _ hp hd (same_made hp hd) (er_made (k := 25) hp hd ne)⟩
  have e25 : k ≠ 25 := by intro z; exact c (by simp [z])
  clear c
  walk_at "vc"
  refine ite2 (fun c => ?_) (fun c => ?_)
  · have e : k = 26 := by have := of_decide_eq_true c; omega
    subst e
    walk_at "vc"
    refine v_mkK ?_
    walk_at "vc"
    exact ⟨rfl, fun p d hp hd ne => q p d _ hp hd (same_made hp hd) (er_made (k := 26) hp hd ne)⟩
  have e26 : k ≠ 26 := by intro z; exact c (by simp [z])
  clear c
  walk_at "vc"
  refine ite2 (fun c => ?_) (fun c => ?_)
  · have e : k = 27 := by have := of_decide_eq_true c; omega
    subst e
    walk_at "vc"
    refine v_mkK ?_
    walk_at "vc"
    exact ⟨rfl, fun p d hp hd ne => q p d _ hp hd (same_made hp hd) (er_made (k := 27) hp hd ne)⟩
  have e27 : k ≠ 27 := by intro z; exact c (by simp [z])
  clear c
  walk_at "vc"
  refine ite2 (fun c => ?_) (fun c => ?_)
  · have e : k = 28 := by have := of_decide_eq_true c; omega
    subst e
    walk_at "vc"
    refine v_mkK ?_
    walk_at "vc"
    exact ⟨rfl, fun p d hp hd ne => q p d _ hp hd (same_made hp hd) (er_made (k := 28) hp hd ne)⟩
  have e28 : k ≠ 28 := by intro z; exact c (by simp [z])
  clear c
  walk_at "vc"
  refine ite2 (fun c => ?_) (fun c => ?_)
  · have e : k = 29 := by have := of_decide_eq_true c; omega
    subst e
    walk_at "vc"
    refine v_mkK ?_
    walk_at "vc"
    exact ⟨rfl, fun p d hp hd ne => q p d _ hp hd (same_made hp hd) (er_made (k := 29) hp hd ne)⟩
  have e29 : k ≠ 29 := by intro z; exact c (by simp [z])
  clear c
  walk_at "vc"
  refine ite2 (fun c => ?_) (fun c => ?_)
  · have e : k = 30 := by have := of_decide_eq_true c; omega
    subst e
    walk_at "vc"
    refine v_mkK ?_
    walk_at "vc"
    exact ⟨rfl, fun p d hp hd ne => q p d _ hp hd (same_made hp hd) (er_made (k := 30) hp hd ne)⟩
  have e30 : k ≠ 30 := by intro z; exact c (by simp [z])
  clear c
  walk_at "vc"
  refine ite2 (fun c => ?_) (fun c => ?_)
  · have e : k = 31 := by have := of_decide_eq_true c; omega
    subst e
    walk_at "vc"
    refine v_mkK ?_
    walk_at "vc"
    exact ⟨rfl, fun p d hp hd ne => q p d _ hp hd (same_made hp hd) (er_made (k := 31) hp hd ne)⟩
  have e31 : k ≠ 31 := by intro z; exact c (by simp [z])
  clear c
  walk_at "vc"
  refine ite2 (fun c => ?_) (fun c => ?_)
  · have e : k = 32 := by have := of_decide_eq_true c; omega
    subst e
    walk_at "vc"
    refine v_mkK ?_
    walk_at "vc"
    exact ⟨rfl, fun p d hp hd ne => q p d _ hp hd (same_made hp hd) (er_made (k := 32) hp hd ne)⟩
  have e32 : k ≠ 32 := by intro z; exact c (by simp [z])
  clear c
  walk_at "vc"
  have e : k = 33 := by omega
  clear e17 e18 e19 e20 e21 e22 e23 e24 e25 e26 e27 e28 e29 e30 e31 e32
  subst e
  walk_at "vc"
  refine v_mk ?_
  walk_at "vc"
  exact ⟨rfl, fun p d hp hd ne => q p d _ hp hd (same_made hp hd) (er_made (k := 33) hp hd ne)⟩

end
section
abbrev N_law_named : List Str := ["k", "a", "b"]
def t_law_named (K : PySem.W.Frag) : TS :=
  (tRet (tIf (tTest (tOp rLtI (tVar 0) (tC (.int 17)))) (tCall (sp_law_name_one K) [] E0 (tCons (tVar 0) (tCons (tVar 1) (tCons (tVar 2) tNil)))) (tCall (sp_law_name_two K) [] E0 (tCons (tVar 0) (tCons (tVar 1) (tCons (tVar 2) tNil))))))
abbrev sp_law_named (K : PySem.W.Frag) : Sp := sp_made K 0 34
theorem pure_law_named {K : PySem.W.Frag} (vs : List V) (H : Hp) (Q : VK) (E : XK) (h : sp_law_named K vs H Q E) : t_law_named K { nx := fun _ H' => Q .non H', rt := Q } (start N_law_named vs) H := by
  obtain ⟨k, a, b, rfl, h1, h2, q⟩ := h
  show t_law_named K _ [some (.int k), some a, some b] H
  unfold t_law_named
  walk_at "vc"
  refine ite2 (fun c => ?_) (fun c => ?_)
  · walk_at "vc"
    have c2 : k < 17 := by have := of_decide_eq_true c; omega
    exact ⟨k, a, b, rfl, h1, c2, q⟩
  · walk_at "vc"
    have c2 : 17 ≤ k := by
      refine Nat.le_of_not_lt fun z => c (decide_eq_true (by omega))
    exact ⟨k, a, b, rfl, c2, h2, q⟩

end
section

def sp_law_any (K : PySem.W.Frag) (n : Nat) : Sp := fun vs H Q _ => ∃ b m g, vs = [.ref b, .int m] ∧ 0 ≤ m ∧ m < (n : Nat) ∧ Bag K H b g ∧ ∀ x d H', Dp K (nw H H') x d → fit (m.toNat + 1) d → Bag K H' b g → Kp b H H' → Q x H'
abbrev N_law_any : List Str := ["bag", "deep", "pick", "found", "k"]
def t_law_any (K : PySem.W.Frag) (n : Nat) : TS :=
  (tSeq (tAsg (tCall (sp_law_draw K) [] E0 (tCons (tVar 0) (tCons (tIf (tTest (tOp rGtI (tVar 1) (tC (.int 0)))) (tC (.int 10)) (tC (.int 8))) tNil))) (gName 2))
    (tSeq (tIfS (tTest (tOp rLtI (tVar 2) (tC (.int 2)))) (tRet (tIf (tTest (tOp (rEqU K) (tVar 2) (tC (.int 0)))) (tC .non) (tOp (rEqU K) (tCall (sp_law_draw K) [] E0 (tCons (tVar 0) (tCons (tC (.int 2)) tNil))) (tC (.int 1))))) tNext)
    (tSeq (tIfS (tTest (tOp rLtI (tVar 2) (tC (.int 4)))) (tRet (tOp rSubI (tCall (sp_law_draw K) [] E0 (tCons (tVar 0) (tCons (tC (.int 23)) tNil))) (tC (.int 5)))) tNext)
    (tSeq (tIfS (tTest (tOp (rEqU K) (tVar 2) (tC (.int 4)))) (tRet (tOp rMulU (tOp rSubI (tCall (sp_law_draw K) [] E0 (tCons (tVar 0) (tCons (tC (.int 1999999)) tNil))) (tC (.int 999999))) (tOp rPowU (tC (.int 10)) (tC (.int 24))))) tNext)
    (tSeq (tIfS (tTest (tOp rLtI (tVar 2) (tC (.int 8)))) (tRet (tCall (sp_law_of K) [] E0 (tCons (tVar 0) (tCons (tLst (tCons (tC (.str "")) (tCons (tC (.str "form")) (tCons (tC (.str "0")) (tCons (tC (.str "i")) (tCons (tC (.str "A 0 1")) (tCons (tC (.str "-")) (tCons (tC (.str "missing")) (tCons (tC (.str "a b\n")) (tCons (tC (.str "TooNarrow")) (tCons (tC (.str " ")) tNil))))))))))) tNil)))) tNext)
    (tSeq (tAsg (tLc (iRng1 (tCons (tCall (sp_law_draw K) [] E0 (tCons (tVar 0) (tCons (tC (.int 4)) tNil))) tNil)) (gName 4) tYes (tCall (sp_law_any K n) [] E0 (tCons (tVar 0) (tCons (tOp rSubI (tVar 1) (tC (.int 1))) tNil))) [4]) (gName 3))
    (tRet (tIf (tTest (tOp (rEqU K) (tVar 2) (tC (.int 8)))) (tVar 3) (tCB (rTupOf K) (tCons (tVar 3) tNil))))))))))
theorem no_law_any {K : PySem.W.Frag} {vs : List V} {H : Hp} {Q : VK} {E : XK} (h : sp_law_any K 0 vs H Q E) : False := by
  obtain ⟨_, _, _, _, h0, h1, _⟩ := h
  exact absurd h1 (by omega)
theorem pure_law_any {K : PySem.W.Frag} (n : Nat) (vs : List V) (H : Hp) (Q : VK) (E : XK) (h : sp_law_any K (n + 1) vs H Q E) : t_law_any K n { nx := fun _ H' => Q .non H', rt := Q } (start N_law_any vs) H := by
  obtain ⟨b, m, g, rfl, m0, hn, B, k⟩ := h
  show t_law_any K n _ [some (.ref b), some (.int m), none, none, none] H
  unfold t_law_any
  walk_at "vc"
  refine ite2 (fun c => ?_) (fun c => ?_)
  all_goals
    walk_at "vc"
    refine ⟨b, _, g, rfl, B, by decide, fun d H1 d0 d1 B1 K1 => ?_⟩
    have d2 : d < 8 ∨ 0 < m := by have := of_decide_eq_true (p := 0 < m); simp only [decide_eq_true_eq] at c; omega
    clear c d1
    walk_at "vc"
    refine ite2 (fun c => ?_) (fun c => ?_)
    · walk_at "vc"
      refine ite2 (fun c => ?_) (fun c => ?_)
      · walk_at "vc"
        exact k _ _ _ .non trivial B1 K1
      · walk_at "vc"
        refine ⟨b, _, g, rfl, B1, by decide, fun e H2 e0 e1 B2 K2 => ?_⟩
        walk_at "vc"
        exact k _ _ _ (.bl _) trivial B2 (K1.trans K2)
    walk_at "vc"
    refine ite2 (fun c => ?_) (fun c => ?_)
    · walk_at "vc"
      refine ⟨b, _, g, rfl, B1, by decide, fun e H2 e0 e1 B2 K2 => ?_⟩
      walk_at "vc"
      exact k _ _ _ (.int _) trivial B2 (K1.trans K2)
    walk_at "vc"
    refine ite2 (fun c => ?_) (fun c => ?_)
    · walk_at "vc"
      refine ⟨b, _, g, rfl, B1, by decide, fun e H2 e0 e1 B2 K2 => ?_⟩
      walk_at "vc"
      refine v_muli (cmul_l (by omega) (by omega)) ?_
      exact k _ _ _ (.int _) trivial B2 (K1.trans K2)
    walk_at "vc"
    refine ite2 (fun c => ?_) (fun c => ?_)
    · walk_at "vc"
      refine ⟨by rw [sizeLine_eq]; decide, fun p hp => ?_⟩
      walk_at "vc"
      refine ⟨b, _, g, rfl, B1.new hp, .inl ⟨p, _, rfl, .inl (SqL.of (by rw [wo_out (by simpa using B1.ne hp)]; exact upd_same)), by decide, by rw [sizeLine_eq]; decide, fun i y H2 hy B2 K2 => ?_⟩⟩
      obtain ⟨s, rfl⟩ := str_of (ys := ["", "form", "0", "i", "A 0 1", "-", "missing", "a b\n", "TooNarrow", " "]) hy
      exact k _ _ _ (.str _) trivial B2 ((K1.trans (kp_new1 hp)).trans K2)
    walk_at "vc"
    refine ⟨b, _, g, rfl, B1, by decide, fun e H2 e0 e1 B2 K2 => ?_⟩
    have m1 : 0 < m := d2.elim (fun z => absurd (decide_eq_true (by omega)) c) id
    walk_at "vc"
    refine v_irr (j := e) ⟨by omega, by omega⟩ ?_
    have G2 : Gr H H2 := gr_kp (K1.trans K2) B2.some
    have nb := B.some
    refine lc_bag (El := fun _ x A => ∃ d, Dp K A x d ∧ fit m.toNat d) (H0 := H) (b := b) (g := g) (fun i x A B' e ⟨d, h, f⟩ => ⟨d, same_dp e h, f⟩) B2 G2 (by omega) ?_ (fun _ => rfl) ?_
    · intro D i H3 hi hD hD3 B3 K3 R hR
      walk_at "vc"
      refine ⟨b, m - 1, g, rfl, by omega, by omega, B3, fun x d H4 hd hf B4 K4 => ?_⟩
      refine hR x H4 ⟨d, ?_, fit_mono (by omega) hf⟩ B4 K4
      refine same_dp (nw_into (G2.trans (gr_kp K3 B3.some)) fun a ha => ?_) hd
      rcases List.mem_cons.mp ha with z | z
      · subst z; exact B3.some
      · rw [List.mem_singleton.mp z]; exact hD3
    · intro D H3 vs hD B3 K3 hl hlen hall
      obtain ⟨ds, hds, hfit⟩ := dps_of hall
      have hDH : H D = none := G2 D hD
      have Da : nw H H3 D = some (.lst vs) := by rw [nw_at hDH]; exact hl
      have hds2 : DpAll K (nw H H3) vs ds := same_dps wo_le hds
      have K4 : Kp b H H3 := (K1.trans K2).trans K3
      have ln : ds.length ≤ 1000000 := by
        have := dps_len hds
        omega

      walk_at "vc"
      refine ite2 (fun c => ?_) (fun c => ?_)
      · walk_at "vc"
        refine k _ (.list ds) _ (.lst (SqL.of Da) hds2) ?_ B3 K4
        exact ⟨ln, hfit⟩
      · walk_at "vc"
        refine v_tuple (SqL.of hl) fun t ht => ?_
        have ht2 := gr_kp K4 B3.some t ht
        have e1 : Same (nw H H3) (nw H (upd H3 t (.tup vs))) := nw_stepW (kp_new1 (b := b) ht) nb
        exact k _ (.tuple ds) _ (.tup (sqt_of (by rw [nw_at ht2]; exact upd_same)) (same_dps e1 hds2)) ⟨ln, hfit⟩ (B3.new ht) (K4.trans (kp_new1 ht))

end
section
abbrev N_law_bag : List Str := ["script", "mix", "item"]
def t_law_bag (K : PySem.W.Frag) : TS :=
  (tSeq (tAsg (tC (.int 40961)) (gName 1))
    (tSeq (tFor (iList K (tSl (rSlU K) (tVar 0) tNoPart (tPart (tC (.int 63))))) (gName 2)
    (tAsg (tOp rModU (tCB rInt1 (tCons (tOp (rAddU K) (tOp (rAddU K) (tOp rMulU (tVar 1) (tC (.int 48119))) (tOp rModU (tCB rInt1 (tCons (tVar 2) tNil)) (tC (.int 2147483563)))) (tC (.int 17))) tNil)) (tC (.int 2147483549))) (gName 1)))
    (tRet (tLst (tCons (tCB (rListOf K) (tCons (tSl (rSlU K) (tVar 0) tNoPart (tPart (tC (.int 63)))) tNil)) (tCons (tC (.int 0)) (tCons (tC (.int 0)) (tCons (tVar 1) (tCons (tC (.int 0)) tNil)))))))))
theorem cutV_map {α : Type} (f : α → V) (xs : List α) (lo hi : Option Int) : ∃ ys : List α, cutV (xs.map f) lo hi = ys.map f ∧ ys.length ≤ xs.length := by
  unfold cutV
  rw [← List.map_drop, ← List.map_take]
  exact ⟨_, rfl, Nat.le_trans (List.length_take_le' _ _) (by rw [List.length_drop]; omega)⟩
def sp_law_bag (K : PySem.W.Frag) : Sp := fun vs H Q _ => ∃ (a : Addr) (ns : List Int), vs = [.ref a] ∧ SqL K H a (ns.map V.int) ∧ ∀ b H' g, H b = none → Bag K H' b g → Same H H' → Q (.ref b) H'
theorem pure_law_bag {K : PySem.W.Frag} (vs : List V) (H : Hp) (Q : VK) (E : XK) (h : sp_law_bag K vs H Q E) : t_law_bag K { nx := fun _ H' => Q .non H', rt := Q } (start N_law_bag vs) H := by
  obtain ⟨a, ns, rfl, hS, k⟩ := h
  show t_law_bag K _ [some (.ref a), none, none] H
  unfold t_law_bag
  walk_at "vc"
  intro p hp
  obtain ⟨ys, ey, ly⟩ := cutV_map V.int ns none (some 63)
  rw [ey]
  have hS1 : SqL K (upd H p (.lst (ys.map V.int))) a (ns.map V.int) := same_sql (same_new hp) hS
  walk_at "vc"
  refine for_l (xs := ys.map V.int) (fun i σ H' => ∃ m x, σ = [some (.ref a), some (.int m), x] ∧ 0 ≤ m ∧ m < 2147483647 ∧ H' = upd H p (.lst (ys.map V.int))) ⟨40961, none, rfl, by decide, by decide, rfl⟩ (fun i σ H' _ ⟨m, x, _, _, _, e⟩ => by subst e; exact SqL.of upd_same) ?_ ?_
  · rintro i y σ H' hy ⟨m, x, rfl, h0, h1, rfl⟩
    obtain ⟨z, hz, rfl⟩ : ∃ z, ys[i]? = some z ∧ y = V.int z := by
      rw [List.getElem?_map] at hy
      cases e : ys[i]? with
      | none => rw [e] at hy; cases hy
      | some z => rw [e] at hy; exact ⟨z, rfl, (Option.some.inj hy).symm⟩
    walk_at "vc"
    exact ⟨_, some (.int z), rfl, Int.emod_nonneg _ (by decide), Int.lt_trans (Int.emod_lt_of_pos _ (by decide)) (by decide), rfl⟩
  · rintro σ H' ⟨m, x, rfl, h0, h1, rfl⟩
    walk_at "vc"
    intro q hq
    rw [ey]
    have hS2 : SqL K (upd (upd H p (.lst (ys.map V.int))) q (.lst (ys.map V.int))) q (ys.map V.int) := SqL.of upd_same
    walk_at "vc"
    intro l hl
    walk_at "vc"
    refine ⟨by show 5 ≤ sizeLine; decide, fun b hb => ?_⟩
    have S3 := ((same_new (o := .lst (ys.map V.int)) hp).trans (same_new (o := .lst (ys.map V.int)) hq)).trans (same_new (o := .lst (ys.map V.int)) hl)
    refine k b _ (l, ys) (S3.free hb) ⟨0, 0, m, 0, upd_same, ?_, by decide, by decide, h0, h1⟩ (S3.trans (same_new hb))
    refine SqL.of ?_
    rw [wo_out (by simpa using (ne_new upd_same hb))]
    exact h_ne (ne_new upd_same hb) upd_same

end
section
abbrev N_law : List Str := ["script", "bag", "passed", "first", "k", "a", "b"]
def t_law (K : PySem.W.Frag) : TS :=
  (tSeq (tAsg (tCall (sp_law_bag K) [] E0 (tCons (tVar 0) tNil)) (gName 1))
    (tSeq (tAsg (tLc (iRng1 (tCons (tC (.int 34)) tNil)) (gName 4) tYes (tTup (tCons (tCall (sp_law_any K 6) [] E0 (tCons (tVar 1) (tCons (tC (.int 2)) tNil))) (tCons (tCall (sp_law_any K 6) [] E0 (tCons (tVar 1) (tCons (tC (.int 1)) tNil))) tNil))) [4]) (gName 2))
    (tSeq (tAsg (tLc (iRng1 (tCons (tC (.int 34)) tNil)) (gName 4) tYes (tCall (sp_law_made K) [] E0 (tCons (tVar 4) (tCons (tOp (rIx K) (tOp (rIx K) (tVar 2) (tVar 4)) (tC (.int 0))) (tCons (tOp (rIx K) (tOp (rIx K) (tVar 2) (tVar 4)) (tC (.int 1))) tNil)))) [4]) (gName 3))
    (tSeq (tFor (iList K (tCall (sp_law_some K) [] E0 (tCons (tVar 1) (tCons (tLstRg (tRg1 (tC (.int 34)))) (tCons (tC (.int 34)) tNil))))) (gName 4)
    (tSeq (tPar 5 6 (tCons (tCall (sp_law_any K 6) [] E0 (tCons (tVar 1) (tCons (tC (.int 1)) tNil))) (tCons (tCall (sp_law_any K 6) [] E0 (tCons (tVar 1) (tCons (tC (.int 2)) tNil))) tNil)))
    (tIfS (tOr (tNot (tB (tCall (sp_law_is_one K) [] E0 (tCons (tVar 4) (tCons (tCall (sp_law_named K) [] E0 (tCons (tVar 4) (tCons (tVar 5) (tCons (tVar 6) tNil)))) (tCons (tVar 5) (tCons (tVar 6) tNil))))))) (tNot (tB (tCall (sp_law_is_one K) [] E0 (tCons (tVar 4) (tCons (tCall (sp_law_made K) [] E0 (tCons (tVar 4) (tCons (tVar 6) (tCons (tVar 5) tNil)))) (tCons (tVar 6) (tCons (tVar 5) tNil)))))))) (tRet (tC (.bl false))) tNext)))
    (tRet (tCB (rAll K) (tCons (tLc (iRng1 (tCons (tC (.int 34)) tNil)) (gName 4) tYes (tCall (sp_law_is_one K) [] E0 (tCons (tVar 4) (tCons (tOp (rIx K) (tVar 3) (tVar 4)) (tCons (tOp (rIx K) (tOp (rIx K) (tVar 2) (tVar 4)) (tC (.int 0))) (tCons (tOp (rIx K) (tOp (rIx K) (tVar 2) (tVar 4)) (tC (.int 1))) tNil))))) [4]) tNil)))))))
/-- a pair of drawn values -/
def El1 (K : PySem.W.Frag) (i : Nat) (x : V) (A : Hp) : Prop := ∃ T u v du dv, x = .ref T ∧ A T = some (.tup [u, v]) ∧ Dp K A u du ∧ Dp K A v dv ∧ fit 4 du ∧ fit 4 dv
theorem el1_mono {K : PySem.W.Frag} {i : Nat} {x : V} {A B : Hp} (e : Same A B) (h : El1 K i x A) : El1 K i x B := by
  obtain ⟨T, u, v, du, dv, rfl, h1, h2, h3, h4, h5⟩ := h
  exact ⟨T, u, v, du, dv, rfl, e _ _ h1, same_dp e h2, same_dp e h3, h4, h5⟩
/-- the error of its number with the pair of its number -/
def El2 (K : PySem.W.Frag) (ps : List V) (i : Nat) (x : V) (A : Hp) : Prop := ∃ p d T u v, x = .ref p ∧ ps[i]? = some (.ref T) ∧ A T = some (.tup [u, v]) ∧ ErAt K A p d i u v
theorem el2_mono {K : PySem.W.Frag} {ps : List V} {i : Nat} {x : V} {A B : Hp} (e : Same A B) (h : El2 K ps i x A) : El2 K ps i x B := by
  obtain ⟨p, d, T, u, v, rfl, h1, h2, h3⟩ := h
  exact ⟨p, d, T, u, v, rfl, h1, e _ _ h2, er_same e h3⟩
theorem er_woS {K : PySem.W.Frag} {S : List Addr} {H : Hp} {p d : Addr} {k : Nat} {a b : V} (h : ErAt K H p d k a b) (h1 : p ∉ S) (h2 : d ∉ S) : ErAt K (wo S H) p d k a b := ⟨by rw [wo_out h1]; exact h.1, by rw [wo_out h2]; exact h.2⟩
def sp_law (K : PySem.W.Frag) : Sp := fun vs H Q _ => ∃ (a : Addr) (ns : List Int), vs = [.ref a] ∧ SqL K H a (ns.map V.int) ∧ ∀ H', Q (.bl true) H'
theorem pure_law {K : PySem.W.Frag} (vs : List V) (H : Hp) (Q : VK) (E : XK) (h : sp_law K vs H Q E) : t_law K { nx := fun _ H' => Q .non H', rt := Q } (start N_law vs) H := by
  obtain ⟨sc, ns, rfl, hS, k⟩ := h
  show t_law K _ [some (.ref sc), none, none, none, none, none, none] H
  unfold t_law
  walk_at "vc"
  refine ⟨sc, ns, rfl, hS, fun b H0 g hb B0 S0 => ?_⟩
  walk_at "vc"
  refine v_irr (j := 34) (by decide) ?_
  refine lc_bag (El := El1 K) (H0 := Em) (b := b) (g := g) (fun i x A B e h => el1_mono e h) B0 gr_em (by decide) ?_ (fun _ => rfl) ?_
  · intro D i H1 hi hD hD1 B1 K1 R hR
    walk_at "vc"
    refine ⟨b, 2, g, rfl, by decide, by decide, B1, fun u du H2 hu fu B2 K2 => ?_⟩
    walk_at "vc"
    refine ⟨b, 1, g, rfl, by decide, by decide, B2, fun v dv H3 hv fv B3 K3 => ?_⟩
    walk_at "vc"
    refine ⟨by show 2 ≤ sizeLine; rw [sizeLine_eq]; decide, fun T hT => ?_⟩
    have D2 := ne_up (gr_kp K2 B2.some) hD1
    have D3 := ne_up (gr_kp K3 B3.some) D2
    have two : ∀ {X : Hp}, X b ≠ none → X D ≠ none → ∀ a, a ∈ [b, D] → X a ≠ none := fun h1 h2 a ha => by
      rcases List.mem_cons.mp ha with z | z
      · rw [z]; exact h1
      · rw [List.mem_singleton.mp z]; exact h2
    have KT : Kp b H3 (upd H3 T (.tup [u, v])) := kp_new1 hT
    refine hR _ _ ⟨T, u, v, du, dv, rfl, wo_at upd_same (not_two hT B3.some D3), same_dp ((nw_into gr_em (two B1.some hD1)).trans ((nw_step K3 (.inl (by simp))).trans (nw_step KT (.inl (by simp))))) hu, same_dp ((nw_into gr_em (two B2.some D2)).trans (nw_step KT (.inl (by simp)))) hv, fit_mono (by decide) fu, fit_mono (by decide) fv⟩ (B3.new hT) ((K2.trans K3).trans KT)
  · intro D1 H1 ps hD1 B1 K1 h1 l1 e1
    have n1 := B0.ne hD1
    have e1' : ∀ i x, ps[i]? = some x → El1 K i x (wo [b] H1) := fun i x h => el1_mono (same_sub (by simp)) (e1 i x h)
    walk_at "vc"
    refine v_irr (j := 34) (by decide) ?_
    refine lc_bag (El := El2 K ps) (H0 := Em) (b := b) (g := g) (fun i x A B e h => el2_mono e h) B1 gr_em (by decide) ?_ (fun _ => rfl) ?_
    · intro D i H2 hi hD hD2 B2 K2 R hR
      have hg : ps[i]? = some ps[i] := List.getElem?_eq_getElem (by rw [l1]; exact hi)
      obtain ⟨T, u, v, du, dv, hT, t1, hu, hv, fu, fv⟩ := e1' i _ hg
      rw [hT] at hg
      have tT := (wo_get (K2 _ _ t1)).2
      have g1 := kp_get K2 n1 h1
      have DT : T ≠ D := fun z => by
        have q := (wo_get t1).2
        rw [z, hD] at q
        cases q
      walk_at "vc"
      refine v_ixl (SqL.of g1) (by rw [Int.zero_add]; exact atI_nat hg) ?_
      walk_at "vc"
      refine v_ixt (sqt_of tT) (show atI [u, v] 0 = some u from rfl) ?_
      walk_at "vc"
      refine v_ixl (SqL.of g1) (by rw [Int.zero_add]; exact atI_nat hg) ?_
      walk_at "vc"
      refine v_ixt (sqt_of tT) (show atI [u, v] 1 = some v from rfl) ?_
      walk_at "vc"
      refine ⟨i, u, v, by rw [Int.zero_add], Nat.zero_le _, hi, fun p d H3 hp hd S er => ?_⟩
      have nT : T ∉ [b, D] := fun z => by
        rcases List.mem_cons.mp z with z | z
        · exact (wo_get t1).1 (by simp [z])
        · exact DT (List.mem_singleton.mp z)
      exact hR _ _ ⟨p, d, T, u, v, rfl, hg, wo_at (S _ _ tT) nT, er_woS er (not_two hp B2.some hD2) (not_two hd B2.some hD2)⟩ (B2.same S) (kp_same S)
    · intro D2 H2 es hD2 B2 K2 h2 l2 e2
      have n2 := B1.ne hD2
      have e2' : ∀ i x, es[i]? = some x → El2 K ps i x (wo [b] H2) := fun i x h => el2_mono (same_sub (by simp)) (e2 i x h)
      have e1'' : ∀ i x, ps[i]? = some x → El1 K i x (wo [b] H2) := fun i x h => el1_mono K2 (e1' i x h)
      have h1' := kp_get K2 n1 h1
      walk_at "vc"
      refine v_lrgc (n := 34) (by decide) fun q hq => ?_
      have n3 := B2.ne hq
      walk_at "vc"
      refine ⟨b, q, 34, g, _, rfl, B2.new hq, .inl (SqL.of (wo_at upd_same (by simpa using n3))), by decide, by decide, by decide, fun y H3 ys rest hy h3 B3 K3 pm ln => ?_⟩
      have lp := pm.length_eq
      have hr0 : rest = [] := by
        rw [List.length_append, List.length_map, List.length_range] at lp
        rw [List.length_map, List.length_range] at ln
        exact List.eq_nil_of_length_eq_zero (by omega)
      rw [hr0, List.append_nil] at pm
      have K3' := (kp_new1 (b := b) hq).trans K3
      have hy2 := upd_none hy
      have n4 : y ≠ b := B2.ne hy2.2
      have e1q : ∀ i x, ps[i]? = some x → El1 K i x (wo [b] H3) := fun i x h => el1_mono K3' (e1'' i x h)
      have e2q : ∀ i x, es[i]? = some x → El2 K ps i x (wo [b] H3) := fun i x h => el2_mono K3' (e2' i x h)
      have h1q := kp_get K3' n1 h1'
      have h2q := kp_get K3' n2 h2
      walk_at "vc"
      refine for_l (fun i σ X => ∃ a b1 c, σ = [some (.ref sc), some (.ref b), some (.ref D1), some (.ref D2), a, b1, c] ∧ Bag K X b g ∧ Kp b H3 X) ⟨_, _, _, rfl, B3, Same.refl _⟩ (fun i σ X _ ⟨_, _, _, _, _, KX⟩ => SqL.of (kp_get KX n4 h3)) ?_ ?_
      · rintro i x σ X hx ⟨a0, b0, c0, rfl, BX, KX⟩
        obtain ⟨j, hj, ej⟩ := List.mem_map.mp (pm.mem_iff.mp (List.mem_of_getElem? hx))
        have hj := List.mem_range.mp hj
        subst ej
        walk_at "vc"
        refine ⟨b, 1, g, rfl, by decide, by decide, BX, fun u du H4 hu fu B4 K4 => ?_⟩
        walk_at "vc"
        refine ⟨b, 2, g, rfl, by decide, by decide, B4, fun v dv H5 hv fv B5 K5 => ?_⟩
        walk_at "vc"
        have u5 : Dp K (wo [b] H5) u du := same_dp ((nw_into gr_em (S := [b]) (by simpa using BX.some)).trans (nw_step K5 (.inl (by simp)))) hu
        have v5 : Dp K (wo [b] H5) v dv := same_dp (nw_into gr_em (S := [b]) (by simpa using B4.some)) hv
        refine ⟨j, u, v, rfl, Nat.zero_le _, hj, fun p d H6 hp hd S6 er => ?_⟩
        walk_at "vc"
        refine ⟨j, p, d, u, v, du, dv, rfl, hj, er, same_dp (wo_le.trans S6) u5, same_dp (wo_le.trans S6) v5, fit_mono (by decide) fu, fit_mono (by decide) fv, fun H7 S7 => ?_⟩
        walk_at "vc"
        refine iF (by decide) ?_
        walk_at "vc"
        have S57 := S6.trans S7
        refine ⟨j, v, u, rfl, Nat.zero_le _, hj, fun p2 d2 H8 hp2 hd2 S8 er2 => ?_⟩
        walk_at "vc"
        have S58 := S57.trans S8
        refine ⟨j, p2, d2, v, u, dv, du, rfl, hj, er2, same_dp (wo_le.trans S58) v5, same_dp (wo_le.trans S58) u5, fit_mono (by decide) fv, fit_mono (by decide) fu, fun H9 S9 => ?_⟩
        walk_at "vc"
        refine iF (by decide) ?_
        walk_at "vc"
        have S59 := S58.trans S9
        exact ⟨_, _, _, rfl, B5.same S59, ((KX.trans K4).trans K5).trans (kp_same S59)⟩
      · rintro σ X ⟨a0, b0, c0, rfl, BX, KX⟩
        walk_at "vc"
        refine v_irr (j := 34) (by decide) ?_
        refine lc_bag (El := fun _ x _ => x = .bl true) (H0 := Em) (b := b) (g := g) (fun i x A B _ h => h) BX gr_em (by decide) ?_ (fun _ => rfl) ?_
        · intro D i X2 hi hD hD2 BX2 KX2 R hR
          have KX3 := KX.trans KX2
          have hg : ps[i]? = some ps[i] := List.getElem?_eq_getElem (by rw [l1]; exact hi)
          have he : es[i]? = some es[i] := List.getElem?_eq_getElem (by rw [l2]; exact hi)
          obtain ⟨T, u, v, du, dv, hT, t1, hu, hv, fu, fv⟩ := e1q i _ hg
          obtain ⟨p, d, T2, u2, v2, hp, hg2, t2, er⟩ := e2q i _ he
          rw [hg, hT] at hg2
          cases hg2
          rw [hT] at hg
          rw [hp] at he
          rw [t1] at t2
          cases t2
          have tT := (wo_get (KX3 _ _ t1)).2
          have g1 := kp_get KX3 n1 h1q
          have g2 := kp_get KX3 n2 h2q
          walk_at "vc"
          refine v_ixl (SqL.of g2) (by rw [Int.zero_add]; exact atI_nat he) ?_
          walk_at "vc"
          refine v_ixl (SqL.of g1) (by rw [Int.zero_add]; exact atI_nat hg) ?_
          walk_at "vc"
          refine v_ixt (sqt_of tT) (show atI [u, v] 0 = some u from rfl) ?_
          walk_at "vc"
          refine v_ixl (SqL.of g1) (by rw [Int.zero_add]; exact atI_nat hg) ?_
          walk_at "vc"
          refine v_ixt (sqt_of tT) (show atI [u, v] 1 = some v from rfl) ?_
          walk_at "vc"
          refine ⟨i, p, d, u, v, du, dv, by rw [Int.zero_add], hi, er_same (KX3.trans wo_le) er, same_dp (KX3.trans wo_le) hu, same_dp (KX3.trans wo_le) hv, fu, fv, fun X3 S3 => ?_⟩
          exact hR _ _ rfl (BX2.same S3) (kp_same S3)
        · intro D X2 zs hD BX2 KX2 hz lz ez
          walk_at "vc"
          have e : zs = (List.replicate 34 true).map V.bl := by
            rw [List.map_replicate]
            refine List.eq_replicate_iff.mpr ⟨lz, fun z hz => ?_⟩
            obtain ⟨i, hi⟩ := List.getElem?_of_mem hz
            exact ez i z hi
          rw [e] at hz
          exact ⟨D, List.replicate 34 true, rfl, SqL.of hz, k _⟩

end
end C
end
section
set_option maxHeartbeats 4000000
local macro_rules | `(tactic| walk_at "splen") => `(tactic| (intro vs H Q E h; first | (obtain ⟨e, _⟩ := h; subst e; rfl) | (obtain ⟨_, e, _⟩ := h; subst e; rfl) | (obtain ⟨_, _, e, _⟩ := h; subst e; rfl) | (obtain ⟨_, _, _, e, _⟩ := h; subst e; rfl) | (obtain ⟨_, _, _, _, e, _⟩ := h; subst e; rfl) | (obtain ⟨_, _, _, _, _, e, _⟩ := h; subst e; rfl) | (obtain ⟨_, _, _, _, _, _, e, _⟩ := h; subst e; rfl) | (obtain ⟨_, _, _, _, _, _, _, e, _⟩ := h; subst e; rfl) | (obtain ⟨_, _, _, _, _, _, _, _, e, _⟩ := h; subst e; rfl) | (obtain ⟨_, _, _, _, _, _, _, _, _, e, _⟩ := h; subst e; rfl) | (obtain ⟨_, _, _, _, _, _, _, _, _, _, e, _⟩ := h; subst e; rfl) | (obtain ⟨_, _, _, _, _, _, _, _, _, _, _, e, _⟩ := h; subst e; rfl)))
namespace D
open PySem PySem.Spec PyProof.Rows L2 RZ U C
section
variable {P : Program} {w : World} {K : PySem.W.Frag} {mg : Str → Option Value} {base : Heap}
structure Fr (mg : Str → Option Value) : Prop where
  int : mg "int" = none
  list : mg "list" = none
  len : mg "len" = none
  range : mg "range" = none
  tuple : mg "tuple" = none
  min : mg "min" = none
  isinstance : mg "isinstance" = none
  bool : mg "bool" = none
  str : mg "str" = none
  zip : mg "zip" = none
  all : mg "all" = none
  ValueError : mg "ValueError" = none
  LookupError : mg "LookupError" = none
  RuntimeError : mg "RuntimeError" = none
  KeyError : mg "KeyError" = none
  IndexError : mg "IndexError" = none
  NotImplementedError : mg "NotImplementedError" = none
  ArithmeticError : mg "ArithmeticError" = none
  TypeError : mg "TypeError" = none
theorem sc_law_bag : FnScope N_law_bag ["script"] (defScope s_law_bag) := ⟨rfl, rfl, rfl, by decide +kernel, rfl, by decide +kernel, by decide +kernel⟩
theorem b_law_bag (W : Fr mg) {f : Addr} {cdv : Value} {A : Around} {outer : List Env} {s : Shared} {H : Hp} {E : XK} (hr : Room 0 (A.deeper (envOfC "_law_bag" (defScope s_law_bag) s.heap.objs.size f cdv))) :
  PSs (cxOf CX0 P w K mg base N_law_bag "_law_bag" (defScope s_law_bag) f cdv A outer s H E).nox (defBody s_law_bag) (t_law_bag K) :=
  have hu64 := hr.units
  have hu65 : (A.deeper (envOfC "_law_bag" (defScope s_law_bag) s.heap.objs.size f cdv)).units + 65 < cLine := by have := hr.un; omega
  (pss_cons (ps_set (i := 1) sc_law_bag.nd rfl (by first | exact Or.inl rfl | exact Or.inr rfl) pe_int)
    (pss_cons (ps_for PassesOwn.never rfl (pi_list (pe_slice o_sl (pv 0) po_none (po_some pe_int))) (pg_name (i := 2) sc_law_bag.nd rfl (by first | exact Or.inl rfl | exact Or.inr rfl))
    (pss_one (ps_set (i := 1) sc_law_bag.nd rfl (by first | exact Or.inl rfl | exact Or.inr rfl) (pe_op o_mod (pe_callTy c_int1 (by rfl) W.int (by first | boot_by_name | rfl | kernel_rfl) (pa_cons (pe_op o_add (pe_op o_add (pe_op o_mul (pv 1) pe_int) (pe_op o_mod (pe_callTy c_int1 (by rfl) W.int (by first | boot_by_name | rfl | kernel_rfl) (pa_cons (pv 2) pa_nil)) pe_int)) pe_int) pa_nil)) pe_int))))
    (pss_one (ps_ret (pe_lst (pa_cons (pe_callTy c_list (by rfl) W.list (by first | boot_by_name | rfl | kernel_rfl) (pa_cons (pe_slice o_sl (pv 0) po_none (po_some pe_int)) pa_nil)) (pa_cons pe_int (pa_cons pe_int (pa_cons (pv 1) (pa_cons pe_int pa_nil))))))))))
theorem ok_law_bag (W : Fr mg) {f : Addr} {fd : FuncData} (F : FunD K "_law_bag" "_law_bag" (defArgs s_law_bag) (defBody s_law_bag) (defScope s_law_bag) [] [] f fd) : FnOk P w K mg base CX0 1 f fd ["script"] (sp_law_bag K) := by
  refine F.ok sc_law_bag ?_ (fun cdv A outer s H vs Q E hr h => ⟨t_law_bag K, PSs.nox (b_law_bag W hr), pure_law_bag vs H Q E h⟩)
  walk_at "splen"
theorem sc_law_draw : FnScope N_law_draw ["bag", "size"] (defScope s_law_draw) := ⟨rfl, rfl, rfl, by decide +kernel, rfl, by decide +kernel, by decide +kernel⟩
theorem b_law_draw (W : Fr mg) {f : Addr} {cdv : Value} {A : Around} {outer : List Env} {s : Shared} {H : Hp} {E : XK} (hr : Room 0 (A.deeper (envOfC "_law_draw" (defScope s_law_draw) s.heap.objs.size f cdv))) :
  PSs (cxOf CX0 P w K mg base N_law_draw "_law_draw" (defScope s_law_draw) f cdv A outer s H E).nox (defBody s_law_draw) (t_law_draw K) :=
  have hu64 := hr.units
  have hu65 : (A.deeper (envOfC "_law_draw" (defScope s_law_draw) s.heap.objs.size f cdv)).units + 65 < cLine := by have := hr.un; omega
  (pss_cons (ps_if (pt_cmpR o_lt (pv 1) pe_int (nomark _)) (pss_one (ps_ret pe_int)) pss_nil)
    (pss_cons (ps_asg (pe_op o_add (pe_ix ix_seq (pv 0) pe_int (fun _ _ => rfl)) pe_int) (pg_sub (pv 0) pe_int set_list))
    (pss_mid (ps_if (PW.pt (pw_and (pt_cmpR (o_eq hu64) (pe_ix ix_seq (pv 0) pe_int (fun _ _ => rfl)) pe_int (nomark _)) (pw_and1 (pt_cmpR o_lt (pe_ix ix_seq (pv 0) pe_int (fun _ _ => rfl)) (pe_callB c_len (by rfl) W.len (by first | boot_by_name | rfl | kernel_rfl) (pa_cons (pe_ix ix_seq (pv 0) pe_int (fun _ _ => rfl)) pa_nil)) (nomark _))))) (pss_cons (ps_set (i := 2) sc_law_draw.nd rfl (by first | exact Or.inl rfl | exact Or.inr rfl) (pe_callTy c_int1 (by rfl) W.int (by first | boot_by_name | rfl | kernel_rfl) (pa_cons (pe_ix ix_seq (pe_ix ix_seq (pv 0) pe_int (fun _ _ => rfl)) (pe_ix ix_seq (pv 0) pe_int (fun _ _ => rfl)) (fun _ _ => rfl)) pa_nil)))
    (pss_cons (ps_asg (pe_op o_add (pe_ix ix_seq (pv 0) pe_int (fun _ _ => rfl)) pe_int) (pg_sub (pv 0) pe_int set_list))
    (pss_one (ps_if (pt_cmpR o_ge (pv 2) (pe_op o_pow pe_int pe_int) (nomark _)) (pss_one (ps_asg (pv 2) (pg_sub (pv 0) pe_int set_list))) (pss_one (ps_asg (pe_op o_mod (pe_callTy c_int1 (by rfl) W.int (by first | boot_by_name | rfl | kernel_rfl) (pa_cons (pe_op o_add (pe_op o_add (pe_op o_mul (pe_ix ix_seq (pv 0) pe_int (fun _ _ => rfl)) pe_int) (pe_op o_mul (pe_op o_mod (pe_callTy c_int1 (by rfl) W.int (by first | boot_by_name | rfl | kernel_rfl) (pa_cons (pv 2) pa_nil)) pe_int) pe_int)) pe_int) pa_nil)) pe_int) (pg_sub (pv 0) pe_int set_list))))))) pss_nil)
    (pss_cons (ps_if (pt_cmpR o_gt (pe_ix ix_seq (pv 0) pe_int (fun _ _ => rfl)) pe_int (nomark _)) (pss_cons (ps_set (i := 3) sc_law_draw.nd rfl (by first | exact Or.inl rfl | exact Or.inr rfl) (pe_op o_mod (pe_callTy c_int1 (by rfl) W.int (by first | boot_by_name | rfl | kernel_rfl) (pa_cons (pe_ix ix_seq (pv 0) pe_int (fun _ _ => rfl)) pa_nil)) (pv 1)))
    (pss_cons (ps_asg (pe_op o_div (pe_callTy c_int1 (by rfl) W.int (by first | boot_by_name | rfl | kernel_rfl) (pa_cons (pe_ix ix_seq (pv 0) pe_int (fun _ _ => rfl)) pa_nil)) (pv 1)) (pg_sub (pv 0) pe_int set_list))
    (pss_one (ps_ret (pv 3))))) pss_nil)
    (pss_cons (ps_set (i := 4) sc_law_draw.nd rfl (by first | exact Or.inl rfl | exact Or.inr rfl) (pe_callTy c_int1 (by rfl) W.int (by first | boot_by_name | rfl | kernel_rfl) (pa_cons (pe_ix ix_seq (pv 0) pe_int (fun _ _ => rfl)) pa_nil)))
    (pss_cons (ps_asg (pe_op o_mod (pe_callTy c_int1 (by rfl) W.int (by first | boot_by_name | rfl | kernel_rfl) (pa_cons (pe_op o_add (pe_op o_add (pe_op o_add (pe_op o_pow (pv 4) pe_int) (pe_op o_mul (pv 4) pe_int)) (pe_op o_mul (pe_ix ix_seq (pv 0) pe_int (fun _ _ => rfl)) pe_int)) pe_int) pa_nil)) pe_int) (pg_sub (pv 0) pe_int set_list))
    (pss_one (ps_ret (pe_op o_mod (pe_callTy c_int1 (by rfl) W.int (by first | boot_by_name | rfl | kernel_rfl) (pa_cons (pe_op o_add (pe_op o_div (pe_ix ix_seq (pv 0) pe_int (fun _ _ => rfl)) pe_int) (pe_op o_mul (pe_op o_mod (pe_callTy c_int1 (by rfl) W.int (by first | boot_by_name | rfl | kernel_rfl) (pa_cons (pe_ix ix_seq (pv 0) pe_int (fun _ _ => rfl)) pa_nil)) pe_int) pe_int)) pa_nil)) (pv 1))))))))))
theorem ok_law_draw (W : Fr mg) {f : Addr} {fd : FuncData} (F : FunD K "_law_draw" "_law_draw" (defArgs s_law_draw) (defBody s_law_draw) (defScope s_law_draw) [] [] f fd) : FnOk P w K mg base CX0 1 f fd ["bag", "size"] (sp_law_draw K) := by
  refine F.ok sc_law_draw ?_ (fun cdv A outer s H vs Q E hr h => ⟨t_law_draw K, PSs.nox (b_law_draw W hr), pure_law_draw vs H Q E h⟩)
  walk_at "splen"
theorem sc_law_of : FnScope N_law_of ["bag", "things"] (defScope s_law_of) := ⟨rfl, rfl, rfl, by decide +kernel, rfl, by decide +kernel, by decide +kernel⟩
theorem b_law_of (W : Fr mg) (D_law_draw : Fd P w K mg base CX0 "_law_draw" 1 ["bag", "size"] (sp_law_draw K)) {f : Addr} {cdv : Value} {A : Around} {outer : List Env} {s : Shared} {H : Hp} {E : XK} (hr : Room 1 (A.deeper (envOfC "_law_of" (defScope s_law_of) s.heap.objs.size f cdv))) :
  PSs (cxOf CX0 P w K mg base N_law_of "_law_of" (defScope s_law_of) f cdv A outer s H E).nox (defBody s_law_of) (t_law_of K) :=
  have hu64 := hr.units
  have hu65 : (A.deeper (envOfC "_law_of" (defScope s_law_of) s.heap.objs.size f cdv)).units + 65 < cLine := by have := hr.un; omega
  (pss_one (ps_ret (pe_ix ix_seq (pv 1) (pe_fd D_law_draw (hr.mono (by omega)) (pa_cons (pv 0) (pa_cons (pe_callB c_len (by rfl) W.len (by first | boot_by_name | rfl | kernel_rfl) (pa_cons (pv 1) pa_nil)) pa_nil))) (fun _ _ => rfl))))
theorem ok_law_of (W : Fr mg) (D_law_draw : Fd P w K mg base CX0 "_law_draw" 1 ["bag", "size"] (sp_law_draw K)) {f : Addr} {fd : FuncData} (F : FunD K "_law_of" "_law_of" (defArgs s_law_of) (defBody s_law_of) (defScope s_law_of) [] [] f fd) : FnOk P w K mg base CX0 2 f fd ["bag", "things"] (sp_law_of K) := by
  refine F.ok sc_law_of ?_ (fun cdv A outer s H vs Q E hr h => ⟨t_law_of K, PSs.nox (b_law_of W D_law_draw hr), pure_law_of vs H Q E h⟩)
  walk_at "splen"
theorem sc_law_any : FnScope N_law_any ["bag", "deep"] (defScope s_law_any) := ⟨rfl, rfl, rfl, by decide +kernel, rfl, by decide +kernel, by decide +kernel⟩
theorem b_law_any (n : Nat) (W : Fr mg) (D_law_draw : Fd P w K mg base CX0 "_law_draw" 1 ["bag", "size"] (sp_law_draw K)) (D_law_of : Fd P w K mg base CX0 "_law_of" 2 ["bag", "things"] (sp_law_of K)) (D_law_any : Fd P w K mg base CX0 "_law_any" (3 + n) ["bag", "deep"] (sp_law_any K n)) {f : Addr} {cdv : Value} {A : Around} {outer : List Env} {s : Shared} {H : Hp} {E : XK} (hr : Room (3 + n) (A.deeper (envOfC "_law_any" (defScope s_law_any) s.heap.objs.size f cdv))) :
  PSs (cxOf CX0 P w K mg base N_law_any "_law_any" (defScope s_law_any) f cdv A outer s H E).nox (defBody s_law_any) (t_law_any K n) :=
  have hu64 := hr.units
  have hu65 : (A.deeper (envOfC "_law_any" (defScope s_law_any) s.heap.objs.size f cdv)).units + 65 < cLine := by have := hr.un; omega
  (pss_cons (ps_set (i := 2) sc_law_any.nd rfl (by first | exact Or.inl rfl | exact Or.inr rfl) (pe_fd D_law_draw (hr.mono (by omega)) (pa_cons (pv 0) (pa_cons (pe_ifExp (pt_cmpR o_gt (pv 1) pe_int (nomark _)) pe_int pe_int) pa_nil))))
    (pss_cons (ps_if (pt_cmpR o_lt (pv 2) pe_int (nomark _)) (pss_one (ps_ret (pe_ifExp (pt_cmpR (o_eq hu64) (pv 2) pe_int (nomark _)) pe_non (pe_cmpR (o_eq hu64) (pe_fd D_law_draw (hr.mono (by omega)) (pa_cons (pv 0) (pa_cons pe_int pa_nil))) pe_int (nomark _))))) pss_nil)
    (pss_cons (ps_if (pt_cmpR o_lt (pv 2) pe_int (nomark _)) (pss_one (ps_ret (pe_op o_sub (pe_fd D_law_draw (hr.mono (by omega)) (pa_cons (pv 0) (pa_cons pe_int pa_nil))) pe_int))) pss_nil)
    (pss_cons (ps_if (pt_cmpR (o_eq hu64) (pv 2) pe_int (nomark _)) (pss_one (ps_ret (pe_op o_mul (pe_op o_sub (pe_fd D_law_draw (hr.mono (by omega)) (pa_cons (pv 0) (pa_cons pe_int pa_nil))) pe_int) (pe_op o_pow pe_int pe_int)))) pss_nil)
    (pss_cons (ps_if (pt_cmpR o_lt (pv 2) pe_int (nomark _)) (pss_one (ps_ret (pe_fd D_law_of (hr.mono (by omega)) (pa_cons (pv 0) (pa_cons (pe_lst (pa_cons pe_str (pa_cons pe_str (pa_cons pe_str (pa_cons pe_str (pa_cons pe_str (pa_cons pe_str (pa_cons pe_str (pa_cons pe_str (pa_cons pe_str (pa_cons pe_str pa_nil))))))))))) pa_nil))))) pss_nil)
    (pss_cons (ps_setLc (i := 3) (own := [("k", 4)]) (g := (gName 4)) (tt := tYes) (by rfl) sc_law_any.nd rfl rfl (sw_true rfl rfl rfl (by decide +kernel)) (pi_range1 (by rfl) W.range (pa_cons (pe_fd D_law_draw (hr.mono (by omega)) (pa_cons (pv 0) (pa_cons pe_int pa_nil))) pa_nil)) (blkOk_by (own := [("k", 4)]) (N := N_law_any) (sc := (defScope s_law_any)) (by decide +kernel)) (fun _ _ _ _ _ => (pg_name (i := 4) sc_law_any.nd rfl (by first | exact Or.inl rfl | exact Or.inr rfl))) (fun _ _ _ _ _ => pts_nil) (fun _ _ _ _ _ => (pe_fd D_law_any (hr.mono (by omega)) (pa_cons (pv 0) (pa_cons (pe_op o_sub (pv 1) pe_int) pa_nil)))))
    (pss_one (ps_ret (pe_ifExp (pt_cmpR (o_eq hu64) (pv 2) pe_int (nomark _)) (pv 3) (pe_callTy c_tuple (by rfl) W.tuple (by first | boot_by_name | rfl | kernel_rfl) (pa_cons (pv 3) pa_nil)))))))))))
theorem ok_law_any (W : Fr mg) (D_law_draw : Fd P w K mg base CX0 "_law_draw" 1 ["bag", "size"] (sp_law_draw K)) (D_law_of : Fd P w K mg base CX0 "_law_of" 2 ["bag", "things"] (sp_law_of K)) {f : Addr} {fd : FuncData} (F : FunD K "_law_any" "_law_any" (defArgs s_law_any) (defBody s_law_any) (defScope s_law_any) [] [] f fd) (gF : mg "_law_any" = some (.ref f)) : ∀ n : Nat, FnOk P w K mg base CX0 (3 + n) f fd ["bag", "deep"] (sp_law_any K n)
  | 0 => F.ok (k := 2) sc_law_any (fun vs H Q E h => (no_law_any h).elim) (fun cdv A outer s H vs Q E hr h => (no_law_any h).elim)
  | n + 1 => by
    refine F.ok (k := 3 + n) sc_law_any ?_ (fun cdv A outer s H vs Q E hr h => ⟨t_law_any K n, PSs.nox (b_law_any n W D_law_draw D_law_of (U.fd_of (st := s_law_any) F (ok_law_any W D_law_draw D_law_of F gF n) gF (fun _ _ _ _ _ _ us hl => match us, hl with | [_, _], _ => rfl)) hr), pure_law_any n vs H Q E h⟩)
    walk_at "splen"
theorem sc_law_place_one : FnScope N_law_place_one ["k", "a", "b"] (defScope s_law_place_one) := ⟨rfl, rfl, rfl, by decide +kernel, rfl, by decide +kernel, by decide +kernel⟩
theorem b_law_place_one (W : Fr mg) (T_BadNest : FK.Flt P K mg "BadNest" (He.ga K "BadNest") flBadNest psBadNest) (T_BadPaper : FK.Flt P K mg "BadPaper" (He.ga K "BadPaper") flBadPaper psBadPaper) (T_BadLog : FK.Flt P K mg "BadLog" (He.ga K "BadLog") flBadLog psBadLog) (T_BadScript : FK.Flt P K mg "BadScript" (He.ga K "BadScript") flBadScript psBadScript) (T_InvalidText : FK.Flt P K mg "InvalidText" (He.ga K "InvalidText") flInvalidText psInvalidText) (T_InvalidNumber : FK.Flt P K mg "InvalidNumber" (He.ga K "InvalidNumber") flInvalidNumber psInvalidNumber) (T_InvalidPowers : FK.Flt P K mg "InvalidPowers" (He.ga K "InvalidPowers") flInvalidPowers psInvalidPowers) (T_InvalidTouch : FK.Flt P K mg "InvalidTouch" (He.ga K "InvalidTouch") flInvalidTouch psInvalidTouch) (T_InvalidPoint : FK.Flt P K mg "InvalidPoint" (He.ga K "InvalidPoint") flInvalidPoint psInvalidPoint) (T_InvalidPoints : FK.Flt P K mg "InvalidPoints" (He.ga K "InvalidPoints") flInvalidPoints psInvalidPoints) (T_InvalidCell : FK.Flt P K mg "InvalidCell" (He.ga K "InvalidCell") flInvalidCell psInvalidCell) (T_InvalidRows : FK.Flt P K mg "InvalidRows" (He.ga K "InvalidRows") flInvalidRows psInvalidRows) (T_InvalidWeights : FK.Flt P K mg "InvalidWeights" (He.ga K "InvalidWeights") flInvalidWeights psInvalidWeights) (T_InvalidSides : FK.Flt P K mg "InvalidSides" (He.ga K "InvalidSides") flInvalidSides psInvalidSides) (T_InvalidPieces : FK.Flt P K mg "InvalidPieces" (He.ga K "InvalidPieces") flInvalidPieces psInvalidPieces) (T_InvalidEntries : FK.Flt P K mg "InvalidEntries" (He.ga K "InvalidEntries") flInvalidEntries psInvalidEntries) (T_InvalidTables : FK.Flt P K mg "InvalidTables" (He.ga K "InvalidTables") flInvalidTables psInvalidTables) {f : Addr} {cdv : Value} {A : Around} {outer : List Env} {s : Shared} {H : Hp} {E : XK} (hr : Room 1 (A.deeper (envOfC "_law_place_one" (defScope s_law_place_one) s.heap.objs.size f cdv))) :
  PSs (cxOf CX0 P w K mg base N_law_place_one "_law_place_one" (defScope s_law_place_one) f cdv A outer s H E).nox (defBody s_law_place_one) (t_law_place_one K) :=
  have hu64 := hr.units
  have hu65 : (A.deeper (envOfC "_law_place_one" (defScope s_law_place_one) s.heap.objs.size f cdv)).units + 65 < cLine := by have := hr.un; omega
  (pss_cons (ps_if (pt_cmpR (o_eq hu64) (pv 0) pe_int (nomark _)) (pss_one (ps_ret (pe_flt T_BadNest hr (pa_cons (pv 1) (pa_cons (pv 2) pa_nil))))) pss_nil)
    (pss_cons (ps_if (pt_cmpR (o_eq hu64) (pv 0) pe_int (nomark _)) (pss_one (ps_ret (pe_flt T_BadPaper hr (pa_cons (pv 1) (pa_cons (pv 2) pa_nil))))) pss_nil)
    (pss_cons (ps_if (pt_cmpR (o_eq hu64) (pv 0) pe_int (nomark _)) (pss_one (ps_ret (pe_flt T_BadLog hr (pa_cons (pv 1) (pa_cons (pv 2) pa_nil))))) pss_nil)
    (pss_cons (ps_if (pt_cmpR (o_eq hu64) (pv 0) pe_int (nomark _)) (pss_one (ps_ret (pe_flt T_BadScript hr (pa_cons (pv 1) (pa_cons (pv 2) pa_nil))))) pss_nil)
    (pss_cons (ps_if (pt_cmpR (o_eq hu64) (pv 0) pe_int (nomark _)) (pss_one (ps_ret (pe_flt T_InvalidText hr (pa_cons (pv 1) pa_nil)))) pss_nil)
    (pss_cons (ps_if (pt_cmpR (o_eq hu64) (pv 0) pe_int (nomark _)) (pss_one (ps_ret (pe_flt T_InvalidNumber hr (pa_cons (pv 1) pa_nil)))) pss_nil)
    (pss_cons (ps_if (pt_cmpR (o_eq hu64) (pv 0) pe_int (nomark _)) (pss_one (ps_ret (pe_flt T_InvalidPowers hr (pa_cons (pv 1) pa_nil)))) pss_nil)
    (pss_cons (ps_if (pt_cmpR (o_eq hu64) (pv 0) pe_int (nomark _)) (pss_one (ps_ret (pe_flt T_InvalidTouch hr (pa_cons (pv 1) pa_nil)))) pss_nil)
    (pss_cons (ps_if (pt_cmpR (o_eq hu64) (pv 0) pe_int (nomark _)) (pss_one (ps_ret (pe_flt T_InvalidPoint hr (pa_cons (pv 1) pa_nil)))) pss_nil)
    (pss_cons (ps_if (pt_cmpR (o_eq hu64) (pv 0) pe_int (nomark _)) (pss_one (ps_ret (pe_flt T_InvalidPoints hr (pa_cons (pv 1) pa_nil)))) pss_nil)
    (pss_cons (ps_if (pt_cmpR (o_eq hu64) (pv 0) pe_int (nomark _)) (pss_one (ps_ret (pe_flt T_InvalidCell hr (pa_cons (pv 1) pa_nil)))) pss_nil)
    (pss_cons (ps_if (pt_cmpR (o_eq hu64) (pv 0) pe_int (nomark _)) (pss_one (ps_ret (pe_flt T_InvalidRows hr (pa_cons (pv 1) pa_nil)))) pss_nil)
    (pss_cons (ps_if (pt_cmpR (o_eq hu64) (pv 0) pe_int (nomark _)) (pss_one (ps_ret (pe_flt T_InvalidWeights hr (pa_cons (pv 1) pa_nil)))) pss_nil)
    (pss_cons (ps_if (pt_cmpR (o_eq hu64) (pv 0) pe_int (nomark _)) (pss_one (ps_ret (pe_flt T_InvalidSides hr (pa_cons (pv 1) pa_nil)))) pss_nil)
    (pss_cons (ps_if (pt_cmpR (o_eq hu64) (pv 0) pe_int (nomark _)) (pss_one (ps_ret (pe_flt T_InvalidPieces hr (pa_cons (pv 1) pa_nil)))) pss_nil)
    (pss_cons (ps_if (pt_cmpR (o_eq hu64) (pv 0) pe_int (nomark _)) (pss_one (ps_ret (pe_flt T_InvalidEntries hr (pa_cons (pv 1) pa_nil)))) pss_nil)
    (pss_one (ps_ret (pe_flt T_InvalidTables hr (pa_cons (pv 1) pa_nil))))))))))))))))))))
theorem ok_law_place_one (W : Fr mg) (T_BadNest : FK.Flt P K mg "BadNest" (He.ga K "BadNest") flBadNest psBadNest) (T_BadPaper : FK.Flt P K mg "BadPaper" (He.ga K "BadPaper") flBadPaper psBadPaper) (T_BadLog : FK.Flt P K mg "BadLog" (He.ga K "BadLog") flBadLog psBadLog) (T_BadScript : FK.Flt P K mg "BadScript" (He.ga K "BadScript") flBadScript psBadScript) (T_InvalidText : FK.Flt P K mg "InvalidText" (He.ga K "InvalidText") flInvalidText psInvalidText) (T_InvalidNumber : FK.Flt P K mg "InvalidNumber" (He.ga K "InvalidNumber") flInvalidNumber psInvalidNumber) (T_InvalidPowers : FK.Flt P K mg "InvalidPowers" (He.ga K "InvalidPowers") flInvalidPowers psInvalidPowers) (T_InvalidTouch : FK.Flt P K mg "InvalidTouch" (He.ga K "InvalidTouch") flInvalidTouch psInvalidTouch) (T_InvalidPoint : FK.Flt P K mg "InvalidPoint" (He.ga K "InvalidPoint") flInvalidPoint psInvalidPoint) (T_InvalidPoints : FK.Flt P K mg "InvalidPoints" (He.ga K "InvalidPoints") flInvalidPoints psInvalidPoints) (T_InvalidCell : FK.Flt P K mg "InvalidCell" (He.ga K "InvalidCell") flInvalidCell psInvalidCell) (T_InvalidRows : FK.Flt P K mg "InvalidRows" (He.ga K "InvalidRows") flInvalidRows psInvalidRows) (T_InvalidWeights : FK.Flt P K mg "InvalidWeights" (He.ga K "InvalidWeights") flInvalidWeights psInvalidWeights) (T_InvalidSides : FK.Flt P K mg "InvalidSides" (He.ga K "InvalidSides") flInvalidSides psInvalidSides) (T_InvalidPieces : FK.Flt P K mg "InvalidPieces" (He.ga K "InvalidPieces") flInvalidPieces psInvalidPieces) (T_InvalidEntries : FK.Flt P K mg "InvalidEntries" (He.ga K "InvalidEntries") flInvalidEntries psInvalidEntries) (T_InvalidTables : FK.Flt P K mg "InvalidTables" (He.ga K "InvalidTables") flInvalidTables psInvalidTables) {f : Addr} {fd : FuncData} (F : FunD K "_law_place_one" "_law_place_one" (defArgs s_law_place_one) (defBody s_law_place_one) (defScope s_law_place_one) [] [] f fd) : FnOk P w K mg base CX0 2 f fd ["k", "a", "b"] (sp_law_place_one K) := by
  refine F.ok sc_law_place_one ?_ (fun cdv A outer s H vs Q E hr h => ⟨t_law_place_one K, PSs.nox (b_law_place_one W T_BadNest T_BadPaper T_BadLog T_BadScript T_InvalidText T_InvalidNumber T_InvalidPowers T_InvalidTouch T_InvalidPoint T_InvalidPoints T_InvalidCell T_InvalidRows T_InvalidWeights T_InvalidSides T_InvalidPieces T_InvalidEntries T_InvalidTables hr), pure_law_place_one vs H Q E h⟩)
  walk_at "splen"
theorem sc_law_place_two : FnScope N_law_place_two ["k", "a", "b"] (defScope s_law_place_two) := ⟨rfl, rfl, rfl, by decide +kernel, rfl, by decide +kernel, by decide +kernel⟩
theorem b_law_place_two (W : Fr mg) (T_InvalidRooms : FK.Flt P K mg "InvalidRooms" (He.ga K "InvalidRooms") flInvalidRooms psInvalidRooms) (T_InvalidName : FK.Flt P K mg "InvalidName" (He.ga K "InvalidName") flInvalidName psInvalidName) (T_SharedName : FK.Flt P K mg "SharedName" (He.ga K "SharedName") flSharedName psSharedName) (T_OtherNest : FK.Flt P K mg "OtherNest" (He.ga K "OtherNest") flOtherNest psOtherNest) (T_OtherWidth : FK.Flt P K mg "OtherWidth" (He.ga K "OtherWidth") flOtherWidth psOtherWidth) (T_Unseen : FK.Flt P K mg "Unseen" (He.ga K "Unseen") flUnseen psUnseen) (T_LargeBook : FK.Flt P K mg "LargeBook" (He.ga K "LargeBook") flLargeBook psLargeBook) (T_TooNarrow : FK.Flt P K mg "TooNarrow" (He.ga K "TooNarrow") flTooNarrow psTooNarrow) (T_Full : FK.Flt P K mg "Full" (He.ga K "Full") flFull psFull) (T_Held : FK.Flt P K mg "Held" (He.ga K "Held") flHeld psHeld) (T_NotHeld : FK.Flt P K mg "NotHeld" (He.ga K "NotHeld") flNotHeld psNotHeld) (T_Done : FK.Flt P K mg "Done" (He.ga K "Done") flDone psDone) (T_UnknownName : FK.Flt P K mg "UnknownName" (He.ga K "UnknownName") flUnknownName psUnknownName) (T_UnknownCounter : FK.Flt P K mg "UnknownCounter" (He.ga K "UnknownCounter") flUnknownCounter psUnknownCounter) (T_NoRun : FK.Flt P K mg "NoRun" (He.ga K "NoRun") flNoRun psNoRun) (T_NothingLeft : FK.Flt P K mg "NothingLeft" (He.ga K "NothingLeft") flNothingLeft psNothingLeft) (T_NoTrial : FK.Flt P K mg "NoTrial" (He.ga K "NoTrial") flNoTrial psNoTrial) {f : Addr} {cdv : Value} {A : Around} {outer : List Env} {s : Shared} {H : Hp} {E : XK} (hr : Room 1 (A.deeper (envOfC "_law_place_two" (defScope s_law_place_two) s.heap.objs.size f cdv))) :
  PSs (cxOf CX0 P w K mg base N_law_place_two "_law_place_two" (defScope s_law_place_two) f cdv A outer s H E).nox (defBody s_law_place_two) (t_law_place_two K) :=
  have hu64 := hr.units
  have hu65 : (A.deeper (envOfC "_law_place_two" (defScope s_law_place_two) s.heap.objs.size f cdv)).units + 65 < cLine := by have := hr.un; omega
  (pss_cons (ps_if (pt_cmpR (o_eq hu64) (pv 0) pe_int (nomark _)) (pss_one (ps_ret (pe_flt T_InvalidRooms hr (pa_cons (pv 1) pa_nil)))) pss_nil)
    (pss_cons (ps_if (pt_cmpR (o_eq hu64) (pv 0) pe_int (nomark _)) (pss_one (ps_ret (pe_flt T_InvalidName hr (pa_cons (pv 1) pa_nil)))) pss_nil)
    (pss_cons (ps_if (pt_cmpR (o_eq hu64) (pv 0) pe_int (nomark _)) (pss_one (ps_ret (pe_flt T_SharedName hr (pa_cons (pv 1) pa_nil)))) pss_nil)
    (pss_cons (ps_if (pt_cmpR (o_eq hu64) (pv 0) pe_int (nomark _)) (pss_one (ps_ret (pe_flt0 T_OtherNest hr))) pss_nil)
    (pss_cons (ps_if (pt_cmpR (o_eq hu64) (pv 0) pe_int (nomark _)) (pss_one (ps_ret (pe_flt T_OtherWidth hr (pa_cons (pv 1) pa_nil)))) pss_nil)
    (pss_cons (ps_if (pt_cmpR (o_eq hu64) (pv 0) pe_int (nomark _)) (pss_one (ps_ret (pe_flt T_Unseen hr (pa_cons (pv 1) pa_nil)))) pss_nil)
    (pss_cons (ps_if (pt_cmpR (o_eq hu64) (pv 0) pe_int (nomark _)) (pss_one (ps_ret (pe_flt0 T_LargeBook hr))) pss_nil)
    (pss_cons (ps_if (pt_cmpR (o_eq hu64) (pv 0) pe_int (nomark _)) (pss_one (ps_ret (pe_flt T_TooNarrow hr (pa_cons (pv 1) pa_nil)))) pss_nil)
    (pss_cons (ps_if (pt_cmpR (o_eq hu64) (pv 0) pe_int (nomark _)) (pss_one (ps_ret (pe_flt T_Full hr (pa_cons (pv 1) pa_nil)))) pss_nil)
    (pss_cons (ps_if (pt_cmpR (o_eq hu64) (pv 0) pe_int (nomark _)) (pss_one (ps_ret (pe_flt T_Held hr (pa_cons (pv 1) pa_nil)))) pss_nil)
    (pss_cons (ps_if (pt_cmpR (o_eq hu64) (pv 0) pe_int (nomark _)) (pss_one (ps_ret (pe_flt T_NotHeld hr (pa_cons (pv 1) pa_nil)))) pss_nil)
    (pss_cons (ps_if (pt_cmpR (o_eq hu64) (pv 0) pe_int (nomark _)) (pss_one (ps_ret (pe_flt T_Done hr (pa_cons (pv 1) pa_nil)))) pss_nil)
    (pss_cons (ps_if (pt_cmpR (o_eq hu64) (pv 0) pe_int (nomark _)) (pss_one (ps_ret (pe_flt T_UnknownName hr (pa_cons (pv 1) pa_nil)))) pss_nil)
    (pss_cons (ps_if (pt_cmpR (o_eq hu64) (pv 0) pe_int (nomark _)) (pss_one (ps_ret (pe_flt T_UnknownCounter hr (pa_cons (pv 1) pa_nil)))) pss_nil)
    (pss_cons (ps_if (pt_cmpR (o_eq hu64) (pv 0) pe_int (nomark _)) (pss_one (ps_ret (pe_flt T_NoRun hr (pa_cons (pv 1) pa_nil)))) pss_nil)
    (pss_cons (ps_if (pt_cmpR (o_eq hu64) (pv 0) pe_int (nomark _)) (pss_one (ps_ret (pe_flt T_NothingLeft hr (pa_cons (pv 1) pa_nil)))) pss_nil)
    (pss_one (ps_ret (pe_flt0 T_NoTrial hr)))))))))))))))))))
theorem ok_law_place_two (W : Fr mg) (T_InvalidRooms : FK.Flt P K mg "InvalidRooms" (He.ga K "InvalidRooms") flInvalidRooms psInvalidRooms) (T_InvalidName : FK.Flt P K mg "InvalidName" (He.ga K "InvalidName") flInvalidName psInvalidName) (T_SharedName : FK.Flt P K mg "SharedName" (He.ga K "SharedName") flSharedName psSharedName) (T_OtherNest : FK.Flt P K mg "OtherNest" (He.ga K "OtherNest") flOtherNest psOtherNest) (T_OtherWidth : FK.Flt P K mg "OtherWidth" (He.ga K "OtherWidth") flOtherWidth psOtherWidth) (T_Unseen : FK.Flt P K mg "Unseen" (He.ga K "Unseen") flUnseen psUnseen) (T_LargeBook : FK.Flt P K mg "LargeBook" (He.ga K "LargeBook") flLargeBook psLargeBook) (T_TooNarrow : FK.Flt P K mg "TooNarrow" (He.ga K "TooNarrow") flTooNarrow psTooNarrow) (T_Full : FK.Flt P K mg "Full" (He.ga K "Full") flFull psFull) (T_Held : FK.Flt P K mg "Held" (He.ga K "Held") flHeld psHeld) (T_NotHeld : FK.Flt P K mg "NotHeld" (He.ga K "NotHeld") flNotHeld psNotHeld) (T_Done : FK.Flt P K mg "Done" (He.ga K "Done") flDone psDone) (T_UnknownName : FK.Flt P K mg "UnknownName" (He.ga K "UnknownName") flUnknownName psUnknownName) (T_UnknownCounter : FK.Flt P K mg "UnknownCounter" (He.ga K "UnknownCounter") flUnknownCounter psUnknownCounter) (T_NoRun : FK.Flt P K mg "NoRun" (He.ga K "NoRun") flNoRun psNoRun) (T_NothingLeft : FK.Flt P K mg "NothingLeft" (He.ga K "NothingLeft") flNothingLeft psNothingLeft) (T_NoTrial : FK.Flt P K mg "NoTrial" (He.ga K "NoTrial") flNoTrial psNoTrial) {f : Addr} {fd : FuncData} (F : FunD K "_law_place_two" "_law_place_two" (defArgs s_law_place_two) (defBody s_law_place_two) (defScope s_law_place_two) [] [] f fd) : FnOk P w K mg base CX0 2 f fd ["k", "a", "b"] (sp_law_place_two K) := by
  refine F.ok sc_law_place_two ?_ (fun cdv A outer s H vs Q E hr h => ⟨t_law_place_two K, PSs.nox (b_law_place_two W T_InvalidRooms T_InvalidName T_SharedName T_OtherNest T_OtherWidth T_Unseen T_LargeBook T_TooNarrow T_Full T_Held T_NotHeld T_Done T_UnknownName T_UnknownCounter T_NoRun T_NothingLeft T_NoTrial hr), pure_law_place_two vs H Q E h⟩)
  walk_at "splen"
theorem sc_law_made : FnScope N_law_made ["k", "a", "b"] (defScope s_law_made) := ⟨rfl, rfl, rfl, by decide +kernel, rfl, by decide +kernel, by decide +kernel⟩
theorem b_law_made (W : Fr mg) (D_law_place_one : Fd P w K mg base CX0 "_law_place_one" 2 ["k", "a", "b"] (sp_law_place_one K)) (D_law_place_two : Fd P w K mg base CX0 "_law_place_two" 2 ["k", "a", "b"] (sp_law_place_two K)) {f : Addr} {cdv : Value} {A : Around} {outer : List Env} {s : Shared} {H : Hp} {E : XK} (hr : Room 2 (A.deeper (envOfC "_law_made" (defScope s_law_made) s.heap.objs.size f cdv))) :
  PSs (cxOf CX0 P w K mg base N_law_made "_law_made" (defScope s_law_made) f cdv A outer s H E).nox (defBody s_law_made) (t_law_made K) :=
  have hu64 := hr.units
  have hu65 : (A.deeper (envOfC "_law_made" (defScope s_law_made) s.heap.objs.size f cdv)).units + 65 < cLine := by have := hr.un; omega
  (pss_one (ps_ret (pe_ifExp (pt_cmpR o_lt (pv 0) pe_int (nomark _)) (pe_fd D_law_place_one (hr.mono (by omega)) (pa_cons (pv 0) (pa_cons (pv 1) (pa_cons (pv 2) pa_nil)))) (pe_fd D_law_place_two (hr.mono (by omega)) (pa_cons (pv 0) (pa_cons (pv 1) (pa_cons (pv 2) pa_nil)))))))
theorem ok_law_made (W : Fr mg) (D_law_place_one : Fd P w K mg base CX0 "_law_place_one" 2 ["k", "a", "b"] (sp_law_place_one K)) (D_law_place_two : Fd P w K mg base CX0 "_law_place_two" 2 ["k", "a", "b"] (sp_law_place_two K)) {f : Addr} {fd : FuncData} (F : FunD K "_law_made" "_law_made" (defArgs s_law_made) (defBody s_law_made) (defScope s_law_made) [] [] f fd) : FnOk P w K mg base CX0 3 f fd ["k", "a", "b"] (sp_law_made K) := by
  refine F.ok sc_law_made ?_ (fun cdv A outer s H vs Q E hr h => ⟨t_law_made K, PSs.nox (b_law_made W D_law_place_one D_law_place_two hr), pure_law_made vs H Q E h⟩)
  walk_at "splen"
theorem sc_law_some : FnScope N_law_some ["bag", "things", "amount"] (defScope s_law_some) := ⟨rfl, rfl, rfl, by decide +kernel, rfl, by decide +kernel, by decide +kernel⟩
theorem b_law_some (W : Fr mg) (D_law_draw : Fd P w K mg base CX0 "_law_draw" 1 ["bag", "size"] (sp_law_draw K)) {f : Addr} {cdv : Value} {A : Around} {outer : List Env} {s : Shared} {H : Hp} {E : XK} (hr : Room 1 (A.deeper (envOfC "_law_some" (defScope s_law_some) s.heap.objs.size f cdv))) :
  PSs (cxOf CX0 P w K mg base N_law_some "_law_some" (defScope s_law_some) f cdv A outer s H E).nox (defBody s_law_some) (t_law_some K) :=
  have hu64 := hr.units
  have hu65 : (A.deeper (envOfC "_law_some" (defScope s_law_some) s.heap.objs.size f cdv)).units + 65 < cLine := by have := hr.un; omega
  (pss_cons (ps_par (i := 3) (j := 4) (by rfl) sc_law_some.nd rfl rfl (by decide) rfl rfl (pa_cons (pe_callTy c_list (by rfl) W.list (by first | boot_by_name | rfl | kernel_rfl) (pa_cons (pv 1) pa_nil)) (pa_cons (pe_lst pa_nil) pa_nil)) (by rfl))
    (pss_cons (ps_for PassesOwn.never rfl (pi_range1 (by rfl) W.range (pa_cons (pe_callB (c_min2 rfl) (by rfl) W.min (by first | boot_by_name | rfl | kernel_rfl) (pa_cons (pv 2) (pa_cons (pe_callB c_len (by rfl) W.len (by first | boot_by_name | rfl | kernel_rfl) (pa_cons (pv 1) pa_nil)) pa_nil))) pa_nil)) (pg_name (i := 5) sc_law_some.nd rfl (by first | exact Or.inl rfl | exact Or.inr rfl))
    (pss_one (ps_expr (pe_bm PySem.F.plainAttrs_list PySem.F.slot_list_append PySem.F.type_list_append mt_append (pv 4) (pa_cons (pe_bm PySem.F.plainAttrs_list PySem.F.slot_list_pop PySem.F.type_list_pop mt_popAt (pv 3) (pa_cons (pe_fd D_law_draw (hr.mono (by omega)) (pa_cons (pv 0) (pa_cons (pe_callB c_len (by rfl) W.len (by first | boot_by_name | rfl | kernel_rfl) (pa_cons (pv 3) pa_nil)) pa_nil))) pa_nil)) pa_nil)))))
    (pss_one (ps_ret (pv 4)))))
theorem ok_law_some (W : Fr mg) (D_law_draw : Fd P w K mg base CX0 "_law_draw" 1 ["bag", "size"] (sp_law_draw K)) {f : Addr} {fd : FuncData} (F : FunD K "_law_some" "_law_some" (defArgs s_law_some) (defBody s_law_some) (defScope s_law_some) [] [] f fd) : FnOk P w K mg base CX0 2 f fd ["bag", "things", "amount"] (sp_law_some K) := by
  refine F.ok sc_law_some ?_ (fun cdv A outer s H vs Q E hr h => ⟨t_law_some K, PSs.nox (b_law_some W D_law_draw hr), pure_law_some vs H Q E h⟩)
  walk_at "splen"
theorem sc_law_int : FnScope N_law_int ["v"] (defScope s_law_int) := ⟨rfl, rfl, rfl, by decide +kernel, rfl, by decide +kernel, by decide +kernel⟩
theorem b_law_int (W : Fr mg) {f : Addr} {cdv : Value} {A : Around} {outer : List Env} {s : Shared} {H : Hp} {E : XK} (hr : Room 0 (A.deeper (envOfC "_law_int" (defScope s_law_int) s.heap.objs.size f cdv))) :
  PSs (cxOf CX0 P w K mg base N_law_int "_law_int" (defScope s_law_int) f cdv A outer s H E).nox (defBody s_law_int) (t_law_int K) :=
  have hu64 := hr.units
  have hu65 : (A.deeper (envOfC "_law_int" (defScope s_law_int) s.heap.objs.size f cdv)).units + 65 < cLine := by have := hr.un; omega
  (pss_one (ps_ret (pe_and (pe_callB c_isi (by rfl) W.isinstance (by first | boot_by_name | rfl | kernel_rfl) (pa_cons (pv 0) (pa_cons (pe_bltn (v := .ty "int") rfl W.int (by first | boot_by_name | rfl | kernel_rfl) rfl) pa_nil))) (pe_one (pe_not (pe_callB c_isi (by rfl) W.isinstance (by first | boot_by_name | rfl | kernel_rfl) (pa_cons (pv 0) (pa_cons (pe_bltn (v := .ty "bool") rfl W.bool (by first | boot_by_name | rfl | kernel_rfl) rfl) pa_nil))))))))
theorem ok_law_int (W : Fr mg) {f : Addr} {fd : FuncData} (F : FunD K "_law_int" "_law_int" (defArgs s_law_int) (defBody s_law_int) (defScope s_law_int) [] [] f fd) : FnOk P w K mg base CX0 1 f fd ["v"] (sp_law_int K) := by
  refine F.ok sc_law_int ?_ (fun cdv A outer s H vs Q E hr h => ⟨t_law_int K, PSs.nox (b_law_int W hr), pure_law_int vs H Q E h⟩)
  walk_at "splen"
theorem sc_law_like : FnScope N_law_like ["told", "due"] (defScope s_law_like) := ⟨rfl, rfl, rfl, by decide +kernel, rfl, by decide +kernel, by decide +kernel⟩
theorem b_law_like (n : Nat) (W : Fr mg) (D_law_int : Fd P w K mg base CX0 "_law_int" 1 ["v"] (sp_law_int K)) (D_law_like : Fd P w K mg base CX0 "_law_like" (2 + n) ["told", "due"] (sp_law_like K n)) {f : Addr} {cdv : Value} {A : Around} {outer : List Env} {s : Shared} {H : Hp} {E : XK} (hr : Room (2 + n) (A.deeper (envOfC "_law_like" (defScope s_law_like) s.heap.objs.size f cdv))) :
  PSs (cxOf CX0 P w K mg base N_law_like "_law_like" (defScope s_law_like) f cdv A outer s H E).nox (defBody s_law_like) (t_law_like K n) :=
  have hu64 := hr.units
  have hu65 : (A.deeper (envOfC "_law_like" (defScope s_law_like) s.heap.objs.size f cdv)).units + 65 < cLine := by have := hr.un; omega
  (pss_cons (ps_if (pt_cmpR o_is (pv 1) pe_non (nomark _)) (pss_one (ps_ret (pe_cmpR o_is (pv 0) pe_non (nomark _)))) pss_nil)
    (pss_cons (ps_if (pt_val (pe_callB c_isi (by rfl) W.isinstance (by first | boot_by_name | rfl | kernel_rfl) (pa_cons (pv 1) (pa_cons (pe_bltn (v := .ty "bool") rfl W.bool (by first | boot_by_name | rfl | kernel_rfl) rfl) pa_nil)))) (pss_one (ps_ret (pe_and (pe_callB c_isi (by rfl) W.isinstance (by first | boot_by_name | rfl | kernel_rfl) (pa_cons (pv 0) (pa_cons (pe_bltn (v := .ty "bool") rfl W.bool (by first | boot_by_name | rfl | kernel_rfl) rfl) pa_nil))) (pe_one (pe_cmpR (o_eq hu64) (pv 0) (pv 1) (nomark _)))))) pss_nil)
    (pss_cons (ps_if (pt_val (pe_fd D_law_int (hr.mono (by omega)) (pa_cons (pv 1) pa_nil))) (pss_one (ps_ret (pe_and (pe_fd D_law_int (hr.mono (by omega)) (pa_cons (pv 0) pa_nil)) (pe_one (pe_cmpR (o_eq hu64) (pv 0) (pv 1) (nomark _)))))) pss_nil)
    (pss_cons (ps_if (pt_val (pe_callB c_isi (by rfl) W.isinstance (by first | boot_by_name | rfl | kernel_rfl) (pa_cons (pv 1) (pa_cons (pe_bltn (v := .ty "str") rfl W.str (by first | boot_by_name | rfl | kernel_rfl) rfl) pa_nil)))) (pss_one (ps_ret (pe_and (pe_callB c_isi (by rfl) W.isinstance (by first | boot_by_name | rfl | kernel_rfl) (pa_cons (pv 0) (pa_cons (pe_bltn (v := .ty "str") rfl W.str (by first | boot_by_name | rfl | kernel_rfl) rfl) pa_nil))) (pe_one (pe_cmpR (o_eq hu64) (pv 0) (pv 1) (nomark _)))))) pss_nil)
    (pss_cons (ps_if (PW.pt (pw_or (PW.pt (pw_and (pt_val (pe_callB c_isi (by rfl) W.isinstance (by first | boot_by_name | rfl | kernel_rfl) (pa_cons (pv 1) (pa_cons (pe_bltn (v := .ty "list") rfl W.list (by first | boot_by_name | rfl | kernel_rfl) rfl) pa_nil)))) (pw_and1 (pt_not (pt_val (pe_callB c_isi (by rfl) W.isinstance (by first | boot_by_name | rfl | kernel_rfl) (pa_cons (pv 0) (pa_cons (pe_bltn (v := .ty "list") rfl W.list (by first | boot_by_name | rfl | kernel_rfl) rfl) pa_nil)))))))) (pw_or1 (PW.pt (pw_and (pt_val (pe_callB c_isi (by rfl) W.isinstance (by first | boot_by_name | rfl | kernel_rfl) (pa_cons (pv 1) (pa_cons (pe_bltn (v := .ty "tuple") rfl W.tuple (by first | boot_by_name | rfl | kernel_rfl) rfl) pa_nil)))) (pw_and1 (pt_not (pt_val (pe_callB c_isi (by rfl) W.isinstance (by first | boot_by_name | rfl | kernel_rfl) (pa_cons (pv 0) (pa_cons (pe_bltn (v := .ty "tuple") rfl W.tuple (by first | boot_by_name | rfl | kernel_rfl) rfl) pa_nil))))))))))) (pss_one (ps_ret pe_bl)) pss_nil)
    (pss_one (ps_ret (pe_and (pe_cmpR (o_eq hu64) (pe_callB c_len (by rfl) W.len (by first | boot_by_name | rfl | kernel_rfl) (pa_cons (pv 0) pa_nil)) (pe_callB c_len (by rfl) W.len (by first | boot_by_name | rfl | kernel_rfl) (pa_cons (pv 1) pa_nil)) (nomark _)) (pe_one (pe_callB (cr_all rfl) (by rfl) W.all (by first | boot_by_name | rfl | kernel_rfl) (pa_cons (pe_lc (own := [("x", 2), ("y", 3)]) (g := (gTup K 2 (gCons (gName 2) (gCons (gName 3) gNil)))) (tt := tYes) (by rfl) sc_law_like.nd (pi_zipA (by rfl) W.zip (pa_cons (pv 0) (pa_cons (pv 1) pa_nil))) (blkOk_by (own := [("x", 2), ("y", 3)]) (N := N_law_like) (sc := (defScope s_law_like)) (by decide +kernel)) (fun _ _ _ _ _ => (pg_tup (by rfl) (pgs_cons (pg_name (i := 2) sc_law_like.nd rfl (by first | exact Or.inl rfl | exact Or.inr rfl)) (pgs_cons (pg_name (i := 3) sc_law_like.nd rfl (by first | exact Or.inl rfl | exact Or.inr rfl)) pgs_nil)))) (fun _ _ _ _ _ => pts_nil) (fun _ _ _ _ _ => (pe_fd D_law_like (hr.mono (by omega)) (pa_cons (pv 2) (pa_cons (pv 3) pa_nil))))) pa_nil)))))))))))
theorem ok_law_like (W : Fr mg) (D_law_int : Fd P w K mg base CX0 "_law_int" 1 ["v"] (sp_law_int K)) {f : Addr} {fd : FuncData} (F : FunD K "_law_like" "_law_like" (defArgs s_law_like) (defBody s_law_like) (defScope s_law_like) [] [] f fd) (gF : mg "_law_like" = some (.ref f)) : ∀ n : Nat, FnOk P w K mg base CX0 (2 + n) f fd ["told", "due"] (sp_law_like K n)
  | 0 => F.ok (k := 1) sc_law_like (fun vs H Q E h => (no_law_like h).elim) (fun cdv A outer s H vs Q E hr h => (no_law_like h).elim)
  | n + 1 => by
    refine F.ok (k := 2 + n) sc_law_like ?_ (fun cdv A outer s H vs Q E hr h => ⟨t_law_like K n, PSs.nox (b_law_like n W D_law_int (U.fd_of (st := s_law_like) F (ok_law_like W D_law_int F gF n) gF (fun _ _ _ _ _ _ us hl => match us, hl with | [_, _], _ => rfl)) hr), pure_law_like n vs H Q E h⟩)
    walk_at "splen"
theorem sc_law_marks : FnScope N_law_marks ["e"] (defScope s_law_marks) := ⟨rfl, rfl, rfl, by decide +kernel, rfl, by decide +kernel, by decide +kernel⟩
theorem b_law_marks (W : Fr mg) (G_BadNest : mg "BadNest" = some (.ref (He.ga K "BadNest"))) (G_BadPaper : mg "BadPaper" = some (.ref (He.ga K "BadPaper"))) (G_BadLog : mg "BadLog" = some (.ref (He.ga K "BadLog"))) (G_BadScript : mg "BadScript" = some (.ref (He.ga K "BadScript"))) (G_InvalidText : mg "InvalidText" = some (.ref (He.ga K "InvalidText"))) (G_InvalidNumber : mg "InvalidNumber" = some (.ref (He.ga K "InvalidNumber"))) (G_InvalidPowers : mg "InvalidPowers" = some (.ref (He.ga K "InvalidPowers"))) (G_InvalidTouch : mg "InvalidTouch" = some (.ref (He.ga K "InvalidTouch"))) (G_InvalidPoint : mg "InvalidPoint" = some (.ref (He.ga K "InvalidPoint"))) (G_InvalidPoints : mg "InvalidPoints" = some (.ref (He.ga K "InvalidPoints"))) (G_InvalidCell : mg "InvalidCell" = some (.ref (He.ga K "InvalidCell"))) (G_InvalidRows : mg "InvalidRows" = some (.ref (He.ga K "InvalidRows"))) (G_InvalidWeights : mg "InvalidWeights" = some (.ref (He.ga K "InvalidWeights"))) (G_InvalidSides : mg "InvalidSides" = some (.ref (He.ga K "InvalidSides"))) (G_InvalidPieces : mg "InvalidPieces" = some (.ref (He.ga K "InvalidPieces"))) (G_InvalidEntries : mg "InvalidEntries" = some (.ref (He.ga K "InvalidEntries"))) (G_InvalidTables : mg "InvalidTables" = some (.ref (He.ga K "InvalidTables"))) (G_InvalidRooms : mg "InvalidRooms" = some (.ref (He.ga K "InvalidRooms"))) (G_InvalidName : mg "InvalidName" = some (.ref (He.ga K "InvalidName"))) (G_SharedName : mg "SharedName" = some (.ref (He.ga K "SharedName"))) (G_OtherNest : mg "OtherNest" = some (.ref (He.ga K "OtherNest"))) (G_OtherWidth : mg "OtherWidth" = some (.ref (He.ga K "OtherWidth"))) (G_Unseen : mg "Unseen" = some (.ref (He.ga K "Unseen"))) (G_LargeBook : mg "LargeBook" = some (.ref (He.ga K "LargeBook"))) (G_TooNarrow : mg "TooNarrow" = some (.ref (He.ga K "TooNarrow"))) (G_Full : mg "Full" = some (.ref (He.ga K "Full"))) (G_Held : mg "Held" = some (.ref (He.ga K "Held"))) (G_NotHeld : mg "NotHeld" = some (.ref (He.ga K "NotHeld"))) (G_Done : mg "Done" = some (.ref (He.ga K "Done"))) (G_UnknownName : mg "UnknownName" = some (.ref (He.ga K "UnknownName"))) (G_UnknownCounter : mg "UnknownCounter" = some (.ref (He.ga K "UnknownCounter"))) (G_NoRun : mg "NoRun" = some (.ref (He.ga K "NoRun"))) (G_NothingLeft : mg "NothingLeft" = some (.ref (He.ga K "NothingLeft"))) (G_NoTrial : mg "NoTrial" = some (.ref (He.ga K "NoTrial"))) {f : Addr} {cdv : Value} {A : Around} {outer : List Env} {s : Shared} {H : Hp} {E : XK} (hr : Room 0 (A.deeper (envOfC "_law_marks" (defScope s_law_marks) s.heap.objs.size f cdv))) :
  PSs (cxOf CX0 P w K mg base N_law_marks "_law_marks" (defScope s_law_marks) f cdv A outer s H E).nox (defBody s_law_marks) (t_law_marks K) :=
  have hu64 := hr.units
  have hu65 : (A.deeper (envOfC "_law_marks" (defScope s_law_marks) s.heap.objs.size f cdv)).units + 65 < cLine := by have := hr.un; omega
  (pss_one (ps_ret (pe_lst (pa_cons (pe_callB c_isi (by rfl) W.isinstance (by first | boot_by_name | rfl | kernel_rfl) (pa_cons (pv 0) (pa_cons (pe_glob rfl G_BadNest rfl) pa_nil))) (pa_cons (pe_callB c_isi (by rfl) W.isinstance (by first | boot_by_name | rfl | kernel_rfl) (pa_cons (pv 0) (pa_cons (pe_glob rfl G_BadPaper rfl) pa_nil))) (pa_cons (pe_callB c_isi (by rfl) W.isinstance (by first | boot_by_name | rfl | kernel_rfl) (pa_cons (pv 0) (pa_cons (pe_glob rfl G_BadLog rfl) pa_nil))) (pa_cons (pe_callB c_isi (by rfl) W.isinstance (by first | boot_by_name | rfl | kernel_rfl) (pa_cons (pv 0) (pa_cons (pe_glob rfl G_BadScript rfl) pa_nil))) (pa_cons (pe_callB c_isi (by rfl) W.isinstance (by first | boot_by_name | rfl | kernel_rfl) (pa_cons (pv 0) (pa_cons (pe_glob rfl G_InvalidText rfl) pa_nil))) (pa_cons (pe_callB c_isi (by rfl) W.isinstance (by first | boot_by_name | rfl | kernel_rfl) (pa_cons (pv 0) (pa_cons (pe_glob rfl G_InvalidNumber rfl) pa_nil))) (pa_cons (pe_callB c_isi (by rfl) W.isinstance (by first | boot_by_name | rfl | kernel_rfl) (pa_cons (pv 0) (pa_cons (pe_glob rfl G_InvalidPowers rfl) pa_nil))) (pa_cons (pe_callB c_isi (by rfl) W.isinstance (by first | boot_by_name | rfl | kernel_rfl) (pa_cons (pv 0) (pa_cons (pe_glob rfl G_InvalidTouch rfl) pa_nil))) (pa_cons (pe_callB c_isi (by rfl) W.isinstance (by first | boot_by_name | rfl | kernel_rfl) (pa_cons (pv 0) (pa_cons (pe_glob rfl G_InvalidPoint rfl) pa_nil))) (pa_cons (pe_callB c_isi (by rfl) W.isinstance (by first | boot_by_name | rfl | kernel_rfl) (pa_cons (pv 0) (pa_cons (pe_glob rfl G_InvalidPoints rfl) pa_nil))) (pa_cons (pe_callB c_isi (by rfl) W.isinstance (by first | boot_by_name | rfl | kernel_rfl) (pa_cons (pv 0) (pa_cons (pe_glob rfl G_InvalidCell rfl) pa_nil))) (pa_cons (pe_callB c_isi (by rfl) W.isinstance (by first | boot_by_name | rfl | kernel_rfl) (pa_cons (pv 0) (pa_cons (pe_glob rfl G_InvalidRows rfl) pa_nil))) (pa_cons (pe_callB c_isi (by rfl) W.isinstance (by first | boot_by_name | rfl | kernel_rfl) (pa_cons (pv 0) (pa_cons (pe_glob rfl G_InvalidWeights rfl) pa_nil))) (pa_cons (pe_callB c_isi (by rfl) W.isinstance (by first | boot_by_name | rfl | kernel_rfl) (pa_cons (pv 0) (pa_cons (pe_glob rfl G_InvalidSides rfl) pa_nil))) (pa_cons (pe_callB c_isi (by rfl) W.isinstance (by first | boot_by_name | rfl | kernel_rfl) (pa_cons (pv 0) (pa_cons (pe_glob rfl G_InvalidPieces rfl) pa_nil))) (pa_cons (pe_callB c_isi (by rfl) W.isinstance (by first | boot_by_name | rfl | kernel_rfl) (pa_cons (pv 0) (pa_cons (pe_glob rfl G_InvalidEntries rfl) pa_nil))) (pa_cons (pe_callB c_isi (by rfl) W.isinstance (by first | boot_by_name | rfl | kernel_rfl) (pa_cons (pv 0) (pa_cons (pe_glob rfl G_InvalidTables rfl) pa_nil))) (pa_cons (pe_callB c_isi (by rfl) W.isinstance (by first | boot_by_name | rfl | kernel_rfl) (pa_cons (pv 0) (pa_cons (pe_glob rfl G_InvalidRooms rfl) pa_nil))) (pa_cons (pe_callB c_isi (by rfl) W.isinstance (by first | boot_by_name | rfl | kernel_rfl) (pa_cons (pv 0) (pa_cons (pe_glob rfl G_InvalidName rfl) pa_nil))) (pa_cons (pe_callB c_isi (by rfl) W.isinstance (by first | boot_by_name | rfl | kernel_rfl) (pa_cons (pv 0) (pa_cons (pe_glob rfl G_SharedName rfl) pa_nil))) (pa_cons (pe_callB c_isi (by rfl) W.isinstance (by first | boot_by_name | rfl | kernel_rfl) (pa_cons (pv 0) (pa_cons (pe_glob rfl G_OtherNest rfl) pa_nil))) (pa_cons (pe_callB c_isi (by rfl) W.isinstance (by first | boot_by_name | rfl | kernel_rfl) (pa_cons (pv 0) (pa_cons (pe_glob rfl G_OtherWidth rfl) pa_nil))) (pa_cons (pe_callB c_isi (by rfl) W.isinstance (by first | boot_by_name | rfl | kernel_rfl) (pa_cons (pv 0) (pa_cons (pe_glob rfl G_Unseen rfl) pa_nil))) (pa_cons (pe_callB c_isi (by rfl) W.isinstance (by first | boot_by_name | rfl | kernel_rfl) (pa_cons (pv 0) (pa_cons (pe_glob rfl G_LargeBook rfl) pa_nil))) (pa_cons (pe_callB c_isi (by rfl) W.isinstance (by first | boot_by_name | rfl | kernel_rfl) (pa_cons (pv 0) (pa_cons (pe_glob rfl G_TooNarrow rfl) pa_nil))) (pa_cons (pe_callB c_isi (by rfl) W.isinstance (by first | boot_by_name | rfl | kernel_rfl) (pa_cons (pv 0) (pa_cons (pe_glob rfl G_Full rfl) pa_nil))) (pa_cons (pe_callB c_isi (by rfl) W.isinstance (by first | boot_by_name | rfl | kernel_rfl) (pa_cons (pv 0) (pa_cons (pe_glob rfl G_Held rfl) pa_nil))) (pa_cons (pe_callB c_isi (by rfl) W.isinstance (by first | boot_by_name | rfl | kernel_rfl) (pa_cons (pv 0) (pa_cons (pe_glob rfl G_NotHeld rfl) pa_nil))) (pa_cons (pe_callB c_isi (by rfl) W.isinstance (by first | boot_by_name | rfl | kernel_rfl) (pa_cons (pv 0) (pa_cons (pe_glob rfl G_Done rfl) pa_nil))) (pa_cons (pe_callB c_isi (by rfl) W.isinstance (by first | boot_by_name | rfl | kernel_rfl) (pa_cons (pv 0) (pa_cons (pe_glob rfl G_UnknownName rfl) pa_nil))) (pa_cons (pe_callB c_isi (by rfl) W.isinstance (by first | boot_by_name | rfl | kernel_rfl) (pa_cons (pv 0) (pa_cons (pe_glob rfl G_UnknownCounter rfl) pa_nil))) (pa_cons (pe_callB c_isi (by rfl) W.isinstance (by first | boot_by_name | rfl | kernel_rfl) (pa_cons (pv 0) (pa_cons (pe_glob rfl G_NoRun rfl) pa_nil))) (pa_cons (pe_callB c_isi (by rfl) W.isinstance (by first | boot_by_name | rfl | kernel_rfl) (pa_cons (pv 0) (pa_cons (pe_glob rfl G_NothingLeft rfl) pa_nil))) (pa_cons (pe_callB c_isi (by rfl) W.isinstance (by first | boot_by_name | rfl | kernel_rfl) (pa_cons (pv 0) (pa_cons (pe_glob rfl G_NoTrial rfl) pa_nil))) pa_nil)))))))))))))))))))))))))))))))))))))
theorem ok_law_marks (W : Fr mg) (G_BadNest : mg "BadNest" = some (.ref (He.ga K "BadNest"))) (G_BadPaper : mg "BadPaper" = some (.ref (He.ga K "BadPaper"))) (G_BadLog : mg "BadLog" = some (.ref (He.ga K "BadLog"))) (G_BadScript : mg "BadScript" = some (.ref (He.ga K "BadScript"))) (G_InvalidText : mg "InvalidText" = some (.ref (He.ga K "InvalidText"))) (G_InvalidNumber : mg "InvalidNumber" = some (.ref (He.ga K "InvalidNumber"))) (G_InvalidPowers : mg "InvalidPowers" = some (.ref (He.ga K "InvalidPowers"))) (G_InvalidTouch : mg "InvalidTouch" = some (.ref (He.ga K "InvalidTouch"))) (G_InvalidPoint : mg "InvalidPoint" = some (.ref (He.ga K "InvalidPoint"))) (G_InvalidPoints : mg "InvalidPoints" = some (.ref (He.ga K "InvalidPoints"))) (G_InvalidCell : mg "InvalidCell" = some (.ref (He.ga K "InvalidCell"))) (G_InvalidRows : mg "InvalidRows" = some (.ref (He.ga K "InvalidRows"))) (G_InvalidWeights : mg "InvalidWeights" = some (.ref (He.ga K "InvalidWeights"))) (G_InvalidSides : mg "InvalidSides" = some (.ref (He.ga K "InvalidSides"))) (G_InvalidPieces : mg "InvalidPieces" = some (.ref (He.ga K "InvalidPieces"))) (G_InvalidEntries : mg "InvalidEntries" = some (.ref (He.ga K "InvalidEntries"))) (G_InvalidTables : mg "InvalidTables" = some (.ref (He.ga K "InvalidTables"))) (G_InvalidRooms : mg "InvalidRooms" = some (.ref (He.ga K "InvalidRooms"))) (G_InvalidName : mg "InvalidName" = some (.ref (He.ga K "InvalidName"))) (G_SharedName : mg "SharedName" = some (.ref (He.ga K "SharedName"))) (G_OtherNest : mg "OtherNest" = some (.ref (He.ga K "OtherNest"))) (G_OtherWidth : mg "OtherWidth" = some (.ref (He.ga K "OtherWidth"))) (G_Unseen : mg "Unseen" = some (.ref (He.ga K "Unseen"))) (G_LargeBook : mg "LargeBook" = some (.ref (He.ga K "LargeBook"))) (G_TooNarrow : mg "TooNarrow" = some (.ref (He.ga K "TooNarrow"))) (G_Full : mg "Full" = some (.ref (He.ga K "Full"))) (G_Held : mg "Held" = some (.ref (He.ga K "Held"))) (G_NotHeld : mg "NotHeld" = some (.ref (He.ga K "NotHeld"))) (G_Done : mg "Done" = some (.ref (He.ga K "Done"))) (G_UnknownName : mg "UnknownName" = some (.ref (He.ga K "UnknownName"))) (G_UnknownCounter : mg "UnknownCounter" = some (.ref (He.ga K "UnknownCounter"))) (G_NoRun : mg "NoRun" = some (.ref (He.ga K "NoRun"))) (G_NothingLeft : mg "NothingLeft" = some (.ref (He.ga K "NothingLeft"))) (G_NoTrial : mg "NoTrial" = some (.ref (He.ga K "NoTrial"))) (FT : Flts K) (KB : kitsB K = true) {f : Addr} {fd : FuncData} (F : FunD K "_law_marks" "_law_marks" (defArgs s_law_marks) (defBody s_law_marks) (defScope s_law_marks) [] [] f fd) : FnOk P w K mg base CX0 1 f fd ["e"] (sp_law_marks K) := by
  refine F.ok sc_law_marks ?_ (fun cdv A outer s H vs Q E hr h => ⟨t_law_marks K, PSs.nox (b_law_marks W G_BadNest G_BadPaper G_BadLog G_BadScript G_InvalidText G_InvalidNumber G_InvalidPowers G_InvalidTouch G_InvalidPoint G_InvalidPoints G_InvalidCell G_InvalidRows G_InvalidWeights G_InvalidSides G_InvalidPieces G_InvalidEntries G_InvalidTables G_InvalidRooms G_InvalidName G_SharedName G_OtherNest G_OtherWidth G_Unseen G_LargeBook G_TooNarrow G_Full G_Held G_NotHeld G_Done G_UnknownName G_UnknownCounter G_NoRun G_NothingLeft G_NoTrial hr), pure_law_marks FT KB vs H Q E h⟩)
  walk_at "splen"
theorem sc_law_kept_one : FnScope N_law_kept_one ["k", "e"] (defScope s_law_kept_one) := ⟨rfl, rfl, rfl, by decide +kernel, rfl, by decide +kernel, by decide +kernel⟩
theorem b_law_kept_one (W : Fr mg) {f : Addr} {cdv : Value} {A : Around} {outer : List Env} {s : Shared} {H : Hp} {E : XK} (hr : Room 0 (A.deeper (envOfC "_law_kept_one" (defScope s_law_kept_one) s.heap.objs.size f cdv))) :
  PSs (cxOf CX0 P w K mg base N_law_kept_one "_law_kept_one" (defScope s_law_kept_one) f cdv A outer s H E).nox (defBody s_law_kept_one) (t_law_kept_one K) :=
  have hu64 := hr.units
  have hu65 : (A.deeper (envOfC "_law_kept_one" (defScope s_law_kept_one) s.heap.objs.size f cdv)).units + 65 < cLine := by have := hr.un; omega
  (pss_cons (ps_if (pt_cmpR (o_eq hu64) (pv 0) pe_int (nomark _)) (pss_one (ps_ret (pe_lst (pa_cons (pe_xfld (pv 1) rfl) (pa_cons (pe_xfld (pv 1) rfl) pa_nil))))) pss_nil)
    (pss_cons (ps_if (pt_cmpR (o_eq hu64) (pv 0) pe_int (nomark _)) (pss_one (ps_ret (pe_lst (pa_cons (pe_xfld (pv 1) rfl) (pa_cons (pe_xfld (pv 1) rfl) pa_nil))))) pss_nil)
    (pss_cons (ps_if (pt_cmpR (o_eq hu64) (pv 0) pe_int (nomark _)) (pss_one (ps_ret (pe_lst (pa_cons (pe_xfld (pv 1) rfl) (pa_cons (pe_xfld (pv 1) rfl) pa_nil))))) pss_nil)
    (pss_cons (ps_if (pt_cmpR (o_eq hu64) (pv 0) pe_int (nomark _)) (pss_one (ps_ret (pe_lst (pa_cons (pe_xfld (pv 1) rfl) (pa_cons (pe_xfld (pv 1) rfl) pa_nil))))) pss_nil)
    (pss_cons (ps_if (pt_cmpR (o_eq hu64) (pv 0) pe_int (nomark _)) (pss_one (ps_ret (pe_lst (pa_cons (pe_xfld (pv 1) rfl) pa_nil)))) pss_nil)
    (pss_cons (ps_if (pt_cmpR (o_eq hu64) (pv 0) pe_int (nomark _)) (pss_one (ps_ret (pe_lst (pa_cons (pe_xfld (pv 1) rfl) pa_nil)))) pss_nil)
    (pss_cons (ps_if (pt_cmpR (o_eq hu64) (pv 0) pe_int (nomark _)) (pss_one (ps_ret (pe_lst (pa_cons (pe_xfld (pv 1) rfl) pa_nil)))) pss_nil)
    (pss_cons (ps_if (pt_cmpR (o_eq hu64) (pv 0) pe_int (nomark _)) (pss_one (ps_ret (pe_lst (pa_cons (pe_xfld (pv 1) rfl) pa_nil)))) pss_nil)
    (pss_cons (ps_if (pt_cmpR (o_eq hu64) (pv 0) pe_int (nomark _)) (pss_one (ps_ret (pe_lst (pa_cons (pe_xfld (pv 1) rfl) pa_nil)))) pss_nil)
    (pss_cons (ps_if (pt_cmpR (o_eq hu64) (pv 0) pe_int (nomark _)) (pss_one (ps_ret (pe_lst (pa_cons (pe_xfld (pv 1) rfl) pa_nil)))) pss_nil)
    (pss_cons (ps_if (pt_cmpR (o_eq hu64) (pv 0) pe_int (nomark _)) (pss_one (ps_ret (pe_lst (pa_cons (pe_xfld (pv 1) rfl) pa_nil)))) pss_nil)
    (pss_cons (ps_if (pt_cmpR (o_eq hu64) (pv 0) pe_int (nomark _)) (pss_one (ps_ret (pe_lst (pa_cons (pe_xfld (pv 1) rfl) pa_nil)))) pss_nil)
    (pss_cons (ps_if (pt_cmpR (o_eq hu64) (pv 0) pe_int (nomark _)) (pss_one (ps_ret (pe_lst (pa_cons (pe_xfld (pv 1) rfl) pa_nil)))) pss_nil)
    (pss_cons (ps_if (pt_cmpR (o_eq hu64) (pv 0) pe_int (nomark _)) (pss_one (ps_ret (pe_lst (pa_cons (pe_xfld (pv 1) rfl) pa_nil)))) pss_nil)
    (pss_cons (ps_if (pt_cmpR (o_eq hu64) (pv 0) pe_int (nomark _)) (pss_one (ps_ret (pe_lst (pa_cons (pe_xfld (pv 1) rfl) pa_nil)))) pss_nil)
    (pss_cons (ps_if (pt_cmpR (o_eq hu64) (pv 0) pe_int (nomark _)) (pss_one (ps_ret (pe_lst (pa_cons (pe_xfld (pv 1) rfl) pa_nil)))) pss_nil)
    (pss_one (ps_ret (pe_lst (pa_cons (pe_xfld (pv 1) rfl) pa_nil))))))))))))))))))))
theorem ok_law_kept_one (W : Fr mg) (FT : Flts K) {f : Addr} {fd : FuncData} (F : FunD K "_law_kept_one" "_law_kept_one" (defArgs s_law_kept_one) (defBody s_law_kept_one) (defScope s_law_kept_one) [] [] f fd) : FnOk P w K mg base CX0 1 f fd ["k", "e"] (sp_law_kept_one K) := by
  refine F.ok sc_law_kept_one ?_ (fun cdv A outer s H vs Q E hr h => ⟨t_law_kept_one K, PSs.nox (b_law_kept_one W hr), pure_law_kept_one FT vs H Q E h⟩)
  walk_at "splen"
theorem sc_law_kept_two : FnScope N_law_kept_two ["k", "e"] (defScope s_law_kept_two) := ⟨rfl, rfl, rfl, by decide +kernel, rfl, by decide +kernel, by decide +kernel⟩
theorem b_law_kept_two (W : Fr mg) {f : Addr} {cdv : Value} {A : Around} {outer : List Env} {s : Shared} {H : Hp} {E : XK} (hr : Room 0 (A.deeper (envOfC "_law_kept_two" (defScope s_law_kept_two) s.heap.objs.size f cdv))) :
  PSs (cxOf CX0 P w K mg base N_law_kept_two "_law_kept_two" (defScope s_law_kept_two) f cdv A outer s H E).nox (defBody s_law_kept_two) (t_law_kept_two K) :=
  have hu64 := hr.units
  have hu65 : (A.deeper (envOfC "_law_kept_two" (defScope s_law_kept_two) s.heap.objs.size f cdv)).units + 65 < cLine := by have := hr.un; omega
  (pss_cons (ps_if (pt_cmpR (o_eq hu64) (pv 0) pe_int (nomark _)) (pss_one (ps_ret (pe_lst (pa_cons (pe_xfld (pv 1) rfl) pa_nil)))) pss_nil)
    (pss_cons (ps_if (pt_cmpR (o_eq hu64) (pv 0) pe_int (nomark _)) (pss_one (ps_ret (pe_lst (pa_cons (pe_xfld (pv 1) rfl) pa_nil)))) pss_nil)
    (pss_cons (ps_if (pt_cmpR (o_eq hu64) (pv 0) pe_int (nomark _)) (pss_one (ps_ret (pe_lst (pa_cons (pe_xfld (pv 1) rfl) pa_nil)))) pss_nil)
    (pss_cons (ps_if (pt_cmpR (o_eq hu64) (pv 0) pe_int (nomark _)) (pss_one (ps_ret (pe_lst pa_nil))) pss_nil)
    (pss_cons (ps_if (pt_cmpR (o_eq hu64) (pv 0) pe_int (nomark _)) (pss_one (ps_ret (pe_lst (pa_cons (pe_xfld (pv 1) rfl) pa_nil)))) pss_nil)
    (pss_cons (ps_if (pt_cmpR (o_eq hu64) (pv 0) pe_int (nomark _)) (pss_one (ps_ret (pe_lst (pa_cons (pe_xfld (pv 1) rfl) pa_nil)))) pss_nil)
    (pss_cons (ps_if (pt_cmpR (o_eq hu64) (pv 0) pe_int (nomark _)) (pss_one (ps_ret (pe_lst pa_nil))) pss_nil)
    (pss_cons (ps_if (pt_cmpR (o_eq hu64) (pv 0) pe_int (nomark _)) (pss_one (ps_ret (pe_lst (pa_cons (pe_xfld (pv 1) rfl) pa_nil)))) pss_nil)
    (pss_cons (ps_if (pt_cmpR (o_eq hu64) (pv 0) pe_int (nomark _)) (pss_one (ps_ret (pe_lst (pa_cons (pe_xfld (pv 1) rfl) pa_nil)))) pss_nil)
    (pss_cons (ps_if (pt_cmpR (o_eq hu64) (pv 0) pe_int (nomark _)) (pss_one (ps_ret (pe_lst (pa_cons (pe_xfld (pv 1) rfl) pa_nil)))) pss_nil)
    (pss_cons (ps_if (pt_cmpR (o_eq hu64) (pv 0) pe_int (nomark _)) (pss_one (ps_ret (pe_lst (pa_cons (pe_xfld (pv 1) rfl) pa_nil)))) pss_nil)
    (pss_cons (ps_if (pt_cmpR (o_eq hu64) (pv 0) pe_int (nomark _)) (pss_one (ps_ret (pe_lst (pa_cons (pe_xfld (pv 1) rfl) pa_nil)))) pss_nil)
    (pss_cons (ps_if (pt_cmpR (o_eq hu64) (pv 0) pe_int (nomark _)) (pss_one (ps_ret (pe_lst (pa_cons (pe_xfld (pv 1) rfl) pa_nil)))) pss_nil)
    (pss_cons (ps_if (pt_cmpR (o_eq hu64) (pv 0) pe_int (nomark _)) (pss_one (ps_ret (pe_lst (pa_cons (pe_xfld (pv 1) rfl) pa_nil)))) pss_nil)
    (pss_cons (ps_if (pt_cmpR (o_eq hu64) (pv 0) pe_int (nomark _)) (pss_one (ps_ret (pe_lst (pa_cons (pe_xfld (pv 1) rfl) pa_nil)))) pss_nil)
    (pss_cons (ps_if (pt_cmpR (o_eq hu64) (pv 0) pe_int (nomark _)) (pss_one (ps_ret (pe_lst (pa_cons (pe_xfld (pv 1) rfl) pa_nil)))) pss_nil)
    (pss_one (ps_ret (pe_lst pa_nil)))))))))))))))))))
theorem ok_law_kept_two (W : Fr mg) (FT : Flts K) {f : Addr} {fd : FuncData} (F : FunD K "_law_kept_two" "_law_kept_two" (defArgs s_law_kept_two) (defBody s_law_kept_two) (defScope s_law_kept_two) [] [] f fd) : FnOk P w K mg base CX0 1 f fd ["k", "e"] (sp_law_kept_two K) := by
  refine F.ok sc_law_kept_two ?_ (fun cdv A outer s H vs Q E hr h => ⟨t_law_kept_two K, PSs.nox (b_law_kept_two W hr), pure_law_kept_two FT vs H Q E h⟩)
  walk_at "splen"
theorem sc_law_codes : FnScope N_law_codes [] (defScope s_law_codes) := ⟨rfl, rfl, rfl, by decide +kernel, rfl, by decide +kernel, by decide +kernel⟩
theorem b_law_codes (W : Fr mg) {f : Addr} {cdv : Value} {A : Around} {outer : List Env} {s : Shared} {H : Hp} {E : XK} (hr : Room 0 (A.deeper (envOfC "_law_codes" (defScope s_law_codes) s.heap.objs.size f cdv))) :
  PSs (cxOf CX0 P w K mg base N_law_codes "_law_codes" (defScope s_law_codes) f cdv A outer s H E).nox (defBody s_law_codes) (t_law_codes K) :=
  have hu64 := hr.units
  have hu65 : (A.deeper (envOfC "_law_codes" (defScope s_law_codes) s.heap.objs.size f cdv)).units + 65 < cLine := by have := hr.un; omega
  (pss_one (ps_ret (pe_lst (pa_cons pe_str (pa_cons pe_str (pa_cons pe_str (pa_cons pe_str (pa_cons pe_str (pa_cons pe_str (pa_cons pe_str (pa_cons pe_str (pa_cons pe_str (pa_cons pe_str (pa_cons pe_str (pa_cons pe_str (pa_cons pe_str (pa_cons pe_str (pa_cons pe_str (pa_cons pe_str (pa_cons pe_str (pa_cons pe_str (pa_cons pe_str (pa_cons pe_str (pa_cons pe_str (pa_cons pe_str (pa_cons pe_str (pa_cons pe_str (pa_cons pe_str (pa_cons pe_str (pa_cons pe_str (pa_cons pe_str (pa_cons pe_str (pa_cons pe_str (pa_cons pe_str (pa_cons pe_str (pa_cons pe_str (pa_cons pe_str pa_nil)))))))))))))))))))))))))))))))))))))
theorem ok_law_codes (W : Fr mg) {f : Addr} {fd : FuncData} (F : FunD K "_law_codes" "_law_codes" (defArgs s_law_codes) (defBody s_law_codes) (defScope s_law_codes) [] [] f fd) : FnOk P w K mg base CX0 1 f fd [] (sp_law_codes K) := by
  refine F.ok sc_law_codes ?_ (fun cdv A outer s H vs Q E hr h => ⟨t_law_codes K, PSs.nox (b_law_codes W hr), pure_law_codes vs H Q E h⟩)
  walk_at "splen"
theorem sc_law_many : FnScope N_law_many ["k"] (defScope s_law_many) := ⟨rfl, rfl, rfl, by decide +kernel, rfl, by decide +kernel, by decide +kernel⟩
theorem b_law_many (W : Fr mg) {f : Addr} {cdv : Value} {A : Around} {outer : List Env} {s : Shared} {H : Hp} {E : XK} (hr : Room 0 (A.deeper (envOfC "_law_many" (defScope s_law_many) s.heap.objs.size f cdv))) :
  PSs (cxOf CX0 P w K mg base N_law_many "_law_many" (defScope s_law_many) f cdv A outer s H E).nox (defBody s_law_many) (t_law_many K) :=
  have hu64 := hr.units
  have hu65 : (A.deeper (envOfC "_law_many" (defScope s_law_many) s.heap.objs.size f cdv)).units + 65 < cLine := by have := hr.un; omega
  (pss_cons (ps_if (pt_cmpR o_lt (pv 0) pe_int (nomark _)) (pss_one (ps_ret pe_int)) pss_nil)
    (pss_one (ps_ret (pe_ifExp (pt_cmpR (o_in hu65) (pv 0) (pe_lst (pa_cons pe_int (pa_cons pe_int (pa_cons pe_int pa_nil)))) (by rfl)) pe_int pe_int))))
theorem ok_law_many (W : Fr mg) {f : Addr} {fd : FuncData} (F : FunD K "_law_many" "_law_many" (defArgs s_law_many) (defBody s_law_many) (defScope s_law_many) [] [] f fd) : FnOk P w K mg base CX0 1 f fd ["k"] (sp_law_many K) := by
  refine F.ok sc_law_many ?_ (fun cdv A outer s H vs Q E hr h => ⟨t_law_many K, PSs.nox (b_law_many W hr), pure_law_many vs H Q E h⟩)
  walk_at "splen"
theorem sc_law_is_one : FnScope N_law_is_one ["k", "e", "a", "b"] (defScope s_law_is_one) := ⟨rfl, rfl, rfl, by decide +kernel, rfl, by decide +kernel, by decide +kernel⟩
theorem b_law_is_one (W : Fr mg) (G_NestError : mg "NestError" = some (.ref (He.ga K "NestError"))) (G_Unknown : mg "Unknown" = some (.ref (He.ga K "Unknown"))) (D_law_like : Fd P w K mg base CX0 "_law_like" (2 + 12) ["told", "due"] (sp_law_like K 12)) (D_law_marks : Fd P w K mg base CX0 "_law_marks" 1 ["e"] (sp_law_marks K)) (D_law_kept_one : Fd P w K mg base CX0 "_law_kept_one" 1 ["k", "e"] (sp_law_kept_one K)) (D_law_kept_two : Fd P w K mg base CX0 "_law_kept_two" 1 ["k", "e"] (sp_law_kept_two K)) (D_law_codes : Fd P w K mg base CX0 "_law_codes" 1 [] (sp_law_codes K)) (D_law_many : Fd P w K mg base CX0 "_law_many" 1 ["k"] (sp_law_many K)) {f : Addr} {cdv : Value} {A : Around} {outer : List Env} {s : Shared} {H : Hp} {E : XK} (hr : Room 14 (A.deeper (envOfC "_law_is_one" (defScope s_law_is_one) s.heap.objs.size f cdv))) :
  PSs (cxOf CX0 P w K mg base N_law_is_one "_law_is_one" (defScope s_law_is_one) f cdv A outer s H E).nox (defBody s_law_is_one) (t_law_is_one K) :=
  have hu64 := hr.units
  have hu65 : (A.deeper (envOfC "_law_is_one" (defScope s_law_is_one) s.heap.objs.size f cdv)).units + 65 < cLine := by have := hr.un; omega
  (pss_cons (ps_if (pt_not (pt_val (pe_fd D_law_like (hr.mono (by omega)) (pa_cons (pe_fd D_law_marks (hr.mono (by omega)) (pa_cons (pv 1) pa_nil)) (pa_cons (pe_lc (own := [("j", 7)]) (g := (gName 7)) (tt := tYes) (by rfl) sc_law_is_one.nd (pi_range1 (by rfl) W.range (pa_cons pe_int pa_nil)) (blkOk_by (own := [("j", 7)]) (N := N_law_is_one) (sc := (defScope s_law_is_one)) (by decide +kernel)) (fun _ _ _ _ _ => (pg_name (i := 7) sc_law_is_one.nd rfl (by first | exact Or.inl rfl | exact Or.inr rfl))) (fun _ _ _ _ _ => pts_nil) (fun _ _ _ _ _ => (pe_cmpR (o_eq hu64) (pv 7) (pv 0) (nomark _)))) pa_nil))))) (pss_one (ps_ret pe_bl)) pss_nil)
    (pss_cons (ps_set (i := 4) sc_law_is_one.nd rfl (by first | exact Or.inl rfl | exact Or.inr rfl) (pe_lst (pa_cons (pe_callB c_isi (by rfl) W.isinstance (by first | boot_by_name | rfl | kernel_rfl) (pa_cons (pv 1) (pa_cons (pe_glob rfl G_NestError rfl) pa_nil))) (pa_cons (pe_callB c_isi (by rfl) W.isinstance (by first | boot_by_name | rfl | kernel_rfl) (pa_cons (pv 1) (pa_cons (pe_bltn (v := .ty "ValueError") rfl W.ValueError (by first | boot_by_name | rfl | kernel_rfl) rfl) pa_nil))) (pa_cons (pe_callB c_isi (by rfl) W.isinstance (by first | boot_by_name | rfl | kernel_rfl) (pa_cons (pv 1) (pa_cons (pe_glob rfl G_Unknown rfl) pa_nil))) (pa_cons (pe_callB c_isi (by rfl) W.isinstance (by first | boot_by_name | rfl | kernel_rfl) (pa_cons (pv 1) (pa_cons (pe_bltn (v := .ty "LookupError") rfl W.LookupError (by first | boot_by_name | rfl | kernel_rfl) rfl) pa_nil))) (pa_cons (pe_callB c_isi (by rfl) W.isinstance (by first | boot_by_name | rfl | kernel_rfl) (pa_cons (pv 1) (pa_cons (pe_bltn (v := .ty "RuntimeError") rfl W.RuntimeError (by first | boot_by_name | rfl | kernel_rfl) rfl) pa_nil))) pa_nil)))))))
    (pss_cons (ps_if (pt_not (pt_val (pe_fd D_law_like (hr.mono (by omega)) (pa_cons (pv 4) (pa_cons (pe_lst (pa_cons (pe_cmpR o_lt (pv 0) pe_int (nomark _)) (pa_cons (pe_cmpR o_lt (pv 0) pe_int (nomark _)) (pa_cons (pe_cmpR (o_in hu65) (pv 0) (pe_lst (pa_cons pe_int (pa_cons pe_int (pa_cons pe_int pa_nil)))) (by rfl)) (pa_cons (pe_cmpR (o_in hu65) (pv 0) (pe_lst (pa_cons pe_int (pa_cons pe_int (pa_cons pe_int pa_nil)))) (by rfl)) (pa_cons (pe_cmpR o_gt (pv 0) pe_int (nomark _)) pa_nil)))))) pa_nil))))) (pss_one (ps_ret pe_bl)) pss_nil)
    (pss_cons (ps_set (i := 5) sc_law_is_one.nd rfl (by first | exact Or.inl rfl | exact Or.inr rfl) (pe_lst (pa_cons (pe_callB c_isi (by rfl) W.isinstance (by first | boot_by_name | rfl | kernel_rfl) (pa_cons (pv 1) (pa_cons (pe_bltn (v := .ty "KeyError") rfl W.KeyError (by first | boot_by_name | rfl | kernel_rfl) rfl) pa_nil))) (pa_cons (pe_callB c_isi (by rfl) W.isinstance (by first | boot_by_name | rfl | kernel_rfl) (pa_cons (pv 1) (pa_cons (pe_bltn (v := .ty "IndexError") rfl W.IndexError (by first | boot_by_name | rfl | kernel_rfl) rfl) pa_nil))) (pa_cons (pe_callB c_isi (by rfl) W.isinstance (by first | boot_by_name | rfl | kernel_rfl) (pa_cons (pv 1) (pa_cons (pe_bltn (v := .ty "NotImplementedError") rfl W.NotImplementedError (by first | boot_by_name | rfl | kernel_rfl) rfl) pa_nil))) (pa_cons (pe_callB c_isi (by rfl) W.isinstance (by first | boot_by_name | rfl | kernel_rfl) (pa_cons (pv 1) (pa_cons (pe_bltn (v := .ty "ArithmeticError") rfl W.ArithmeticError (by first | boot_by_name | rfl | kernel_rfl) rfl) pa_nil))) pa_nil))))))
    (pss_cons (ps_if (pt_not (pt_val (pe_fd D_law_like (hr.mono (by omega)) (pa_cons (pe_op o_add (pv 5) (pe_lst (pa_cons (pe_callB c_isi (by rfl) W.isinstance (by first | boot_by_name | rfl | kernel_rfl) (pa_cons (pv 1) (pa_cons (pe_bltn (v := .ty "TypeError") rfl W.TypeError (by first | boot_by_name | rfl | kernel_rfl) rfl) pa_nil))) pa_nil))) (pa_cons (pe_lst (pa_cons pe_bl (pa_cons pe_bl (pa_cons pe_bl (pa_cons pe_bl (pa_cons pe_bl pa_nil)))))) pa_nil))))) (pss_one (ps_ret pe_bl)) pss_nil)
    (pss_cons (ps_set (i := 6) sc_law_is_one.nd rfl (by first | exact Or.inl rfl | exact Or.inr rfl) (pe_ifExp (pt_cmpR o_lt (pv 0) pe_int (nomark _)) (pe_fd D_law_kept_one (hr.mono (by omega)) (pa_cons (pv 0) (pa_cons (pv 1) pa_nil))) (pe_fd D_law_kept_two (hr.mono (by omega)) (pa_cons (pv 0) (pa_cons (pv 1) pa_nil)))))
    (pss_one (ps_ret (pe_fd D_law_like (hr.mono (by omega)) (pa_cons (pe_lst (pa_cons (pe_xfld (pv 1) rfl) (pa_cons (pv 6) pa_nil))) (pa_cons (pe_lst (pa_cons (pe_ix ix_seq (pe_fd0 D_law_codes (hr.mono (by omega))) (pv 0) (fun _ _ => rfl)) (pa_cons (pe_slice o_sl (pe_lst (pa_cons (pv 2) (pa_cons (pv 3) pa_nil))) po_none (po_some (pe_fd D_law_many (hr.mono (by omega)) (pa_cons (pv 0) pa_nil)))) pa_nil))) pa_nil)))))))))))
theorem ok_law_is_one (W : Fr mg) (G_NestError : mg "NestError" = some (.ref (He.ga K "NestError"))) (G_Unknown : mg "Unknown" = some (.ref (He.ga K "Unknown"))) (D_law_like : Fd P w K mg base CX0 "_law_like" (2 + 12) ["told", "due"] (sp_law_like K 12)) (D_law_marks : Fd P w K mg base CX0 "_law_marks" 1 ["e"] (sp_law_marks K)) (D_law_kept_one : Fd P w K mg base CX0 "_law_kept_one" 1 ["k", "e"] (sp_law_kept_one K)) (D_law_kept_two : Fd P w K mg base CX0 "_law_kept_two" 1 ["k", "e"] (sp_law_kept_two K)) (D_law_codes : Fd P w K mg base CX0 "_law_codes" 1 [] (sp_law_codes K)) (D_law_many : Fd P w K mg base CX0 "_law_many" 1 ["k"] (sp_law_many K)) (FT : Flts K) (KB : kitsB K = true) {f : Addr} {fd : FuncData} (F : FunD K "_law_is_one" "_law_is_one" (defArgs s_law_is_one) (defBody s_law_is_one) (defScope s_law_is_one) [] [] f fd) : FnOk P w K mg base CX0 15 f fd ["k", "e", "a", "b"] (sp_law_is_one K) := by
  refine F.ok sc_law_is_one ?_ (fun cdv A outer s H vs Q E hr h => ⟨t_law_is_one K, PSs.nox (b_law_is_one W G_NestError G_Unknown D_law_like D_law_marks D_law_kept_one D_law_kept_two D_law_codes D_law_many hr), pure_law_is_one FT KB vs H Q E h⟩)
  walk_at "splen"
theorem sc_law_name_one : FnScope N_law_name_one ["k", "a", "b"] (defScope s_law_name_one) := ⟨rfl, rfl, rfl, by decide +kernel, rfl, by decide +kernel, by decide +kernel⟩
theorem b_law_name_one (W : Fr mg) (TK_BadNest : FK.FltK P K mg "BadNest" (He.ga K "BadNest") flBadNest psBadNest ksBadNest ggBadNest) (TK_BadPaper : FK.FltK P K mg "BadPaper" (He.ga K "BadPaper") flBadPaper psBadPaper ksBadPaper ggBadPaper) (TK_BadLog : FK.FltK P K mg "BadLog" (He.ga K "BadLog") flBadLog psBadLog ksBadLog ggBadLog) (TK_BadScript : FK.FltK P K mg "BadScript" (He.ga K "BadScript") flBadScript psBadScript ksBadScript ggBadScript) (TK_InvalidText : FK.FltK P K mg "InvalidText" (He.ga K "InvalidText") flInvalidText psInvalidText ksInvalidText ggInvalidText) (TK_InvalidNumber : FK.FltK P K mg "InvalidNumber" (He.ga K "InvalidNumber") flInvalidNumber psInvalidNumber ksInvalidNumber ggInvalidNumber) (TK_InvalidPowers : FK.FltK P K mg "InvalidPowers" (He.ga K "InvalidPowers") flInvalidPowers psInvalidPowers ksInvalidPowers ggInvalidPowers) (TK_InvalidTouch : FK.FltK P K mg "InvalidTouch" (He.ga K "InvalidTouch") flInvalidTouch psInvalidTouch ksInvalidTouch ggInvalidTouch) (TK_InvalidPoint : FK.FltK P K mg "InvalidPoint" (He.ga K "InvalidPoint") flInvalidPoint psInvalidPoint ksInvalidPoint ggInvalidPoint) (TK_InvalidPoints : FK.FltK P K mg "InvalidPoints" (He.ga K "InvalidPoints") flInvalidPoints psInvalidPoints ksInvalidPoints ggInvalidPoints) (TK_InvalidCell : FK.FltK P K mg "InvalidCell" (He.ga K "InvalidCell") flInvalidCell psInvalidCell ksInvalidCell ggInvalidCell) (TK_InvalidRows : FK.FltK P K mg "InvalidRows" (He.ga K "InvalidRows") flInvalidRows psInvalidRows ksInvalidRows ggInvalidRows) (TK_InvalidWeights : FK.FltK P K mg "InvalidWeights" (He.ga K "InvalidWeights") flInvalidWeights psInvalidWeights ksInvalidWeights ggInvalidWeights) (TK_InvalidSides : FK.FltK P K mg "InvalidSides" (He.ga K "InvalidSides") flInvalidSides psInvalidSides ksInvalidSides ggInvalidSides) (TK_InvalidPieces : FK.FltK P K mg "InvalidPieces" (He.ga K "InvalidPieces") flInvalidPieces psInvalidPieces ksInvalidPieces ggInvalidPieces) (TK_InvalidEntries : FK.FltK P K mg "InvalidEntries" (He.ga K "InvalidEntries") flInvalidEntries psInvalidEntries ksInvalidEntries ggInvalidEntries) (TK_InvalidTables : FK.FltK P K mg "InvalidTables" (He.ga K "InvalidTables") flInvalidTables psInvalidTables ksInvalidTables ggInvalidTables) {f : Addr} {cdv : Value} {A : Around} {outer : List Env} {s : Shared} {H : Hp} {E : XK} (hr : Room 1 (A.deeper (envOfC "_law_name_one" (defScope s_law_name_one) s.heap.objs.size f cdv))) :
  PSs (cxOf CX0 P w K mg base N_law_name_one "_law_name_one" (defScope s_law_name_one) f cdv A outer s H E).nox (defBody s_law_name_one) (t_law_name_one K) :=
  have hu64 := hr.units
  have hu65 : (A.deeper (envOfC "_law_name_one" (defScope s_law_name_one) s.heap.objs.size f cdv)).units + 65 < cLine := by have := hr.un; omega
  (pss_cons (ps_if (pt_cmpR (o_eq hu64) (pv 0) pe_int (nomark _)) (pss_one (ps_ret (pe_fltK TK_BadNest hr (pk_cons (pv 2) (pk_cons (pv 1) pk_nil))))) pss_nil)
    (pss_cons (ps_if (pt_cmpR (o_eq hu64) (pv 0) pe_int (nomark _)) (pss_one (ps_ret (pe_fltK TK_BadPaper hr (pk_cons (pv 2) (pk_cons (pv 1) pk_nil))))) pss_nil)
    (pss_cons (ps_if (pt_cmpR (o_eq hu64) (pv 0) pe_int (nomark _)) (pss_one (ps_ret (pe_fltK TK_BadLog hr (pk_cons (pv 2) (pk_cons (pv 1) pk_nil))))) pss_nil)
    (pss_cons (ps_if (pt_cmpR (o_eq hu64) (pv 0) pe_int (nomark _)) (pss_one (ps_ret (pe_fltK TK_BadScript hr (pk_cons (pv 2) (pk_cons (pv 1) pk_nil))))) pss_nil)
    (pss_cons (ps_if (pt_cmpR (o_eq hu64) (pv 0) pe_int (nomark _)) (pss_one (ps_ret (pe_fltK TK_InvalidText hr (pk_cons (pv 1) pk_nil)))) pss_nil)
    (pss_cons (ps_if (pt_cmpR (o_eq hu64) (pv 0) pe_int (nomark _)) (pss_one (ps_ret (pe_fltK TK_InvalidNumber hr (pk_cons (pv 1) pk_nil)))) pss_nil)
    (pss_cons (ps_if (pt_cmpR (o_eq hu64) (pv 0) pe_int (nomark _)) (pss_one (ps_ret (pe_fltK TK_InvalidPowers hr (pk_cons (pv 1) pk_nil)))) pss_nil)
    (pss_cons (ps_if (pt_cmpR (o_eq hu64) (pv 0) pe_int (nomark _)) (pss_one (ps_ret (pe_fltK TK_InvalidTouch hr (pk_cons (pv 1) pk_nil)))) pss_nil)
    (pss_cons (ps_if (pt_cmpR (o_eq hu64) (pv 0) pe_int (nomark _)) (pss_one (ps_ret (pe_fltK TK_InvalidPoint hr (pk_cons (pv 1) pk_nil)))) pss_nil)
    (pss_cons (ps_if (pt_cmpR (o_eq hu64) (pv 0) pe_int (nomark _)) (pss_one (ps_ret (pe_fltK TK_InvalidPoints hr (pk_cons (pv 1) pk_nil)))) pss_nil)
    (pss_cons (ps_if (pt_cmpR (o_eq hu64) (pv 0) pe_int (nomark _)) (pss_one (ps_ret (pe_fltK TK_InvalidCell hr (pk_cons (pv 1) pk_nil)))) pss_nil)
    (pss_cons (ps_if (pt_cmpR (o_eq hu64) (pv 0) pe_int (nomark _)) (pss_one (ps_ret (pe_fltK TK_InvalidRows hr (pk_cons (pv 1) pk_nil)))) pss_nil)
    (pss_cons (ps_if (pt_cmpR (o_eq hu64) (pv 0) pe_int (nomark _)) (pss_one (ps_ret (pe_fltK TK_InvalidWeights hr (pk_cons (pv 1) pk_nil)))) pss_nil)
    (pss_cons (ps_if (pt_cmpR (o_eq hu64) (pv 0) pe_int (nomark _)) (pss_one (ps_ret (pe_fltK TK_InvalidSides hr (pk_cons (pv 1) pk_nil)))) pss_nil)
    (pss_cons (ps_if (pt_cmpR (o_eq hu64) (pv 0) pe_int (nomark _)) (pss_one (ps_ret (pe_fltK TK_InvalidPieces hr (pk_cons (pv 1) pk_nil)))) pss_nil)
    (pss_cons (ps_if (pt_cmpR (o_eq hu64) (pv 0) pe_int (nomark _)) (pss_one (ps_ret (pe_fltK TK_InvalidEntries hr (pk_cons (pv 1) pk_nil)))) pss_nil)
    (pss_one (ps_ret (pe_fltK TK_InvalidTables hr (pk_cons (pv 1) pk_nil))))))))))))))))))))
theorem ok_law_name_one (W : Fr mg) (TK_BadNest : FK.FltK P K mg "BadNest" (He.ga K "BadNest") flBadNest psBadNest ksBadNest ggBadNest) (TK_BadPaper : FK.FltK P K mg "BadPaper" (He.ga K "BadPaper") flBadPaper psBadPaper ksBadPaper ggBadPaper) (TK_BadLog : FK.FltK P K mg "BadLog" (He.ga K "BadLog") flBadLog psBadLog ksBadLog ggBadLog) (TK_BadScript : FK.FltK P K mg "BadScript" (He.ga K "BadScript") flBadScript psBadScript ksBadScript ggBadScript) (TK_InvalidText : FK.FltK P K mg "InvalidText" (He.ga K "InvalidText") flInvalidText psInvalidText ksInvalidText ggInvalidText) (TK_InvalidNumber : FK.FltK P K mg "InvalidNumber" (He.ga K "InvalidNumber") flInvalidNumber psInvalidNumber ksInvalidNumber ggInvalidNumber) (TK_InvalidPowers : FK.FltK P K mg "InvalidPowers" (He.ga K "InvalidPowers") flInvalidPowers psInvalidPowers ksInvalidPowers ggInvalidPowers) (TK_InvalidTouch : FK.FltK P K mg "InvalidTouch" (He.ga K "InvalidTouch") flInvalidTouch psInvalidTouch ksInvalidTouch ggInvalidTouch) (TK_InvalidPoint : FK.FltK P K mg "InvalidPoint" (He.ga K "InvalidPoint") flInvalidPoint psInvalidPoint ksInvalidPoint ggInvalidPoint) (TK_InvalidPoints : FK.FltK P K mg "InvalidPoints" (He.ga K "InvalidPoints") flInvalidPoints psInvalidPoints ksInvalidPoints ggInvalidPoints) (TK_InvalidCell : FK.FltK P K mg "InvalidCell" (He.ga K "InvalidCell") flInvalidCell psInvalidCell ksInvalidCell ggInvalidCell) (TK_InvalidRows : FK.FltK P K mg "InvalidRows" (He.ga K "InvalidRows") flInvalidRows psInvalidRows ksInvalidRows ggInvalidRows) (TK_InvalidWeights : FK.FltK P K mg "InvalidWeights" (He.ga K "InvalidWeights") flInvalidWeights psInvalidWeights ksInvalidWeights ggInvalidWeights) (TK_InvalidSides : FK.FltK P K mg "InvalidSides" (He.ga K "InvalidSides") flInvalidSides psInvalidSides ksInvalidSides ggInvalidSides) (TK_InvalidPieces : FK.FltK P K mg "InvalidPieces" (He.ga K "InvalidPieces") flInvalidPieces psInvalidPieces ksInvalidPieces ggInvalidPieces) (TK_InvalidEntries : FK.FltK P K mg "InvalidEntries" (He.ga K "InvalidEntries") flInvalidEntries psInvalidEntries ksInvalidEntries ggInvalidEntries) (TK_InvalidTables : FK.FltK P K mg "InvalidTables" (He.ga K "InvalidTables") flInvalidTables psInvalidTables ksInvalidTables ggInvalidTables) {f : Addr} {fd : FuncData} (F : FunD K "_law_name_one" "_law_name_one" (defArgs s_law_name_one) (defBody s_law_name_one) (defScope s_law_name_one) [] [] f fd) : FnOk P w K mg base CX0 2 f fd ["k", "a", "b"] (sp_law_name_one K) := by
  refine F.ok sc_law_name_one ?_ (fun cdv A outer s H vs Q E hr h => ⟨t_law_name_one K, PSs.nox (b_law_name_one W TK_BadNest TK_BadPaper TK_BadLog TK_BadScript TK_InvalidText TK_InvalidNumber TK_InvalidPowers TK_InvalidTouch TK_InvalidPoint TK_InvalidPoints TK_InvalidCell TK_InvalidRows TK_InvalidWeights TK_InvalidSides TK_InvalidPieces TK_InvalidEntries TK_InvalidTables hr), pure_law_name_one vs H Q E h⟩)
  walk_at "splen"
theorem sc_law_name_two : FnScope N_law_name_two ["k", "a", "b"] (defScope s_law_name_two) := ⟨rfl, rfl, rfl, by decide +kernel, rfl, by decide +kernel, by decide +kernel⟩
theorem b_law_name_two (W : Fr mg) (T_OtherNest : FK.Flt P K mg "OtherNest" (He.ga K "OtherNest") flOtherNest psOtherNest) (T_LargeBook : FK.Flt P K mg "LargeBook" (He.ga K "LargeBook") flLargeBook psLargeBook) (T_NoTrial : FK.Flt P K mg "NoTrial" (He.ga K "NoTrial") flNoTrial psNoTrial) (TK_InvalidRooms : FK.FltK P K mg "InvalidRooms" (He.ga K "InvalidRooms") flInvalidRooms psInvalidRooms ksInvalidRooms ggInvalidRooms) (TK_InvalidName : FK.FltK P K mg "InvalidName" (He.ga K "InvalidName") flInvalidName psInvalidName ksInvalidName ggInvalidName) (TK_SharedName : FK.FltK P K mg "SharedName" (He.ga K "SharedName") flSharedName psSharedName ksSharedName ggSharedName) (TK_OtherWidth : FK.FltK P K mg "OtherWidth" (He.ga K "OtherWidth") flOtherWidth psOtherWidth ksOtherWidth ggOtherWidth) (TK_Unseen : FK.FltK P K mg "Unseen" (He.ga K "Unseen") flUnseen psUnseen ksUnseen ggUnseen) (TK_TooNarrow : FK.FltK P K mg "TooNarrow" (He.ga K "TooNarrow") flTooNarrow psTooNarrow ksTooNarrow ggTooNarrow) (TK_Full : FK.FltK P K mg "Full" (He.ga K "Full") flFull psFull ksFull ggFull) (TK_Held : FK.FltK P K mg "Held" (He.ga K "Held") flHeld psHeld ksHeld ggHeld) (TK_NotHeld : FK.FltK P K mg "NotHeld" (He.ga K "NotHeld") flNotHeld psNotHeld ksNotHeld ggNotHeld) (TK_Done : FK.FltK P K mg "Done" (He.ga K "Done") flDone psDone ksDone ggDone) (TK_UnknownName : FK.FltK P K mg "UnknownName" (He.ga K "UnknownName") flUnknownName psUnknownName ksUnknownName ggUnknownName) (TK_UnknownCounter : FK.FltK P K mg "UnknownCounter" (He.ga K "UnknownCounter") flUnknownCounter psUnknownCounter ksUnknownCounter ggUnknownCounter) (TK_NoRun : FK.FltK P K mg "NoRun" (He.ga K "NoRun") flNoRun psNoRun ksNoRun ggNoRun) (TK_NothingLeft : FK.FltK P K mg "NothingLeft" (He.ga K "NothingLeft") flNothingLeft psNothingLeft ksNothingLeft ggNothingLeft) {f : Addr} {cdv : Value} {A : Around} {outer : List Env} {s : Shared} {H : Hp} {E : XK} (hr : Room 1 (A.deeper (envOfC "_law_name_two" (defScope s_law_name_two) s.heap.objs.size f cdv))) :
  PSs (cxOf CX0 P w K mg base N_law_name_two "_law_name_two" (defScope s_law_name_two) f cdv A outer s H E).nox (defBody s_law_name_two) (t_law_name_two K) :=
  have hu64 := hr.units
  have hu65 : (A.deeper (envOfC "_law_name_two" (defScope s_law_name_two) s.heap.objs.size f cdv)).units + 65 < cLine := by have := hr.un; omega
  (pss_cons (ps_if (pt_cmpR (o_eq hu64) (pv 0) pe_int (nomark _)) (pss_one (ps_ret (pe_fltK TK_InvalidRooms hr (pk_cons (pv 1) pk_nil)))) pss_nil)
    (pss_cons (ps_if (pt_cmpR (o_eq hu64) (pv 0) pe_int (nomark _)) (pss_one (ps_ret (pe_fltK TK_InvalidName hr (pk_cons (pv 1) pk_nil)))) pss_nil)
    (pss_cons (ps_if (pt_cmpR (o_eq hu64) (pv 0) pe_int (nomark _)) (pss_one (ps_ret (pe_fltK TK_SharedName hr (pk_cons (pv 1) pk_nil)))) pss_nil)
    (pss_cons (ps_if (pt_cmpR (o_eq hu64) (pv 0) pe_int (nomark _)) (pss_one (ps_ret (pe_flt0 T_OtherNest hr))) pss_nil)
    (pss_cons (ps_if (pt_cmpR (o_eq hu64) (pv 0) pe_int (nomark _)) (pss_one (ps_ret (pe_fltK TK_OtherWidth hr (pk_cons (pv 1) pk_nil)))) pss_nil)
    (pss_cons (ps_if (pt_cmpR (o_eq hu64) (pv 0) pe_int (nomark _)) (pss_one (ps_ret (pe_fltK TK_Unseen hr (pk_cons (pv 1) pk_nil)))) pss_nil)
    (pss_cons (ps_if (pt_cmpR (o_eq hu64) (pv 0) pe_int (nomark _)) (pss_one (ps_ret (pe_flt0 T_LargeBook hr))) pss_nil)
    (pss_cons (ps_if (pt_cmpR (o_eq hu64) (pv 0) pe_int (nomark _)) (pss_one (ps_ret (pe_fltK TK_TooNarrow hr (pk_cons (pv 1) pk_nil)))) pss_nil)
    (pss_cons (ps_if (pt_cmpR (o_eq hu64) (pv 0) pe_int (nomark _)) (pss_one (ps_ret (pe_fltK TK_Full hr (pk_cons (pv 1) pk_nil)))) pss_nil)
    (pss_cons (ps_if (pt_cmpR (o_eq hu64) (pv 0) pe_int (nomark _)) (pss_one (ps_ret (pe_fltK TK_Held hr (pk_cons (pv 1) pk_nil)))) pss_nil)
    (pss_cons (ps_if (pt_cmpR (o_eq hu64) (pv 0) pe_int (nomark _)) (pss_one (ps_ret (pe_fltK TK_NotHeld hr (pk_cons (pv 1) pk_nil)))) pss_nil)
    (pss_cons (ps_if (pt_cmpR (o_eq hu64) (pv 0) pe_int (nomark _)) (pss_one (ps_ret (pe_fltK TK_Done hr (pk_cons (pv 1) pk_nil)))) pss_nil)
    (pss_cons (ps_if (pt_cmpR (o_eq hu64) (pv 0) pe_int (nomark _)) (pss_one (ps_ret (pe_fltK TK_UnknownName hr (pk_cons (pv 1) pk_nil)))) pss_nil)
    (pss_cons (ps_if (pt_cmpR (o_eq hu64) (pv 0) pe_int (nomark _)) (pss_one (ps_ret (pe_fltK TK_UnknownCounter hr (pk_cons (pv 1) pk_nil)))) pss_nil)
    (pss_cons (ps_if (pt_cmpR (o_eq hu64) (pv 0) pe_int (nomark _)) (pss_one (ps_ret (pe_fltK TK_NoRun hr (pk_cons (pv 1) pk_nil)))) pss_nil)
    (pss_cons (ps_if (pt_cmpR (o_eq hu64) (pv 0) pe_int (nomark _)) (pss_one (ps_ret (pe_fltK TK_NothingLeft hr (pk_cons (pv 1) pk_nil)))) pss_nil)
    (pss_one (ps_ret (pe_flt0 T_NoTrial hr)))))))))))))))))))
theorem ok_law_name_two (W : Fr mg) (T_OtherNest : FK.Flt P K mg "OtherNest" (He.ga K "OtherNest") flOtherNest psOtherNest) (T_LargeBook : FK.Flt P K mg "LargeBook" (He.ga K "LargeBook") flLargeBook psLargeBook) (T_NoTrial : FK.Flt P K mg "NoTrial" (He.ga K "NoTrial") flNoTrial psNoTrial) (TK_InvalidRooms : FK.FltK P K mg "InvalidRooms" (He.ga K "InvalidRooms") flInvalidRooms psInvalidRooms ksInvalidRooms ggInvalidRooms) (TK_InvalidName : FK.FltK P K mg "InvalidName" (He.ga K "InvalidName") flInvalidName psInvalidName ksInvalidName ggInvalidName) (TK_SharedName : FK.FltK P K mg "SharedName" (He.ga K "SharedName") flSharedName psSharedName ksSharedName ggSharedName) (TK_OtherWidth : FK.FltK P K mg "OtherWidth" (He.ga K "OtherWidth") flOtherWidth psOtherWidth ksOtherWidth ggOtherWidth) (TK_Unseen : FK.FltK P K mg "Unseen" (He.ga K "Unseen") flUnseen psUnseen ksUnseen ggUnseen) (TK_TooNarrow : FK.FltK P K mg "TooNarrow" (He.ga K "TooNarrow") flTooNarrow psTooNarrow ksTooNarrow ggTooNarrow) (TK_Full : FK.FltK P K mg "Full" (He.ga K "Full") flFull psFull ksFull ggFull) (TK_Held : FK.FltK P K mg "Held" (He.ga K "Held") flHeld psHeld ksHeld ggHeld) (TK_NotHeld : FK.FltK P K mg "NotHeld" (He.ga K "NotHeld") flNotHeld psNotHeld ksNotHeld ggNotHeld) (TK_Done : FK.FltK P K mg "Done" (He.ga K "Done") flDone psDone ksDone ggDone) (TK_UnknownName : FK.FltK P K mg "UnknownName" (He.ga K "UnknownName") flUnknownName psUnknownName ksUnknownName ggUnknownName) (TK_UnknownCounter : FK.FltK P K mg "UnknownCounter" (He.ga K "UnknownCounter") flUnknownCounter psUnknownCounter ksUnknownCounter ggUnknownCounter) (TK_NoRun : FK.FltK P K mg "NoRun" (He.ga K "NoRun") flNoRun psNoRun ksNoRun ggNoRun) (TK_NothingLeft : FK.FltK P K mg "NothingLeft" (He.ga K "NothingLeft") flNothingLeft psNothingLeft ksNothingLeft ggNothingLeft) {f : Addr} {fd : FuncData} (F : FunD K "_law_name_two" "_law_name_two" (defArgs s_law_name_two) (defBody s_law_name_two) (defScope s_law_name_two) [] [] f fd) : FnOk P w K mg base CX0 2 f fd ["k", "a", "b"] (sp_law_name_two K) := by
  refine F.ok sc_law_name_two ?_ (fun cdv A outer s H vs Q E hr h => ⟨t_law_name_two K, PSs.nox (b_law_name_two W T_OtherNest T_LargeBook T_NoTrial TK_InvalidRooms TK_InvalidName TK_SharedName TK_OtherWidth TK_Unseen TK_TooNarrow TK_Full TK_Held TK_NotHeld TK_Done TK_UnknownName TK_UnknownCounter TK_NoRun TK_NothingLeft hr), pure_law_name_two vs H Q E h⟩)
  walk_at "splen"
theorem sc_law_named : FnScope N_law_named ["k", "a", "b"] (defScope s_law_named) := ⟨rfl, rfl, rfl, by decide +kernel, rfl, by decide +kernel, by decide +kernel⟩
theorem b_law_named (W : Fr mg) (D_law_name_one : Fd P w K mg base CX0 "_law_name_one" 2 ["k", "a", "b"] (sp_law_name_one K)) (D_law_name_two : Fd P w K mg base CX0 "_law_name_two" 2 ["k", "a", "b"] (sp_law_name_two K)) {f : Addr} {cdv : Value} {A : Around} {outer : List Env} {s : Shared} {H : Hp} {E : XK} (hr : Room 2 (A.deeper (envOfC "_law_named" (defScope s_law_named) s.heap.objs.size f cdv))) :
  PSs (cxOf CX0 P w K mg base N_law_named "_law_named" (defScope s_law_named) f cdv A outer s H E).nox (defBody s_law_named) (t_law_named K) :=
  have hu64 := hr.units
  have hu65 : (A.deeper (envOfC "_law_named" (defScope s_law_named) s.heap.objs.size f cdv)).units + 65 < cLine := by have := hr.un; omega
  (pss_one (ps_ret (pe_ifExp (pt_cmpR o_lt (pv 0) pe_int (nomark _)) (pe_fd D_law_name_one (hr.mono (by omega)) (pa_cons (pv 0) (pa_cons (pv 1) (pa_cons (pv 2) pa_nil)))) (pe_fd D_law_name_two (hr.mono (by omega)) (pa_cons (pv 0) (pa_cons (pv 1) (pa_cons (pv 2) pa_nil)))))))
theorem ok_law_named (W : Fr mg) (D_law_name_one : Fd P w K mg base CX0 "_law_name_one" 2 ["k", "a", "b"] (sp_law_name_one K)) (D_law_name_two : Fd P w K mg base CX0 "_law_name_two" 2 ["k", "a", "b"] (sp_law_name_two K)) {f : Addr} {fd : FuncData} (F : FunD K "_law_named" "_law_named" (defArgs s_law_named) (defBody s_law_named) (defScope s_law_named) [] [] f fd) : FnOk P w K mg base CX0 3 f fd ["k", "a", "b"] (sp_law_named K) := by
  refine F.ok sc_law_named ?_ (fun cdv A outer s H vs Q E hr h => ⟨t_law_named K, PSs.nox (b_law_named W D_law_name_one D_law_name_two hr), pure_law_named vs H Q E h⟩)
  walk_at "splen"
theorem sc_law : FnScope N_law ["script"] (defScope s_law) := ⟨rfl, rfl, rfl, by decide +kernel, rfl, by decide +kernel, by decide +kernel⟩
theorem b_law (W : Fr mg) (D_law_bag : Fd P w K mg base CX0 "_law_bag" 1 ["script"] (sp_law_bag K)) (D_law_any : Fd P w K mg base CX0 "_law_any" (3 + 6) ["bag", "deep"] (sp_law_any K 6)) (D_law_made : Fd P w K mg base CX0 "_law_made" 3 ["k", "a", "b"] (sp_law_made K)) (D_law_some : Fd P w K mg base CX0 "_law_some" 2 ["bag", "things", "amount"] (sp_law_some K)) (D_law_is_one : Fd P w K mg base CX0 "_law_is_one" 15 ["k", "e", "a", "b"] (sp_law_is_one K)) (D_law_named : Fd P w K mg base CX0 "_law_named" 3 ["k", "a", "b"] (sp_law_named K)) {f : Addr} {cdv : Value} {A : Around} {outer : List Env} {s : Shared} {H : Hp} {E : XK} (hr : Room 15 (A.deeper (envOfC "law" (defScope s_law) s.heap.objs.size f cdv))) :
  PSs (cxOf CX0 P w K mg base N_law "law" (defScope s_law) f cdv A outer s H E).nox (defBody s_law) (t_law K) :=
  have hu64 := hr.units
  have hu65 : (A.deeper (envOfC "law" (defScope s_law) s.heap.objs.size f cdv)).units + 65 < cLine := by have := hr.un; omega
  (pss_cons (ps_set (i := 1) sc_law.nd rfl (by first | exact Or.inl rfl | exact Or.inr rfl) (pe_fd D_law_bag (hr.mono (by omega)) (pa_cons (pv 0) pa_nil)))
    (pss_cons (ps_set (i := 2) sc_law.nd rfl (by first | exact Or.inl rfl | exact Or.inr rfl) (pe_lc (own := [("k", 4)]) (g := (gName 4)) (tt := tYes) (by rfl) sc_law.nd (pi_range1 (by rfl) W.range (pa_cons pe_int pa_nil)) (blkOk_by (own := [("k", 4)]) (N := N_law) (sc := (defScope s_law)) (by decide +kernel)) (fun _ _ _ _ _ => (pg_name (i := 4) sc_law.nd rfl (by first | exact Or.inl rfl | exact Or.inr rfl))) (fun _ _ _ _ _ => pts_nil) (fun _ _ _ _ _ => (pe_tup (pa_cons (pe_fd D_law_any (hr.mono (by omega)) (pa_cons (pv 1) (pa_cons pe_int pa_nil))) (pa_cons (pe_fd D_law_any (hr.mono (by omega)) (pa_cons (pv 1) (pa_cons pe_int pa_nil))) pa_nil))))))
    (pss_cons (ps_set (i := 3) sc_law.nd rfl (by first | exact Or.inl rfl | exact Or.inr rfl) (pe_lc (own := [("k", 4)]) (g := (gName 4)) (tt := tYes) (by rfl) sc_law.nd (pi_range1 (by rfl) W.range (pa_cons pe_int pa_nil)) (blkOk_by (own := [("k", 4)]) (N := N_law) (sc := (defScope s_law)) (by decide +kernel)) (fun _ _ _ _ _ => (pg_name (i := 4) sc_law.nd rfl (by first | exact Or.inl rfl | exact Or.inr rfl))) (fun _ _ _ _ _ => pts_nil) (fun _ _ _ _ _ => (pe_fd D_law_made (hr.mono (by omega)) (pa_cons (pv 4) (pa_cons (pe_ix ix_seq (pe_ix ix_seq (pv 2) (pv 4) (fun _ _ => rfl)) pe_int (fun _ _ => rfl)) (pa_cons (pe_ix ix_seq (pe_ix ix_seq (pv 2) (pv 4) (fun _ _ => rfl)) pe_int (fun _ _ => rfl)) pa_nil)))))))
    (pss_cons (ps_for PassesOwn.never rfl (pi_list (pe_fd D_law_some (hr.mono (by omega)) (pa_cons (pv 1) (pa_cons (pe_listRg (by rfl) (by rfl) W.list (prg_1 (by rfl) W.range pe_int)) (pa_cons pe_int pa_nil))))) (pg_name (i := 4) sc_law.nd rfl (by first | exact Or.inl rfl | exact Or.inr rfl))
    (pss_cons (ps_par (i := 5) (j := 6) (by rfl) sc_law.nd rfl rfl (by decide) rfl rfl (pa_cons (pe_fd D_law_any (hr.mono (by omega)) (pa_cons (pv 1) (pa_cons pe_int pa_nil))) (pa_cons (pe_fd D_law_any (hr.mono (by omega)) (pa_cons (pv 1) (pa_cons pe_int pa_nil))) pa_nil)) (by rfl))
    (pss_one (ps_if (PW.pt (pw_or (pt_not (pt_val (pe_fd D_law_is_one (hr.mono (by omega)) (pa_cons (pv 4) (pa_cons (pe_fd D_law_named (hr.mono (by omega)) (pa_cons (pv 4) (pa_cons (pv 5) (pa_cons (pv 6) pa_nil)))) (pa_cons (pv 5) (pa_cons (pv 6) pa_nil))))))) (pw_or1 (pt_not (pt_val (pe_fd D_law_is_one (hr.mono (by omega)) (pa_cons (pv 4) (pa_cons (pe_fd D_law_made (hr.mono (by omega)) (pa_cons (pv 4) (pa_cons (pv 6) (pa_cons (pv 5) pa_nil)))) (pa_cons (pv 6) (pa_cons (pv 5) pa_nil)))))))))) (pss_one (ps_ret pe_bl)) pss_nil))))
    (pss_one (ps_ret (pe_callB (cr_all rfl) (by rfl) W.all (by first | boot_by_name | rfl | kernel_rfl) (pa_cons (pe_lc (own := [("k", 4)]) (g := (gName 4)) (tt := tYes) (by rfl) sc_law.nd (pi_range1 (by rfl) W.range (pa_cons pe_int pa_nil)) (blkOk_by (own := [("k", 4)]) (N := N_law) (sc := (defScope s_law)) (by decide +kernel)) (fun _ _ _ _ _ => (pg_name (i := 4) sc_law.nd rfl (by first | exact Or.inl rfl | exact Or.inr rfl))) (fun _ _ _ _ _ => pts_nil) (fun _ _ _ _ _ => (pe_fd D_law_is_one (hr.mono (by omega)) (pa_cons (pv 4) (pa_cons (pe_ix ix_seq (pv 3) (pv 4) (fun _ _ => rfl)) (pa_cons (pe_ix ix_seq (pe_ix ix_seq (pv 2) (pv 4) (fun _ _ => rfl)) pe_int (fun _ _ => rfl)) (pa_cons (pe_ix ix_seq (pe_ix ix_seq (pv 2) (pv 4) (fun _ _ => rfl)) pe_int (fun _ _ => rfl)) pa_nil))))))) pa_nil))))))))
theorem ok_law (W : Fr mg) (D_law_bag : Fd P w K mg base CX0 "_law_bag" 1 ["script"] (sp_law_bag K)) (D_law_any : Fd P w K mg base CX0 "_law_any" (3 + 6) ["bag", "deep"] (sp_law_any K 6)) (D_law_made : Fd P w K mg base CX0 "_law_made" 3 ["k", "a", "b"] (sp_law_made K)) (D_law_some : Fd P w K mg base CX0 "_law_some" 2 ["bag", "things", "amount"] (sp_law_some K)) (D_law_is_one : Fd P w K mg base CX0 "_law_is_one" 15 ["k", "e", "a", "b"] (sp_law_is_one K)) (D_law_named : Fd P w K mg base CX0 "_law_named" 3 ["k", "a", "b"] (sp_law_named K)) {f : Addr} {fd : FuncData} (F : FunD K "law" "law" (defArgs s_law) (defBody s_law) (defScope s_law) [] [] f fd) : FnOk P w K mg base CX0 16 f fd ["script"] (sp_law K) := by
  refine F.ok sc_law ?_ (fun cdv A outer s H vs Q E hr h => ⟨t_law K, PSs.nox (b_law W D_law_bag D_law_any D_law_made D_law_some D_law_is_one D_law_named hr), pure_law vs H Q E h⟩)
  walk_at "splen"
end
end D
end
section
set_option maxHeartbeats 0
namespace D
open PySem PySem.Spec PyProof.Rows L2 U C
theorem ft_BadNest : Hf.FltT (PySem.Challenge.rw_leastfetched_k00_errors_told).prog xBadNest := ⟨⟨by kernel_rfl, ⟨_, _, by rfl, by kernel_rfl, by kernel_rfl⟩, by kernel_rfl, by kernel_rfl, by decide +kernel, by decide +kernel, by decide +kernel, by kernel_rfl, by kernel_rfl, by kernel_rfl, FK.pars_of (by decide +kernel), by decide +kernel, by kernel_rfl⟩, fun doc pm ct cda an cc us hl => match us, hl with | [_, _, _], _ => rfl, by decide +kernel, by decide +kernel⟩
theorem ft_BadPaper : Hf.FltT (PySem.Challenge.rw_leastfetched_k00_errors_told).prog xBadPaper := ⟨⟨by kernel_rfl, ⟨_, _, by rfl, by kernel_rfl, by kernel_rfl⟩, by kernel_rfl, by kernel_rfl, by decide +kernel, by decide +kernel, by decide +kernel, by kernel_rfl, by kernel_rfl, by kernel_rfl, FK.pars_of (by decide +kernel), by decide +kernel, by kernel_rfl⟩, fun doc pm ct cda an cc us hl => match us, hl with | [_, _, _], _ => rfl, by decide +kernel, by decide +kernel⟩
theorem ft_BadLog : Hf.FltT (PySem.Challenge.rw_leastfetched_k00_errors_told).prog xBadLog := ⟨⟨by kernel_rfl, ⟨_, _, by rfl, by kernel_rfl, by kernel_rfl⟩, by kernel_rfl, by kernel_rfl, by decide +kernel, by decide +kernel, by decide +kernel, by kernel_rfl, by kernel_rfl, by kernel_rfl, FK.pars_of (by decide +kernel), by decide +kernel, by kernel_rfl⟩, fun doc pm ct cda an cc us hl => match us, hl with | [_, _, _], _ => rfl, by decide +kernel, by decide +kernel⟩
theorem ft_BadScript : Hf.FltT (PySem.Challenge.rw_leastfetched_k00_errors_told).prog xBadScript := ⟨⟨by kernel_rfl, ⟨_, _, by rfl, by kernel_rfl, by kernel_rfl⟩, by kernel_rfl, by kernel_rfl, by decide +kernel, by decide +kernel, by decide +kernel, by kernel_rfl, by kernel_rfl, by kernel_rfl, FK.pars_of (by decide +kernel), by decide +kernel, by kernel_rfl⟩, fun doc pm ct cda an cc us hl => match us, hl with | [_, _, _], _ => rfl, by decide +kernel, by decide +kernel⟩
theorem ft_InvalidText : Hf.FltT (PySem.Challenge.rw_leastfetched_k00_errors_told).prog xInvalidText := ⟨⟨by kernel_rfl, ⟨_, _, by rfl, by kernel_rfl, by kernel_rfl⟩, by kernel_rfl, by kernel_rfl, by decide +kernel, by decide +kernel, by decide +kernel, by kernel_rfl, by kernel_rfl, by kernel_rfl, FK.pars_of (by decide +kernel), by decide +kernel, by kernel_rfl⟩, fun doc pm ct cda an cc us hl => match us, hl with | [_, _], _ => rfl, by decide +kernel, by decide +kernel⟩
theorem ft_InvalidNumber : Hf.FltT (PySem.Challenge.rw_leastfetched_k00_errors_told).prog xInvalidNumber := ⟨⟨by kernel_rfl, ⟨_, _, by rfl, by kernel_rfl, by kernel_rfl⟩, by kernel_rfl, by kernel_rfl, by decide +kernel, by decide +kernel, by decide +kernel, by kernel_rfl, by kernel_rfl, by kernel_rfl, FK.pars_of (by decide +kernel), by decide +kernel, by kernel_rfl⟩, fun doc pm ct cda an cc us hl => match us, hl with | [_, _], _ => rfl, by decide +kernel, by decide +kernel⟩
theorem ft_InvalidPowers : Hf.FltT (PySem.Challenge.rw_leastfetched_k00_errors_told).prog xInvalidPowers := ⟨⟨by kernel_rfl, ⟨_, _, by rfl, by kernel_rfl, by kernel_rfl⟩, by kernel_rfl, by kernel_rfl, by decide +kernel, by decide +kernel, by decide +kernel, by kernel_rfl, by kernel_rfl, by kernel_rfl, FK.pars_of (by decide +kernel), by decide +kernel, by kernel_rfl⟩, fun doc pm ct cda an cc us hl => match us, hl with | [_, _], _ => rfl, by decide +kernel, by decide +kernel⟩
theorem ft_InvalidTouch : Hf.FltT (PySem.Challenge.rw_leastfetched_k00_errors_told).prog xInvalidTouch := ⟨⟨by kernel_rfl, ⟨_, _, by rfl, by kernel_rfl, by kernel_rfl⟩, by kernel_rfl, by kernel_rfl, by decide +kernel, by decide +kernel, by decide +kernel, by kernel_rfl, by kernel_rfl, by kernel_rfl, FK.pars_of (by decide +kernel), by decide +kernel, by kernel_rfl⟩, fun doc pm ct cda an cc us hl => match us, hl with | [_, _], _ => rfl, by decide +kernel, by decide +kernel⟩
theorem ft_InvalidPoint : Hf.FltT (PySem.Challenge.rw_leastfetched_k00_errors_told).prog xInvalidPoint := ⟨⟨by kernel_rfl, ⟨_, _, by rfl, by kernel_rfl, by kernel_rfl⟩, by kernel_rfl, by kernel_rfl, by decide +kernel, by decide +kernel, by decide +kernel, by kernel_rfl, by kernel_rfl, by kernel_rfl, FK.pars_of (by decide +kernel), by decide +kernel, by kernel_rfl⟩, fun doc pm ct cda an cc us hl => match us, hl with | [_, _], _ => rfl, by decide +kernel, by decide +kernel⟩
theorem ft_InvalidPoints : Hf.FltT (PySem.Challenge.rw_leastfetched_k00_errors_told).prog xInvalidPoints := ⟨⟨by kernel_rfl, ⟨_, _, by rfl, by kernel_rfl, by kernel_rfl⟩, by kernel_rfl, by kernel_rfl, by decide +kernel, by decide +kernel, by decide +kernel, by kernel_rfl, by kernel_rfl, by kernel_rfl, FK.pars_of (by decide +kernel), by decide +kernel, by kernel_rfl⟩, fun doc pm ct cda an cc us hl => match us, hl with | [_, _], _ => rfl, by decide +kernel, by decide +kernel⟩
theorem ft_InvalidCell : Hf.FltT (PySem.Challenge.rw_leastfetched_k00_errors_told).prog xInvalidCell := ⟨⟨by kernel_rfl, ⟨_, _, by rfl, by kernel_rfl, by kernel_rfl⟩, by kernel_rfl, by kernel_rfl, by decide +kernel, by decide +kernel, by decide +kernel, by kernel_rfl, by kernel_rfl, by kernel_rfl, FK.pars_of (by decide +kernel), by decide +kernel, by kernel_rfl⟩, fun doc pm ct cda an cc us hl => match us, hl with | [_, _], _ => rfl, by decide +kernel, by decide +kernel⟩
theorem ft_InvalidRows : Hf.FltT (PySem.Challenge.rw_leastfetched_k00_errors_told).prog xInvalidRows := ⟨⟨by kernel_rfl, ⟨_, _, by rfl, by kernel_rfl, by kernel_rfl⟩, by kernel_rfl, by kernel_rfl, by decide +kernel, by decide +kernel, by decide +kernel, by kernel_rfl, by kernel_rfl, by kernel_rfl, FK.pars_of (by decide +kernel), by decide +kernel, by kernel_rfl⟩, fun doc pm ct cda an cc us hl => match us, hl with | [_, _], _ => rfl, by decide +kernel, by decide +kernel⟩
theorem ft_InvalidWeights : Hf.FltT (PySem.Challenge.rw_leastfetched_k00_errors_told).prog xInvalidWeights := ⟨⟨by kernel_rfl, ⟨_, _, by rfl, by kernel_rfl, by kernel_rfl⟩, by kernel_rfl, by kernel_rfl, by decide +kernel, by decide +kernel, by decide +kernel, by kernel_rfl, by kernel_rfl, by kernel_rfl, FK.pars_of (by decide +kernel), by decide +kernel, by kernel_rfl⟩, fun doc pm ct cda an cc us hl => match us, hl with | [_, _], _ => rfl, by decide +kernel, by decide +kernel⟩
theorem ft_InvalidSides : Hf.FltT (PySem.Challenge.rw_leastfetched_k00_errors_told).prog xInvalidSides := ⟨⟨by kernel_rfl, ⟨_, _, by rfl, by kernel_rfl, by kernel_rfl⟩, by kernel_rfl, by kernel_rfl, by decide +kernel, by decide +kernel, by decide +kernel, by kernel_rfl, by kernel_rfl, by kernel_rfl, FK.pars_of (by decide +kernel), by decide +kernel, by kernel_rfl⟩, fun doc pm ct cda an cc us hl => match us, hl with | [_, _], _ => rfl, by decide +kernel, by decide +kernel⟩
theorem ft_InvalidPieces : Hf.FltT (PySem.Challenge.rw_leastfetched_k00_errors_told).prog xInvalidPieces := ⟨⟨by kernel_rfl, ⟨_, _, by rfl, by kernel_rfl, by kernel_rfl⟩, by kernel_rfl, by kernel_rfl, by decide +kernel, by decide +kernel, by decide +kernel, by kernel_rfl, by kernel_rfl, by kernel_rfl, FK.pars_of (by decide +kernel), by decide +kernel, by kernel_rfl⟩, fun doc pm ct cda an cc us hl => match us, hl with | [_, _], _ => rfl, by decide +kernel, by decide +kernel⟩
theorem ft_InvalidEntries : Hf.FltT (PySem.Challenge.rw_leastfetched_k00_errors_told).prog xInvalidEntries := ⟨⟨by kernel_rfl, ⟨_, _, by rfl, by kernel_rfl, by kernel_rfl⟩, by kernel_rfl, by kernel_rfl, by decide +kernel, by decide +kernel, by decide +kernel, by kernel_rfl, by kernel_rfl, by kernel_rfl, FK.pars_of (by decide +kernel), by decide +kernel, by kernel_rfl⟩, fun doc pm ct cda an cc us hl => match us, hl with | [_, _], _ => rfl, by decide +kernel, by decide +kernel⟩
theorem ft_InvalidTables : Hf.FltT (PySem.Challenge.rw_leastfetched_k00_errors_told).prog xInvalidTables := ⟨⟨by kernel_rfl, ⟨_, _, by rfl, by kernel_rfl, by kernel_rfl⟩, by kernel_rfl, by kernel_rfl, by decide +kernel, by decide +kernel, by decide +kernel, by kernel_rfl, by kernel_rfl, by kernel_rfl, FK.pars_of (by decide +kernel), by decide +kernel, by kernel_rfl⟩, fun doc pm ct cda an cc us hl => match us, hl with | [_, _], _ => rfl, by decide +kernel, by decide +kernel⟩
theorem ft_InvalidRooms : Hf.FltT (PySem.Challenge.rw_leastfetched_k00_errors_told).prog xInvalidRooms := ⟨⟨by kernel_rfl, ⟨_, _, by rfl, by kernel_rfl, by kernel_rfl⟩, by kernel_rfl, by kernel_rfl, by decide +kernel, by decide +kernel, by decide +kernel, by kernel_rfl, by kernel_rfl, by kernel_rfl, FK.pars_of (by decide +kernel), by decide +kernel, by kernel_rfl⟩, fun doc pm ct cda an cc us hl => match us, hl with | [_, _], _ => rfl, by decide +kernel, by decide +kernel⟩
theorem ft_InvalidName : Hf.FltT (PySem.Challenge.rw_leastfetched_k00_errors_told).prog xInvalidName := ⟨⟨by kernel_rfl, ⟨_, _, by rfl, by kernel_rfl, by kernel_rfl⟩, by kernel_rfl, by kernel_rfl, by decide +kernel, by decide +kernel, by decide +kernel, by kernel_rfl, by kernel_rfl, by kernel_rfl, FK.pars_of (by decide +kernel), by decide +kernel, by kernel_rfl⟩, fun doc pm ct cda an cc us hl => match us, hl with | [_, _], _ => rfl, by decide +kernel, by decide +kernel⟩
theorem ft_SharedName : Hf.FltT (PySem.Challenge.rw_leastfetched_k00_errors_told).prog xSharedName := ⟨⟨by kernel_rfl, ⟨_, _, by rfl, by kernel_rfl, by kernel_rfl⟩, by kernel_rfl, by kernel_rfl, by decide +kernel, by decide +kernel, by decide +kernel, by kernel_rfl, by kernel_rfl, by kernel_rfl, FK.pars_of (by decide +kernel), by decide +kernel, by kernel_rfl⟩, fun doc pm ct cda an cc us hl => match us, hl with | [_, _], _ => rfl, by decide +kernel, by decide +kernel⟩
theorem ft_OtherNest : Hf.FltT (PySem.Challenge.rw_leastfetched_k00_errors_told).prog xOtherNest := ⟨⟨by kernel_rfl, ⟨_, _, by rfl, by kernel_rfl, by kernel_rfl⟩, by kernel_rfl, by kernel_rfl, by decide +kernel, by decide +kernel, by decide +kernel, by kernel_rfl, by kernel_rfl, by kernel_rfl, FK.pars_of (by decide +kernel), by decide +kernel, by kernel_rfl⟩, fun doc pm ct cda an cc us hl => match us, hl with | [_], _ => rfl, by decide +kernel, by decide +kernel⟩
theorem ft_OtherWidth : Hf.FltT (PySem.Challenge.rw_leastfetched_k00_errors_told).prog xOtherWidth := ⟨⟨by kernel_rfl, ⟨_, _, by rfl, by kernel_rfl, by kernel_rfl⟩, by kernel_rfl, by kernel_rfl, by decide +kernel, by decide +kernel, by decide +kernel, by kernel_rfl, by kernel_rfl, by kernel_rfl, FK.pars_of (by decide +kernel), by decide +kernel, by kernel_rfl⟩, fun doc pm ct cda an cc us hl => match us, hl with | [_, _], _ => rfl, by decide +kernel, by decide +kernel⟩
theorem ft_Unseen : Hf.FltT (PySem.Challenge.rw_leastfetched_k00_errors_told).prog xUnseen := ⟨⟨by kernel_rfl, ⟨_, _, by rfl, by kernel_rfl, by kernel_rfl⟩, by kernel_rfl, by kernel_rfl, by decide +kernel, by decide +kernel, by decide +kernel, by kernel_rfl, by kernel_rfl, by kernel_rfl, FK.pars_of (by decide +kernel), by decide +kernel, by kernel_rfl⟩, fun doc pm ct cda an cc us hl => match us, hl with | [_, _], _ => rfl, by decide +kernel, by decide +kernel⟩
theorem ft_LargeBook : Hf.FltT (PySem.Challenge.rw_leastfetched_k00_errors_told).prog xLargeBook := ⟨⟨by kernel_rfl, ⟨_, _, by rfl, by kernel_rfl, by kernel_rfl⟩, by kernel_rfl, by kernel_rfl, by decide +kernel, by decide +kernel, by decide +kernel, by kernel_rfl, by kernel_rfl, by kernel_rfl, FK.pars_of (by decide +kernel), by decide +kernel, by kernel_rfl⟩, fun doc pm ct cda an cc us hl => match us, hl with | [_], _ => rfl, by decide +kernel, by decide +kernel⟩
theorem ft_TooNarrow : Hf.FltT (PySem.Challenge.rw_leastfetched_k00_errors_told).prog xTooNarrow := ⟨⟨by kernel_rfl, ⟨_, _, by rfl, by kernel_rfl, by kernel_rfl⟩, by kernel_rfl, by kernel_rfl, by decide +kernel, by decide +kernel, by decide +kernel, by kernel_rfl, by kernel_rfl, by kernel_rfl, FK.pars_of (by decide +kernel), by decide +kernel, by kernel_rfl⟩, fun doc pm ct cda an cc us hl => match us, hl with | [_, _], _ => rfl, by decide +kernel, by decide +kernel⟩
theorem ft_Full : Hf.FltT (PySem.Challenge.rw_leastfetched_k00_errors_told).prog xFull := ⟨⟨by kernel_rfl, ⟨_, _, by rfl, by kernel_rfl, by kernel_rfl⟩, by kernel_rfl, by kernel_rfl, by decide +kernel, by decide +kernel, by decide +kernel, by kernel_rfl, by kernel_rfl, by kernel_rfl, FK.pars_of (by decide +kernel), by decide +kernel, by kernel_rfl⟩, fun doc pm ct cda an cc us hl => match us, hl with | [_, _], _ => rfl, by decide +kernel, by decide +kernel⟩
theorem ft_Held : Hf.FltT (PySem.Challenge.rw_leastfetched_k00_errors_told).prog xHeld := ⟨⟨by kernel_rfl, ⟨_, _, by rfl, by kernel_rfl, by kernel_rfl⟩, by kernel_rfl, by kernel_rfl, by decide +kernel, by decide +kernel, by decide +kernel, by kernel_rfl, by kernel_rfl, by kernel_rfl, FK.pars_of (by decide +kernel), by decide +kernel, by kernel_rfl⟩, fun doc pm ct cda an cc us hl => match us, hl with | [_, _], _ => rfl, by decide +kernel, by decide +kernel⟩
theorem ft_NotHeld : Hf.FltT (PySem.Challenge.rw_leastfetched_k00_errors_told).prog xNotHeld := ⟨⟨by kernel_rfl, ⟨_, _, by rfl, by kernel_rfl, by kernel_rfl⟩, by kernel_rfl, by kernel_rfl, by decide +kernel, by decide +kernel, by decide +kernel, by kernel_rfl, by kernel_rfl, by kernel_rfl, FK.pars_of (by decide +kernel), by decide +kernel, by kernel_rfl⟩, fun doc pm ct cda an cc us hl => match us, hl with | [_, _], _ => rfl, by decide +kernel, by decide +kernel⟩
theorem ft_Done : Hf.FltT (PySem.Challenge.rw_leastfetched_k00_errors_told).prog xDone := ⟨⟨by kernel_rfl, ⟨_, _, by rfl, by kernel_rfl, by kernel_rfl⟩, by kernel_rfl, by kernel_rfl, by decide +kernel, by decide +kernel, by decide +kernel, by kernel_rfl, by kernel_rfl, by kernel_rfl, FK.pars_of (by decide +kernel), by decide +kernel, by kernel_rfl⟩, fun doc pm ct cda an cc us hl => match us, hl with | [_, _], _ => rfl, by decide +kernel, by decide +kernel⟩
theorem ft_UnknownName : Hf.FltT (PySem.Challenge.rw_leastfetched_k00_errors_told).prog xUnknownName := ⟨⟨by kernel_rfl, ⟨_, _, by rfl, by kernel_rfl, by kernel_rfl⟩, by kernel_rfl, by kernel_rfl, by decide +kernel, by decide +kernel, by decide +kernel, by kernel_rfl, by kernel_rfl, by kernel_rfl, FK.pars_of (by decide +kernel), by decide +kernel, by kernel_rfl⟩, fun doc pm ct cda an cc us hl => match us, hl with | [_, _], _ => rfl, by decide +kernel, by decide +kernel⟩
theorem ft_UnknownCounter : Hf.FltT (PySem.Challenge.rw_leastfetched_k00_errors_told).prog xUnknownCounter := ⟨⟨by kernel_rfl, ⟨_, _, by rfl, by kernel_rfl, by kernel_rfl⟩, by kernel_rfl, by kernel_rfl, by decide +kernel, by decide +kernel, by decide +kernel, by kernel_rfl, by kernel_rfl, by kernel_rfl, FK.pars_of (by decide +kernel), by decide +kernel, by kernel_rfl⟩, fun doc pm ct cda an cc us hl => match us, hl with | [_, _], _ => rfl, by decide +kernel, by decide +kernel⟩
theorem ft_NoRun : Hf.FltT (PySem.Challenge.rw_leastfetched_k00_errors_told).prog xNoRun := ⟨⟨by kernel_rfl, ⟨_, _, by rfl, by kernel_rfl, by kernel_rfl⟩, by kernel_rfl, by kernel_rfl, by decide +kernel, by decide +kernel, by decide +kernel, by kernel_rfl, by kernel_rfl, by kernel_rfl, FK.pars_of (by decide +kernel), by decide +kernel, by kernel_rfl⟩, fun doc pm ct cda an cc us hl => match us, hl with | [_, _], _ => rfl, by decide +kernel, by decide +kernel⟩
theorem ft_NothingLeft : Hf.FltT (PySem.Challenge.rw_leastfetched_k00_errors_told).prog xNothingLeft := ⟨⟨by kernel_rfl, ⟨_, _, by rfl, by kernel_rfl, by kernel_rfl⟩, by kernel_rfl, by kernel_rfl, by decide +kernel, by decide +kernel, by decide +kernel, by kernel_rfl, by kernel_rfl, by kernel_rfl, FK.pars_of (by decide +kernel), by decide +kernel, by kernel_rfl⟩, fun doc pm ct cda an cc us hl => match us, hl with | [_, _], _ => rfl, by decide +kernel, by decide +kernel⟩
theorem ft_NoTrial : Hf.FltT (PySem.Challenge.rw_leastfetched_k00_errors_told).prog xNoTrial := ⟨⟨by kernel_rfl, ⟨_, _, by rfl, by kernel_rfl, by kernel_rfl⟩, by kernel_rfl, by kernel_rfl, by decide +kernel, by decide +kernel, by decide +kernel, by kernel_rfl, by kernel_rfl, by kernel_rfl, FK.pars_of (by decide +kernel), by decide +kernel, by kernel_rfl⟩, fun doc pm ct cda an cc us hl => match us, hl with | [_], _ => rfl, by decide +kernel, by decide +kernel⟩
theorem bk_BadNest : FK.BindK (xBadNest.x ++ ".__init__") xBadNest.st xBadNest.ps ksBadNest ggBadNest := fun doc pm ct cda an cc self us hl => match us, hl with | [_, _], _ => rfl
theorem bk_BadPaper : FK.BindK (xBadPaper.x ++ ".__init__") xBadPaper.st xBadPaper.ps ksBadPaper ggBadPaper := fun doc pm ct cda an cc self us hl => match us, hl with | [_, _], _ => rfl
theorem bk_BadLog : FK.BindK (xBadLog.x ++ ".__init__") xBadLog.st xBadLog.ps ksBadLog ggBadLog := fun doc pm ct cda an cc self us hl => match us, hl with | [_, _], _ => rfl
theorem bk_BadScript : FK.BindK (xBadScript.x ++ ".__init__") xBadScript.st xBadScript.ps ksBadScript ggBadScript := fun doc pm ct cda an cc self us hl => match us, hl with | [_, _], _ => rfl
theorem bk_InvalidText : FK.BindK (xInvalidText.x ++ ".__init__") xInvalidText.st xInvalidText.ps ksInvalidText ggInvalidText := fun doc pm ct cda an cc self us hl => match us, hl with | [_], _ => rfl
theorem bk_InvalidNumber : FK.BindK (xInvalidNumber.x ++ ".__init__") xInvalidNumber.st xInvalidNumber.ps ksInvalidNumber ggInvalidNumber := fun doc pm ct cda an cc self us hl => match us, hl with | [_], _ => rfl
theorem bk_InvalidPowers : FK.BindK (xInvalidPowers.x ++ ".__init__") xInvalidPowers.st xInvalidPowers.ps ksInvalidPowers ggInvalidPowers := fun doc pm ct cda an cc self us hl => match us, hl with | [_], _ => rfl
theorem bk_InvalidTouch : FK.BindK (xInvalidTouch.x ++ ".__init__") xInvalidTouch.st xInvalidTouch.ps ksInvalidTouch ggInvalidTouch := fun doc pm ct cda an cc self us hl => match us, hl with | [_], _ => rfl
theorem bk_InvalidPoint : FK.BindK (xInvalidPoint.x ++ ".__init__") xInvalidPoint.st xInvalidPoint.ps ksInvalidPoint ggInvalidPoint := fun doc pm ct cda an cc self us hl => match us, hl with | [_], _ => rfl
theorem bk_InvalidPoints : FK.BindK (xInvalidPoints.x ++ ".__init__") xInvalidPoints.st xInvalidPoints.ps ksInvalidPoints ggInvalidPoints := fun doc pm ct cda an cc self us hl => match us, hl with | [_], _ => rfl
theorem bk_InvalidCell : FK.BindK (xInvalidCell.x ++ ".__init__") xInvalidCell.st xInvalidCell.ps ksInvalidCell ggInvalidCell := fun doc pm ct cda an cc self us hl => match us, hl with | [_], _ => rfl
theorem bk_InvalidRows : FK.BindK (xInvalidRows.x ++ ".__init__") xInvalidRows.st xInvalidRows.ps ksInvalidRows ggInvalidRows := fun doc pm ct cda an cc self us hl => match us, hl with | [_], _ => rfl
theorem bk_InvalidWeights : FK.BindK (xInvalidWeights.x ++ ".__init__") xInvalidWeights.st xInvalidWeights.ps ksInvalidWeights ggInvalidWeights := fun doc pm ct cda an cc self us hl => match us, hl with | [_], _ => rfl
theorem bk_InvalidSides : FK.BindK (xInvalidSides.x ++ ".__init__") xInvalidSides.st xInvalidSides.ps ksInvalidSides ggInvalidSides := fun doc pm ct cda an cc self us hl => match us, hl with | [_], _ => rfl
theorem bk_InvalidPieces : FK.BindK (xInvalidPieces.x ++ ".__init__") xInvalidPieces.st xInvalidPieces.ps ksInvalidPieces ggInvalidPieces := fun doc pm ct cda an cc self us hl => match us, hl with | [_], _ => rfl
theorem bk_InvalidEntries : FK.BindK (xInvalidEntries.x ++ ".__init__") xInvalidEntries.st xInvalidEntries.ps ksInvalidEntries ggInvalidEntries := fun doc pm ct cda an cc self us hl => match us, hl with | [_], _ => rfl
theorem bk_InvalidTables : FK.BindK (xInvalidTables.x ++ ".__init__") xInvalidTables.st xInvalidTables.ps ksInvalidTables ggInvalidTables := fun doc pm ct cda an cc self us hl => match us, hl with | [_], _ => rfl
theorem bk_InvalidRooms : FK.BindK (xInvalidRooms.x ++ ".__init__") xInvalidRooms.st xInvalidRooms.ps ksInvalidRooms ggInvalidRooms := fun doc pm ct cda an cc self us hl => match us, hl with | [_], _ => rfl
theorem bk_InvalidName : FK.BindK (xInvalidName.x ++ ".__init__") xInvalidName.st xInvalidName.ps ksInvalidName ggInvalidName := fun doc pm ct cda an cc self us hl => match us, hl with | [_], _ => rfl
theorem bk_SharedName : FK.BindK (xSharedName.x ++ ".__init__") xSharedName.st xSharedName.ps ksSharedName ggSharedName := fun doc pm ct cda an cc self us hl => match us, hl with | [_], _ => rfl
theorem bk_OtherWidth : FK.BindK (xOtherWidth.x ++ ".__init__") xOtherWidth.st xOtherWidth.ps ksOtherWidth ggOtherWidth := fun doc pm ct cda an cc self us hl => match us, hl with | [_], _ => rfl
theorem bk_Unseen : FK.BindK (xUnseen.x ++ ".__init__") xUnseen.st xUnseen.ps ksUnseen ggUnseen := fun doc pm ct cda an cc self us hl => match us, hl with | [_], _ => rfl
theorem bk_TooNarrow : FK.BindK (xTooNarrow.x ++ ".__init__") xTooNarrow.st xTooNarrow.ps ksTooNarrow ggTooNarrow := fun doc pm ct cda an cc self us hl => match us, hl with | [_], _ => rfl
theorem bk_Full : FK.BindK (xFull.x ++ ".__init__") xFull.st xFull.ps ksFull ggFull := fun doc pm ct cda an cc self us hl => match us, hl with | [_], _ => rfl
theorem bk_Held : FK.BindK (xHeld.x ++ ".__init__") xHeld.st xHeld.ps ksHeld ggHeld := fun doc pm ct cda an cc self us hl => match us, hl with | [_], _ => rfl
theorem bk_NotHeld : FK.BindK (xNotHeld.x ++ ".__init__") xNotHeld.st xNotHeld.ps ksNotHeld ggNotHeld := fun doc pm ct cda an cc self us hl => match us, hl with | [_], _ => rfl
theorem bk_Done : FK.BindK (xDone.x ++ ".__init__") xDone.st xDone.ps ksDone ggDone := fun doc pm ct cda an cc self us hl => match us, hl with | [_], _ => rfl
theorem bk_UnknownName : FK.BindK (xUnknownName.x ++ ".__init__") xUnknownName.st xUnknownName.ps ksUnknownName ggUnknownName := fun doc pm ct cda an cc self us hl => match us, hl with | [_], _ => rfl
theorem bk_UnknownCounter : FK.BindK (xUnknownCounter.x ++ ".__init__") xUnknownCounter.st xUnknownCounter.ps ksUnknownCounter ggUnknownCounter := fun doc pm ct cda an cc self us hl => match us, hl with | [_], _ => rfl
theorem bk_NoRun : FK.BindK (xNoRun.x ++ ".__init__") xNoRun.st xNoRun.ps ksNoRun ggNoRun := fun doc pm ct cda an cc self us hl => match us, hl with | [_], _ => rfl
theorem bk_NothingLeft : FK.BindK (xNothingLeft.x ++ ".__init__") xNothingLeft.st xNothingLeft.ps ksNothingLeft ggNothingLeft := fun doc pm ct cda an cc self us hl => match us, hl with | [_], _ => rfl
theorem facts {w : World} {K : PySem.W.Frag} {h : Heap} {mg : Str → Option Value} {f : Addr} (X : K.In h) (G : h.Ns mainGlobals mg) (hfa : mg ("law" : Str) = some (.ref f)) (c : Hf.Says ask K) :
    ∃ fd : FuncData, (∀ (s : Shared) (v : Value), BindsTo s fd ⟨[v], []⟩ [("script", v)]) ∧ ∀ base : Heap, K.In base → base.Ns mainGlobals mg → FnOk (PySem.Challenge.rw_leastfetched_k00_errors_told).prog w K mg base CX0 16 f fd ["script"] (sp_law K) := by
  obtain ⟨fd_law_bag, F_law_bag⟩ := c.def_ 0 (d := d_law_bag) rfl
  obtain ⟨fd_law_draw, F_law_draw⟩ := c.def_ 1 (d := d_law_draw) rfl
  obtain ⟨fd_law_of, F_law_of⟩ := c.def_ 2 (d := d_law_of) rfl
  obtain ⟨fd_law_any, F_law_any⟩ := c.def_ 3 (d := d_law_any) rfl
  obtain ⟨fd_law_place_one, F_law_place_one⟩ := c.def_ 4 (d := d_law_place_one) rfl
  obtain ⟨fd_law_place_two, F_law_place_two⟩ := c.def_ 5 (d := d_law_place_two) rfl
  obtain ⟨fd_law_made, F_law_made⟩ := c.def_ 6 (d := d_law_made) rfl
  obtain ⟨fd_law_some, F_law_some⟩ := c.def_ 7 (d := d_law_some) rfl
  obtain ⟨fd_law_int, F_law_int⟩ := c.def_ 8 (d := d_law_int) rfl
  obtain ⟨fd_law_like, F_law_like⟩ := c.def_ 9 (d := d_law_like) rfl
  obtain ⟨fd_law_marks, F_law_marks⟩ := c.def_ 10 (d := d_law_marks) rfl
  obtain ⟨fd_law_kept_one, F_law_kept_one⟩ := c.def_ 11 (d := d_law_kept_one) rfl
  obtain ⟨fd_law_kept_two, F_law_kept_two⟩ := c.def_ 12 (d := d_law_kept_two) rfl
  obtain ⟨fd_law_codes, F_law_codes⟩ := c.def_ 13 (d := d_law_codes) rfl
  obtain ⟨fd_law_many, F_law_many⟩ := c.def_ 14 (d := d_law_many) rfl
  obtain ⟨fd_law_is_one, F_law_is_one⟩ := c.def_ 15 (d := d_law_is_one) rfl
  obtain ⟨fd_law_name_one, F_law_name_one⟩ := c.def_ 16 (d := d_law_name_one) rfl
  obtain ⟨fd_law_name_two, F_law_name_two⟩ := c.def_ 17 (d := d_law_name_two) rfl
  obtain ⟨fd_law_named, F_law_named⟩ := c.def_ 18 (d := d_law_named) rfl
  obtain ⟨fd_law, F_law⟩ := c.def_ 19 (d := d_law) rfl
  have G_law := He.glo_ok X G (c.fact 0 (f := .glo "law") rfl)
  have G_law_bag := He.glo_ok X G (c.fact 1 (f := .glo "_law_bag") rfl)
  have G_law_draw := He.glo_ok X G (c.fact 2 (f := .glo "_law_draw") rfl)
  have G_law_of := He.glo_ok X G (c.fact 3 (f := .glo "_law_of") rfl)
  have G_law_any := He.glo_ok X G (c.fact 4 (f := .glo "_law_any") rfl)
  have G_law_place_one := He.glo_ok X G (c.fact 5 (f := .glo "_law_place_one") rfl)
  have G_law_place_two := He.glo_ok X G (c.fact 6 (f := .glo "_law_place_two") rfl)
  have G_law_made := He.glo_ok X G (c.fact 7 (f := .glo "_law_made") rfl)
  have G_law_some := He.glo_ok X G (c.fact 8 (f := .glo "_law_some") rfl)
  have G_law_int := He.glo_ok X G (c.fact 9 (f := .glo "_law_int") rfl)
  have G_law_like := He.glo_ok X G (c.fact 10 (f := .glo "_law_like") rfl)
  have G_law_marks := He.glo_ok X G (c.fact 11 (f := .glo "_law_marks") rfl)
  have G_law_kept_one := He.glo_ok X G (c.fact 12 (f := .glo "_law_kept_one") rfl)
  have G_law_kept_two := He.glo_ok X G (c.fact 13 (f := .glo "_law_kept_two") rfl)
  have G_law_codes := He.glo_ok X G (c.fact 14 (f := .glo "_law_codes") rfl)
  have G_law_many := He.glo_ok X G (c.fact 15 (f := .glo "_law_many") rfl)
  have G_law_is_one := He.glo_ok X G (c.fact 16 (f := .glo "_law_is_one") rfl)
  have G_law_name_one := He.glo_ok X G (c.fact 17 (f := .glo "_law_name_one") rfl)
  have G_law_name_two := He.glo_ok X G (c.fact 18 (f := .glo "_law_name_two") rfl)
  have G_law_named := He.glo_ok X G (c.fact 19 (f := .glo "_law_named") rfl)
  have G_BadNest := He.glo_ok X G (c.fact 20 (f := .glo "BadNest") rfl)
  have G_BadPaper := He.glo_ok X G (c.fact 21 (f := .glo "BadPaper") rfl)
  have G_BadLog := He.glo_ok X G (c.fact 22 (f := .glo "BadLog") rfl)
  have G_BadScript := He.glo_ok X G (c.fact 23 (f := .glo "BadScript") rfl)
  have G_InvalidText := He.glo_ok X G (c.fact 24 (f := .glo "InvalidText") rfl)
  have G_InvalidNumber := He.glo_ok X G (c.fact 25 (f := .glo "InvalidNumber") rfl)
  have G_InvalidPowers := He.glo_ok X G (c.fact 26 (f := .glo "InvalidPowers") rfl)
  have G_InvalidTouch := He.glo_ok X G (c.fact 27 (f := .glo "InvalidTouch") rfl)
  have G_InvalidPoint := He.glo_ok X G (c.fact 28 (f := .glo "InvalidPoint") rfl)
  have G_InvalidPoints := He.glo_ok X G (c.fact 29 (f := .glo "InvalidPoints") rfl)
  have G_InvalidCell := He.glo_ok X G (c.fact 30 (f := .glo "InvalidCell") rfl)
  have G_InvalidRows := He.glo_ok X G (c.fact 31 (f := .glo "InvalidRows") rfl)
  have G_InvalidWeights := He.glo_ok X G (c.fact 32 (f := .glo "InvalidWeights") rfl)
  have G_InvalidSides := He.glo_ok X G (c.fact 33 (f := .glo "InvalidSides") rfl)
  have G_InvalidPieces := He.glo_ok X G (c.fact 34 (f := .glo "InvalidPieces") rfl)
  have G_InvalidEntries := He.glo_ok X G (c.fact 35 (f := .glo "InvalidEntries") rfl)
  have G_InvalidTables := He.glo_ok X G (c.fact 36 (f := .glo "InvalidTables") rfl)
  have G_InvalidRooms := He.glo_ok X G (c.fact 37 (f := .glo "InvalidRooms") rfl)
  have G_InvalidName := He.glo_ok X G (c.fact 38 (f := .glo "InvalidName") rfl)
  have G_SharedName := He.glo_ok X G (c.fact 39 (f := .glo "SharedName") rfl)
  have G_OtherNest := He.glo_ok X G (c.fact 40 (f := .glo "OtherNest") rfl)
  have G_OtherWidth := He.glo_ok X G (c.fact 41 (f := .glo "OtherWidth") rfl)
  have G_Unseen := He.glo_ok X G (c.fact 42 (f := .glo "Unseen") rfl)
  have G_LargeBook := He.glo_ok X G (c.fact 43 (f := .glo "LargeBook") rfl)
  have G_TooNarrow := He.glo_ok X G (c.fact 44 (f := .glo "TooNarrow") rfl)
  have G_Full := He.glo_ok X G (c.fact 45 (f := .glo "Full") rfl)
  have G_Held := He.glo_ok X G (c.fact 46 (f := .glo "Held") rfl)
  have G_NotHeld := He.glo_ok X G (c.fact 47 (f := .glo "NotHeld") rfl)
  have G_Done := He.glo_ok X G (c.fact 48 (f := .glo "Done") rfl)
  have G_UnknownName := He.glo_ok X G (c.fact 49 (f := .glo "UnknownName") rfl)
  have G_UnknownCounter := He.glo_ok X G (c.fact 50 (f := .glo "UnknownCounter") rfl)
  have G_NoRun := He.glo_ok X G (c.fact 51 (f := .glo "NoRun") rfl)
  have G_NothingLeft := He.glo_ok X G (c.fact 52 (f := .glo "NothingLeft") rfl)
  have G_NoTrial := He.glo_ok X G (c.fact 53 (f := .glo "NoTrial") rfl)
  have G_NestError := He.glo_ok X G (c.fact 54 (f := .glo "NestError") rfl)
  have G_Unknown := He.glo_ok X G (c.fact 55 (f := .glo "Unknown") rfl)
  have W : Fr mg := ⟨He.free_ok X G (c.fact 56 (f := .free "int") rfl), He.free_ok X G (c.fact 57 (f := .free "list") rfl), He.free_ok X G (c.fact 58 (f := .free "len") rfl), He.free_ok X G (c.fact 59 (f := .free "range") rfl), He.free_ok X G (c.fact 60 (f := .free "tuple") rfl), He.free_ok X G (c.fact 61 (f := .free "min") rfl), He.free_ok X G (c.fact 62 (f := .free "isinstance") rfl), He.free_ok X G (c.fact 63 (f := .free "bool") rfl), He.free_ok X G (c.fact 64 (f := .free "str") rfl), He.free_ok X G (c.fact 65 (f := .free "zip") rfl), He.free_ok X G (c.fact 66 (f := .free "all") rfl), He.free_ok X G (c.fact 67 (f := .free "ValueError") rfl), He.free_ok X G (c.fact 68 (f := .free "LookupError") rfl), He.free_ok X G (c.fact 69 (f := .free "RuntimeError") rfl), He.free_ok X G (c.fact 70 (f := .free "KeyError") rfl), He.free_ok X G (c.fact 71 (f := .free "IndexError") rfl), He.free_ok X G (c.fact 72 (f := .free "NotImplementedError") rfl), He.free_ok X G (c.fact 73 (f := .free "ArithmeticError") rfl), He.free_ok X G (c.fact 74 (f := .free "TypeError") rfl)⟩
  have T_BadNest := c.flt (prog := (PySem.Challenge.rw_leastfetched_k00_errors_told).prog) X G rfl 0 (d := xBadNest) rfl ft_BadNest
  have T_BadPaper := c.flt (prog := (PySem.Challenge.rw_leastfetched_k00_errors_told).prog) X G rfl 1 (d := xBadPaper) rfl ft_BadPaper
  have T_BadLog := c.flt (prog := (PySem.Challenge.rw_leastfetched_k00_errors_told).prog) X G rfl 2 (d := xBadLog) rfl ft_BadLog
  have T_BadScript := c.flt (prog := (PySem.Challenge.rw_leastfetched_k00_errors_told).prog) X G rfl 3 (d := xBadScript) rfl ft_BadScript
  have T_InvalidText := c.flt (prog := (PySem.Challenge.rw_leastfetched_k00_errors_told).prog) X G rfl 4 (d := xInvalidText) rfl ft_InvalidText
  have T_InvalidNumber := c.flt (prog := (PySem.Challenge.rw_leastfetched_k00_errors_told).prog) X G rfl 5 (d := xInvalidNumber) rfl ft_InvalidNumber
  have T_InvalidPowers := c.flt (prog := (PySem.Challenge.rw_leastfetched_k00_errors_told).prog) X G rfl 6 (d := xInvalidPowers) rfl ft_InvalidPowers
  have T_InvalidTouch := c.flt (prog := (PySem.Challenge.rw_leastfetched_k00_errors_told).prog) X G rfl 7 (d := xInvalidTouch) rfl ft_InvalidTouch
  have T_InvalidPoint := c.flt (prog := (PySem.Challenge.rw_leastfetched_k00_errors_told).prog) X G rfl 8 (d := xInvalidPoint) rfl ft_InvalidPoint
  have T_InvalidPoints := c.flt (prog := (PySem.Challenge.rw_leastfetched_k00_errors_told).prog) X G rfl 9 (d := xInvalidPoints) rfl ft_InvalidPoints
  have T_InvalidCell := c.flt (prog := (PySem.Challenge.rw_leastfetched_k00_errors_told).prog) X G rfl 10 (d := xInvalidCell) rfl ft_InvalidCell
  have T_InvalidRows := c.flt (prog := (PySem.Challenge.rw_leastfetched_k00_errors_told).prog) X G rfl 11 (d := xInvalidRows) rfl ft_InvalidRows
  have T_InvalidWeights := c.flt (prog := (PySem.Challenge.rw_leastfetched_k00_errors_told).prog) X G rfl 12 (d := xInvalidWeights) rfl ft_InvalidWeights
  have T_InvalidSides := c.flt (prog := (PySem.Challenge.rw_leastfetched_k00_errors_told).prog) X G rfl 13 (d := xInvalidSides) rfl ft_InvalidSides
  have T_InvalidPieces := c.flt (prog := (PySem.Challenge.rw_leastfetched_k00_errors_told).prog) X G rfl 14 (d := xInvalidPieces) rfl ft_InvalidPieces
  have T_InvalidEntries := c.flt (prog := (PySem.Challenge.rw_leastfetched_k00_errors_told).prog) X G rfl 15 (d := xInvalidEntries) rfl ft_InvalidEntries
  have T_InvalidTables := c.flt (prog := (PySem.Challenge.rw_leastfetched_k00_errors_told).prog) X G rfl 16 (d := xInvalidTables) rfl ft_InvalidTables
  have T_InvalidRooms := c.flt (prog := (PySem.Challenge.rw_leastfetched_k00_errors_told).prog) X G rfl 17 (d := xInvalidRooms) rfl ft_InvalidRooms
  have T_InvalidName := c.flt (prog := (PySem.Challenge.rw_leastfetched_k00_errors_told).prog) X G rfl 18 (d := xInvalidName) rfl ft_InvalidName
  have T_SharedName := c.flt (prog := (PySem.Challenge.rw_leastfetched_k00_errors_told).prog) X G rfl 19 (d := xSharedName) rfl ft_SharedName
  have T_OtherNest := c.flt (prog := (PySem.Challenge.rw_leastfetched_k00_errors_told).prog) X G rfl 20 (d := xOtherNest) rfl ft_OtherNest
  have T_OtherWidth := c.flt (prog := (PySem.Challenge.rw_leastfetched_k00_errors_told).prog) X G rfl 21 (d := xOtherWidth) rfl ft_OtherWidth
  have T_Unseen := c.flt (prog := (PySem.Challenge.rw_leastfetched_k00_errors_told).prog) X G rfl 22 (d := xUnseen) rfl ft_Unseen
  have T_LargeBook := c.flt (prog := (PySem.Challenge.rw_leastfetched_k00_errors_told).prog) X G rfl 23 (d := xLargeBook) rfl ft_LargeBook
  have T_TooNarrow := c.flt (prog := (PySem.Challenge.rw_leastfetched_k00_errors_told).prog) X G rfl 24 (d := xTooNarrow) rfl ft_TooNarrow
  have T_Full := c.flt (prog := (PySem.Challenge.rw_leastfetched_k00_errors_told).prog) X G rfl 25 (d := xFull) rfl ft_Full
  have T_Held := c.flt (prog := (PySem.Challenge.rw_leastfetched_k00_errors_told).prog) X G rfl 26 (d := xHeld) rfl ft_Held
  have T_NotHeld := c.flt (prog := (PySem.Challenge.rw_leastfetched_k00_errors_told).prog) X G rfl 27 (d := xNotHeld) rfl ft_NotHeld
  have T_Done := c.flt (prog := (PySem.Challenge.rw_leastfetched_k00_errors_told).prog) X G rfl 28 (d := xDone) rfl ft_Done
  have T_UnknownName := c.flt (prog := (PySem.Challenge.rw_leastfetched_k00_errors_told).prog) X G rfl 29 (d := xUnknownName) rfl ft_UnknownName
  have T_UnknownCounter := c.flt (prog := (PySem.Challenge.rw_leastfetched_k00_errors_told).prog) X G rfl 30 (d := xUnknownCounter) rfl ft_UnknownCounter
  have T_NoRun := c.flt (prog := (PySem.Challenge.rw_leastfetched_k00_errors_told).prog) X G rfl 31 (d := xNoRun) rfl ft_NoRun
  have T_NothingLeft := c.flt (prog := (PySem.Challenge.rw_leastfetched_k00_errors_told).prog) X G rfl 32 (d := xNothingLeft) rfl ft_NothingLeft
  have T_NoTrial := c.flt (prog := (PySem.Challenge.rw_leastfetched_k00_errors_told).prog) X G rfl 33 (d := xNoTrial) rfl ft_NoTrial
  have TK_BadNest := c.fltK (prog := (PySem.Challenge.rw_leastfetched_k00_errors_told).prog) (ks := ksBadNest) (gg := ggBadNest) X G rfl 0 (d := xBadNest) rfl ft_BadNest bk_BadNest (fun vs us r => match vs, us, r with | [], _, .nil => .nil | [_], _, .cons a .nil => .cons a .nil | [_, _], _, .cons a (.cons b .nil) => .cons b (.cons a .nil) | _ :: _ :: _ :: _, _, .cons a (.cons b (.cons c r)) => .cons a (.cons b (.cons c r))) (fun vs hl => match vs, hl with | [_, _], _ => rfl)
  have TK_BadPaper := c.fltK (prog := (PySem.Challenge.rw_leastfetched_k00_errors_told).prog) (ks := ksBadPaper) (gg := ggBadPaper) X G rfl 1 (d := xBadPaper) rfl ft_BadPaper bk_BadPaper (fun vs us r => match vs, us, r with | [], _, .nil => .nil | [_], _, .cons a .nil => .cons a .nil | [_, _], _, .cons a (.cons b .nil) => .cons b (.cons a .nil) | _ :: _ :: _ :: _, _, .cons a (.cons b (.cons c r)) => .cons a (.cons b (.cons c r))) (fun vs hl => match vs, hl with | [_, _], _ => rfl)
  have TK_BadLog := c.fltK (prog := (PySem.Challenge.rw_leastfetched_k00_errors_told).prog) (ks := ksBadLog) (gg := ggBadLog) X G rfl 2 (d := xBadLog) rfl ft_BadLog bk_BadLog (fun vs us r => match vs, us, r with | [], _, .nil => .nil | [_], _, .cons a .nil => .cons a .nil | [_, _], _, .cons a (.cons b .nil) => .cons b (.cons a .nil) | _ :: _ :: _ :: _, _, .cons a (.cons b (.cons c r)) => .cons a (.cons b (.cons c r))) (fun vs hl => match vs, hl with | [_, _], _ => rfl)
  have TK_BadScript := c.fltK (prog := (PySem.Challenge.rw_leastfetched_k00_errors_told).prog) (ks := ksBadScript) (gg := ggBadScript) X G rfl 3 (d := xBadScript) rfl ft_BadScript bk_BadScript (fun vs us r => match vs, us, r with | [], _, .nil => .nil | [_], _, .cons a .nil => .cons a .nil | [_, _], _, .cons a (.cons b .nil) => .cons b (.cons a .nil) | _ :: _ :: _ :: _, _, .cons a (.cons b (.cons c r)) => .cons a (.cons b (.cons c r))) (fun vs hl => match vs, hl with | [_, _], _ => rfl)
  have TK_InvalidText := c.fltK (prog := (PySem.Challenge.rw_leastfetched_k00_errors_told).prog) (ks := ksInvalidText) (gg := ggInvalidText) X G rfl 4 (d := xInvalidText) rfl ft_InvalidText bk_InvalidText (fun vs us r => r) (fun vs hl => match vs, hl with | [_], _ => rfl)
  have TK_InvalidNumber := c.fltK (prog := (PySem.Challenge.rw_leastfetched_k00_errors_told).prog) (ks := ksInvalidNumber) (gg := ggInvalidNumber) X G rfl 5 (d := xInvalidNumber) rfl ft_InvalidNumber bk_InvalidNumber (fun vs us r => r) (fun vs hl => match vs, hl with | [_], _ => rfl)
  have TK_InvalidPowers := c.fltK (prog := (PySem.Challenge.rw_leastfetched_k00_errors_told).prog) (ks := ksInvalidPowers) (gg := ggInvalidPowers) X G rfl 6 (d := xInvalidPowers) rfl ft_InvalidPowers bk_InvalidPowers (fun vs us r => r) (fun vs hl => match vs, hl with | [_], _ => rfl)
  have TK_InvalidTouch := c.fltK (prog := (PySem.Challenge.rw_leastfetched_k00_errors_told).prog) (ks := ksInvalidTouch) (gg := ggInvalidTouch) X G rfl 7 (d := xInvalidTouch) rfl ft_InvalidTouch bk_InvalidTouch (fun vs us r => r) (fun vs hl => match vs, hl with | [_], _ => rfl)
  have TK_InvalidPoint := c.fltK (prog := (PySem.Challenge.rw_leastfetched_k00_errors_told).prog) (ks := ksInvalidPoint) (gg := ggInvalidPoint) X G rfl 8 (d := xInvalidPoint) rfl ft_InvalidPoint bk_InvalidPoint (fun vs us r => r) (fun vs hl => match vs, hl with | [_], _ => rfl)
  have TK_InvalidPoints := c.fltK (prog := (PySem.Challenge.rw_leastfetched_k00_errors_told).prog) (ks := ksInvalidPoints) (gg := ggInvalidPoints) X G rfl 9 (d := xInvalidPoints) rfl ft_InvalidPoints bk_InvalidPoints (fun vs us r => r) (fun vs hl => match vs, hl with | [_], _ => rfl)
  have TK_InvalidCell := c.fltK (prog := (PySem.Challenge.rw_leastfetched_k00_errors_told).prog) (ks := ksInvalidCell) (gg := ggInvalidCell) X G rfl 10 (d := xInvalidCell) rfl ft_InvalidCell bk_InvalidCell (fun vs us r => r) (fun vs hl => match vs, hl with | [_], _ => rfl)
  have TK_InvalidRows := c.fltK (prog := (PySem.Challenge.rw_leastfetched_k00_errors_told).prog) (ks := ksInvalidRows) (gg := ggInvalidRows) X G rfl 11 (d := xInvalidRows) rfl ft_InvalidRows bk_InvalidRows (fun vs us r => r) (fun vs hl => match vs, hl with | [_], _ => rfl)
  have TK_InvalidWeights := c.fltK (prog := (PySem.Challenge.rw_leastfetched_k00_errors_told).prog) (ks := ksInvalidWeights) (gg := ggInvalidWeights) X G rfl 12 (d := xInvalidWeights) rfl ft_InvalidWeights bk_InvalidWeights (fun vs us r => r) (fun vs hl => match vs, hl with | [_], _ => rfl)
  have TK_InvalidSides := c.fltK (prog := (PySem.Challenge.rw_leastfetched_k00_errors_told).prog) (ks := ksInvalidSides) (gg := ggInvalidSides) X G rfl 13 (d := xInvalidSides) rfl ft_InvalidSides bk_InvalidSides (fun vs us r => r) (fun vs hl => match vs, hl with | [_], _ => rfl)
  have TK_InvalidPieces := c.fltK (prog := (PySem.Challenge.rw_leastfetched_k00_errors_told).prog) (ks := ksInvalidPieces) (gg := ggInvalidPieces) X G rfl 14 (d := xInvalidPieces) rfl ft_InvalidPieces bk_InvalidPieces (fun vs us r => r) (fun vs hl => match vs, hl with | [_], _ => rfl)
  have TK_InvalidEntries := c.fltK (prog := (PySem.Challenge.rw_leastfetched_k00_errors_told).prog) (ks := ksInvalidEntries) (gg := ggInvalidEntries) X G rfl 15 (d := xInvalidEntries) rfl ft_InvalidEntries bk_InvalidEntries (fun vs us r => r) (fun vs hl => match vs, hl with | [_], _ => rfl)
  have TK_InvalidTables := c.fltK (prog := (PySem.Challenge.rw_leastfetched_k00_errors_told).prog) (ks := ksInvalidTables) (gg := ggInvalidTables) X G rfl 16 (d := xInvalidTables) rfl ft_InvalidTables bk_InvalidTables (fun vs us r => r) (fun vs hl => match vs, hl with | [_], _ => rfl)
  have TK_InvalidRooms := c.fltK (prog := (PySem.Challenge.rw_leastfetched_k00_errors_told).prog) (ks := ksInvalidRooms) (gg := ggInvalidRooms) X G rfl 17 (d := xInvalidRooms) rfl ft_InvalidRooms bk_InvalidRooms (fun vs us r => r) (fun vs hl => match vs, hl with | [_], _ => rfl)
  have TK_InvalidName := c.fltK (prog := (PySem.Challenge.rw_leastfetched_k00_errors_told).prog) (ks := ksInvalidName) (gg := ggInvalidName) X G rfl 18 (d := xInvalidName) rfl ft_InvalidName bk_InvalidName (fun vs us r => r) (fun vs hl => match vs, hl with | [_], _ => rfl)
  have TK_SharedName := c.fltK (prog := (PySem.Challenge.rw_leastfetched_k00_errors_told).prog) (ks := ksSharedName) (gg := ggSharedName) X G rfl 19 (d := xSharedName) rfl ft_SharedName bk_SharedName (fun vs us r => r) (fun vs hl => match vs, hl with | [_], _ => rfl)
  have TK_OtherWidth := c.fltK (prog := (PySem.Challenge.rw_leastfetched_k00_errors_told).prog) (ks := ksOtherWidth) (gg := ggOtherWidth) X G rfl 21 (d := xOtherWidth) rfl ft_OtherWidth bk_OtherWidth (fun vs us r => r) (fun vs hl => match vs, hl with | [_], _ => rfl)
  have TK_Unseen := c.fltK (prog := (PySem.Challenge.rw_leastfetched_k00_errors_told).prog) (ks := ksUnseen) (gg := ggUnseen) X G rfl 22 (d := xUnseen) rfl ft_Unseen bk_Unseen (fun vs us r => r) (fun vs hl => match vs, hl with | [_], _ => rfl)
  have TK_TooNarrow := c.fltK (prog := (PySem.Challenge.rw_leastfetched_k00_errors_told).prog) (ks := ksTooNarrow) (gg := ggTooNarrow) X G rfl 24 (d := xTooNarrow) rfl ft_TooNarrow bk_TooNarrow (fun vs us r => r) (fun vs hl => match vs, hl with | [_], _ => rfl)
  have TK_Full := c.fltK (prog := (PySem.Challenge.rw_leastfetched_k00_errors_told).prog) (ks := ksFull) (gg := ggFull) X G rfl 25 (d := xFull) rfl ft_Full bk_Full (fun vs us r => r) (fun vs hl => match vs, hl with | [_], _ => rfl)
  have TK_Held := c.fltK (prog := (PySem.Challenge.rw_leastfetched_k00_errors_told).prog) (ks := ksHeld) (gg := ggHeld) X G rfl 26 (d := xHeld) rfl ft_Held bk_Held (fun vs us r => r) (fun vs hl => match vs, hl with | [_], _ => rfl)
  have TK_NotHeld := c.fltK (prog := (PySem.Challenge.rw_leastfetched_k00_errors_told).prog) (ks := ksNotHeld) (gg := ggNotHeld) X G rfl 27 (d := xNotHeld) rfl ft_NotHeld bk_NotHeld (fun vs us r => r) (fun vs hl => match vs, hl with | [_], _ => rfl)
  have TK_Done := c.fltK (prog := (PySem.Challenge.rw_leastfetched_k00_errors_told).prog) (ks := ksDone) (gg := ggDone) X G rfl 28 (d := xDone) rfl ft_Done bk_Done (fun vs us r => r) (fun vs hl => match vs, hl with | [_], _ => rfl)
  have TK_UnknownName := c.fltK (prog := (PySem.Challenge.rw_leastfetched_k00_errors_told).prog) (ks := ksUnknownName) (gg := ggUnknownName) X G rfl 29 (d := xUnknownName) rfl ft_UnknownName bk_UnknownName (fun vs us r => r) (fun vs hl => match vs, hl with | [_], _ => rfl)
  have TK_UnknownCounter := c.fltK (prog := (PySem.Challenge.rw_leastfetched_k00_errors_told).prog) (ks := ksUnknownCounter) (gg := ggUnknownCounter) X G rfl 30 (d := xUnknownCounter) rfl ft_UnknownCounter bk_UnknownCounter (fun vs us r => r) (fun vs hl => match vs, hl with | [_], _ => rfl)
  have TK_NoRun := c.fltK (prog := (PySem.Challenge.rw_leastfetched_k00_errors_told).prog) (ks := ksNoRun) (gg := ggNoRun) X G rfl 31 (d := xNoRun) rfl ft_NoRun bk_NoRun (fun vs us r => r) (fun vs hl => match vs, hl with | [_], _ => rfl)
  have TK_NothingLeft := c.fltK (prog := (PySem.Challenge.rw_leastfetched_k00_errors_told).prog) (ks := ksNothingLeft) (gg := ggNothingLeft) X G rfl 32 (d := xNothingLeft) rfl ft_NothingLeft bk_NothingLeft (fun vs us r => r) (fun vs hl => match vs, hl with | [_], _ => rfl)
  have FT : Flts K := fun k hk => match k, hk with | 0, _ => ⟨_, _, T_BadNest⟩ | 1, _ => ⟨_, _, T_BadPaper⟩ | 2, _ => ⟨_, _, T_BadLog⟩ | 3, _ => ⟨_, _, T_BadScript⟩ | 4, _ => ⟨_, _, T_InvalidText⟩ | 5, _ => ⟨_, _, T_InvalidNumber⟩ | 6, _ => ⟨_, _, T_InvalidPowers⟩ | 7, _ => ⟨_, _, T_InvalidTouch⟩ | 8, _ => ⟨_, _, T_InvalidPoint⟩ | 9, _ => ⟨_, _, T_InvalidPoints⟩ | 10, _ => ⟨_, _, T_InvalidCell⟩ | 11, _ => ⟨_, _, T_InvalidRows⟩ | 12, _ => ⟨_, _, T_InvalidWeights⟩ | 13, _ => ⟨_, _, T_InvalidSides⟩ | 14, _ => ⟨_, _, T_InvalidPieces⟩ | 15, _ => ⟨_, _, T_InvalidEntries⟩ | 16, _ => ⟨_, _, T_InvalidTables⟩ | 17, _ => ⟨_, _, T_InvalidRooms⟩ | 18, _ => ⟨_, _, T_InvalidName⟩ | 19, _ => ⟨_, _, T_SharedName⟩ | 20, _ => ⟨_, _, T_OtherNest⟩ | 21, _ => ⟨_, _, T_OtherWidth⟩ | 22, _ => ⟨_, _, T_Unseen⟩ | 23, _ => ⟨_, _, T_LargeBook⟩ | 24, _ => ⟨_, _, T_TooNarrow⟩ | 25, _ => ⟨_, _, T_Full⟩ | 26, _ => ⟨_, _, T_Held⟩ | 27, _ => ⟨_, _, T_NotHeld⟩ | 28, _ => ⟨_, _, T_Done⟩ | 29, _ => ⟨_, _, T_UnknownName⟩ | 30, _ => ⟨_, _, T_UnknownCounter⟩ | 31, _ => ⟨_, _, T_NoRun⟩ | 32, _ => ⟨_, _, T_NothingLeft⟩ | 33, _ => ⟨_, _, T_NoTrial⟩ | k + 34, h => absurd h (by omega)
  have KB : kitsB K = true := c.all.2.2.2
  have e := hfa.symm.trans G_law
  cases e
  have b := FunD.bindsA (ps := ["script"]) F_law fun _ _ _ _ _ _ us hl => match us, hl with | [_], _ => rfl
  refine ⟨fd_law, fun s v => b s [v] rfl, fun base _ _ => ?_⟩
  have D_law_bag : Fd (PySem.Challenge.rw_leastfetched_k00_errors_told).prog w K mg base CX0 "_law_bag" 1 ["script"] (sp_law_bag K) := U.fd_of (st := s_law_bag) F_law_bag (ok_law_bag W F_law_bag) G_law_bag (fun _ _ _ _ _ _ us hl => match us, hl with | [_], _ => rfl)
  have D_law_draw : Fd (PySem.Challenge.rw_leastfetched_k00_errors_told).prog w K mg base CX0 "_law_draw" 1 ["bag", "size"] (sp_law_draw K) := U.fd_of (st := s_law_draw) F_law_draw (ok_law_draw W F_law_draw) G_law_draw (fun _ _ _ _ _ _ us hl => match us, hl with | [_, _], _ => rfl)
  have D_law_of : Fd (PySem.Challenge.rw_leastfetched_k00_errors_told).prog w K mg base CX0 "_law_of" 2 ["bag", "things"] (sp_law_of K) := U.fd_of (st := s_law_of) F_law_of (ok_law_of W D_law_draw F_law_of) G_law_of (fun _ _ _ _ _ _ us hl => match us, hl with | [_, _], _ => rfl)
  have D_law_any : Fd (PySem.Challenge.rw_leastfetched_k00_errors_told).prog w K mg base CX0 "_law_any" (3 + 6) ["bag", "deep"] (sp_law_any K 6) := U.fd_of (st := s_law_any) F_law_any (ok_law_any W D_law_draw D_law_of F_law_any G_law_any 6) G_law_any (fun _ _ _ _ _ _ us hl => match us, hl with | [_, _], _ => rfl)
  have D_law_place_one : Fd (PySem.Challenge.rw_leastfetched_k00_errors_told).prog w K mg base CX0 "_law_place_one" 2 ["k", "a", "b"] (sp_law_place_one K) := U.fd_of (st := s_law_place_one) F_law_place_one (ok_law_place_one W T_BadNest T_BadPaper T_BadLog T_BadScript T_InvalidText T_InvalidNumber T_InvalidPowers T_InvalidTouch T_InvalidPoint T_InvalidPoints T_InvalidCell T_InvalidRows T_InvalidWeights T_InvalidSides T_InvalidPieces T_InvalidEntries T_InvalidTables F_law_place_one) G_law_place_one (fun _ _ _ _ _ _ us hl => match us, hl with | [_, _, _], _ => rfl)
  have D_law_place_two : Fd (PySem.Challenge.rw_leastfetched_k00_errors_told).prog w K mg base CX0 "_law_place_two" 2 ["k", "a", "b"] (sp_law_place_two K) := U.fd_of (st := s_law_place_two) F_law_place_two (ok_law_place_two W T_InvalidRooms T_InvalidName T_SharedName T_OtherNest T_OtherWidth T_Unseen T_LargeBook T_TooNarrow T_Full T_Held T_NotHeld T_Done T_UnknownName T_UnknownCounter T_NoRun T_NothingLeft T_NoTrial F_law_place_two) G_law_place_two (fun _ _ _ _ _ _ us hl => match us, hl with | [_, _, _], _ => rfl)
  have D_law_made : Fd (PySem.Challenge.rw_leastfetched_k00_errors_told).prog w K mg base CX0 "_law_made" 3 ["k", "a", "b"] (sp_law_made K) := U.fd_of (st := s_law_made) F_law_made (ok_law_made W D_law_place_one D_law_place_two F_law_made) G_law_made (fun _ _ _ _ _ _ us hl => match us, hl with | [_, _, _], _ => rfl)
  have D_law_some : Fd (PySem.Challenge.rw_leastfetched_k00_errors_told).prog w K mg base CX0 "_law_some" 2 ["bag", "things", "amount"] (sp_law_some K) := U.fd_of (st := s_law_some) F_law_some (ok_law_some W D_law_draw F_law_some) G_law_some (fun _ _ _ _ _ _ us hl => match us, hl with | [_, _, _], _ => rfl)
  have D_law_int : Fd (PySem.Challenge.rw_leastfetched_k00_errors_told).prog w K mg base CX0 "_law_int" 1 ["v"] (sp_law_int K) := U.fd_of (st := s_law_int) F_law_int (ok_law_int W F_law_int) G_law_int (fun _ _ _ _ _ _ us hl => match us, hl with | [_], _ => rfl)
  have D_law_like : Fd (PySem.Challenge.rw_leastfetched_k00_errors_told).prog w K mg base CX0 "_law_like" (2 + 12) ["told", "due"] (sp_law_like K 12) := U.fd_of (st := s_law_like) F_law_like (ok_law_like W D_law_int F_law_like G_law_like 12) G_law_like (fun _ _ _ _ _ _ us hl => match us, hl with | [_, _], _ => rfl)
  have D_law_marks : Fd (PySem.Challenge.rw_leastfetched_k00_errors_told).prog w K mg base CX0 "_law_marks" 1 ["e"] (sp_law_marks K) := U.fd_of (st := s_law_marks) F_law_marks (ok_law_marks W G_BadNest G_BadPaper G_BadLog G_BadScript G_InvalidText G_InvalidNumber G_InvalidPowers G_InvalidTouch G_InvalidPoint G_InvalidPoints G_InvalidCell G_InvalidRows G_InvalidWeights G_InvalidSides G_InvalidPieces G_InvalidEntries G_InvalidTables G_InvalidRooms G_InvalidName G_SharedName G_OtherNest G_OtherWidth G_Unseen G_LargeBook G_TooNarrow G_Full G_Held G_NotHeld G_Done G_UnknownName G_UnknownCounter G_NoRun G_NothingLeft G_NoTrial FT KB F_law_marks) G_law_marks (fun _ _ _ _ _ _ us hl => match us, hl with | [_], _ => rfl)
  have D_law_kept_one : Fd (PySem.Challenge.rw_leastfetched_k00_errors_told).prog w K mg base CX0 "_law_kept_one" 1 ["k", "e"] (sp_law_kept_one K) := U.fd_of (st := s_law_kept_one) F_law_kept_one (ok_law_kept_one W FT F_law_kept_one) G_law_kept_one (fun _ _ _ _ _ _ us hl => match us, hl with | [_, _], _ => rfl)
  have D_law_kept_two : Fd (PySem.Challenge.rw_leastfetched_k00_errors_told).prog w K mg base CX0 "_law_kept_two" 1 ["k", "e"] (sp_law_kept_two K) := U.fd_of (st := s_law_kept_two) F_law_kept_two (ok_law_kept_two W FT F_law_kept_two) G_law_kept_two (fun _ _ _ _ _ _ us hl => match us, hl with | [_, _], _ => rfl)
  have D_law_codes : Fd (PySem.Challenge.rw_leastfetched_k00_errors_told).prog w K mg base CX0 "_law_codes" 1 [] (sp_law_codes K) := U.fd_of (st := s_law_codes) F_law_codes (ok_law_codes W F_law_codes) G_law_codes (fun _ _ _ _ _ _ us hl => match us, hl with | [], _ => rfl)
  have D_law_many : Fd (PySem.Challenge.rw_leastfetched_k00_errors_told).prog w K mg base CX0 "_law_many" 1 ["k"] (sp_law_many K) := U.fd_of (st := s_law_many) F_law_many (ok_law_many W F_law_many) G_law_many (fun _ _ _ _ _ _ us hl => match us, hl with | [_], _ => rfl)
  have D_law_is_one : Fd (PySem.Challenge.rw_leastfetched_k00_errors_told).prog w K mg base CX0 "_law_is_one" 15 ["k", "e", "a", "b"] (sp_law_is_one K) := U.fd_of (st := s_law_is_one) F_law_is_one (ok_law_is_one W G_NestError G_Unknown D_law_like D_law_marks D_law_kept_one D_law_kept_two D_law_codes D_law_many FT KB F_law_is_one) G_law_is_one (fun _ _ _ _ _ _ us hl => match us, hl with | [_, _, _, _], _ => rfl)
  have D_law_name_one : Fd (PySem.Challenge.rw_leastfetched_k00_errors_told).prog w K mg base CX0 "_law_name_one" 2 ["k", "a", "b"] (sp_law_name_one K) := U.fd_of (st := s_law_name_one) F_law_name_one (ok_law_name_one W TK_BadNest TK_BadPaper TK_BadLog TK_BadScript TK_InvalidText TK_InvalidNumber TK_InvalidPowers TK_InvalidTouch TK_InvalidPoint TK_InvalidPoints TK_InvalidCell TK_InvalidRows TK_InvalidWeights TK_InvalidSides TK_InvalidPieces TK_InvalidEntries TK_InvalidTables F_law_name_one) G_law_name_one (fun _ _ _ _ _ _ us hl => match us, hl with | [_, _, _], _ => rfl)
  have D_law_name_two : Fd (PySem.Challenge.rw_leastfetched_k00_errors_told).prog w K mg base CX0 "_law_name_two" 2 ["k", "a", "b"] (sp_law_name_two K) := U.fd_of (st := s_law_name_two) F_law_name_two (ok_law_name_two W T_OtherNest T_LargeBook T_NoTrial TK_InvalidRooms TK_InvalidName TK_SharedName TK_OtherWidth TK_Unseen TK_TooNarrow TK_Full TK_Held TK_NotHeld TK_Done TK_UnknownName TK_UnknownCounter TK_NoRun TK_NothingLeft F_law_name_two) G_law_name_two (fun _ _ _ _ _ _ us hl => match us, hl with | [_, _, _], _ => rfl)
  have D_law_named : Fd (PySem.Challenge.rw_leastfetched_k00_errors_told).prog w K mg base CX0 "_law_named" 3 ["k", "a", "b"] (sp_law_named K) := U.fd_of (st := s_law_named) F_law_named (ok_law_named W D_law_name_one D_law_name_two F_law_named) G_law_named (fun _ _ _ _ _ _ us hl => match us, hl with | [_, _, _], _ => rfl)
  exact ok_law W D_law_bag D_law_any D_law_made D_law_some D_law_is_one D_law_named F_law
end D
open PySem PySem.W PySem.Calls PyProof.Rows
theorem PySem.Challenge.cw_leastfetched_k00_errors_told_holds : PySem.Challenge.rw_leastfetched_k00_errors_told.Holds := by
  w_on; o_law
  refine HandSHeadRun.head_any (r := OpenLaw.row PySem.Challenge.rw_leastfetched_k00_errors_told) (q := view (OpenLaw.row PySem.Challenge.rw_leastfetched_k00_errors_told).prog [57]) (H := D.hk) (ob := D.ob) (M := 20000) (loose := D.loose) (d := HandSHeadRun.topDef (OpenLaw.row PySem.Challenge.rw_leastfetched_k00_errors_told).prog 57) (kwd := []) D.ob_eq
    (by kernel_rfl) (fun s => by kernel_rfl) D.run (by kernel_rfl) (by kernel_rfl) (by kernel_rfl) (by rfl) (by first | assumption | decide +kernel) (by decide +kernel) ⟨rfl, rfl, rfl, rfl, rfl, by decide +kernel⟩ ?hw ?hc
  case hw => w_witness2
  case hc =>
    refine L2.walk_ofE (l := PySem.Challenge.rw_leastfetched_k00_errors_told) (n := 63) (k := 16) (x := "script") (CX := L2.CX0) rfl (by decide) (by kernel_rfl) ⟨rfl, by decide, by decide⟩ ?F (fun _ _ _ _ z => z)
    intro w mg fa h Y G hmg0
    obtain ⟨K, KX, c⟩ := Y
    have hmg : mg ("law" : PySem.Str) = some (.ref fa) := by
      have e : (HandSHeadRun.topDef (OpenLaw.row PySem.Challenge.rw_leastfetched_k00_errors_told).prog 57).name = ("law" : PySem.Str) := by kernel_rfl
      rw [← e]
      exact hmg0
    obtain ⟨fd, hb, hF⟩ := D.facts (w := w) KX G hmg c
    exact ⟨K, fd, C.sp_law K, KX, hb, fun H a ns hl _ hS => ⟨a, ns, rfl, hS, fun _ => rfl⟩, hF⟩
end
