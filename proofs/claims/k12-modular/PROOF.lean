import PyProof.Rows.All
import Wide.All
import OpenK.AllK
import Wide.FinOn
import KE.KStateDown
import Lean
import HandS.ForSpec
import HandS.Defaults
import HandS.Head0
import HandS.Head1
import HandS.Head2
import HandS.Head3
import HandS.HeadEnd
import HandS.HeadHook1
import HandS.HeadHook2
import KE.KExcSuper
import HandS.ExcInit
import KE.KExcIs
import HandS.IsInst
import HandS.HeadNt
import HandS.ForMost
import HandS.Exc
import HandS.TryOnly
import HandS.TryMany
import HandS.ExcOwn
import HandS.WordsExc
import HandS.Flow
import HandS.Style
import HandS.Zip
import HandS.Wide
import HandS.RaiseOp
import HandS.Deep
import HandS.Walk
import HandS.Conv
import HandS.TupAny
import HandS.ClsMeth
import HandS.OwnEq
import HandS.Gcd
import HandS.Text
import HandS.MakeKw
import KE.GoesZip
import KE.GoesMore
import OpenK.KMeth
import KE.KOpsOwn
import KE.KMathG
import HandS.DictComp
import HandS.StrMore
import HandS.WideBits
import HandS.Dict
import KE.GoesEnum
import HandS.List
import PySem.Challenge.RW_leastfetched_k12_whole_modular_law
set_option Elab.async false
set_option linter.all false
set_option maxRecDepth 100000

section
set_option Elab.async false
set_option linter.all false
set_option maxRecDepth 100000
set_option maxHeartbeats 4000000
/-! Own exception classes whose __init__ is: super().__init__('text'), then self.f = f or self.f = 'text', one by one. -/
namespace FK
open PySem PySem.W PySem.Calls PyProof.Rows

/-- a family: the built-in class above -/
structure Fam (B newId initId : String) (bmB : List Value) : Prop where
  base : ExcBaseFacts B newId initId bmB
  kxs : KxsFacts B initId
  st : StoreFacts B bmB "object.__setattr__" "object"
abbrev bmV : List Value := [.type "ValueError", .type "Exception", .type "BaseException", .type "object"]
abbrev bmL : List Value := [.type "LookupError", .type "Exception", .type "BaseException", .type "object"]
abbrev bmR : List Value := [.type "RuntimeError", .type "Exception", .type "BaseException", .type "object"]
theorem famV : Fam "ValueError" "ValueError.__new__" "ValueError.__init__" bmV := ⟨F.excBase_ValueError, kxs_ValueError, F.store_ValueError⟩
theorem famL : Fam "LookupError" "LookupError.__new__" "LookupError.__init__" bmL := ⟨F.excBase_LookupError, kxs_LookupError, F.store_LookupError⟩
theorem famR : Fam "RuntimeError" "RuntimeError.__new__" "RuntimeError.__init__" bmR := ⟨F.excBase_RuntimeError, kxs_RuntimeError, F.store_RuntimeError⟩

/-- a field's value: the i-th parameter, or a text -/
inductive Src where
  | par (x : Str)
  | txt (x : Str)
  deriving DecidableEq
/-- self.f = x | self.f = 'text' -/
def fieldOf : Stmt → Option (Str × Src)
  | .Assign [.Attribute (.Name s _) f _] (.Name x _) _ => if s = "self" then some (f, .par x) else none
  | .Assign [.Attribute (.Name s _) f _] (.Constant (.str x) _ _) _ => if s = "self" then some (f, .txt x) else none
  | _ => none
/-- the statements' fields, all or none -/
def fieldsOf : List Stmt → Option (List (Str × Src))
  | [] => some []
  | st :: r => match fieldOf st, fieldsOf r with
    | some a, some l => some (a :: l)
    | _, _ => none
theorem fieldOf_cases {st : Stmt} {f : Str} {sr : Src} (h : fieldOf st = some (f, sr)) :
    (∃ x p1 p2 p3 p4, st = .Assign [.Attribute (.Name "self" p1) f p2] (.Name x p3) p4 ∧ sr = .par x) ∨
    (∃ x p1 p2 k p3 p4, st = .Assign [.Attribute (.Name "self" p1) f p2] (.Constant (.str x) k p3) p4 ∧ sr = .txt x) := by
  unfold fieldOf at h
  split at h
  · split at h
    · rename_i e
      subst e
      cases h
      exact .inl ⟨_, _, _, _, _, rfl, rfl⟩
    · cases h
  · split at h
    · rename_i e
      subst e
      cases h
      exact .inr ⟨_, _, _, _, _, _, rfl, rfl⟩
    · cases h
  · cases h

/-- what the written part says of the class at C -/
structure Cl (K : Frag) (C : Addr) (B newId : String) (bmB : List Value) : Prop where
  ini : excInitIn K C bmB newId = true
  over : excOver K C bmB = true
  sa : findIn K (.ref C) "__setattr__" = some (some (.builtin "object.__setattr__"))
  dict : hasDictIn K C = true
  subB : subIn K (.ref C) (.type B) = some true
  sup : ks_superIn K C C "__init__" = some (some (.builtin (B ++ ".__init__")))

section
variable {prog : Program} {w : World} {A : Around} {E : Value → Shared → Prop} {R : Result → Shared → Prop} {K : Frag} {C x : Addr} {B newId initId : String} {bmB : List Value} {g : Array GenState} {d : Drawn} {t : Nat} {os : OsState} {hp : Heap}

/-- an exception's record at x, its dict d -/
abbrev xo (C t0 : Addr) (d : Option Addr) : Obj := { cls := .ref C, dict := d, data := .fields #[.ref t0, .none, .none, .none, .bool false, .none] }

theorem taker_of {f : Str} (h : findIn K (.ref C) f = some none) : takerIn K C f = some none := L2.NoAttr.taker h

theorem set_first {t0 : Addr} {f : Str} {v : Value} {Q : Unit → Shared → Prop} (FM : Fam B newId initId bmB) (T : Cl K C B newId bmB) (X : K.In hp) (hx : hp.get? x = some (xo C t0 none)) (hno : findIn K (.ref C) f = some none)
    (hq : ∀ h' tk' dx, (∀ b o, b ≠ x → hp.get? b = some o → h'.get? b = some o) → hp.objs.size ≤ dx → dx ≠ x → h'.get? x = some (xo C t0 (some dx)) →
      h'.Ns1 dx (fun y => if y = f then some v else none) → Q () ⟨h', g, d, tk', os⟩) :
    wpAny (model prog w) A (setAttr (.ref x) f v) Q E ⟨hp, g, d, t, os⟩ := by
  have I : InstAt hp x (xo C t0 none) C none := ⟨hx, rfl, rfl, trivial⟩
  obtain ⟨cd, hc, hd⟩ := any_some T.dict
  have hxs : x ≠ hp.objs.size := Nat.ne_of_lt (Heap.lt_size hx)
  refine set_plain X I T.sa (osa_openX (od := none) FM.st X I T.over (taker_of hno) fun b => ?_)
  have hcls : Looks (model prog w) hp (classData C) cd := looks_clsIn X hc
  refine wpAny_bind (wpAny_pure (wpAny_bind (instanceDict_exc hx hcls hd ?_)))
  show wpAny _ _ (Builtin.ObjectAttr.storeInDict hp.objs.size (.str f t) f v) _ _ _
  refine PySem.HandSPX.store_in_new ⟨_, #[], _, (Heap.get?_update_ne _ _ _ _ hxs.symm).trans (Heap.get?_push_at rfl rfl), rfl, fun e he => absurd he (by simp), fun _ => rfl⟩ fun h' tk' hn' hs => ?_
  have hx1 : (hp.push { cls := .type "dict", data := .dict #[] }).get? x = some (xo C t0 none) := Heap.get?_push_of_some _ hx
  exact hq h' tk' hp.objs.size (fun b o hb ho => (hs.2 b (Nat.ne_of_lt (Heap.lt_size ho))).trans ((Heap.get?_update_ne _ _ _ _ hb).trans (Heap.get?_push_of_some _ ho))) (Nat.le_refl _) hxs.symm
    ((hs.2 x hxs).trans (Heap.get?_update_self _ hx1 rfl)) hn'
theorem set_next {t0 dx : Addr} {f : Str} {v : Value} {m0 : Str → Option Value} {nl : List Str} {Q : Unit → Shared → Prop} (FM : Fam B newId initId bmB) (T : Cl K C B newId bmB) (X : K.In hp) (hx : hp.get? x = some (xo C t0 (some dx))) (hns : hp.Ns1 dx m0) (hw : Within m0 nl) (hz : nl.length ≤ 900)
    (hno : findIn K (.ref C) f = some none)
    (hq : ∀ h' tk', (∀ b o, b ≠ dx → hp.get? b = some o → h'.get? b = some o) → h'.Ns1 dx (fun y => if y = f then some v else m0 y) → Q () ⟨h', g, d, tk', os⟩) :
    wpAny (model prog w) A (setAttr (.ref x) f v) Q E ⟨hp, g, d, t, os⟩ := by
  obtain ⟨oD, esD, epD, hoD, hdD, _⟩ := hns.count hw
  have I : InstAt hp x (xo C t0 (some dx)) C (some oD) := ⟨hx, rfl, rfl, hoD⟩
  obtain ⟨cd, hc, hd⟩ := any_some T.dict
  refine set_plain X I T.sa (osa_openX FM.st X I T.over (taker_of hno) fun b => ?_)
  have hcls : Looks (model prog w) hp (classData C) cd := looks_clsIn X hc
  refine wpAny_bind (wpAny_pure (wpAny_bind (wpAny_bind (wpAny_loadPart hx (wpAny_bind (hcls.here ?_))))))
  rw [hd]
  refine wpAny_pure (a := some dx) ?_
  refine PySem.OEX.store_in_old hns hw (by omega) fun h' tk' hn' hs => ?_
  exact hq h' tk' (fun b o hb ho => (hs.2 b hb).trans ho) hn'

/-! ### the stores, one behind the other -/
/-- the fields behind the statements, the last one first -/
def put (ev : Str → Option L2.V) : List (Str × Src) → List (Str × L2.V) → List (Str × L2.V)
  | [], fs => fs
  | (f, .par y) :: r, fs => put ev r ((f, (ev y).getD .non) :: fs)
  | (f, .txt c) :: r, fs => put ev r ((f, .str c) :: fs)
/-- while __init__ runs: hb the heap at its call, x the exception, d its dict so far -/
structure Cur (hb hp : Heap) (L x C : Addr) (ml : Str → Option Value) (d : Option Addr) (fs : List (Str × L2.V)) : Prop where
  keep : ∀ b o, b ≠ x → hb.get? b = some o → hp.get? b = some o
  ns : hp.Ns L ml
  obj : ∃ t0, hp.get? x = some (xo C t0 d)
  dic : match d with
    | none => fs = [] ∧ hb.objs.size ≤ hp.objs.size
    | some dx => hb.objs.size ≤ dx ∧ dx ≠ x ∧ dx ≠ L ∧ ∃ mA, hp.Ns1 dx mA ∧ ∀ f, L2.RelO (fs.lookup f) (mA f)
theorem in_but {hb hp : Heap} {x : Addr} (X : K.In hb) (hx : K.lookup x = none) (k : ∀ b o, b ≠ x → hb.get? b = some o → hp.get? b = some o) : K.In hp := fun a o e =>
  k a o (fun z => by rw [z, hx] at e; cases e) (X a o e)
theorem ns_at {h h' : Heap} {a : Addr} {m : Str → Option Value} (n : h.Ns a m) (k : ∀ o, h.get? a = some o → h'.get? a = some o) : h'.Ns a m := by
  obtain ⟨o, es, ep, e, r⟩ := n
  exact ⟨o, es, ep, k o e, r⟩
theorem ns_ne {h : Heap} {a x : Addr} {m : Str → Option Value} {C t0 : Addr} {d : Option Addr} (n : h.Ns a m) (hx : h.get? x = some (xo C t0 d)) : a ≠ x := fun z => by
  obtain ⟨o, es, ep, e, e2, r⟩ := n
  rw [z, hx] at e
  have z2 := Option.some.inj e
  subst z2
  cases e2
/-- one store -/
theorem cur_store {hb : Heap} {L : Addr} {ml : Str → Option Value} {dd : Option Addr} {fs : List (Str × L2.V)} {f : Str} {y : L2.V} {u : Value} {Q : Unit → Shared → Prop} (FM : Fam B newId initId bmB) (T : Cl K C B newId bmB)
    (X : K.In hb) (hnx : K.lookup x = none) (c : Cur hb hp L x C ml dd fs) (hz : fs.length ≤ 800) (hno : findIn K (.ref C) f = some none) (ry : L2.RelV y u)
    (hq : ∀ h' tk' dx, Cur hb h' L x C ml (some dx) ((f, y) :: fs) → Q () ⟨h', g, d, tk', os⟩) : wpAny (model prog w) A (setAttr (.ref x) f u) Q E ⟨hp, g, d, t, os⟩ := by
  obtain ⟨t0, hx⟩ := c.obj
  have X1 : K.In hp := in_but X hnx c.keep
  have nL := ns_ne c.ns hx
  have lL : L < hp.objs.size := c.ns.lt
  cases dd with
  | none =>
    obtain ⟨rfl, sz⟩ := c.dic
    refine set_first FM T X1 hx hno fun h' tk' dx k hd ne hx' hn' => hq h' tk' dx ⟨fun b o hb2 e => k b o hb2 (c.keep b o hb2 e), ns_at c.ns fun o e => k L o nL e, ⟨t0, hx'⟩, Nat.le_trans sz hd, ne, Nat.ne_of_gt (Nat.lt_of_lt_of_le lL hd), _, hn', ?_⟩
    exact L2.relO_put (fs := []) (mA := fun _ => none) ry fun g => True.intro
  | some dx =>
    obtain ⟨hd, ne, neL, mA, hn, rel⟩ := c.dic
    have hw := L2.within_of rel
    refine set_next FM T X1 hx hn hw (by rw [List.length_map]; omega) hno fun h' tk' k hn' => hq h' tk' dx ⟨fun b o hb2 e => ?_, ns_at c.ns fun o e => k L o (Ne.symm neL) e, ⟨t0, k x _ (Ne.symm ne) hx⟩, hd, ne, neL, _, hn', L2.relO_put ry rel⟩
    exact k b o (Nat.ne_of_lt (Nat.lt_of_lt_of_le (Heap.lt_size e) hd)) (c.keep b o hb2 e)
theorem run_fields {hb : Heap} {L : Addr} {ml : Str → Option Value} {ev : Str → Option L2.V} {env : Env} {Q : Flow → Shared → Prop} (FM : Fam B newId initId bmB) (T : Cl K C B newId bmB) (X : K.In hb) (hnx : K.lookup x = none)
    (hk : env.scope.kind = .function) (hL : env.locals = L) (hself : env.kindOf "self" = some .local) (hsv : ml "self" = some (.ref x)) :
    ∀ (l : List Stmt) (fl : List (Str × Src)), fieldsOf l = some fl → (∀ p ∈ fl, findIn K (.ref C) p.1 = some none) →
      (∀ p ∈ fl, ∀ y, p.2 = .par y → env.kindOf y = some .local ∧ (y == ("__debug__" : Str)) = false ∧ ∃ u v, ml y = some u ∧ ev y = some v ∧ L2.RelV v u) →
      ∀ (hp : Heap) (tk : Nat) (dd : Option Addr) (fs : List (Str × L2.V)), Cur hb hp L x C ml dd fs → fs.length + fl.length ≤ 800 →
      (∀ h' tk' d', Cur hb h' L x C ml d' (put ev fl fs) → Q .next ⟨h', g, d, tk', os⟩) → wpAny (model prog w) A (execs l env) Q E ⟨hp, g, d, tk, os⟩ := by
  intro l
  induction l with
  | nil =>
    intro fl e _ _ hp tk dd fs c _ hq
    cases e
    exact wpAny_execs_nil (hq hp tk dd c)
  | cons st r ih =>
    intro fl e hno hpar hp tk dd fs c hz hq
    unfold fieldsOf at e
    cases e1 : fieldOf st with
    | none => rw [e1] at e; cases e
    | some a =>
      cases e2 : fieldsOf r with
      | none => rw [e1, e2] at e; cases e
      | some lr =>
        rw [e1, e2] at e
        cases e
        obtain ⟨f, sr⟩ := a
        have hz1 : fs.length ≤ 800 := by omega
        have hz2 : (fs.length + 1) + lr.length ≤ 800 := by
          have : fs.length + (lr.length + 1) ≤ 800 := by simpa using hz
          omega
        have no1 := hno (f, sr) List.mem_cons_self
        have hno2 : ∀ p ∈ lr, findIn K (.ref C) p.1 = some none := fun p hp => hno p (List.mem_cons_of_mem _ hp)
        have hpar2 := fun p hp => hpar p (List.mem_cons_of_mem _ hp)
        rcases fieldOf_cases e1 with ⟨y, p1, p2, p3, p4, rfl, rfl⟩ | ⟨y, p1, p2, k, p3, p4, rfl, rfl⟩
        · obtain ⟨ky, dy, u, v, hu, hv, ruv⟩ := hpar (f, .par y) List.mem_cons_self y rfl
          refine wpAny_execs_cons (plainObj_wpAny_Assign_Attribute ?_)
          refine wpAny_Name (wpAny_loadName_local hk ky (hL ▸ c.ns) hu ?_) dy
          refine wpAny_Name (wpAny_loadName_local hk hself (hL ▸ c.ns) hsv ?_) (by decide)
          refine cur_store FM T X hnx c hz1 no1 ruv fun h' tk' dx c' => ?_
          refine ih lr e2 hno2 hpar2 h' tk' (some dx) _ c' hz2 fun h2 tk2 d2 c2 => ?_
          refine hq h2 tk2 d2 ?_
          show Cur hb h2 L x C ml d2 (put ev lr ((f, (ev y).getD .non) :: fs))
          rw [hv]
          exact c2
        · refine wpAny_execs_cons (plainObj_wpAny_Assign_Attribute ?_)
          refine Calls.Constant_str ?_
          refine wpAny_Name (wpAny_loadName_local hk hself (hL ▸ c.ns) hsv ?_) (by decide)
          refine cur_store (y := .str y) FM T X hnx c hz1 no1 ⟨_, rfl⟩ fun h' tk' dx c' => ?_
          exact ih lr e2 hno2 hpar2 h' tk' (some dx) _ c' hz2 fun h2 tk2 d2 c2 => hq h2 tk2 d2 c2

/-! ### super().__init__('text') -/
/-- super().__init__('text') -/
def superOf : Stmt → Bool
  | .Expr (.Call (.Attribute (.Call (.Name s _) [] [] _) f p) [.Constant (.str _) _ _] [] q) _ => (s = "super" && f = "__init__") && (p.endLine == q.line)
  | _ => false
theorem superOf_cases {st : Stmt} (h : superOf st = true) : ∃ p1 p2 p3 x k p4 p5 p6, st = .Expr (.Call (.Attribute (.Call (.Name "super" p1) [] [] p2) "__init__" p3) [.Constant (.str x) k p4] [] p5) p6 ∧ (p3.endLine == p5.line) = true := by
  unfold superOf at h
  split at h
  · rw [Bool.and_eq_true, Bool.and_eq_true] at h
    obtain ⟨⟨h1, h2⟩, h3⟩ := h
    have e1 := of_decide_eq_true h1
    have e2 := of_decide_eq_true h2
    subst e1 e2
    exact ⟨_, _, _, _, _, _, _, _, rfl, h3⟩
  · cases h

theorem super_call {o : Expr} {name tx : Str} {kk p4} {apos pos : Pos} {env : Env} (h : (apos.endLine == pos.line) = true) : eval (.Call (.Attribute o name apos) [.Constant (.str tx) kk p4] [] pos) env = (do
      let ov ← attributeBase o name env (eval o env)
      standAt apos.atName
      let (f, first) ← holding [ov] (getMethod ov name (do return (← importBound o env).getD true))
      callWith pos f first (backTo pos (starEach [.Constant (.str tx) kk p4] env)) []) := by
  rw [arm_eval_Call]
  have hf : methodCallForm ([Expr.Constant (.str tx) kk p4].length + ([] : List Keyword).length) (backTo pos (starEach [.Constant (.str tx) kk p4] env)) (backToKw pos (keywordEach [] env)) = true := by rfl
  unfold methodCall methodCallPos calleeOf
  rw [hf, h]
  rfl

theorem callWith_mw {M : Model} {s : Shared} {pos : Pos} {u : Addr} {i : String} {first : List Value} {args : List (Bool × Sem Value)} {Q : Value → Shared → Prop} (hplain : args.any (·.1) = false)
    (h : wpAny M A (evalArgs (.ref u) true args []) (fun ar s₁ => KxsAt i u x s₁.heap ∧ wpAny M A (call (.ref u) (first ++ ar.pos) ar.kw) Q E s₁) E s) : wpAny M A (callWith pos (.ref u) first args []) Q E s := kxs_callWith hplain h

/-- the wrapper called: the args are laid anew -/
theorem call_mw {u t0 : Addr} {rest : List Value} {Q : Value → Shared → Prop} (FM : Fam B newId initId bmB) (T : Cl K C B newId bmB) (X : K.In hp) (hx : hp.get? x = some (xo C t0 none)) (hu : hp.get? u = some (kxs_mw initId x)) (hz : rest.length ≤ sizeLine)
    (hq : ∀ h' t1, (∀ b o, b ≠ x → hp.get? b = some o → h'.get? b = some o) → h'.get? x = some (xo C t1 none) → hp.objs.size ≤ h'.objs.size → Q .none ⟨h', g, d, t, os⟩) :
    wpAny (model prog w) A (call (.ref u) rest) Q E ⟨hp, g, d, t, os⟩ := by
  obtain ⟨nm, N', qn, bs, bm, hdct, sn, sub, ab, col, dd, k0, k1, k2, k3, k5, hC, hT⟩ := excInit_of X T.ini
  refine wpAny_call (codeAny_of_tree ?_)
  show wpAny _ A.in1 (callAny (.ref u) ⟨rest, []⟩) _ _ _
  simp only [callAny]
  refine wpAny_bind (wpAny_load hu ?_)
  simp only [kxs_mw, show (Value.type "method-wrapper" == Value.type "method" || Value.type "method-wrapper" == Value.type "builtin_function_or_method" || Value.type "method-wrapper" == Value.type "method-wrapper") = true by decide, if_true]
  refine KFB.if_so (by decide) ?_
  refine wpAny_bind (check_bound_init FM.base.toExcCallFacts hC hx rfl ?_)
  refine wpAny_bind (wpAny_pure (wpAny_pure ?_))
  refine ⟨plainId_quiet FM.base.init.plain _, codeAny_builtin FM.base.initEntry ?_⟩
  refine exc_init_tree (cls := .ref C) (t0 := t0) (dv := none) (c2 := .none) (c3 := .none) (b4 := .bool false) hx hz fun h' k e1 e2 => ?_
  exact hq h' hp.objs.size k e1 (Nat.le_of_lt (Heap.lt_size e2))
end

/-- the function object of __init__ -/
structure IniFn (prog : Program) (K : Frag) (C f : Addr) (qual : Str) (st : Stmt) : Prop where
  ex : ∃ (oc : Value) (od : Option Addr) (doc pm ct : Value) (an : Option Addr) (osl : Array (Option Value)) (cda cc : Addr),
    K.lookup f = some ⟨oc, od, .func (ksFn "__init__" qual (L2.defArgs st) (L2.defBody st) (L2.defScope st) .none .none doc pm an (.ref cda) ct cc), osl⟩ ∧ codeIn K (.ref cda) qual = true ∧
    (∃ ccl cdd vs ccs file tf, K.lookup cda = some ⟨ccl, cdd, .fields vs, ccs⟩ ∧ vs[2]? = some (.str file tf) ∧ ((prog.main.file : Str) == file) = true) ∧
    (∃ cl cld csl, K.lookup cc = some ⟨cl, cld, .cell (some (.ref C)), csl⟩)
/-- what is read off the text of __init__: ps its parameters behind self -/
structure IniTx (prog : Program) (st : Stmt) (ps : List Str) (fl : List (Str × Src)) : Prop where
  head : ((L2.defArgs st).posonlyargs ++ (L2.defArgs st).args).head?.map (·.arg) = some "self"
  body : ∃ s1 r, L2.defBody st = s1 :: r ∧ superOf s1 = true ∧ fieldsOf r = some fl
  sup : (L2.defScope st).names.lookup ("super" : Str) = some .globalImplicit
  cls : (L2.defScope st).names.lookup ("__class__" : Str) = some .free
  loc : ∀ y ∈ ("self" : Str) :: ps, (L2.defScope st).names.lookup y = some .local ∧ (y == ("__debug__" : Str)) = false
  nd : (("self" : Str) :: ps).Nodup
  cells : ∀ y ∈ (L2.defScope st).names, y.2 ≠ .cell
  co : (L2.defScope st).isCoroutine = false
  gen : (L2.defScope st).isGenerator = false
  kind : (L2.defScope st).kind = .function
  pars : ∀ p ∈ fl, ∀ y, p.2 = .par y → y ∈ ps
  few : fl.length ≤ 100
  top : (prog.main.scope.names.lookup ("super" : Str)).isSome = false

section
variable {prog : Program} {w : World} {A : Around} {E : Value → Shared → Prop} {R : Result → Shared → Prop} {K : Frag} {C x fI : Addr} {B newId initId : String} {bmB : List Value} {s : Shared} {qual : Str} {st : Stmt} {ps : List Str} {fl : List (Str × Src)} {mg mb : Str → Option Value} {base : Heap}
theorem zip_fst : ∀ (ks : List Str) (us : List Value), ((ks.zip us).map (·.1)) <+: ks
  | [], us => by simp
  | k :: r, [] => by simp
  | k :: r, u :: us => by
    have := zip_fst r us
    simpa using this
theorem zip_look : ∀ {ks : List Str} {us : List Value} {i : Nat} {y : Str} {u : Value}, ks.Nodup → ks[i]? = some y → us[i]? = some u → (ks.zip us).reverse.lookup y = some u := by
  intro ks us i y u nd hy hu
  have h1 : ∀ (l : List (Str × Value)), (l.map (·.1)).Nodup → (y, u) ∈ l → l.lookup y = some u := by
    intro l
    induction l with
    | nil => intro _ h; cases h
    | cons a r ih =>
      intro n h
      obtain ⟨k, v⟩ := a
      rw [List.map_cons, List.nodup_cons] at n
      rcases List.mem_cons.mp h with h | h
      · cases h
        simp [List.lookup]
      · have ne : (y == k) = false := by
          simp only [beq_eq_false_iff_ne, ne_eq]
          exact fun z => n.1 (List.mem_map.mpr ⟨(y, u), h, z⟩)
        have e : List.lookup y ((k, v) :: r) = r.lookup y := by
          show (match y == k with | true => some v | false => r.lookup y) = r.lookup y
          rw [ne]
        rw [e]
        exact ih n.2 h
  refine h1 _ ?_ ?_
  · rw [List.map_reverse]
    refine (List.reverse_perm _).nodup_iff.mpr ?_
    have : ((ks.zip us).map (·.1)) <+: ks := by
      exact zip_fst ks us
    exact nd.sublist this.sublist
  · rw [List.mem_reverse]
    have : (ks.zip us)[i]? = some (y, u) := by
      rw [List.getElem?_zip_eq_some]
      exact ⟨hy, hu⟩
    exact List.mem_of_getElem? this
/-- what __init__ leaves of a fresh exception at x -/
structure End (h h' : Heap) (x C : Addr) (fs : List (Str × L2.V)) : Prop where
  keep : ∀ b o, b ≠ x → h.get? b = some o → h'.get? b = some o
  ex : ∃ t1 dx, h'.get? x = some (xo C t1 (some dx)) ∧ h.objs.size ≤ dx ∧ dx ≠ x ∧ ∃ mA, h'.Ns1 dx mA ∧ ∀ f, L2.RelO (fs.lookup f) (mA f)
theorem init_run (FM : Fam B newId initId bmB) (ei : initId = B ++ ".__init__") (T : Cl K C B newId bmB) (FI : IniFn prog K C fI qual st) (TX : IniTx prog st ps fl) (hne : fl ≠ [])
    (hsup : mg "super" = none) (hno : ∀ p ∈ fl, findIn K (.ref C) p.1 = some none) (hop : nsIn K cStatics "thirdparty.any" = some none)
    {t0 : Addr} {args : Args} {us : List Value} {vs : List L2.V} (hb : ∀ fd, K.lookup fI = some fd → ∀ fo, fd.data = .func fo → BindsTo s fo args ((("self" : Str) :: ps).zip (.ref x :: us))) (r : L2.Vals vs us) (hl : us.length = ps.length)
    (X : K.In s.heap) (G : s.heap.Ns mainGlobals mg) (Bt : s.heap.Ns builtinsNs mb) (hbt : mb "super" = some (.type "super"))
    (lim : s.heap.NoLimit) (hx : s.heap.get? x = some (xo C t0 none)) (hnx : K.lookup x = none) (hroom : A.depth < recursionLimit)
    (hq : ∀ h' tk, End s.heap h' x C (put (fun y => (ps.zip vs).lookup y) fl []) → R (.ok (.ret .none)) { s with heap := h', toks := tk }) :
    codeAny (model prog w) A (.call (.ref fI) args) R s := by
  obtain ⟨oc, od, doc, pm, ct, an, osl, cda, cc, lk, hcd, ⟨ccl, cdd, cvs, ccs, file, tf, lcd, hfile, hf2⟩, cl, cld, csl, lcc⟩ := FI.ex
  obtain ⟨s1, rst, hbody, hs1, hrst⟩ := TX.body
  obtain ⟨p1, p2, p3, tx, kk, p4, p5, p6, rfl, hpp⟩ := superOf_cases hs1
  have hbb := hb _ lk _ rfl
  have hxlt : x < s.heap.objs.size := Heap.lt_size hx
  refine ks_codeAny_call_defAt (fd := ksFn "__init__" qual (L2.defArgs st) (L2.defBody st) (L2.defScope st) .none .none doc pm an (.ref cda) ct cc) (body := L2.defBody st) hroom (X _ _ lk) rfl lim (codeRec_of X hcd) rfl hbb TX.cells (fun y hy => ?_) (fun h0 hns hk0 => ?_) TX.co TX.gen TX.kind
  · obtain ⟨n, v⟩ := y
    exact (TX.loc n (List.of_mem_zip hy).1).1
  have hself : ((("self" : Str) :: ps).zip (Value.ref x :: us)).reverse.lookup ("self" : Str) = some (Value.ref x) := zip_look (i := 0) TX.nd rfl rfl
  have X0 : K.In h0 := X.keeps hk0
  have hxC : x ≠ C := fun z => by
    obtain ⟨nm, N', qn, bs, bm, hdct, sn, sub, ab, col, dd, k0, k1, k2, k3, k5, hC, hT⟩ := excInit_of X T.ini
    rw [z, hC] at hx
    cases hx
  have hx0 := hk0 _ _ hx
  obtain ⟨cd, hcl, hcm⟩ : ∃ cd, clsIn K C = some cd ∧ alongIn K "__init__" ((cd.mro.dropWhile (· != .ref C)).drop 1) = some (some (.builtin initId)) := by
    have q := T.sup
    unfold ks_superIn at q
    cases e : clsIn K C with
    | none => rw [e] at q; cases q
    | some cd => rw [e] at q; exact ⟨cd, rfl, by rw [ei]; exact q⟩
  obtain ⟨oD, hD1, hD2⟩ : ∃ oD, h0.get? C = some oD ∧ oD.data = .cls cd := by
    unfold clsIn at hcl
    split at hcl
    · rename_i c d cd' sl ho
      cases hcl
      exact ⟨_, X0 _ _ ho, rfl⟩
    · cases hcl
  rw [hbody]
  refine ks_wpAt_execs_cons (ks_wpAt_Expr_any (ks_wpAt_MethodCall ?_ (super_call hpp)) (by unfold interactive; show ((L2.defScope st).kind == .module && _) = false; rw [TX.kind]; rfl))
  obtain ⟨ar, har, hear⟩ := Option.map_eq_some_iff.mp TX.head
  refine ks_wpAt_super_base (env := ksEnv qual (L2.defScope st) s.heap.objs.size fI (.ref cda) cc) TX.sup TX.cls (by decide) rfl (X0 _ _ lk) rfl har rfl (X0 _ _ lcd) rfl hfile hf2 TX.top ?_
  refine ks_loadName_global TX.kind TX.sup (loadGlobal_builtin (env := ksEnv qual (L2.defScope st) s.heap.objs.size fI (.ref cda) cc) (G.keeps hk0) hsup (Bt.keeps hk0) hbt ⟨rfl, ?_⟩)
  refine wpAny_loadName_free TX.kind TX.cls rfl ⟨_, X0 _ _ lcc, rfl⟩ ?_
  rw [hear]
  refine wpAny_loadName_local TX.kind (TX.loc "self" List.mem_cons_self).1 hns hself ?_
  refine ks_wpAny_isType_cls hD1 hD2 ⟨rfl, ?_⟩
  have hsubC : Looks (model prog w) h0 (isSubtype (.ref C) (.ref C)) true := by
    refine looks_mroIn X0 ?_
    obtain ⟨cd2, hc2, ho⟩ := any_some T.over
    unfold mroIn
    rw [hc2, Option.bind_some]
    (try dsimp only at ho)
    split at ho
    · rename_i C' bm hm
      rw [Bool.and_eq_true, beq_iff_eq] at ho
      obtain ⟨rfl, _⟩ := ho
      rw [hm]
      simp
    · cases ho
  refine ks_wpAny_call_super hD1 hD2 hx0 rfl (fun c e => by cases e) hsubC (fun h1 e1 k1 => ?_)
  have X1 : K.In h1 := X0.keeps k1
  have hx1 := k1 _ _ hx0
  have hI1 : Looks (model prog w) h1 (isInstance (.ref x) (.type B)) true := (show InstAt h1 x (xo C t0 none) C none from ⟨hx1, rfl, rfl, trivial⟩).type.andThen (looks_subIn X1 T.subB)
  refine kxs_getMethod FM.kxs e1 (looks_opaque X1 hop) (l₀ := cd.mro) (fun A Q E s k q => wpAny_bind ((looks_clsIn X1 hcl) A _ E s k (wpAny_pure q))) rfl X1 hcm hI1 hxC (by decide) ?_
  have k2 : ∀ b o, h1.get? b = some o → (h1.push (kxs_mw initId x)).get? b = some o := fun b o e => Heap.get?_push_of_some _ e
  have hu2 : (h1.push (kxs_mw initId x)).get? h1.objs.size = some (kxs_mw initId x) := Heap.get?_push_at rfl rfl
  refine callWith_mw (i := initId) (x := x) rfl (evalArgs_plain (Calls.spliced_cons ?_))
  rw [if_neg Bool.false_ne_true]
  refine Calls.Constant_str (Calls.spliced_nil ⟨hu2, ?_⟩)
  refine call_mw FM T (X1.keeps k2) (k2 _ _ hx1) hu2 (by show 1 ≤ sizeLine; decide) fun h3 t1 k3 hx3 sz3 => ?_
  refine wpAt_of_wpAny ?_
  have sz0 : s.heap.objs.size < h0.objs.size := hns.lt
  have kk : ∀ b o, b ≠ x → h0.get? b = some o → h3.get? b = some o := fun b o hb e => k3 b o hb (k2 b o (k1 b o e))
  have hLx : s.heap.objs.size ≠ x := Nat.ne_of_gt hxlt
  have c0 : Cur s.heap h3 s.heap.objs.size x C (fun y => ((("self" : Str) :: ps).zip (Value.ref x :: us)).reverse.lookup y) none [] :=
    ⟨fun b o hb e => kk b o hb (hk0 b o e), ns_at hns fun o e => kk _ o hLx e, ⟨t1, hx3⟩, rfl, by
      obtain ⟨o, es, ep, e, _⟩ := ns_at hns fun o e => kk _ o hLx e
      exact Nat.le_of_lt (Heap.lt_size e)⟩
  refine run_fields (env := ksEnv qual (L2.defScope st) s.heap.objs.size fI (.ref cda) cc) (ev := fun y => (ps.zip vs).lookup y) FM T X hnx TX.kind rfl (TX.loc "self" List.mem_cons_self).1 hself rst fl hrst hno (fun p hp y e => ?_) h3 _ none [] c0 (by have := TX.few; simp only [List.length_nil]; omega) fun h4 tk4 d4 c4 => ?_
  · have hy := TX.pars p hp y e
    obtain ⟨i, hi, hiy⟩ := List.getElem_of_mem hy
    have l1 := TX.loc y (List.mem_cons_of_mem _ hy)
    have hiu : i < us.length := by omega
    have hiv : i < vs.length := by have := r.length; omega
    have eu : us[i]? = some us[i] := List.getElem?_eq_getElem hiu
    have evv : vs[i]? = some vs[i] := List.getElem?_eq_getElem hiv
    obtain ⟨u, hu', ruv⟩ := L2.Vals.get r evv
    refine ⟨l1.1, l1.2, u, vs[i], ?_, ?_, ruv⟩
    · exact zip_look (i := i + 1) TX.nd (by simpa using (List.getElem?_eq_getElem hi).trans (congrArg some hiy)) (by simpa using hu')
    · have ndp : ps.Nodup := (List.nodup_cons.mp TX.nd).2
      have key : ∀ (ks : List Str) (ws : List L2.V) (i : Nat) (y : Str) (v : L2.V), ks.Nodup → ks[i]? = some y → ws[i]? = some v → (ks.zip ws).lookup y = some v := by
        intro ks
        induction ks with
        | nil => intro ws i y v _ h _; simp at h
        | cons k kr ih =>
          intro ws i y v n h1 h2
          cases ws with
          | nil => simp at h2
          | cons w0 wr =>
            cases i with
            | zero =>
              simp at h1 h2
              subst h1 h2
              simp [List.lookup]
            | succ j =>
              have h1' : kr[j]? = some y := by simpa using h1
              have h2' : wr[j]? = some v := by simpa using h2
              have ne : (y == k) = false := by
                simp only [beq_eq_false_iff_ne, ne_eq]
                intro z
                subst z
                exact (List.nodup_cons.mp n).1 (List.mem_of_getElem? h1')
              show (match y == k with | true => some w0 | false => (kr.zip wr).lookup y) = some v
              rw [ne]
              exact ih wr j y v (List.nodup_cons.mp n).2 h1' h2'
      exact key ps vs i y _ ndp ((List.getElem?_eq_getElem hi).trans (congrArg some hiy)) evv
  · refine hq h4 tk4 ⟨fun b o hb e => c4.keep b o hb e, ?_⟩
    cases d4 with
    | none =>
      exfalso
      have q := c4.dic.1
      cases fl with
      | nil => exact hne rfl
      | cons a l =>
        have lenp : ∀ (l : List (Str × Src)) (fs : List (Str × L2.V)), (put (fun y => (ps.zip vs).lookup y) l fs).length = l.length + fs.length := by
          intro l
          induction l with
          | nil => intro fs; simp [put]
          | cons b l ih =>
            intro fs
            obtain ⟨f, sr⟩ := b
            cases sr <;> (simp only [put, ih, List.length_cons]; omega)
        have := congrArg List.length q
        rw [lenp] at this
        simp at this
    | some dx =>
      obtain ⟨hd, ne, neL, mA, hn, rel⟩ := c4.dic
      obtain ⟨t2, e2⟩ := c4.obj
      exact ⟨t2, dx, e2, hd, ne, mA, hn, rel⟩
end
end FK
end
section
set_option Elab.async false
set_option linter.all false
set_option maxRecDepth 100000
set_option maxHeartbeats 4000000
namespace FK
open PySem PySem.W PySem.Calls PyProof.Rows

/-- how positional arguments bind to self and the parameters -/
def BindP (qual : Str) (st : Stmt) (ps : List Str) : Prop := ∀ (doc pm ct cda : Value) (an : Option Addr) (cc : Addr) (us : List Value), us.length = ps.length + 1 →
  bindArgs (ksFn "__init__" qual (L2.defArgs st) (L2.defBody st) (L2.defScope st) .none .none doc pm an cda ct cc) ⟨us, []⟩ = pure ((("self" : Str) :: ps).zip us)

/-- all that is told of one class x of the package -/
structure Flt (prog : Program) (K : Frag) (mg : Str → Option Value) (x : Str) (C : Addr) (fl : List (Str × Src)) (ps : List Str) : Prop where
  ex : ∃ (B newId initId : String) (bmB : List Value) (st : Stmt) (fI : Addr), Fam B newId initId bmB ∧ initId = B ++ ".__init__" ∧ Cl K C B newId bmB ∧ IniFn prog K C fI (x ++ ".__init__") st ∧ IniTx prog st ps fl ∧ BindP (x ++ ".__init__") st ps ∧
    findIn K (.ref C) "__init__" = some (some (.ref fI)) ∧ typeIn K (.ref fI) = some (.type "function")
  ne : fl ≠ []
  sup : mg "super" = none
  no : ∀ p ∈ fl, findIn K (.ref C) p.1 = some none
  opq : nsIn K cStatics "thirdparty.any" = some none
  kC : keepIn K (.ref C) = true
  gC : mg x = some (.ref C)
  exC : subIn K (.ref C) (.type "BaseException") = some true
  tyC : typeIn K (.ref C) = some (.type "type")
  ga : findIn K (.ref C) "__getattribute__" = some (some (.builtin "BaseException.__getattribute__"))
  gg : findIn K (.ref C) "__getattr__" = some none
  dict : hasDictIn K C = true
  clsA : findIn K (.ref C) "__class__" = some (some (.builtin "object.__class__"))
  clsG : specialIn K (.builtin "object.__class__") "__get__" = some (some (.builtin "getset_descriptor.__get__"))
  clsT : takesIn K (.builtin "object.__class__") = some true
  mrO : mroIn K C (.type "object") = some true
  db : (x == ("__debug__" : Str)) = false

/-- the fields of an error that was made of these values -/
abbrev flds (ps : List Str) (fl : List (Str × Src)) (vs : List L2.V) : List (Str × L2.V) := put (fun y => (ps.zip vs).lookup y) fl []

/-- a made error at e -/
structure Made (h h' : Heap) (e C : Addr) (fs : List (Str × L2.V)) : Prop where
  keep : ∀ b o, h.get? b = some o → h'.get? b = some o
  new : h.objs.size ≤ e
  ex : ∃ t1 d, h'.get? e = some (xo C t1 (some d)) ∧ h.objs.size ≤ d ∧ d ≠ e ∧ ∃ mA, h'.Ns1 d mA ∧ ∀ f, L2.RelO (fs.lookup f) (mA f)

section
variable {prog : Program} {w : World} {A : Around} {E : Value → Shared → Prop} {R : Result → Shared → Prop} {K : Frag} {C : Addr} {s : Shared} {x : Str} {ps : List Str} {fl : List (Str × Src)} {mg mb : Str → Option Value}
theorem made (T : Flt prog K mg x C fl ps) {us : List Value} {vs : List L2.V} (r : L2.Vals vs us) (hl : vs.length = ps.length)
    (X : K.In s.heap) (G : s.heap.Ns mainGlobals mg) (Bt : s.heap.Ns builtinsNs mb) (hbt : mb "super" = some (.type "super")) (lim : s.heap.NoLimit) (hroom : A.depth + 1 < recursionLimit) (hz : us.length ≤ sizeLine)
    (hq : ∀ h' tk e, Made s.heap h' e C (flds ps fl vs) → R (.ok (.ret (.ref e))) { s with heap := h', toks := tk }) :
    codeAny (model prog w) A (.call (.ref C) ⟨us, []⟩) R s := by
  obtain ⟨B, newId, initId, bmB, st, fI, FM, ei, TC, FI, TX, bd, hi, tI⟩ := T.ex
  obtain ⟨nm, N', qn, bs, bm, hdct, sn, sub, ab, col, dd, k0, k1, k2, k3, k5, hC, hT⟩ := excInit_of X TC.ini
  obtain ⟨hp, g, dr, tk, os⟩ := s
  have k : ∀ b o, hp.get? b = some o → ((hp.push (kdv_tup us)).push (PySem.HandSPX.excO C hp.objs.size)).get? b = some o := fun b o e => Heap.get?_push_of_some _ (Heap.get?_push_of_some _ e)
  have hget : ((hp.push (kdv_tup us)).push (PySem.HandSPX.excO C hp.objs.size)).get? (hp.objs.size + 1) = some (xo C hp.objs.size none) := by heap_get
  have hnx : K.lookup (hp.objs.size + 1) = none := by
    cases e : K.lookup (hp.objs.size + 1) with
    | none => rfl
    | some o =>
      have z : hp.get? (hp.objs.size + 1) = some o := X _ _ e
      exact absurd (Nat.lt_of_succ_lt (Heap.lt_size z)) (Nat.lt_irrefl _)
  refine PySem.HandSPX.call_own FM.base hT hC (looks_findIn X hi) (fun self => bind_fn X self tI) hz ?_
  refine init_run (s := ⟨(hp.push (kdv_tup us)).push (PySem.HandSPX.excO C hp.objs.size), g, dr, tk, os⟩) (us := us) (vs := vs) FM ei TC FI TX T.ne T.sup T.no T.opq (fun fd lk fo hfd => ?_) r (by rw [← r.length]; exact hl) (X.keeps k) (G.keeps k) (Bt.keeps k) hbt (lim.keeps k) hget hnx ?_ fun h' tk' EN => ?_
  · obtain ⟨oc, od, doc, pm, ct, an, osl, cda, cc, lk2, _⟩ := FI.ex
    rw [lk] at lk2
    cases lk2
    cases hfd
    exact BindsTo.of_eq (bd doc pm ct (.ref cda) an cc (.ref (hp.objs.size + 1) :: us) (by rw [List.length_cons, ← r.length, hl]))
  · show A.depth + 1 < recursionLimit
    exact hroom
  · obtain ⟨t1, d, e1, d1, d2, mA, n1, rel⟩ := EN.ex
    have old : ∀ b o, hp.get? b = some o → h'.get? b = some o := fun b o e => EN.keep b o (Nat.ne_of_lt (Nat.lt_succ_of_lt (Heap.lt_size e))) (k b o e)
    have z : hp.objs.size ≤ d := by
      have q := d1
      have q2 : hp.objs.size + 1 + 1 ≤ d := by
        simpa only [Heap.size_push] using q
      omega
    exact ⟨rfl, hq h' tk' (hp.objs.size + 1) ⟨old, Nat.le_succ _, t1, d, e1, z, d2, mA, n1, rel⟩⟩
end
end FK

namespace L2
open PySem PySem.Spec PyProof.Rows
section
variable {X : Cx} {x : Str} {C : Addr} {fl : List (Str × FK.Src)} {ps : List Str}
/-- C(e, ..) made to be raised -/
def tMkF (C : Addr) (ps : List Str) (fl : List (Str × FK.Src)) (ta : TA) : St → Hp → XK → Prop := fun σ H Q => ta σ H fun vs H1 => vs.length = ps.length ∧ ∀ d, H1 d = none → Q (.ref C) (some d) (upd H1 d (.xd (FK.flds ps fl vs)))
theorem mk_core {k : Nat} {pins : List (Addr × Obj)} {σ : St} {H1 : Hp} {s1 : Shared} {us : List Value} {vs : List V} {Q : Value → Shared → Prop} {E : Value → Shared → Prop} (T : FK.Flt X.prog X.K X.mg x C fl ps) (hr : Room (k + 1) X.A) (I1 : Inv X pins σ H1 s1) (r1 : Vals vs us) (hl : vs.length = ps.length) (hps : ps.length ≤ 1000)
    (hq : ∀ h' tk e, FK.Made s1.heap h' e C (FK.flds ps fl vs) → Q (.ref e) { s1 with heap := h', toks := tk }) : wpAny (model X.prog X.w) X.A (call (.ref C) us) Q E s1 := by
  obtain ⟨mb, hmb, hbt⟩ := I1.ok.mod.blt
  have hus : us.length ≤ sizeLine := by
    rw [← Paired.length r1, sizeLine_eq]
    omega
  refine wpAny_call (FK.made T r1 hl I1.kIn (I1.ok.mod.glob.keeps I1.bk) (hmb.keeps I1.bk) ((hbt "super" (by decide)).trans (by first | boot_by_name | rfl | kernel_rfl)) I1.nolimit ?_ hus fun h' tk e M => ?_)
  · have := hr.dp
    omega
  · exact hq h' tk e M
/-- it is raised: the object is let go, its dict stands as an exception's dict -/
theorem mk_raise {pins : List (Addr × Obj)} {σ : St} {H1 : Hp} {s1 : Shared} {h' : Heap} {tk : Nat} {e : Addr} {fs : List (Str × V)} {Q : XK} (T : FK.Flt X.prog X.K X.mg x C fl ps) (I1 : Inv X pins σ H1 s1) (M : FK.Made s1.heap h' e C fs) (q : ∀ d, H1 d = none → Q (.ref C) (some d) (upd H1 d (.xd fs))) :
    MkP X pins σ Q (.ref e) { s1 with heap := h', toks := tk } := by
  obtain ⟨hp, g, dr, t0, os⟩ := s1
  obtain ⟨t1, d, e1, d1, d2, mA, n1, rel⟩ := M.ex
  obtain ⟨G', g1, g2⟩ := restrict h' fun b => decide (b ≠ e)
  have gk : ∀ b, b ≠ e → G'.get? b = h'.get? b := fun b hb => g1 b (decide_eq_true hb)
  have ge : G'.get? e = none := g2 e (by simp)
  have old : ∀ b o, hp.get? b = some o → G'.get? b = some o := fun b o q => (gk b (Nat.ne_of_lt (Nat.lt_of_lt_of_le (Heap.lt_size q) M.new))).trans (M.keep b o q)
  have ob : ObjOk X.prog X.w (upd H1 d (.xd fs)) G' d (.xd fs) := ⟨_, n1.at (fun o q => (gk d d2).trans q), rel⟩
  have J : Inv X pins σ (upd H1 d (.xd fs)) ⟨G', g, dr, tk, os⟩ := I1.laid (t' := tk) old d1 ob
  refine ⟨e, _, _, ⟨G', g, dr, tk, os⟩, _, .ref C, some d, rfl, J, fun b o q => ?_, ge, e1, ⟨rfl, rfl⟩, rfl, rfl, ?_, rfl, I1.bare, raises_own T.exC T.tyC, q d (I1.hok.fresh d1)⟩
  · by_cases hb : b = e
    · have q' : G'.get? b = some o := q
      rw [hb, ge] at q'
      cases q'
    · exact (gk b hb).symm.trans q
  · rw [upd_ne (Ne.symm d2)]
    exact I1.hok.fresh M.new
theorem pmk_flt {e : Expr} {es : List Expr} {ta : TA} {p pos : Pos} {k : Nat} (T : FK.Flt X.prog X.K X.mg x C fl ps) (hr : Room (k + 1) X.A) (ha : PA X (e :: es) ta) (hps : ps.length ≤ 1000 := by decide) (hg : Gl X x := by rfl)
    (he : starEach (e :: es) X.env = (false, eval e X.env) :: starEach es X.env := by rfl) (hpl : (backTo pos (starEach es X.env)).any (·.1) = false := by rfl) :
    PMk X (.Call (.Name x p) (e :: es) [] pos) (tMkF C ps fl ta) := by
  intro pins s σ H Q I h
  refine wpAny_Call_Name_kw (ld_glob I hg T.gC ?_ T.db)
  refine PySem.W.callWith_K (h₀ := X.base) I.ok.mod.kin T.kC (thn (ha.run pos pins s σ H _ I h) fun us s1 ⟨vs, H1, I1, r1, hl, q1⟩ => ⟨I1.kIn, ?_⟩) he hpl
  exact mk_core T hr I1 r1 hl hps fun h' tk e M => mk_raise T I1 M q1
/-- raise C(e, ..) -/
def tRaiseF (C : Addr) (ps : List Str) (fl : List (Str × FK.Src)) (W : WX) (ta : TA) : TS := fun _ σ H => tMkF C ps fl ta σ H fun cls d H' => W cls d σ H'
theorem ps_raiseF {e : Expr} {es : List Expr} {ta : TA} {W : WX} {p pos pos2 : Pos} {k : Nat} (hc : X.calm = true) (T : FK.Flt X.prog X.K X.mg x C fl ps) (hr : Room (k + 1) X.A) (tk : Takes X W) (ha : PA X (e :: es) ta) (hps : ps.length ≤ 1000 := by decide) (hg : Gl X x := by rfl)
    (he : starEach (e :: es) X.env = (false, eval e X.env) :: starEach es X.env := by rfl) (hpl : (backTo pos (starEach es X.env)).any (·.1) = false := by rfl) :
    PS X (.Raise (some (.Call (.Name x p) (e :: es) [] pos)) none pos2) (tRaiseF C ps fl W ta) := ps_raise hc tk (pmk_flt T hr ha hps hg he hpl)

/-! ### errors held as values -/
/-- at a: an error of the class at C, its dict at d -/
abbrev ExV (H : Hp) (a C d : Addr) (fs : List (Str × V)) : Prop := H a = some (exo a C (some d)) ∧ H d = some (.xd fs)
theorem mk_value {pins : List (Addr × Obj)} {σ : St} {H1 : Hp} {s1 : Shared} {h' : Heap} {tk : Nat} {e : Addr} {fs : List (Str × V)} {Q : VK} (I1 : Inv X pins σ H1 s1) (M : FK.Made s1.heap h' e C fs)
    (q : ∀ a d, H1 a = none → H1 d = none → d ≠ a → Q (.ref a) (upd (upd H1 d (.xd fs)) a (exo a C (some d)))) : EP X pins σ Q (.ref e) { s1 with heap := h', toks := tk } := by
  obtain ⟨hp, g, dr, t0, os⟩ := s1
  obtain ⟨t1, d, e1, d1, d2, mA, n1, rel⟩ := M.ex
  have ob : ObjOk X.prog X.w (upd H1 d (.xd fs)) h' d (.xd fs) := ⟨_, n1, rel⟩
  have J : Inv X pins σ (upd H1 d (.xd fs)) ⟨h', g, dr, tk, os⟩ := I1.laid (t' := tk) M.keep d1 ob
  have na : H1 e = none := I1.hok.fresh M.new
  have nd : H1 d = none := I1.hok.fresh d1
  have na2 : upd H1 d (.xd fs) e = none := by rw [upd_ne (Ne.symm d2)]; exact na
  have Un1 : Un X.fs [] H1 (upd (upd H1 d (.xd fs)) e (exo e C (some d))) hp h' := {
    keep := fun b o q _ _ _ => M.keep b o q
    slot := fun b o q _ _ _ => ⟨o.slots, M.keep b o q⟩
    free := fun b o q n _ => by
      have lt := Heap.lt_size q
      rw [upd_ne (Nat.ne_of_lt (Nat.lt_of_lt_of_le lt M.new)), upd_ne (Nat.ne_of_lt (Nat.lt_of_lt_of_le lt d1))]
      exact n
    there := fun b o q _ => ⟨o, M.keep b o q⟩
    tups := fun b xs q => by rw [upd_ne (ne_of_none q na), upd_ne (ne_of_none q nd)]; exact q
    frzs := fun b o v q => by rw [upd_ne (ne_of_none q na), upd_ne (ne_of_none q nd)]; exact q
    tbls := fun b ps q => ⟨#[], by rw [upd_ne (ne_of_none q na), upd_ne (ne_of_none q nd), q]; simp⟩ }
  refine ⟨.ref e, _, I1.un (t' := tk) Un1 fun b o q => ?_, rfl, q e d na nd d2⟩
  by_cases hb : b = e
  · subst hb
    rw [upd_same] at q
    cases q
    exact exo_ok e1
  · rw [upd_ne hb] at q
    exact (J.hok b o q).stay (fun c v hc z => z) (fun c hc => by rw [upd_ne (ne_of_none hc na2)]; exact hc) (fun c xs hc => by rw [upd_ne (ne_of_none hc na2)]; exact hc)
/-- C(e, ..) as a value -/
def tMkV (C : Addr) (ps : List Str) (fl : List (Str × FK.Src)) (ta : TA) : TE := fun σ H Q => ta σ H fun vs H1 => vs.length = ps.length ∧ ∀ a d, H1 a = none → H1 d = none → d ≠ a → Q (.ref a) (upd (upd H1 d (.xd (FK.flds ps fl vs))) a (exo a C (some d)))
theorem pe_flt {e : Expr} {es : List Expr} {ta : TA} {p pos : Pos} {k : Nat} (T : FK.Flt X.prog X.K X.mg x C fl ps) (hr : Room (k + 1) X.A) (ha : PA X (e :: es) ta) (hps : ps.length ≤ 1000 := by decide) (hg : Gl X x := by rfl)
    (he : starEach (e :: es) X.env = (false, eval e X.env) :: starEach es X.env := by rfl) (hpl : (backTo pos (starEach es X.env)).any (·.1) = false := by rfl) :
    PE X (.Call (.Name x p) (e :: es) [] pos) (tMkV C ps fl ta) := by
  refine ⟨fun pins s σ H Q I h => ?_⟩
  refine wpAny_Call_Name_kw (ld_glob I hg T.gC ?_ T.db)
  refine PySem.W.callWith_K (h₀ := X.base) I.ok.mod.kin T.kC (thn (ha.run pos pins s σ H _ I h) fun us s1 ⟨vs, H1, I1, r1, hl, q1⟩ => ⟨I1.kIn, ?_⟩) he hpl
  exact mk_core T hr I1 r1 hl hps fun h' tk e M => mk_value I1 M q1
/-- e.f of an error that is held -/
def tXFld (K : PySem.W.Frag) (te : TE) (f : Str) : TE := fun σ H Q => te σ H fun x H1 => ∃ a C d fs v, x = .ref a ∧ ExV H1 a C d fs ∧ (∃ prog mg nm fl ps, FK.Flt prog K mg nm C fl ps) ∧ PySem.W.findIn K (.ref C) f = some none ∧ fs.lookup f = some v ∧ Q v H1
theorem pe_xfld {e : Expr} {te : TE} {f : Str} {pos : Pos} (he : PE X e te) (hb : attributeBase e f X.env (eval e X.env) = eval e X.env) : PE X (.Attribute e f pos) (tXFld X.K te f) := by
  refine ⟨fun pins s σ H Q I h => ?_⟩
  refine attr_of hb (thn (he.run pins s σ H _ I h) fun u s1 hh => ?_)
  obtain ⟨x, H1, I1, rx, a, C, d, fs, v, ex, ⟨ea, ed⟩, ⟨_, _, _, _, _, T⟩, hno, l, q⟩ := hh
  subst ex
  obtain rfl : u = Value.ref a := rx
  obtain ⟨t1, ho⟩ := exo_at I1.hok ea
  obtain ⟨mA, hns, hr⟩ := (show ObjOk X.prog X.w H1 s1.heap d (.xd fs) from I1.hok d _ ed)
  obtain ⟨od, hod, hl⟩ := lookIn_ns hns
  obtain ⟨u, hu, ru⟩ := RelO.some_of (v := v) (o := mA f) (by rw [← l]; exact hr f)
  have J : PySem.W.InstAt s1.heap a (FK.xo C t1 (some d)) C (some od) := ⟨ho, rfl, rfl, hod⟩
  exact PySem.HandSPX.exc_get I1.kIn J T.ga T.gg T.exC (PySem.W.findObj_own T.dict hno rfl (by rw [hl, hu])) (handed_of ru) ⟨v, H1, I1.tok _, ru, q⟩
end
end L2
end
section
set_option Elab.async false
set_option linter.all false
set_option maxRecDepth 100000
set_option maxHeartbeats 4000000
/-! The head's facts for a law over the package: defs, facts, exception classes, one Bool more. -/
namespace Hf
open PySem PySem.Spec PyProof.Rows L2 He
abbrev IniW : Type := Option (Str × Str × Arguments × FuncBody × Scope × Addr × List Str × Addr)
def iniW (K : PySem.W.Frag) (x : Str) : IniW := match K.lookup (ma K (ga K x) "__init__") with
  | some ⟨_, _, .func fd, _⟩ => some (fd.name, fd.qualname, fd.params, fd.body, fd.scope, fd.globals, fd.closure.map (·.1), fd.builtins)
  | _ => none
/-- one exception class: its name, its family (0 ValueError, 1 LookupError, 2 RuntimeError), its __init__, its parameters and fields -/
structure FltD where
  x : Str
  fam : Nat
  st : Stmt
  ps : List Str
  fl : List (Str × FK.Src)
def FltD.val (d : FltD) : IniW := some (("__init__" : Str), d.x ++ ".__init__", defArgs d.st, FuncBody.stmts (defBody d.st), defScope d.st, mainGlobals, [("__class__" : Str)], builtinsNs)
def famB : Nat → String
  | 0 => "ValueError"
  | 1 => "LookupError"
  | _ => "RuntimeError"
def famBm : Nat → List Value
  | 0 => FK.bmV
  | 1 => FK.bmL
  | _ => FK.bmR
def newB : Nat → String
  | 0 => "ValueError.__new__"
  | 1 => "LookupError.__new__"
  | _ => "RuntimeError.__new__"
def initB : Nat → String
  | 0 => "ValueError.__init__"
  | 1 => "LookupError.__init__"
  | _ => "RuntimeError.__init__"
theorem fam_ok : ∀ n : Nat, FK.Fam (famB n) (newB n) (initB n) (famBm n)
  | 0 => FK.famV
  | 1 => FK.famL
  | _ + 2 => FK.famR
theorem init_eq : ∀ n : Nat, initB n = famB n ++ ".__init__"
  | 0 => by decide
  | 1 => by decide
  | _ + 2 => by show "RuntimeError.__init__" = "RuntimeError" ++ ".__init__"; decide
/-- the closure's one cell holds the class; the code's file is the program's -/
def tieB (K : PySem.W.Frag) (file : Str) (q : Str) (C f : Addr) : Bool := match K.lookup f with
  | some ⟨_, _, .func fd, _⟩ => (match fd.defaults, fd.kwdefaults, fd.closure, fd.code with
    | .none, .none, [(_, cc)], .ref cda => PySem.W.codeIn K (.ref cda) q && ((match K.lookup cc with
      | some ⟨_, _, .cell (some (.ref D)), _⟩ => decide (D = C)
      | _ => false) && (match K.lookup cda with
      | some ⟨_, _, .fields vs, _⟩ => (match (vs[2]? : Option Value) with
        | some (.str fl _) => (file == fl)
        | _ => false)
      | _ => false))
    | _, _, _, _ => false)
  | _ => false
def FltD.ok (K : PySem.W.Frag) (file : Str) (d : FltD) : Bool :=
  let C := ga K d.x
  let f := ma K C "__init__"
  eqO (PySem.W.nsIn K mainGlobals d.x) (some (some (.ref C))) && (PySem.W.excInitIn K C (famBm d.fam) (newB d.fam) && (PySem.W.excOver K C (famBm d.fam) && (eqO (PySem.W.findIn K (.ref C) "__setattr__") (some (some (.builtin "object.__setattr__"))) &&
  (PySem.W.hasDictIn K C && (decide (PySem.W.subIn K (.ref C) (.type (famB d.fam)) = some true) && (eqO (PySem.W.ks_superIn K C C "__init__") (some (some (.builtin (initB d.fam)))) && ((d.fl.all fun p => eqO (PySem.W.findIn K (.ref C) p.1) (some none)) &&
  (eqO (PySem.W.nsIn K cStatics "thirdparty.any") (some none) && (PySem.W.keepIn K (.ref C) && (decide (PySem.W.subIn K (.ref C) (.type "BaseException") = some true) && (decide (PySem.W.typeIn K (.ref C) = some (.type "type")) &&
  (eqO (PySem.W.findIn K (.ref C) "__getattribute__") (some (some (.builtin "BaseException.__getattribute__"))) && (eqO (PySem.W.findIn K (.ref C) "__getattr__") (some none) && (eqO (PySem.W.findIn K (.ref C) "__class__") (some (some (.builtin "object.__class__"))) &&
  (eqO (PySem.W.specialIn K (.builtin "object.__class__") "__get__") (some (some (.builtin "getset_descriptor.__get__"))) && (decide (PySem.W.takesIn K (.builtin "object.__class__") = some true) && (decide (PySem.W.mroIn K C (.type "object") = some true) &&
  (eqO (PySem.W.findIn K (.ref C) "__init__") (some (some (.ref f))) && (decide (PySem.W.typeIn K (.ref f) = some (.type "function")) && (eqO (PySem.W.nsIn K mainGlobals "super") (some none) && tieB K file (d.x ++ ".__init__") C f))))))))))))))))))))
/-- what of the text is asked, beside -/
structure FltT (prog : Program) (d : FltD) : Prop where
  tx : FK.IniTx prog d.st d.ps d.fl
  bd : FK.BindP (d.x ++ ".__init__") d.st d.ps
  ne : d.fl ≠ []
  db : (d.x == ("__debug__" : Str)) = false
theorem tie_ok {K : PySem.W.Frag} {prog : Program} {C f : Addr} {q : Str} {st : Stmt} {x : Str} (h : tieB K prog.main.file q C f = true) (hf : f = ma K (ga K x) "__init__")
    (hw : iniW K x = (some (("__init__" : Str), q, defArgs st, FuncBody.stmts (defBody st), defScope st, mainGlobals, [("__class__" : Str)], builtinsNs) : IniW)) : FK.IniFn prog K C f q st := by
  subst hf
  unfold tieB at h
  unfold iniW at hw
  cases e : K.lookup (ma K (ga K x) "__init__") with
  | none =>
    rw [e] at h
    cases h
  | some o =>
    obtain ⟨oc, od, dt, osl⟩ := o
    rw [e] at h hw
    cases dt with
    | func fd =>
      obtain ⟨n1, n2, n3, n4, n5, n6, n7, n8, n9, n10, n11, n12, n13, n14, n15⟩ := fd
      have e2 : (some (n1, n2, n3, n4, n5, n6, n7.map (·.1), n15) : IniW) = some (("__init__" : Str), q, defArgs st, FuncBody.stmts (defBody st), defScope st, mainGlobals, [("__class__" : Str)], builtinsNs) := hw
      simp only [Option.some.injEq, Prod.mk.injEq] at e2
      obtain ⟨h1, h2, h3, h4, h5, h6, h7, h8⟩ := e2
      subst h1 h2 h3 h4 h5 h6 h8
      dsimp only at h
      split at h
      · rename_i nm cc cda
        have hn : nm = ("__class__" : Str) := by simpa using h7
        subst hn
        obtain ⟨c1, c2⟩ := ba h
        obtain ⟨c3, c4⟩ := ba c2
        split at c3
        · rename_i k1 k2 D k3 ek
          have eD : D = C := of_decide_eq_true c3
          subst eD
          split at c4
          · rename_i v1 v2 vs v3 ev
            split at c4
            · rename_i fl tk efl
              exact ⟨oc, od, n10, n11, n14, n12, osl, cda, cc, e, c1, ⟨_, _, vs, _, fl, tk, ev, efl, c4⟩, ⟨_, _, _, ek⟩⟩
            · cases c4
          · cases c4
        · cases c3
      · cases h
    | _ => cases h
theorem flt_ok {K : PySem.W.Frag} {prog : Program} {mg : Str → Option Value} {h : Heap} {d : FltD} (X : K.In h) (G : h.Ns mainGlobals mg) (c : d.ok K prog.main.file = true) (w : iniW K d.x = d.val) (t : FltT prog d) : FK.Flt prog K mg d.x (ga K d.x) d.fl d.ps := by
  unfold FltD.ok at c
  simp only [Bool.and_eq_true] at c
  obtain ⟨c1, c2, c3, c4, c5, c6, c7, c8, c9, c10, c11, c12, c13, c14, c15, c16, c17, c18, c19, c20, c21, c22⟩ := c
  refine ⟨⟨famB d.fam, newB d.fam, initB d.fam, famBm d.fam, d.st, ma K (ga K d.x) "__init__", fam_ok d.fam, init_eq d.fam, ⟨c2, c3, eqO_ok c4, c5, of_decide_eq_true c6, ?_⟩, tie_ok c22 rfl w, t.tx, t.bd, eqO_ok c19, of_decide_eq_true c20⟩,
    t.ne, PySem.W.mg_none_of X G (eqO_ok c21), fun p hp => eqO_ok (List.all_eq_true.mp c8 p hp), eqO_ok c9, c10, PySem.W.mg_of X G (eqO_ok c1), of_decide_eq_true c11, of_decide_eq_true c12, eqO_ok c13, eqO_ok c14, c5, eqO_ok c15, eqO_ok c16, of_decide_eq_true c17, of_decide_eq_true c18, t.db⟩
  rw [← init_eq]
  exact eqO_ok c7
/-! ### static methods -/
def fnWa (K : PySem.W.Frag) (f : Addr) : FnW := match K.lookup f with
  | some ⟨_, _, .func fd, _⟩ => some (fd.name, fd.qualname, fd.params, fd.body, fd.scope, fd.globals, fd.closure, fd.builtins)
  | _ => none
/-- the static method m of the class x: its def (d.at_ is not looked at) -/
structure SDef where
  x : Str
  m : Str
  d : DefD
def SDef.ad (K : PySem.W.Frag) (s : SDef) : Addr := He5.wf K (ga K s.x) "staticmethod" s.m
def SDef.ok (K : PySem.W.Frag) (s : SDef) : Bool := He5.wrapB K (ga K s.x) "staticmethod" "staticmethod.__get__" s.m && (PySem.W.readsIn K (ga K s.x) (.type "type") &&
  (eqO (PySem.W.specialIn K (.ref (ga K s.x)) "__getattribute__") (some (some (.builtin "type.__getattribute__"))) && (PySem.W.keepIn K (.ref (s.ad K)) && (match K.lookup (s.ad K) with
  | some ⟨_, _, .func fd, _⟩ => PySem.W.codeIn K fd.code s.d.qual && (dflB K fd.defaults (s.d.dvs K) && kwdB K fd.kwdefaults (s.d.kws K))
  | _ => false))))
theorem SDef.funD {K : PySem.W.Frag} {s : SDef} (e : fnWa K (s.ad K) = s.d.val) (c : s.ok K = true) : ∃ fd, FunD K s.d.name s.d.qual s.d.params s.d.body s.d.scope (s.d.dvs K) (s.d.kws K) (s.ad K) fd := by
  obtain ⟨c1, c⟩ := ba c
  obtain ⟨c3, c⟩ := ba c
  obtain ⟨c5, c⟩ := ba c
  obtain ⟨kp, c2⟩ := ba c
  clear c c1 c3 c5
  unfold fnWa at e
  generalize hf : s.ad K = f at e kp c2
  cases q : K.lookup f with
  | none =>
    rw [q] at c2
    cases c2
  | some o =>
    obtain ⟨oc, od, dt, osl⟩ := o
    rw [q] at c2 e
    cases dt with
    | func fd =>
      obtain ⟨n1, n2, n3, n4, n5, n6, n7, n8, n9, n10, n11, n12, n13, n14, n15⟩ := fd
      have e2 : (some (n1, n2, n3, n4, n5, n6, n7, n15) : FnW) = some (s.d.name, s.d.qual, s.d.params, .stmts s.d.body, s.d.scope, mainGlobals, [], builtinsNs) := e
      simp only [Option.some.injEq, Prod.mk.injEq] at e2
      obtain ⟨h1, h2, h3, h4, h5, h6, h7, h8⟩ := e2
      subst h1 h2 h3 h4 h5 h6 h7 h8
      have c3 : (PySem.W.codeIn K n13 s.d.qual && (dflB K n8 (s.d.dvs K) && kwdB K n9 (s.d.kws K))) = true := c2
      obtain ⟨k1, k2⟩ := ba c3
      obtain ⟨k3, k4⟩ := ba k2
      exact ⟨_, ⟨oc, od, n8, n9, n10, n11, n12, n13, n14, osl, rfl, q, k1, dflB_ok k3, kwdB_ok k4⟩, kp⟩
    | _ => cases c2
/-! ### the Hook -/
abbrev AlF : Type := Bool × List FnW × List IniW × List FnW
/-- what is looked at: facts, defs, exception classes, a Bool of one's own -/
structure Ask where
  file : Str
  fa : List Fa
  fn : List DefD
  fx : List FltD
  xt : PySem.W.Frag → Bool
  fs : List SDef := []
def Ask.obs (a : Ask) (K : PySem.W.Frag) : AlF := ((a.fa.all fun f => f.ok K) && ((a.fn.all fun d => d.ok K) && ((a.fx.all fun d => d.ok K a.file) && (a.xt K && a.fs.all fun d => d.ok K))), a.fn.map (fun d => fnW K d.at_), a.fx.map (fun d => iniW K d.x), a.fs.map fun d => fnWa K (d.ad K))
def Ask.val (a : Ask) : AlF := (true, a.fn.map DefD.val, a.fx.map FltD.val, a.fs.map fun d => d.d.val)
def Says (a : Ask) (K : PySem.W.Frag) : Prop := a.obs K = a.val
def asF (g : Addr → Option Obj) (n : Nat) : List Addr := cStatics :: asD g n
def Ask.obsG (n : Nat) (a : Ask) (g : Addr → Option Obj) : AlF := a.obs (frG g (asF g n))
def hookF (n : Nat) (a : Ask) : PySem.W.Hook where
  α := AlF
  obs := fun s => a.obsG n s.heap.get?
  val := fun _ => a.val
  says := fun _ h => ∃ K : PySem.W.Frag, K.In h ∧ Says a K
  of := fun _ _ e => ⟨_, frG_in, e⟩
  keeps := fun _ _ _ ⟨K, hK, c⟩ k => ⟨K, PySem.W.Frag.In.keeps hK k, c⟩
theorem obsG_eq {n : Nat} {a : Ask} {g : Addr → Option Obj} {s : Shared} (h : ∀ b, g b = s.heap.get? b) : a.obsG n g = (hookF n a).obs s := by
  have e : g = s.heap.get? := funext h
  rw [e] <;> rfl
section
variable {a : Ask} {K : PySem.W.Frag}
theorem Says.all (c : Says a K) : (a.fa.all fun f => f.ok K) = true ∧ (a.fn.all fun d => d.ok K) = true ∧ (a.fx.all fun d => d.ok K a.file) = true ∧ a.xt K = true := by
  have c1 := ba (show ((a.fa.all fun f => f.ok K) && ((a.fn.all fun d => d.ok K) && ((a.fx.all fun d => d.ok K a.file) && (a.xt K && a.fs.all fun d => d.ok K)))) = true from congrArg (fun z : AlF => z.1) c)
  have c2 := ba c1.2
  have c3 := ba c2.2
  exact ⟨c1.1, c2.1, c3.1, (ba c3.2).1⟩
theorem Says.sts (c : Says a K) : (a.fs.all fun d => d.ok K) = true := by
  have c1 := ba (show ((a.fa.all fun f => f.ok K) && ((a.fn.all fun d => d.ok K) && ((a.fx.all fun d => d.ok K a.file) && (a.xt K && a.fs.all fun d => d.ok K)))) = true from congrArg (fun z : AlF => z.1) c)
  exact (ba (ba (ba c1.2).2).2).2
theorem Says.sdef (c : Says a K) (i : Nat) {d : SDef} (h : a.fs[i]? = some d := by rfl) : ∃ fd, FunD K d.d.name d.d.qual d.d.params d.d.body d.d.scope (d.d.dvs K) (d.d.kws K) (d.ad K) fd := by
  have e : (a.fs.map fun d => fnWa K (d.ad K)) = a.fs.map fun d => d.d.val := congrArg (fun z : AlF => z.2.2.2) c
  have e2 : (a.fs.map fun d => fnWa K (d.ad K))[i]? = (a.fs.map fun d => d.d.val)[i]? := by rw [e]
  rw [List.getElem?_map, List.getElem?_map, h] at e2
  exact SDef.funD (Option.some.inj e2) (List.all_eq_true.mp c.sts d (List.mem_of_getElem? h))
theorem Says.sok (c : Says a K) (i : Nat) {d : SDef} (h : a.fs[i]? = some d := by rfl) : d.ok K = true := List.all_eq_true.mp c.sts d (List.mem_of_getElem? h)
theorem Says.fact (c : Says a K) (i : Nat) {f : Fa} (h : a.fa[i]? = some f := by rfl) : f.ok K = true := List.all_eq_true.mp c.all.1 f (List.mem_of_getElem? h)
theorem Says.glo {h : Heap} {mg : Str → Option Value} (c : Says a K) (X : K.In h) (G : h.Ns mainGlobals mg) {x : Str} (m : Fa.glo x ∈ a.fa) : mg x = some (.ref (ga K x)) := glo_ok X G (List.all_eq_true.mp c.all.1 _ m)
theorem Says.free {h : Heap} {mg : Str → Option Value} (c : Says a K) (X : K.In h) (G : h.Ns mainGlobals mg) {x : Str} (m : Fa.free x ∈ a.fa) : mg x = none := free_ok X G (List.all_eq_true.mp c.all.1 _ m)
theorem Says.def_ (c : Says a K) (i : Nat) {d : DefD} (h : a.fn[i]? = some d := by rfl) : ∃ fd, FunD K d.name d.qual d.params d.body d.scope (d.dvs K) (d.kws K) (fAd K d.at_) fd := by
  have e : a.fn.map (fun d => fnW K d.at_) = a.fn.map DefD.val := congrArg (fun z : AlF => z.2.1) c
  have e2 : (a.fn.map fun d => fnW K d.at_)[i]? = (a.fn.map DefD.val)[i]? := by rw [e]
  rw [List.getElem?_map, List.getElem?_map, h] at e2
  exact DefD.funD (Option.some.inj e2) (List.all_eq_true.mp c.all.2.1 d (List.mem_of_getElem? h))
theorem Says.flt {prog : Program} {h : Heap} {mg : Str → Option Value} (c : Says a K) (X : K.In h) (G : h.Ns mainGlobals mg) (ef : a.file = prog.main.file) (i : Nat) {d : FltD} (hd : a.fx[i]? = some d) (t : FltT prog d) : FK.Flt prog K mg d.x (ga K d.x) d.fl d.ps := by
  have e : a.fx.map (fun d => iniW K d.x) = a.fx.map FltD.val := congrArg (fun z : AlF => z.2.2.1) c
  have e2 : (a.fx.map fun d => iniW K d.x)[i]? = (a.fx.map FltD.val)[i]? := by rw [e]
  rw [List.getElem?_map, List.getElem?_map, hd] at e2
  exact flt_ok X G (ef ▸ List.all_eq_true.mp c.all.2.2.1 d (List.mem_of_getElem? hd)) (Option.some.inj e2) t
end
end Hf
end
section
namespace C
open PySem PySem.Spec PyProof.Rows L2 RZ
/-! ### what the head says of own classes -/
abbrev CL : Type := List (Str × List Str)
def bTys : List String := ["NoneType", "bool", "int", "str", "list", "tuple"]
/-- what the head says of the own classes L (each with its fields) -/
def clsB (L : CL) (K : PySem.W.Frag) : Bool := He.eqO (PySem.W.specialIn K (.builtin "object.__class__") "__get__") (some (some (.builtin "getset_descriptor.__get__"))) && (decide (PySem.W.takesIn K (.builtin "object.__class__") = some true) &&
  L.all fun p => (He.Fa.cls p.1).ok K && ((p.2.all fun f => He.eqO (PySem.W.findIn K (.ref (He.ga K p.1)) f) (some none)) && (He.eqO (PySem.W.findIn K (.ref (He.ga K p.1)) "__class__") (some (some (.builtin "object.__class__"))) && (decide (PySem.W.mroIn K (He.ga K p.1) (.type "object") = some true) &&
    ((L.all fun q => decide (PySem.W.kitOne K (.ref (He.ga K p.1)) (.ref (He.ga K q.1)) = some (p.1 == q.1))) && bTys.all fun T => decide (PySem.W.kitOne K (.type T) (.ref (He.ga K p.1)) = some false) && decide (PySem.W.kitOne K (.ref (He.ga K p.1)) (.type T) = some false))))))
abbrev CLw : CL := [("Whole", ["deep", "_told", "text"])]
/-- what the head says for k12: the class, its operators first, gcd and lcm -/
def wholeB12 (K : PySem.W.Frag) : Bool := clsB CLw K && (PySem.W.selfFirst K (He.ga K "Whole") && (He.eqO (PySem.W.nsIn K mainGlobals "gcd") (some (some (.builtin "math.gcd"))) && He.eqO (PySem.W.nsIn K mainGlobals "lcm") (some (some (.builtin "math.lcm")))))

end C
end
section
set_option maxHeartbeats 0
namespace D
open PySem PySem.Spec PyProof.Rows L2
def topS (i : Nat) : Stmt := PySem.Challenge.pw_leastfetched_k12_whole_modular_law.main.body.getD i (.Pass ⟨0, 0, 0, 0⟩)
abbrev s_law_bag : Stmt := topS 28
abbrev s_law_draw : Stmt := topS 29
abbrev s_law_of : Stmt := topS 30
abbrev s_law_deep : Stmt := topS 41
abbrev s_law_rows : Stmt := topS 42
abbrev s_law_parts : Stmt := topS 43
abbrev s_law_gcd : Stmt := topS 33
abbrev s_law_thin : Stmt := topS 34
abbrev s_law_clear : Stmt := topS 35
abbrev s_law_told : Stmt := topS 36
abbrev s_law_int : Stmt := topS 31
abbrev s_law_like : Stmt := topS 32
abbrev s_law_zeros : Stmt := topS 37
abbrev s_law_meet : Stmt := topS 38
abbrev s_law_rows_text : Stmt := topS 39
abbrev s_Whole_told : Stmt := inClass (topS 26) 9
abbrev s_law_is_whole : Stmt := topS 40
abbrev s_primitive_row : Stmt := topS 3
abbrev s_first_with : Stmt := topS 8
abbrev s_led_row : Stmt := topS 5
abbrev s_struck : Stmt := topS 7
abbrev s_echelon : Stmt := topS 9
abbrev s_integer_text : Stmt := topS 22
abbrev s_row_text : Stmt := topS 23
abbrev s_rows_text : Stmt := topS 24
abbrev s_Whole_init : Stmt := inClass (topS 26) 0
abbrev s_Whole_add : Stmt := inClass (topS 26) 7
abbrev s_lead_place : Stmt := topS 4
abbrev s_lead_multiple : Stmt := topS 10
abbrev s_one_solution : Stmt := topS 16
abbrev s_solved : Stmt := topS 17
abbrev s_solutions : Stmt := topS 18
abbrev s_meet_rows : Stmt := topS 19
abbrev s_Whole_and : Stmt := inClass (topS 26) 8
abbrev s_Whole_eq : Stmt := inClass (topS 26) 3
abbrev s_law_both_so : Stmt := topS 44
abbrev s_lies_in : Stmt := topS 11
abbrev s_Whole_within : Stmt := inClass (topS 26) 10
abbrev s_law : Stmt := topS 45
end D
namespace D
open PySem PySem.Spec PyProof.Rows L2
def d_law_bag : He.DefD := ⟨("_law_bag", none), "_law_bag", "_law_bag", defArgs s_law_bag, defBody s_law_bag, defScope s_law_bag, [], []⟩
def d_law_draw : He.DefD := ⟨("_law_draw", none), "_law_draw", "_law_draw", defArgs s_law_draw, defBody s_law_draw, defScope s_law_draw, [], []⟩
def d_law_of : He.DefD := ⟨("_law_of", none), "_law_of", "_law_of", defArgs s_law_of, defBody s_law_of, defScope s_law_of, [], []⟩
def d_law_deep : He.DefD := ⟨("_law_deep", none), "_law_deep", "_law_deep", defArgs s_law_deep, defBody s_law_deep, defScope s_law_deep, [], []⟩
def d_law_rows : He.DefD := ⟨("_law_rows", none), "_law_rows", "_law_rows", defArgs s_law_rows, defBody s_law_rows, defScope s_law_rows, [], []⟩
def d_law_parts : He.DefD := ⟨("_law_parts", none), "_law_parts", "_law_parts", defArgs s_law_parts, defBody s_law_parts, defScope s_law_parts, [], []⟩
def d_law_gcd : He.DefD := ⟨("_law_gcd", none), "_law_gcd", "_law_gcd", defArgs s_law_gcd, defBody s_law_gcd, defScope s_law_gcd, [], []⟩
def d_law_thin : He.DefD := ⟨("_law_thin", none), "_law_thin", "_law_thin", defArgs s_law_thin, defBody s_law_thin, defScope s_law_thin, [], []⟩
def d_law_clear : He.DefD := ⟨("_law_clear", none), "_law_clear", "_law_clear", defArgs s_law_clear, defBody s_law_clear, defScope s_law_clear, [], []⟩
def d_law_told : He.DefD := ⟨("_law_told", none), "_law_told", "_law_told", defArgs s_law_told, defBody s_law_told, defScope s_law_told, [], []⟩
def d_law_int : He.DefD := ⟨("_law_int", none), "_law_int", "_law_int", defArgs s_law_int, defBody s_law_int, defScope s_law_int, [], []⟩
def d_law_like : He.DefD := ⟨("_law_like", none), "_law_like", "_law_like", defArgs s_law_like, defBody s_law_like, defScope s_law_like, [], []⟩
def d_law_zeros : He.DefD := ⟨("_law_zeros", none), "_law_zeros", "_law_zeros", defArgs s_law_zeros, defBody s_law_zeros, defScope s_law_zeros, [], []⟩
def d_law_meet : He.DefD := ⟨("_law_meet", none), "_law_meet", "_law_meet", defArgs s_law_meet, defBody s_law_meet, defScope s_law_meet, [], []⟩
def d_law_rows_text : He.DefD := ⟨("_law_rows_text", none), "_law_rows_text", "_law_rows_text", defArgs s_law_rows_text, defBody s_law_rows_text, defScope s_law_rows_text, [], []⟩
def d_Whole_told : He.DefD := ⟨("Whole", some "told"), "told", "Whole.told", defArgs s_Whole_told, defBody s_Whole_told, defScope s_Whole_told, [], []⟩
def d_law_is_whole : He.DefD := ⟨("_law_is_whole", none), "_law_is_whole", "_law_is_whole", defArgs s_law_is_whole, defBody s_law_is_whole, defScope s_law_is_whole, [], []⟩
def d_primitive_row : He.DefD := ⟨("primitive_row", none), "primitive_row", "primitive_row", defArgs s_primitive_row, defBody s_primitive_row, defScope s_primitive_row, [], []⟩
def d_first_with : He.DefD := ⟨("first_with", none), "first_with", "first_with", defArgs s_first_with, defBody s_first_with, defScope s_first_with, [], []⟩
def d_led_row : He.DefD := ⟨("led_row", none), "led_row", "led_row", defArgs s_led_row, defBody s_led_row, defScope s_led_row, [], []⟩
def d_struck : He.DefD := ⟨("struck", none), "struck", "struck", defArgs s_struck, defBody s_struck, defScope s_struck, [], []⟩
def d_echelon : He.DefD := ⟨("echelon", none), "echelon", "echelon", defArgs s_echelon, defBody s_echelon, defScope s_echelon, [], []⟩
def d_integer_text : He.DefD := ⟨("integer_text", none), "integer_text", "integer_text", defArgs s_integer_text, defBody s_integer_text, defScope s_integer_text, [], []⟩
def d_row_text : He.DefD := ⟨("row_text", none), "row_text", "row_text", defArgs s_row_text, defBody s_row_text, defScope s_row_text, [], []⟩
def d_rows_text : He.DefD := ⟨("rows_text", none), "rows_text", "rows_text", defArgs s_rows_text, defBody s_rows_text, defScope s_rows_text, [], []⟩
def d_Whole_init : He.DefD := ⟨("Whole", some "__init__"), "__init__", "Whole.__init__", defArgs s_Whole_init, defBody s_Whole_init, defScope s_Whole_init, [], []⟩
def d_Whole_add : He.DefD := ⟨("Whole", some "__add__"), "__add__", "Whole.__add__", defArgs s_Whole_add, defBody s_Whole_add, defScope s_Whole_add, [], []⟩
def d_lead_place : He.DefD := ⟨("lead_place", none), "lead_place", "lead_place", defArgs s_lead_place, defBody s_lead_place, defScope s_lead_place, [], []⟩
def d_lead_multiple : He.DefD := ⟨("lead_multiple", none), "lead_multiple", "lead_multiple", defArgs s_lead_multiple, defBody s_lead_multiple, defScope s_lead_multiple, [], []⟩
def d_one_solution : He.DefD := ⟨("one_solution", none), "one_solution", "one_solution", defArgs s_one_solution, defBody s_one_solution, defScope s_one_solution, [], []⟩
def d_solved : He.DefD := ⟨("solved", none), "solved", "solved", defArgs s_solved, defBody s_solved, defScope s_solved, [], []⟩
def d_solutions : He.DefD := ⟨("solutions", none), "solutions", "solutions", defArgs s_solutions, defBody s_solutions, defScope s_solutions, [], []⟩
def d_meet_rows : He.DefD := ⟨("meet_rows", none), "meet_rows", "meet_rows", defArgs s_meet_rows, defBody s_meet_rows, defScope s_meet_rows, [], []⟩
def d_Whole_and : He.DefD := ⟨("Whole", some "__and__"), "__and__", "Whole.__and__", defArgs s_Whole_and, defBody s_Whole_and, defScope s_Whole_and, [], []⟩
def d_Whole_eq : He.DefD := ⟨("Whole", some "__eq__"), "__eq__", "Whole.__eq__", defArgs s_Whole_eq, defBody s_Whole_eq, defScope s_Whole_eq, [], []⟩
def d_law_both_so : He.DefD := ⟨("_law_both_so", none), "_law_both_so", "_law_both_so", defArgs s_law_both_so, defBody s_law_both_so, defScope s_law_both_so, [], []⟩
def d_lies_in : He.DefD := ⟨("lies_in", none), "lies_in", "lies_in", defArgs s_lies_in, defBody s_lies_in, defScope s_lies_in, [], []⟩
def d_Whole_within : He.DefD := ⟨("Whole", some "within"), "within", "Whole.within", defArgs s_Whole_within, defBody s_Whole_within, defScope s_Whole_within, [], []⟩
def d_law : He.DefD := ⟨("law", none), "law", "law", defArgs s_law, defBody s_law, defScope s_law, [], []⟩
def fn : List He.DefD := [d_law_bag, d_law_draw, d_law_of, d_law_deep, d_law_rows, d_law_parts, d_law_gcd, d_law_thin, d_law_clear, d_law_told, d_law_int, d_law_like, d_law_zeros, d_law_meet, d_law_rows_text, d_Whole_told, d_law_is_whole, d_primitive_row, d_first_with, d_led_row, d_struck, d_echelon, d_integer_text, d_row_text, d_rows_text, d_Whole_init, d_Whole_add, d_lead_place, d_lead_multiple, d_one_solution, d_solved, d_solutions, d_meet_rows, d_Whole_and, d_Whole_eq, d_law_both_so, d_lies_in, d_Whole_within, d_law]
def fs : List Hf.SDef := []
def fx : List Hf.FltD := []
def fa : List He.Fa := ([.glo "law", .glo "_law_bag", .glo "_law_draw", .glo "_law_of", .glo "_law_deep", .glo "_law_rows", .glo "_law_parts", .glo "_law_gcd", .glo "_law_thin", .glo "_law_clear", .glo "_law_told", .glo "_law_int", .glo "_law_like", .glo "_law_zeros", .glo "_law_meet", .glo "_law_rows_text", .glo "_law_is_whole", .glo "primitive_row", .glo "first_with", .glo "led_row", .glo "struck", .glo "echelon", .glo "integer_text", .glo "row_text", .glo "rows_text", .glo "lead_place", .glo "lead_multiple", .glo "one_solution", .glo "solved", .glo "solutions"] : List He.Fa) ++ ([.glo "meet_rows", .glo "_law_both_so", .glo "lies_in", .glo "Whole", .free "int", .free "list", .free "len", .free "range", .free "zip", .free "tuple", .free "abs", .free "isinstance", .free "bool", .free "str", .free "all", .free "enumerate", .free "any", .free "divmod", .int "LIMIT" 1000000000000000000000000000000000000000000000000000000000000, .mkr "Whole", .cls "Whole", .meth "Whole" "told", .meth "Whole" "__add__", .meth "Whole" "__and__", .meth "Whole" "__eq__", .meth "Whole" "within"] : List He.Fa)
def ask : Hf.Ask := ⟨PySem.Challenge.pw_leastfetched_k12_whole_modular_law.main.file, fa, fn, fx, C.wholeB12, fs⟩
abbrev R : PySem.W.OpenRow := PySem.W.OpenLaw.row PySem.Challenge.rw_leastfetched_k12_whole_modular_law
abbrev hk : PySem.W.Hook := Hf.hookF 4 ask
def ob (s : PySem.W.SharedT) : Hf.AlF := Hf.Ask.obsG 4 ask (HandSHeadRun.getT s)
theorem ob_eq (s : PySem.W.SharedT) : ob s = hk.obs s.abs := Hf.obsG_eq (HandSHeadRun.getT_eq s)
def loose : List PySem.Str := (["gcd", "lcm", "_wall", "primitive_row", "lead_place", "led_row", "struck", "first_with", "echelon", "lead_multiple", "lies_in", "NestError", "InvalidRows", "one_solution", "solved", "solutions", "meet_rows", "LIMIT", "integer_text", "row_text", "rows_text", "Whole", "_law_bag", "_law_draw", "_law_of", "_law_int", "_law_like", "_law_gcd", "_law_thin", "_law_clear"] : List PySem.Str) ++ (["_law_told", "_law_zeros", "_law_meet", "_law_rows_text", "_law_is_whole", "_law_deep", "_law_rows", "_law_parts", "_law_both_so"] : List PySem.Str)
theorem run (w : World) : HandSHeadRun.RunEqI R (PySem.W.view R.prog [0, 45]) hk ob 20000 loose w := by
  unfold HandSHeadRun.RunEqI
  kernel_rfl
end D
end
section
set_option Elab.async false
set_option linter.all false
set_option maxRecDepth 100000
set_option maxHeartbeats 4000000
namespace FK
open PySem PySem.W PySem.Calls PyProof.Rows
section
variable {M : Model} {A : Around} {E : Value → Shared → Prop} {h : Heap} {g : Array GenState} {d : Drawn} {t : Nat} {os : OsState}
variable {nm q : Str} {C N : Addr} {bs bm bmB : List Value} {hdct : Bool} {sn : List Str} {sub : List Value} {ab : Bool} {col : Option Bool} {dd : Option Addr} {k0 k1 k2 k3 k5 : Option Value} {B newId initId : String} {kw : List (Str × Value)}
theorem new_checked (FM : ExcBaseFacts B newId initId bmB) (hT : ∀ X : String, bm.contains (.type X) = bmB.contains (.type X)) {rest : List Value} {Q : Unit → Shared → Prop}
    (hC : h.get? C = some (excClassObj nm q C N bs bm hdct sn sub ab col dd k0 k1 k2 k3 k5 newId)) (hq : Q () ⟨h, g, d, t, os⟩) : wpAny M A (checkBuiltinCall newId ⟨.ref C :: rest, kw⟩) Q E ⟨h, g, d, t, os⟩ := by
  have hin : (Value.ref C :: bm).contains (.type B) = true := by rw [List.contains_cons, hT, FM.hasB, Bool.or_true]
  have nostar := FM.noStar
  simp only [checkBuiltinCall, FM.newKind, FM.newSplit, FM.newRow]
  repeat (first | refine wpAny_loadPart_at hC ?_ | (refine wpAny_isSubtype_exc hC ?_; rw [hin]) | refine wpAny_staticBase_exc hC ?_ | refine wpAny_madeBy_exc hC ?_ | simp only [bne_self_eq_false, Bool.false_eq_true, if_false] | wp_step)
  exact hq
theorem typeCall_checked {M : Model} {rest : List Value} {Q : Unit → Shared → Prop} (hC : h.get? C = some (excClassObj nm q C N bs bm hdct sn sub ab col dd k0 k1 k2 k3 k5 newId)) (hq : Q () ⟨h, g, d, t, os⟩) :
    wpAny M A (checkBuiltinCall "type.__call__" ⟨.ref C :: rest, kw⟩) Q E ⟨h, g, d, t, os⟩ := by
  have f3 := tc_sub
  have ty : (⟨h, g, d, t, os⟩ : Shared).TypeIs (.ref C) "type" := ⟨_, hC, rfl⟩
  simp only [checkBuiltinCall, tc_kind, tc_split]
  repeat (any_goals (first | assumption | with_reducible refine wpAny_loadPart_at hC ?_ | with_reducible refine wpAny_onRaise ?_ | with_reducible refine wpAny_map ?_ | wp_step))
end
section
variable {prog : Program} {w : World} {A : Around} {E : Value → Shared → Prop} {R : Result → Shared → Prop} {h : Heap} {g : Array GenState} {d : Drawn} {t : Nat} {os : OsState}
variable {nm q : Str} {C N : Addr} {bs bm bmB : List Value} {hdct : Bool} {sn : List Str} {sub : List Value} {ab : Bool} {col : Option Bool} {dd : Option Addr} {k0 k1 k2 k3 k5 : Option Value} {B newId initId : String} {kw : List (Str × Value)}
theorem new_laid (FM : ExcBaseFacts B newId initId bmB) (hT : ∀ X : String, bm.contains (.type X) = bmB.contains (.type X)) {rest : List Value}
    (hC : h.get? C = some (excClassObj nm q C N bs bm hdct sn sub ab col dd k0 k1 k2 k3 k5 newId))
    (hq : R (.ok (.ret (.ref (h.objs.size + 1)))) ⟨(h.push (kdv_tup rest)).push (xo C h.objs.size none), g, d, t, os⟩) (hrest : rest.length ≤ sizeLine) :
    codeAny (model prog w) A (.builtin newId ⟨.ref C :: rest, kw⟩) R ⟨h, g, d, t, os⟩ := by
  have fin := FM.ends
  have cB : (Value.ref C :: bm).contains (.type B) = true := by rw [List.contains_cons, hT, FM.hasB, Bool.or_true]
  have cA : (Value.ref C :: bm).contains (.type "AttributeError") = false := by rw [List.contains_cons, hT, FM.noAttr]; rfl
  have cN : (Value.ref C :: bm).contains (.type "NameError") = false := by rw [List.contains_cons, hT, FM.noName]; rfl
  refine codeAny_builtinAt FM.entry ?_
  unfold Builtin.«BaseException.__new__»
  refine PySem.wpAt_bind ?_
  show PySem.wpAt _ _ _ (stack >>= _) _ _ _
  refine PySem.wpAt_bind (PySem.wpAt_stack fun p below => PySem.wpAt_of_wpAny ?_)
  wp_walk
  refine PySem.wpAt_of_wpAny ?_
  rw [FM.owner]
  repeat (first | with_reducible refine wpAny_madeHere_exc FM.canon hC ?_ | with_reducible refine wpAny_loadPart_at hC ?_ | (with_reducible refine wpAny_isSubtype_exc hC ?_; first | rw [cB] | rw [cA] | rw [cN]) | wp_step)
  show R _ _
  rw [Heap.size_push]
  exact hq
theorem typeCall_run (FM : ExcBaseFacts B newId initId bmB) (hT : ∀ X : String, bm.contains (.type X) = bmB.contains (.type X)) {rest : List Value} {fI : Addr} {Q : Fin → Shared → Prop}
    (hC : h.get? C = some (excClassObj nm q C N bs bm hdct sn sub ab col dd k0 k1 k2 k3 k5 newId))
    (hi : Looks (model prog w) h (typeLookup (.ref C) "__init__") (some (.ref fI))) (hb : ∀ self, Looks (model prog w) h (bindSpecial (.ref fI) self) (.ref fI, [self])) (hrest : rest.length ≤ sizeLine)
    (hq : codeAny (model prog w) A (.call (.ref fI) ⟨.ref (h.objs.size + 1) :: rest, kw⟩)
      (fun r s' => match r with | .ok (.ret v) => v = .none ∧ Q (.done (.ret (.ref (h.objs.size + 1)))) s' | .ok _ => False | .error e => E e s')
      ⟨(h.push (kdv_tup rest)).push (xo C h.objs.size none), g, d, t, os⟩) :
    wpAny (model prog w) A (Builtin.«type.__call__» ⟨.ref C :: rest, kw⟩) Q E ⟨h, g, d, t, os⟩ := by
  repeat (first | with_reducible refine wpAny_loadPart_at hC ?_ | with_reducible refine wpAny_madeBy_exc hC ?_ | wp_step)
  refine codeAny_call_builtin_code (Code.quiet_builtin _ FM.quiet) (new_checked FM hT hC ?_)
  refine new_laid FM hT hC ?_ hrest
  show wpAny _ _ _ _ _ _
  have k : ∀ b o, h.get? b = some o → ((h.push (kdv_tup rest)).push (xo C h.objs.size none)).get? b = some o := fun b o e => Heap.get?_push_of_some _ (Heap.get?_push_of_some _ e)
  have C1 := k _ _ hC
  have e1 : ((h.push (kdv_tup rest)).push (xo C h.objs.size none)).get? (h.objs.size + 1) = some (xo C h.objs.size none) := by heap_get
  have cC : (Value.ref C :: bm).contains (.ref C) = true := by simp
  have i1 := hi.keeps k
  have b1 := (hb (.ref (h.objs.size + 1))).keeps k
  unfold isInstance
  repeat (first | with_reducible refine wpAny_loadPart_at e1 ?_ | (with_reducible refine wpAny_isSubtype_exc C1 ?_; rw [cC]) | wp_step)
  show wpAny _ _ (typeLookup (.ref C) _) _ _ _
  refine i1.at ?_
  refine wpAny_holding (wpAny_bind (b1.at ?_))
  refine wpAny_bind (wpAny_call (codeAny_mono hq fun r s' z => ?_))
  rcases r with e | (v | _ | _ | _) <;> first | exact z | exact z.elim | skip
  obtain ⟨rfl, z⟩ := z
  first
    | exact wpAny_pure (wpAny_pure z)
    | (wp_walk; exact z)
theorem call_ownK (FM : ExcBaseFacts B newId initId bmB) (hT : ∀ X : String, bm.contains (.type X) = bmB.contains (.type X)) {rest : List Value} {fI : Addr}
    (hC : h.get? C = some (excClassObj nm q C N bs bm hdct sn sub ab col dd k0 k1 k2 k3 k5 newId))
    (hi : Looks (model prog w) h (typeLookup (.ref C) "__init__") (some (.ref fI))) (hb : ∀ self, Looks (model prog w) h (bindSpecial (.ref fI) self) (.ref fI, [self])) (hrest : rest.length ≤ sizeLine)
    (hq : codeAny (model prog w) (A.under (.builtin "type.__call__" ⟨.ref C :: rest, kw⟩)) (.call (.ref fI) ⟨.ref (h.objs.size + 1) :: rest, kw⟩) (InitBack (h.objs.size + 1) R)
      ⟨(h.push (kdv_tup rest)).push (xo C h.objs.size none), g, d, t, os⟩) :
    codeAny (model prog w) A (.call (.ref C) ⟨rest, kw⟩) R ⟨h, g, d, t, os⟩ := by
  have f1 := tc_lookup
  have f2 := tc_bind (.ref C)
  have ty : (⟨h, g, d, t, os⟩ : Shared).TypeIs (.ref C) "type" := ⟨_, hC, rfl⟩
  refine codeAny_of_tree ?_
  show wpAny _ _ (callAny (.ref C) _) _ _ _
  repeat (any_goals (first | assumption | with_reducible refine wpAny_loadPart_at hC ?_ | wp_step))
  refine ⟨rfl, ?_⟩
  refine codeAny_call_builtin_at (Code.quiet_builtin _ (by decide +kernel)) entry_typeCall (typeCall_checked hC (typeCall_run FM hT hC hi hb hrest ?_))
  refine codeAny_mono hq fun r s' z => ?_
  rcases r with e | (v | _ | _ | _) <;> exact z
end
/-- how keywords bind: ks in their order at the call, the parameters' values are the i-th of them -/
def BindK (qual : Str) (st : Stmt) (ps ks : List Str) (g : {α : Type} → List α → List α) : Prop := ∀ (doc pm ct cda : Value) (an : Option Addr) (cc : Addr) (self : Value) (us : List Value), us.length = ks.length →
  bindArgs (ksFn "__init__" qual (L2.defArgs st) (L2.defBody st) (L2.defScope st) .none .none doc pm an cda ct cc) ⟨[self], ks.zip us⟩ = pure ((("self" : Str) :: ps).zip (self :: g us))
section
variable {prog : Program} {w : World} {A : Around} {E : Value → Shared → Prop} {R : Result → Shared → Prop} {K : Frag} {C : Addr} {s : Shared} {x : Str} {ps ks : List Str} {fl : List (Str × Src)} {mg mb : Str → Option Value} {gg : {α : Type} → List α → List α}
/-- the same as a Flt, and how these keywords bind -/
structure FltK (prog : Program) (K : Frag) (mg : Str → Option Value) (x : Str) (C : Addr) (fl : List (Str × Src)) (ps ks : List Str) (gg : {α : Type} → List α → List α) : Prop where
  ex : ∃ (B newId initId : String) (bmB : List Value) (st : Stmt) (fI : Addr), Fam B newId initId bmB ∧ initId = B ++ ".__init__" ∧ Cl K C B newId bmB ∧ IniFn prog K C fI (x ++ ".__init__") st ∧ IniTx prog st ps fl ∧ BindK (x ++ ".__init__") st ps ks gg ∧
    findIn K (.ref C) "__init__" = some (some (.ref fI)) ∧ typeIn K (.ref fI) = some (.type "function")
  T : Flt prog K mg x C fl ps
  rel : ∀ (vs : List L2.V) (us : List Value), L2.Vals vs us → L2.Vals (gg vs) (gg us)
  len : ∀ vs : List L2.V, vs.length = ks.length → (gg vs).length = ps.length
theorem madeK (T : FltK prog K mg x C fl ps ks gg) {us : List Value} {vs : List L2.V} (r : L2.Vals vs us) (hl : vs.length = ks.length)
    (X : K.In s.heap) (G : s.heap.Ns mainGlobals mg) (Bt : s.heap.Ns builtinsNs mb) (hbt : mb "super" = some (.type "super")) (lim : s.heap.NoLimit) (hroom : A.depth + 1 < recursionLimit)
    (hq : ∀ h' tk e, Made s.heap h' e C (flds ps fl (gg vs)) → R (.ok (.ret (.ref e))) { s with heap := h', toks := tk }) :
    codeAny (model prog w) A (.call (.ref C) ⟨[], ks.zip us⟩) R s := by
  obtain ⟨B, newId, initId, bmB, st, fI, FM, ei, TC, FI, TX, bd, hi, tI⟩ := T.ex
  obtain ⟨nm, N', qn, bs, bm, hdct, sn, sub, ab, col, dd, k0, k1, k2, k3, k5, hC, hT⟩ := excInit_of X TC.ini
  obtain ⟨hp, g, dr, tk, os⟩ := s
  have k : ∀ b o, hp.get? b = some o → ((hp.push (kdv_tup [])).push (xo C hp.objs.size none)).get? b = some o := fun b o e => Heap.get?_push_of_some _ (Heap.get?_push_of_some _ e)
  have hget : ((hp.push (kdv_tup [])).push (xo C hp.objs.size none)).get? (hp.objs.size + 1) = some (xo C hp.objs.size none) := by heap_get
  have hnx : K.lookup (hp.objs.size + 1) = none := by
    cases e : K.lookup (hp.objs.size + 1) with
    | none => rfl
    | some o =>
      have z : hp.get? (hp.objs.size + 1) = some o := X _ _ e
      exact absurd (Nat.lt_of_succ_lt (Heap.lt_size z)) (Nat.lt_irrefl _)
  have r2 := T.rel vs us r
  have l2 := T.len vs hl
  have lu : us.length = ks.length := by rw [← r.length]; exact hl
  refine call_ownK FM.base hT hC (looks_findIn X hi) (fun self => bind_fn X self tI) (Nat.zero_le _) ?_
  refine init_run (s := ⟨(hp.push (kdv_tup [])).push (xo C hp.objs.size none), g, dr, tk, os⟩) (us := gg us) (vs := gg vs) FM ei TC FI TX T.T.ne T.T.sup T.T.no T.T.opq (fun fd lk fo hfd => ?_) r2 (by rw [← r2.length]; exact l2) (X.keeps k) (G.keeps k) (Bt.keeps k) hbt (lim.keeps k) hget hnx ?_ fun h' tk' EN => ?_
  · obtain ⟨oc, od, doc, pm, ct, an, osl, cda, cc, lk2, _⟩ := FI.ex
    rw [lk] at lk2
    cases lk2
    cases hfd
    exact BindsTo.of_eq (bd doc pm ct (.ref cda) an cc (.ref (hp.objs.size + 1)) us lu)
  · show A.depth + 1 < recursionLimit
    exact hroom
  · obtain ⟨t1, d, e1, d1, d2, mA, n1, rel⟩ := EN.ex
    have old : ∀ b o, hp.get? b = some o → h'.get? b = some o := fun b o e => EN.keep b o (Nat.ne_of_lt (Nat.lt_succ_of_lt (Heap.lt_size e))) (k b o e)
    have z : hp.objs.size ≤ d := by
      have q2 : hp.objs.size + 1 + 1 ≤ d := by simpa only [Heap.size_push] using d1
      omega
    exact ⟨rfl, hq h' tk' (hp.objs.size + 1) ⟨old, Nat.le_succ _, t1, d, e1, z, d2, mA, n1, rel⟩⟩
end
end FK
namespace L2
open PySem PySem.Spec PyProof.Rows
section
variable {X : Cx} {x : Str} {C : Addr} {fl : List (Str × FK.Src)} {ps ks : List Str} {gg : {α : Type} → List α → List α}
/-- C(k = e, ..) as a value -/
def tMkVK (C : Addr) (ps ks : List Str) (gg : {α : Type} → List α → List α) (fl : List (Str × FK.Src)) (tk : TA) : TE := fun σ H Q => tk σ H fun vs H1 => vs.length = ks.length ∧ ∀ a d, H1 a = none → H1 d = none → d ≠ a → Q (.ref a) (upd (upd H1 d (.xd (FK.flds ps fl (gg vs)))) a (exo a C (some d)))
theorem pe_fltK {kws : List Keyword} {tk : TA} {p pos : Pos} {k : Nat} (T : FK.FltK X.prog X.K X.mg x C fl ps ks gg) (hr : Room (k + 1) X.A) (hkw : PK X kws tk) (hall : (backToKw pos (keywordEach kws X.env)).all (·.1.isSome) = true := by rfl)
    (hks : (backToKw pos (keywordEach kws X.env)).filterMap (·.1) = ks := by rfl) (hg : Gl X x := by rfl) (hne : kws ≠ [] := by decide)
    (hpl : ((backTo pos (starEach [] X.env)).any (·.1) || (backToKw pos (keywordEach kws X.env)).any (·.1.isNone)) = false := by rfl) :
    PE X (.Call (.Name x p) [] kws pos) (tMkVK C ps ks gg fl tk) := by
  refine ⟨fun pins s σ H Q I h => ?_⟩
  refine wpAny_Call_Name_kw (ld_glob I hg T.T.gC ?_ T.T.db)
  refine PySem.W.callWith_KW0 (h₀ := X.base) I.ok.mod.kin T.T.kC hall (thn (hkw.run pos pins s σ H _ I h) fun us s1 ⟨vs, H1, I1, r1, hl, q1⟩ => ⟨I1.kIn, ?_⟩) hpl
  rw [hks]
  obtain ⟨mb, hmb, hbt⟩ := I1.ok.mod.blt
  refine wpAny_call (FK.madeK T r1 hl I1.kIn (I1.ok.mod.glob.keeps I1.bk) (hmb.keeps I1.bk) ((hbt "super" (by decide)).trans (by first | boot_by_name | rfl | kernel_rfl)) I1.nolimit ?_ fun h' tk e M => ?_)
  · have := hr.dp
    omega
  · exact mk_value I1 M q1
end
/-! ### isinstance of an error -/
/-- isinstance(e, c), e an error that is held -/
def rIsiX (K : PySem.W.Frag) : List V → Hp → VK → Prop := fun xs H Q => ∃ (a C d : Addr) (fs : List (Str × V)) (c : V) (u : Value) (b : Bool), xs = [.ref a, c] ∧ ExV H a C d fs ∧ (∃ prog mg nm fl ps, FK.Flt prog K mg nm C fl ps) ∧ ClsV c u ∧ PySem.W.kitOne K (.ref C) u = some b ∧ Q (.bl b) H
theorem call_isiX {X : Cx} : CallR X (.builtin "isinstance") (rIsiX X.K) := by
  intro pins s σ H xs us Q I r h
  obtain ⟨a, C, d, fs, c, u, b, rfl, ⟨ea, ed⟩, ⟨_, _, _, _, _, T⟩, k, e, q⟩ := h
  obtain ⟨u1, u2, rfl, r1, r2⟩ := vals2 r
  have e2 := k.eq r2
  subst e2
  obtain rfl : u1 = Value.ref a := r1
  obtain ⟨t1, ho⟩ := exo_at I.hok ea
  obtain ⟨mA, hns, hr⟩ := (show ObjOk X.prog X.w H s.heap d (.xd fs) from I.hok d _ ed)
  obtain ⟨od, hod, hl⟩ := lookIn_ns hns
  have J : PySem.W.InstAt s.heap a (FK.xo C t1 (some d)) C (some od) := ⟨ho, rfl, rfl, hod⟩
  have hcl : (PySem.W.clsIn X.K C).isSome = true := by
    obtain ⟨cd, hc, _⟩ := PySem.W.any_some T.dict
    rw [hc] <;> rfl
  exact PySem.W.kia_one (PySem.W.kitx_exc hcl T.ga T.gg T.exC T.clsA T.clsG T.clsT T.mrO) I.kIn J e (fun z => nomatch z) fun tk => ⟨.bl b, H, I.tok tk, rfl, q⟩
def rIsiU (K : PySem.W.Frag) : List V → Hp → VK → Prop := fun xs H Q => rIsi K xs H Q ∨ rIsiX K xs H Q
theorem c_isi {X : Cx} : CallR X (.builtin "isinstance") (rIsiU X.K) := CallR.or call_isi call_isiX
end L2
end
section
set_option Elab.async false
set_option linter.all false
set_option maxRecDepth 100000
set_option maxHeartbeats 4000000
/-! Rules of the layer joined by their operands' kinds; readings opened one step at a time. -/
namespace U
open PySem PySem.Spec PyProof.Rows L2 RZ

/-! ### one def called by name -/
/-- a def: its promise sp (level k), where its name stands, how it binds -/
structure Fd (P : Program) (w : World) (K : PySem.W.Frag) (mg : Str → Option Value) (base : Heap) (CX : CXT) (x : Str) (k : Nat) (ps : List Str) (sp : Sp) : Prop where
  ex : ∃ (f : Addr) (fd : FuncData), FnOk P w K mg base CX k f fd ps sp ∧ mg x = some (.ref f) ∧ PySem.W.keepIn K (.ref f) = true ∧ Binds K fd ps []
  nd : (x == ("__debug__" : Str)) = false
theorem Fd.mono {P : Program} {w : World} {K : PySem.W.Frag} {mg : Str → Option Value} {base : Heap} {CX : CXT} {x : Str} {j k : Nat} {ps : List Str} {sp : Sp} (D : Fd P w K mg base CX x j ps sp) (h : j ≤ k) : Fd P w K mg base CX x k ps sp := by
  obtain ⟨f, fd, F, a, b, c⟩ := D.ex
  exact ⟨⟨f, fd, F.mono h, a, b, c⟩, D.nd⟩
theorem fd_of {P : Program} {w : World} {K : PySem.W.Frag} {mg : Str → Option Value} {base : Heap} {CX : CXT} {x : Str} {k : Nat} {ps : List Str} {sp : Sp} {st : Stmt} {f : Addr} {fd : FuncData}
    (F : FunD K x x (defArgs st) (defBody st) (defScope st) [] [] f fd) (ok : FnOk P w K mg base CX k f fd ps sp) (g : mg x = some (.ref f))
    (h : ∀ (kV doc pm : Value) (an : Option Addr) (cdv ct : Value) (us : List Value), us.length = ps.length → bindArgs (PySem.W.fnOf x x (defArgs st) (defBody st) (defScope st) .none kV doc pm an cdv ct) ⟨us, []⟩ = pure (ps.zip us)) (nd : (x == ("__debug__" : Str)) = false := by decide) :
    Fd P w K mg base CX x k ps sp := ⟨⟨f, fd, ok, g, F.kp, FunD.bindsN F h⟩, nd⟩
section
variable {X : Cx} {x : Str} {p pos : Pos} {e : Expr} {es : List Expr} {t : TA} {k : Nat} {ps : List Str} {sp : Sp}
theorem pe_fd (D : Fd X.prog X.w X.K X.mg X.base CX0 x k ps sp) (hr : Room k X.A) (ha : PA X (e :: es) t) (hg : Gl X x := by rfl)
    (he : starEach (e :: es) X.env = (false, eval e X.env) :: starEach es X.env := by rfl) (hpl : (backTo pos (starEach es X.env)).any (·.1) = false := by rfl) :
    PE X (.Call (.Name x p) (e :: es) [] pos) (tCall sp [] E0 t) := by
  obtain ⟨f, fd, F, m, kp, b⟩ := D.ex
  exact pe_call F hr hg m kp b .nil pass0 ha D.nd he hpl
theorem pe_fd0 (D : Fd X.prog X.w X.K X.mg X.base CX0 x k ps sp) (hr : Room k X.A) (hg : Gl X x := by rfl) : PE X (.Call (.Name x p) [] [] pos) (tCall sp [] E0 tNil) := by
  obtain ⟨f, fd, F, m, kp, b⟩ := D.ex
  exact pe_call0 F hr hg m kp b .nil pass0 D.nd
end

/-! ### operators by their operands' kinds -/
def rAddS : R2 := fun x y H Q => ∃ i j, x = .str i ∧ y = .str j ∧ i.length + j.length ≤ sizeLine ∧ Q (.str (i ++ j)) H
def rAddI : R2 := rI0 fun i j => .int (i + j)
def rSubI : R2 := rI0 fun i j => .int (i - j)
def rAddU (K : PySem.W.Frag) : R2 := fun x y H Q => rAddI x y H Q ∨ (rAddS x y H Q ∨ (rCat x y H Q ∨ rCatT K x y H Q))
def rMulU : R2 := fun x y H Q => rI CMul (fun i j => .int (i * j)) x y H Q ∨ (rI CMulW (fun i j => .int (i * j)) x y H Q ∨ rRep x y H Q)
def rDivU : R2 := fun x y H Q => rI CDivW (fun i j => .int (i / j)) x y H Q ∨ rI CDivN (fun i j => .int (i.fdiv j)) x y H Q
def rModU : R2 := fun x y H Q => rI (fun _ j => 0 < j) (fun i j => .int (i % j)) x y H Q ∨ rI (fun _ j => j ≠ 0) (fun i j => .int (i.fmod j)) x y H Q
def rPowU : R2 := rI CPow fun i j => .int (i ^ j.toNat)
def rEqU (K : PySem.W.Frag) : R2 := fun x y H Q => rEq x y H Q ∨ rEqD K x y H Q
def rNeU (K : PySem.W.Frag) : R2 := fun x y H Q => rNe x y H Q ∨ rNeD K x y H Q
def rLtI : R2 := rI0 fun i j => .bl (decide (i < j))
def rLeI : R2 := rI0 fun i j => .bl (decide (i ≤ j))
def rGtI : R2 := rI0 fun i j => .bl (decide (j < i))
def rGeI : R2 := rI0 fun i j => .bl (decide (j ≤ i))
def rInStr : R2 := fun x y H Q => ∃ i j, x = .str i ∧ y = .str j ∧ Q (.bl (!(Builtin.Str.occurrences j i 0 j.length 1).isEmpty)) H
def rNInStr : R2 := fun x y H Q => ∃ i j, x = .str i ∧ y = .str j ∧ Q (.bl (!(!(Builtin.Str.occurrences j i 0 j.length 1).isEmpty))) H
def rInU (K : PySem.W.Frag) : R2 := fun x y H Q => rIn K false x y H Q ∨ (rInStr x y H Q ∨ rInD K x y H Q)
def rNInU (K : PySem.W.Frag) : R2 := fun x y H Q => rIn K true x y H Q ∨ (rNInStr x y H Q ∨ rNotInD K x y H Q)
def rIsN : R2 := fun x y H Q => y = .non ∧ Q (.bl (decide (x = .non))) H
def rNotN : R2 := fun x y H Q => y = .non ∧ Q (.bl (!decide (x = .non))) H
def rNegI : V → Hp → VK → Prop := rU fun i => .int (-i)
section
variable {X : Cx}
theorem o_add : OpR X (binaryOp .Add) (rAddU X.K) := OpR.or op_add (OpR.or op_add_str (OpR.or op_cat op_catT))
theorem o_sub : OpR X (binaryOp .Sub) rSubI := op_sub
theorem o_mul : OpR X (binaryOp .Mult) rMulU := OpR.or op_mul (OpR.or op_mulW op_rep)
theorem o_div : OpR X (binaryOp .FloorDiv) rDivU := OpR.or op_fdivW op_fdivN
theorem o_mod : OpR X (binaryOp .Mod) rModU := OpR.or op_mod op_modN
theorem o_pow : OpR X (binaryOp .Pow) rPowU := op_pow
theorem o_eq (hu : X.A.units + 64 < cLine) : OpR X (compareOp .Eq) (rEqU X.K) := OpR.or op_eq (op_eqD hu)
theorem o_ne (hu : X.A.units + 64 < cLine) : OpR X (compareOp .NotEq) (rNeU X.K) := OpR.or op_ne (op_neD hu)
theorem o_lt : OpR X (compareOp .Lt) rLtI := op_lt
theorem o_le : OpR X (compareOp .LtE) rLeI := op_le
theorem o_gt : OpR X (compareOp .Gt) rGtI := op_gt
theorem o_ge : OpR X (compareOp .GtE) rGeI := op_ge
theorem o_in (hu : X.A.units + 65 < cLine) : OpR X (compareOp .In) (rInU X.K) := OpR.or op_in_seq (OpR.or op_in_str (op_inD hu))
theorem o_nin (hu : X.A.units + 65 < cLine) : OpR X (compareOp .NotIn) (rNInU X.K) := OpR.or op_notIn_seq (OpR.or op_notIn_str (op_notInD hu))
theorem o_is : OpR X (compareOp .Is) rIsN := op_isN
theorem o_isnot : OpR X (compareOp .IsNot) rNotN := op_notN
theorem o_neg : UnR X (unaryOp .USub) rNegI := un_neg
end
def rSlU (K : PySem.W.Frag) : V → Option Int → Option Int → Hp → VK → Prop := fun x lo hi H Q => rSlL K x lo hi H Q ∨ (rSlS x lo hi H Q ∨ rSlA K x lo hi H Q)
theorem o_sl {X : Cx} : SlR X (rSlU X.K) := SlR.or sl_list (SlR.or sl_str sl_tupA)
def rLenU (K : PySem.W.Frag) : List V → Hp → VK → Prop := fun xs H Q => ∃ x n, xs = [x] ∧ LenV K x H n ∧ Q (.int n) H
def rAbs : List V → Hp → VK → Prop := fun xs H Q => ∃ i, xs = [.int i] ∧ Q (.int (if i < 0 then -i else i)) H
def rMin2 : List V → Hp → VK → Prop := fun xs H Q => ∃ i j, xs = [.int i, .int j] ∧ Q (.int (if j < i then j else i)) H
def rMax2 : List V → Hp → VK → Prop := fun xs H Q => ∃ i j, xs = [.int i, .int j] ∧ Q (.int (if j > i then j else i)) H
def rInt1 : List V → Hp → VK → Prop := fun xs H Q => (∃ i, xs = [.int i] ∧ Q (.int i) H) ∨ ∃ k, xs = [.bl k] ∧ Q (.int (if k then 1 else 0)) H
def rListOf (K : PySem.W.Frag) : List V → Hp → VK → Prop := fun xs H Q => ∃ p ys, xs = [.ref p] ∧ (SqL K H p ys ∨ SqT K H p ys) ∧ ∀ l, H l = none → Q (.ref l) (upd H l (.lst ys))
def rTupOf (K : PySem.W.Frag) : List V → Hp → VK → Prop := fun xs H Q => ∃ p ys, xs = [.ref p] ∧ ((SqL K H p ys ∧ ∀ l, H l = none → Q (.ref l) (upd H l (.tup ys))) ∨ (SqT K H p ys ∧ Q (.ref p) H))
section
variable {X : Cx}
theorem c_len : CallR X (.builtin "len") (rLenU X.K) := call_len
theorem c_abs : CallR X (.builtin "abs") rAbs := call_abs
theorem c_min2 (hc : X.calm = true) : CallR X (.builtin "min") rMin2 := call_min2 hc
theorem c_max2 (hc : X.calm = true) : CallR X (.builtin "max") rMax2 := call_max2 hc
theorem c_int1 : CallR X (.type "int") rInt1 := call_int1
theorem c_list : CallR X (.type "list") (rListOf X.K) := call_list_of
theorem c_tuple : CallR X (.type "tuple") (rTupOf X.K) := call_tuple_of
end

/-! ### readings opened -/
section
variable {K : PySem.W.Frag} {σ σ' : L2.St} {H : Hp} {Q : VK} {D : Ends} {ta tb te to tc : TE} {tt tu : TT} {ta' t tk : TA} {r r' : R2} {i j : Nat} {v w x y : V} {sp : Sp} {E : XK} {s u : TS} {g : TG} {gs : TGs} {vs : List V} {Qb : Bool → Hp → Prop} {Qs : List V → Hp → Prop} {Qσ : L2.St → Hp → Prop} {R : It → Hp → Prop}
theorem v_var (h : σ[i]? = some (some v)) (q : Q v H) : tVar i σ H Q := ⟨v, h, q⟩
theorem v_c (q : Q v H) : tC v σ H Q := q
theorem v_op (q : ta σ H fun x H1 => tb σ H1 fun y H2 => r x y H2 Q) : tOp r ta tb σ H Q := q
theorem v_un {r : V → Hp → VK → Prop} (q : ta σ H fun x H1 => r x H1 Q) : tUn r ta σ H Q := q
theorem v_cb {r : List V → Hp → VK → Prop} (q : t σ H fun vs H1 => r vs H1 Q) : tCB r t σ H Q := q
theorem v_nil (q : Qs [] H) : tNil σ H Qs := q
theorem v_cons (q : ta σ H fun x H1 => t σ H1 fun xs H2 => Qs (x :: xs) H2) : tCons ta t σ H Qs := q
theorem v_if (q : tt σ H fun c H1 => if c = true then ta σ H1 Q else tb σ H1 Q) : tIf tt ta tb σ H Q := q
theorem v_test (q : ta σ H fun x H1 => ∃ k, x = .bl k ∧ Qb k H1) : tTest ta σ H Qb := q
theorem v_b (q : ta σ H fun x H1 => ∃ k, x = .bl k ∧ Qb k H1) : tB ta σ H Qb := q
theorem v_bl {b : Bool} {P : Bool → Prop} (q : P b) : ∃ k, V.bl b = .bl k ∧ P k := ⟨b, rfl, q⟩
theorem v_and (q : tt σ H fun c H1 => if c = true then tu σ H1 Qb else Qb false H1) : tAnd tt tu σ H Qb := q
theorem v_or (q : tt σ H fun c H1 => if c = true then Qb true H1 else tu σ H1 Qb) : tOr tt tu σ H Qb := q
theorem v_not (q : tt σ H fun c H1 => Qb (!c) H1) : tNot tt σ H Qb := q
theorem v_andV (q : ta σ H fun x H1 => ∃ c, x = .bl c ∧ if c = true then tb σ H1 Q else Q (.bl false) H1) : tAndV ta tb σ H Q := q
theorem v_orV (q : ta σ H fun x H1 => ∃ c, x = .bl c ∧ if c = true then Q (.bl true) H1 else tb σ H1 Q) : tOrV ta tb σ H Q := q
theorem v_notV (q : ta σ H fun x H1 => ∃ c, x = .bl c ∧ Q (.bl (!c)) H1) : tNotV ta σ H Q := q
theorem v_tup (q : t σ H fun xs H1 => xs.length ≤ sizeLine ∧ ∀ p, H1 p = none → Q (.ref p) (upd H1 p (.tup xs))) : tTup t σ H Q := q
theorem v_lst (q : t σ H fun xs H1 => xs.length ≤ sizeLine ∧ ∀ p, H1 p = none → Q (.ref p) (upd H1 p (.lst xs))) : tLst t σ H Q := q
theorem v_call (q : t σ H fun vs H1 => sp vs H1 Q E) : tCall sp [] E t σ H Q := by
  have e : (fun vs H1 => sp (vs ++ []) H1 Q E) = fun vs H1 => sp vs H1 Q E := by
    funext vs H1
    rw [List.append_nil]
  show t σ H fun vs H1 => sp (vs ++ []) H1 Q E
  rw [e]
  exact q
theorem v_sl {r : V → Option Int → Option Int → Hp → VK → Prop} {tl th : TO} (q : te σ H fun x H1 => tl σ H1 fun l H2 => th σ H2 fun u H3 => r x l u H3 Q) : tSl r te tl th σ H Q := q
theorem v_nopart {Qo : Option Int → Hp → Prop} (q : Qo none H) : tNoPart σ H Qo := q
theorem v_part {Qo : Option Int → Hp → Prop} (q : te σ H fun x H1 => ∃ i, x = .int i ∧ Qo (some i) H1) : tPart te σ H Qo := q
theorem v_xi {n : Int} {P : Int → Prop} (q : P n) : ∃ k, V.int n = .int k ∧ P k := ⟨n, rfl, q⟩
/-! statements -/
theorem v_next (q : D.nx σ H) : tNext D σ H := q
theorem v_seq (q : s { D with nx := u D } σ H) : tSeq s u D σ H := q
theorem v_drop (q : te σ H fun _ H1 => D.nx σ H1) : tDrop te D σ H := q
theorem v_ret (q : te σ H D.rt) : tRet te D σ H := q
theorem v_retn (q : D.rt .non H) : tRetN D σ H := q
theorem v_ifs (q : tt σ H fun b H1 => if b = true then s D σ H1 else u D σ H1) : tIfS tt s u D σ H := q
theorem v_asg (q : te σ H fun x H1 => g x σ H1 D.nx) : tAsg te g D σ H := q
theorem v_name (q : Qσ (σ.set i (some v)) H) : gName i v σ H Qσ := q
theorem v_par (q : t σ H fun vs H1 => ∃ v w, vs = [v, w] ∧ D.nx ((σ.set i (some v)).set j (some w)) H1) : tPar i j t D σ H := q
theorem v_x2 {P : V → V → Prop} (q : P v w) : ∃ a b, [v, w] = [a, b] ∧ P a b := ⟨v, w, rfl, q⟩
theorem v_sub {ts : TSet} (q : ta σ H fun o H1 => tb σ H1 fun i H2 => ts o i v H2 fun H3 => Qσ σ H3) : gSub ta tb ts v σ H Qσ := q
theorem v_gtup {a : Addr} {n : Nat} (h : SqT K H a vs) (l : vs.length = n) (q : gs vs σ H Qσ) : gTup K n gs (.ref a) σ H Qσ := ⟨a, vs, rfl, h, l, q⟩
theorem v_gcons (q : g v σ H fun σ' H' => gs vs σ' H' Qσ) : gCons g gs (v :: vs) σ H Qσ := ⟨v, vs, rfl, q⟩
theorem v_gnil (q : Qσ σ H) : gNil [] σ H Qσ := ⟨rfl, q⟩
/-! operators at their kinds -/
theorem v_i0 {f : Int → Int → V} {a b : Int} (q : Q (f a b) H) : rI0 f (.int a) (.int b) H Q := ⟨a, b, rfl, rfl, q⟩
theorem v_i {C : Int → Int → Prop} {f : Int → Int → V} {a b : Int} (c : C a b) (q : Q (f a b) H) : rI C f (.int a) (.int b) H Q := ⟨a, b, rfl, rfl, c, q⟩
theorem v_addi {a b : Int} (q : Q (.int (a + b)) H) : rAddU K (.int a) (.int b) H Q := .inl (v_i0 q)
theorem v_adds {a b : Str} (l : a.length + b.length ≤ sizeLine) (q : Q (.str (a ++ b)) H) : rAddU K (.str a) (.str b) H Q := .inr (.inl ⟨a, b, rfl, rfl, l, q⟩)
theorem v_addl {a b : Addr} {xs ys : List V} (ha : H a = some (.lst xs)) (hb : H b = some (.lst ys)) (l : xs.length + ys.length ≤ sizeLine) (q : ∀ p, H p = none → Q (.ref p) (upd H p (.lst (xs ++ ys)))) : rAddU K (.ref a) (.ref b) H Q :=
  .inr (.inr (.inl ⟨a, b, xs, ys, rfl, rfl, ha, hb, l, q⟩))
theorem v_subi {a b : Int} (q : Q (.int (a - b)) H) : rSubI (.int a) (.int b) H Q := v_i0 q
theorem v_muli {a b : Int} (c : CMul a b) (q : Q (.int (a * b)) H) : rMulU (.int a) (.int b) H Q := .inl (v_i c q)
theorem v_mulw {a b : Int} (c : CMulW a b) (q : Q (.int (a * b)) H) : rMulU (.int a) (.int b) H Q := .inr (.inl (v_i c q))
theorem v_divi {a b : Int} (c : CDivW a b) (q : Q (.int (a / b)) H) : rDivU (.int a) (.int b) H Q := .inl (v_i c q)
theorem v_modi {a b : Int} (c : 0 < b) (q : Q (.int (a % b)) H) : rModU (.int a) (.int b) H Q := .inl (v_i (C := fun _ j => 0 < j) c q)
theorem v_pow {a b : Int} (c : CPow a b) (q : Q (.int (a ^ b.toNat)) H) : rPowU (.int a) (.int b) H Q := v_i c q
theorem v_neg {a : Int} (q : Q (.int (-a)) H) : rNegI (.int a) H Q := ⟨a, rfl, q⟩
theorem v_eqi {a b : Int} (q : Q (.bl (decide (a = b))) H) : rEqU K (.int a) (.int b) H Q := .inl ⟨rfl, by rw [show decide (V.int a = V.int b) = decide (a = b) from by rw [decide_eq_decide]; exact ⟨fun z => V.int.inj z, fun z => by rw [z]⟩]; exact q⟩
theorem v_eqs {a b : Str} (q : Q (.bl (decide (a = b))) H) : rEqU K (.str a) (.str b) H Q := .inl ⟨rfl, by rw [show decide (V.str a = V.str b) = decide (a = b) from by rw [decide_eq_decide]; exact ⟨fun z => V.str.inj z, fun z => by rw [z]⟩]; exact q⟩
theorem v_eqb {a b : Bool} (q : Q (.bl (decide (a = b))) H) : rEqU K (.bl a) (.bl b) H Q := .inl ⟨rfl, by rw [show decide (V.bl a = V.bl b) = decide (a = b) from by rw [decide_eq_decide]; exact ⟨fun z => V.bl.inj z, fun z => by rw [z]⟩]; exact q⟩
theorem v_eqd {d e : PyData} (hd : Dp K H x d) (he : Dp K H y e) (sd : SeqAt.shaped d = true) (se : SeqAt.shaped e = true) (q : Q (.bl (PyData.eqv d e)) H) : rEqU K x y H Q := .inr ⟨d, e, hd, he, sd, se, q⟩
theorem v_nei {a b : Int} (q : Q (.bl (!decide (a = b))) H) : rNeU K (.int a) (.int b) H Q := .inl ⟨rfl, by rw [show decide (V.int a = V.int b) = decide (a = b) from by rw [decide_eq_decide]; exact ⟨fun z => V.int.inj z, fun z => by rw [z]⟩]; exact q⟩
theorem v_nes {a b : Str} (q : Q (.bl (!decide (a = b))) H) : rNeU K (.str a) (.str b) H Q := .inl ⟨rfl, by rw [show decide (V.str a = V.str b) = decide (a = b) from by rw [decide_eq_decide]; exact ⟨fun z => V.str.inj z, fun z => by rw [z]⟩]; exact q⟩
theorem v_lti {a b : Int} (q : Q (.bl (decide (a < b))) H) : rLtI (.int a) (.int b) H Q := v_i0 q
theorem v_lei {a b : Int} (q : Q (.bl (decide (a ≤ b))) H) : rLeI (.int a) (.int b) H Q := v_i0 q
theorem v_gti {a b : Int} (q : Q (.bl (decide (b < a))) H) : rGtI (.int a) (.int b) H Q := v_i0 q
theorem v_gei {a b : Int} (q : Q (.bl (decide (b ≤ a))) H) : rGeI (.int a) (.int b) H Q := v_i0 q
theorem v_isn (q : Q (.bl (decide (x = .non))) H) : rIsN x .non H Q := ⟨rfl, q⟩
theorem v_notn (q : Q (.bl (!decide (x = .non))) H) : rNotN x .non H Q := ⟨rfl, q⟩
theorem v_inl {p : Addr} {xs : List V} (h : SqL K H p xs) (fx : flatV x = true) (fs : xs.all flatV = true) (q : Q (.bl (inV x xs)) H) : rInU K x (.ref p) H Q := .inl ⟨p, xs, rfl, .inl h, fx, fs, q⟩
theorem v_ixl {p : Addr} {xs : List V} {n : Int} (h : SqL K H p xs) (ha : atI xs n = some v) (q : Q v H) : rIx K (.ref p) (.int n) H Q := .inl ⟨p, xs, n, v, rfl, rfl, h, ha, q⟩
theorem v_ixt {p : Addr} {xs : List V} {n : Int} (h : SqT K H p xs) (ha : atI xs n = some v) (q : Q v H) : rIx K (.ref p) (.int n) H Q := .inr (.inl ⟨p, xs, n, v, rfl, rfl, h, ha, q⟩)
theorem v_setl {p : Addr} {xs : List V} {n : Int} {k : Nat} {Qh : Hp → Prop} (h : H p = some (.lst xs)) (hk : ixN xs.length n = some k) (q : Qh (upd H p (.lst (xs.set k v)))) : rSetL (.ref p) (.int n) v H Qh := ⟨p, xs, n, k, rfl, rfl, h, hk, q⟩
theorem v_lenl {p : Addr} {xs : List V} (h : SqL K H p xs) (q : Q (.int xs.length) H) : rLenU K [.ref p] H Q := ⟨_, _, rfl, .inl ⟨xs, h, rfl⟩, q⟩
theorem v_lent {p : Addr} {xs : List V} (h : SqT K H p xs) (q : Q (.int xs.length) H) : rLenU K [.ref p] H Q := ⟨_, _, rfl, .inr ⟨xs, h, rfl⟩, q⟩
theorem v_lens {z : Str} (h : z.length ≤ sizeLine) (q : Q (.int z.length) H) : rLenU K [.str z] H Q := ⟨_, _, rfl, ⟨h, rfl⟩, q⟩
theorem v_abs {a : Int} (q : Q (.int (if a < 0 then -a else a)) H) : rAbs [.int a] H Q := ⟨a, rfl, q⟩
theorem v_min2 {a b : Int} (q : Q (.int (if b < a then b else a)) H) : rMin2 [.int a, .int b] H Q := ⟨a, b, rfl, q⟩
theorem v_max2 {a b : Int} (q : Q (.int (if b > a then b else a)) H) : rMax2 [.int a, .int b] H Q := ⟨a, b, rfl, q⟩
theorem v_int {a : Int} (q : Q (.int a) H) : rInt1 [.int a] H Q := .inl ⟨a, rfl, q⟩
theorem v_list {p : Addr} {xs : List V} (h : SqL K H p xs) (q : ∀ l, H l = none → Q (.ref l) (upd H l (.lst xs))) : rListOf K [.ref p] H Q := ⟨p, xs, rfl, .inl h, q⟩
theorem v_listt {p : Addr} {xs : List V} (h : SqT K H p xs) (q : ∀ l, H l = none → Q (.ref l) (upd H l (.lst xs))) : rListOf K [.ref p] H Q := ⟨p, xs, rfl, .inr h, q⟩
theorem v_tuple {p : Addr} {xs : List V} (h : SqL K H p xs) (q : ∀ l, H l = none → Q (.ref l) (upd H l (.tup xs))) : rTupOf K [.ref p] H Q := ⟨p, xs, rfl, .inl ⟨h, q⟩⟩
theorem v_sll {p : Addr} {xs : List V} {lo hi : Option Int} (h : SqL K H p xs) (q : ∀ l, H l = none → Q (.ref l) (upd H l (.lst (cutV xs lo hi)))) : rSlU K (.ref p) lo hi H Q := .inl ⟨p, xs, rfl, h, q⟩
theorem v_bm {T : String} {r : V → List V → Hp → VK → Prop} (q : to σ H fun x H1 => tyV K T x H1 ∧ t σ H1 fun xs H2 => r x xs H2 Q) : tBM K T r to t σ H Q := q
theorem v_bm0 {T : String} {r : V → List V → Hp → VK → Prop} (q : to σ H fun x H1 => tyV K T x H1 ∧ r x [] H1 Q) : tBM0 K T r to σ H Q := q
theorem ty_list {p : Addr} {xs : List V} (h : SqL K H p xs) : tyV K "list" (.ref p) H := .inl ⟨rfl, xs, h⟩
theorem ty_str {z : Str} : tyV K "str" (.str z) H := rfl
theorem v_append {p : Addr} {xs : List V} (h : H p = some (.lst xs)) (l : xs.length < sizeLine) (q : Q .non (upd H p (.lst (xs ++ [x])))) : rAppend (.ref p) [x] H Q := ⟨p, xs, x, rfl, rfl, h, l, q⟩
/-! walked things -/
theorem v_ilist {p : Addr} {xs : List V} (h : SqL K H p xs) (q : R (Itl K p) H) (hx : ta σ H = fun Q => Q (.ref p) H) : iList K ta σ H R := by
  show ta σ H fun x H1 => ∃ a, x = .ref a ∧ (∃ xs, SqL K H1 a xs) ∧ R (Itl K a) H1
  rw [hx]
  exact ⟨p, rfl, ⟨xs, h⟩, q⟩
/-! ints as scalars -/
theorem two64 {n : Int} (h0 : -18446744073709551616 < n) (h1 : n < 18446744073709551616) : -(2 ^ 64) < n ∧ n < 2 ^ 64 := by
  have e : (2 : Int) ^ 64 = 18446744073709551616 := by decide
  rw [e]
  exact ⟨h0, h1⟩
theorem cmul_l {a b : Int} (h0 : -18446744073709551616 < a) (h1 : a < 18446744073709551616) : CMul a b := .inl (two64 h0 h1)
theorem cmul_r {a b : Int} (h0 : -18446744073709551616 < b) (h1 : b < 18446744073709551616) : CMul a b := .inr (two64 h0 h1)
theorem cdiv_small {a b : Int} (h0 : 0 < b) (h1 : b < 4149515568880992958512407863691161151012446232242436899995657329690652811412908146399707048947103794288197886611300789182395151075411775307886874834113963687061181803401509523685376) : CDivW a b := by
  refine wide_div (b := 600) h0 ?_ (by decide) (by decide)
  have e : (2 : Nat) ^ 600 = 4149515568880992958512407863691161151012446232242436899995657329690652811412908146399707048947103794288197886611300789182395151075411775307886874834113963687061181803401509523685376 := by decide
  rw [e]
  omega
end
/-! ### loops and comprehensions: what is walked, then the turns -/
/-- something that is walked already -/
abbrev iIs (J : It) : TI := fun _ H R => R J H
/-- what comes behind the walked thing -/
def ilK (K : PySem.W.Frag) (R : It → Hp → Prop) : VK := fun x H1 => ∃ a, x = .ref a ∧ (∃ xs, SqL K H1 a xs) ∧ R (Itl K a) H1
def itK (K : PySem.W.Frag) (R : It → Hp → Prop) : VK := fun x H1 => ∃ a, x = .ref a ∧ (∃ xs, SqT K H1 a xs) ∧ R (Itt K a) H1
def irK (R : It → Hp → Prop) : List V → Hp → Prop := fun vs H1 => ∃ j : Int, vs = [.int j] ∧ -(2 ^ 62) ≤ j ∧ j < 2 ^ 62 ∧ R (Itr 0 j.toNat) H1
def izK (K : PySem.W.Frag) (R : It → Hp → Prop) : List V → Hp → Prop := fun vs H1 => ∃ a b xs ys, vs = [.ref a, .ref b] ∧ ((SqL K H1 a xs ∧ SqL K H1 b ys ∧ R (Itz K a b) H1) ∨ (SqT K H1 a xs ∧ SqT K H1 b ys ∧ R (ItzT K a b) H1))
/-- a for over J; a comprehension over J -/
def forI (J : It) (g : TG) (tb : TS) : TS := fun D σ H => tFor (iIs J) g tb D σ H
def lcI (J : It) (g : TG) (tt : TT) (te : TE) (vs : List Nat) : TE := fun σ H Q => tLc (iIs J) g tt te vs σ H Q
section
variable {K : PySem.W.Frag} {σ : L2.St} {H : Hp} {Q : VK} {D : Ends} {ta te : TE} {tt : TT} {t : TA} {tb : TS} {g : TG} {wi : TI} {vs : List Nat} {R : It → Hp → Prop} {J : It} {n : Nat} {G : Hp → Prop} {Y : Nat → Hp → V → Hp → Prop} {a b : Addr} {xs ys : List V}
theorem v_for (q : wi σ H fun J H1 => forI J g tb D σ H1) : tFor wi g tb D σ H := q
theorem v_lc (q : wi σ H fun J H1 => lcI J g tt te vs σ H1 Q) : tLc wi g tt te vs σ H Q := q
theorem v_il (q : ta σ H (ilK K R)) : iList K ta σ H R := q
theorem v_ilr (h : SqL K H a xs) (q : R (Itl K a) H) : ilK K R (.ref a) H := ⟨a, rfl, ⟨xs, h⟩, q⟩
theorem v_it (q : ta σ H (itK K R)) : iTup K ta σ H R := q
theorem v_itr (h : SqT K H a xs) (q : R (Itt K a) H) : itK K R (.ref a) H := ⟨a, rfl, ⟨xs, h⟩, q⟩
theorem v_ir (q : t σ H (irK R)) : iRng1 t σ H R := q
theorem v_irr {j : Int} (h : -4611686018427387904 ≤ j ∧ j < 4611686018427387904) (q : R (Itr 0 j.toNat) H) : irK R [.int j] H := by
  have e : (2 : Int) ^ 62 = 4611686018427387904 := by decide
  exact ⟨j, rfl, by rw [e]; exact h.1, by rw [e]; exact h.2, q⟩
theorem v_iz (q : t σ H (izK K R)) : iZipA K t σ H R := q
theorem v_izl (ha : SqL K H a xs) (hb : SqL K H b ys) (q : R (Itz K a b) H) : izK K R [.ref a, .ref b] H := ⟨a, b, xs, ys, rfl, .inl ⟨ha, hb, q⟩⟩
theorem v_izt (ha : SqT K H a xs) (hb : SqT K H b ys) (q : R (ItzT K a b) H) : izK K R [.ref a, .ref b] H := ⟨a, b, xs, ys, rfl, .inr ⟨ha, hb, q⟩⟩
theorem for_w (w : Walk J n G Y) (Pv : Nat → L2.St → Hp → Prop) (h0 : Pv 0 σ H) (hG : ∀ i σ H, i ≤ n → Pv i σ H → G H)
    (hs : ∀ i x σ H H', i < n → Pv i σ H → Y i H x H' → g x σ H' fun σ2 H2 => tb { D with nx := Pv (i + 1), ct := Pv (i + 1), bk := D.nx } σ2 H2) (hd : ∀ σ H, Pv n σ H → D.nx σ H) : forI J g tb D σ H := for_it w Pv h0 hG hs hd
theorem for_l (Pv : Nat → L2.St → Hp → Prop) (h0 : Pv 0 σ H) (hG : ∀ i σ H, i ≤ xs.length → Pv i σ H → SqL K H a xs)
    (hs : ∀ i x σ H, xs[i]? = some x → Pv i σ H → g x σ H fun σ2 H2 => tb { D with nx := Pv (i + 1), ct := Pv (i + 1), bk := D.nx } σ2 H2) (hd : ∀ σ H, Pv xs.length σ H → D.nx σ H) : forI (Itl K a) g tb D σ H :=
  for_w walk_list Pv h0 hG (fun i x σ H H' hi p ⟨e, q⟩ => by subst e; exact hs i x σ H' q p) hd
theorem for_r {lo : Int} (Pv : Nat → L2.St → Hp → Prop) (h0 : Pv 0 σ H)
    (hs : ∀ i σ H, i < n → Pv i σ H → g (.int (lo + i)) σ H fun σ2 H2 => tb { D with nx := Pv (i + 1), ct := Pv (i + 1), bk := D.nx } σ2 H2) (hd : ∀ σ H, Pv n σ H → D.nx σ H) : forI (Itr lo n) g tb D σ H :=
  for_w walk_range Pv h0 (fun _ _ _ _ _ => trivial) (fun i x σ H H' hi p ⟨e, q⟩ => by subst e q; exact hs i σ H' hi p) hd
theorem lc_w (w : Walk J n G Y) (Pv : Addr → Nat → Hp → Prop) (h0 : ∀ D, H D = none → Pv D 0 (upd H D (.lst []))) (hG : ∀ D i H, i ≤ n → Pv D i H → G H)
    (hs : ∀ D i x H1 H', H D = none → i < n → Pv D i H1 → Y i H1 x H' → g x (wipe σ vs) H' fun σ2 H2 => wipe σ2 vs = wipe σ vs ∧ tt σ2 H2 fun b H3 =>
      if b = true then te σ2 H3 fun y H4 => ∃ acc, H4 D = some (.lst acc) ∧ acc.length < sizeLine ∧ Pv D (i + 1) (upd H4 D (.lst (acc ++ [y]))) else Pv D (i + 1) H3) (hd : ∀ D H1, H D = none → Pv D n H1 → Q (.ref D) H1) :
    lcI J g tt te vs σ H Q := fun D hD => lc_it w (Pv D) (h0 D hD) (hG D) (fun i x H1 H' => hs D i x H1 H' hD) fun H1 => hd D H1 hD
end
/-! ### truth -/
def tTruth (K : PySem.W.Frag) (ta : TE) : TT := fun σ H Q => ta σ H fun x H' => ∃ k, TruV K x H' k ∧ Q k H'
theorem p_truth {X : Cx} {a : Expr} {ta : TE} (ha : PE X a ta) (he : ∀ whole, isTrue a X.env whole = (do let v ← whole; standAt a.pos; holding [v] (truthy v))) : PT X a (tTruth X.K ta) := pt_truth ha he
section
variable {K : PySem.W.Frag} {σ : L2.St} {H : Hp} {Qb : Bool → Hp → Prop} {ta : TE}
theorem v_truth (q : ta σ H fun x H' => ∃ k, TruV K x H' k ∧ Qb k H') : tTruth K ta σ H Qb := q
theorem v_trub {b : Bool} (q : Qb b H) : ∃ k, TruV K (.bl b) H k ∧ Qb k H := ⟨b, rfl, q⟩
theorem v_trul {p : Addr} {xs : List V} (h : SqL K H p xs) (q : Qb (!xs.isEmpty) H) : ∃ k, TruV K (.ref p) H k ∧ Qb k H := ⟨_, .inl ⟨xs, h, rfl⟩, q⟩
end
/-! ### ways that meet again -/
/-- s, then r, with a word between them -/
def tMid (s r : TS) : TS := fun D σ H => ∃ W : L2.St → Hp → Prop, s { D with nx := W } σ H ∧ ∀ σ' H', W σ' H' → r D σ' H'
theorem pss_mid {X : Cx} {st : Stmt} {rest : List Stmt} {s r : TS} (h1 : PS X st s) (h2 : PSs X rest r) : PSs X (st :: rest) (tMid s r) := by
  refine ⟨fun pins sh σ H D I ⟨W, hs, hr⟩ => wpAny_execs_cons (thn (h1.run pins sh σ H _ I hs) fun f s1 q => ?_)⟩
  cases f with
  | next =>
    obtain ⟨σ', H', J, w⟩ := q
    exact h2.run pins s1 σ' H' D J (hr σ' H' w)
  | _ => exact q
theorem v_mid {s r : TS} {D : Ends} {σ : L2.St} {H : Hp} (W : L2.St → Hp → Prop) (h1 : s { D with nx := W } σ H) (h2 : ∀ σ' H', W σ' H' → r D σ' H') : tMid s r D σ H := ⟨W, h1, h2⟩
/-! ### what stands at an address -/
theorem h_ne {H : Hp} {a b : Addr} {o u : HO} (h : b ≠ a) (q : H b = some u) : upd H a o b = some u := by rw [upd_ne h]; exact q
theorem ne_new {H : Hp} {a b : Addr} {o : HO} (h : H b = some o) (n : H a = none) : b ≠ a := ne_of_none h n
theorem ne_new' {H : Hp} {a b : Addr} {o : HO} (h : H b = some o) (n : H a = none) : a ≠ b := Ne.symm (ne_of_none h n)
theorem n_new {H : Hp} {a b : Addr} {o : HO} (h : b ≠ a) (q : H b = none) : upd H a o b = none := by rw [upd_ne h]; exact q
theorem upd_none {H : Hp} {a b : Addr} {o : HO} (h : upd H a o b = none) : b ≠ a ∧ H b = none := by
  by_cases e : b = a
  · subst e
    rw [upd_same] at h
    cases h
  · rw [upd_ne e] at h
    exact ⟨e, h⟩
/-! ### heaps without some addresses -/
/-- H without the addresses S -/
def wo (S : List Addr) (H : Hp) : Hp := fun a => if a ∈ S then none else H a
theorem wo_in {S : List Addr} {H : Hp} {a : Addr} (h : a ∈ S) : wo S H a = none := if_pos h
theorem wo_out {S : List Addr} {H : Hp} {a : Addr} (h : a ∉ S) : wo S H a = H a := if_neg h
theorem wo_get {S : List Addr} {H : Hp} {a : Addr} {o : HO} (h : wo S H a = some o) : a ∉ S ∧ H a = some o := by
  by_cases ha : a ∈ S
  · rw [wo_in ha] at h
    cases h
  · rw [wo_out ha] at h
    exact ⟨ha, h⟩
theorem wo_le {S : List Addr} {H : Hp} : Same (wo S H) H := fun a o h => (wo_get h).2
theorem wo_sub {S T : List Addr} {H : Hp} (h : ∀ a, a ∈ T → a ∈ S) : Same (wo S H) (wo T H) := fun a o e => by
  obtain ⟨h1, h2⟩ := wo_get e
  rw [wo_out fun z => h1 (h a z)]
  exact h2
theorem wo_same {S : List Addr} {H H' : Hp} (h : ∀ a, a ∉ S → ∀ o, H a = some o → H' a = some o) : Same (wo S H) (wo S H') := fun a o e => by
  obtain ⟨h1, h2⟩ := wo_get e
  rw [wo_out h1]
  exact h a h1 o h2
theorem wo_upd {S : List Addr} {H : Hp} {a : Addr} {o : HO} (h : a ∈ S) : Same (wo S H) (wo S (upd H a o)) := wo_same fun b hb u e => by
  have ne : b ≠ a := fun z => by
    subst z
    exact hb h
  rw [upd_ne ne]
  exact e
theorem wo_new {S : List Addr} {H : Hp} {a : Addr} {o : HO} (h : H a = none) : Same (wo S H) (wo S (upd H a o)) := wo_same fun b hb u e => by
  rw [upd_ne (ne_of_none e h)]
  exact e
theorem wo_mono {S : List Addr} {H H' : Hp} (h : Same H H') : Same (wo S H) (wo S H') := wo_same fun a _ o e => h a o e
theorem same_new {H : Hp} {a : Addr} {o : HO} (h : H a = none) : Same H (upd H a o) := fun b u e => by
  rw [upd_ne (ne_of_none e h)]
  exact e
theorem same_sql {K : PySem.W.Frag} {H H' : Hp} {a : Addr} {xs : List V} (e : Same H H') (h : SqL K H a xs) : SqL K H' a xs := e.seq h
theorem same_sqt {K : PySem.W.Frag} {H H' : Hp} {a : Addr} {xs : List V} (e : Same H H') (h : SqT K H a xs) : SqT K H' a xs := by
  rcases h with (h | ⟨o, h⟩) | h
  · exact .inl (.inl (e _ _ h))
  · exact .inl (.inr ⟨o, e _ _ h⟩)
  · exact .inr h
mutual
theorem same_dp {K : PySem.W.Frag} {H H' : Hp} (e : Same H H') : ∀ {v : V} {d : PyData}, Dp K H v d → Dp K H' v d
  | _, _, .non => .non
  | _, _, .bl b => .bl b
  | _, _, .int i => .int i
  | _, _, .str x => .str x
  | _, _, .lst h r => .lst (same_sql e h) (same_dps e r)
  | _, _, .tup h r => .tup (same_sqt e h) (same_dps e r)
theorem same_dps {K : PySem.W.Frag} {H H' : Hp} (e : Same H H') : ∀ {vs : List V} {ds : List PyData}, DpAll K H vs ds → DpAll K H' vs ds
  | _, _, .nil => .nil
  | _, _, .cons h r => .cons (same_dp e h) (same_dps e r)
end
/-! ### a promise by what is asked and what is given -/
/-- g: what the caller names besides the arguments -/
def spOf {G : Type} (pre : G → List V → Hp → Prop) (post : G → Hp → V → Hp → Prop) : Sp := fun vs H Q _ => ∃ g, pre g vs H ∧ ∀ v H', post g H v H' → Q v H'
end U
end
section
set_option Elab.async false
set_option linter.all false
set_option maxRecDepth 100000
set_option maxHeartbeats 4000000
namespace L2
open PySem PySem.Spec PyProof.Rows
section
variable {X : Cx} {x : Str} {C : Addr} {ps : List Str} {fl : List (Str × FK.Src)}
/-- C(): no parameter -/
theorem pe_flt0 {p pos : Pos} {k : Nat} (T : FK.Flt X.prog X.K X.mg x C fl ps) (hr : Room (k + 1) X.A) (hps : ps = [] := by rfl) (hg : Gl X x := by rfl) :
    PE X (.Call (.Name x p) [] [] pos) (tMkV C ps fl tNil) := by
  refine ⟨fun pins s σ H Q I h => ?_⟩
  obtain ⟨hl, q1⟩ : ([] : List V).length = ps.length ∧ ∀ a d, H a = none → H d = none → d ≠ a → Q (.ref a) (upd (upd H d (.xd (FK.flds ps fl []))) a (exo a C (some d))) := h
  refine wpAny_Call_Name_kw (ld_glob I hg T.gC ?_ T.db)
  refine PySem.W.callWith_K0 I.kIn T.kC ?_
  exact mk_core T hr I .nil hl (by rw [hps]; decide) fun h' tk e M => mk_value I M q1
end
end L2
namespace FK
open PySem
def parsB (fl : List (Str × Src)) (ps : List Str) : Bool := fl.all fun p => match p.2 with
  | .par y => decide (y ∈ ps)
  | _ => true
theorem pars_of {fl : List (Str × Src)} {ps : List Str} (h : parsB fl ps = true) : ∀ p ∈ fl, ∀ y, p.2 = .par y → y ∈ ps := fun p hp y e => by
  have q := List.all_eq_true.mp h p hp
  rw [e] at q
  exact of_decide_eq_true q
end FK
namespace Hf
open PySem PySem.Spec PyProof.Rows L2 He
theorem fltK_ok {K : PySem.W.Frag} {prog : Program} {mg : Str → Option Value} {h : Heap} {d : FltD} {ks : List Str} {gg : {α : Type} → List α → List α} (X : K.In h) (G : h.Ns mainGlobals mg) (c : d.ok K prog.main.file = true) (w : iniW K d.x = d.val) (t : FltT prog d)
    (bk : FK.BindK (d.x ++ ".__init__") d.st d.ps ks gg) (rel : ∀ (vs : List L2.V) (us : List Value), L2.Vals vs us → L2.Vals (gg vs) (gg us)) (len : ∀ vs : List L2.V, vs.length = ks.length → (gg vs).length = d.ps.length) : FK.FltK prog K mg d.x (ga K d.x) d.fl d.ps ks gg := by
  have T := flt_ok X G c w t
  unfold FltD.ok at c
  simp only [Bool.and_eq_true] at c
  obtain ⟨c1, c2, c3, c4, c5, c6, c7, c8, c9, c10, c11, c12, c13, c14, c15, c16, c17, c18, c19, c20, c21, c22⟩ := c
  refine ⟨⟨famB d.fam, newB d.fam, initB d.fam, famBm d.fam, d.st, ma K (ga K d.x) "__init__", fam_ok d.fam, init_eq d.fam, ⟨c2, c3, eqO_ok c4, c5, of_decide_eq_true c6, ?_⟩, tie_ok c22 rfl w, t.tx, bk, eqO_ok c19, of_decide_eq_true c20⟩, T, rel, len⟩
  rw [← init_eq]
  exact eqO_ok c7
section
variable {a : Ask} {K : PySem.W.Frag}
theorem Says.fltK {prog : Program} {h : Heap} {mg : Str → Option Value} (c : Says a K) (X : K.In h) (G : h.Ns mainGlobals mg) (ef : a.file = prog.main.file) (i : Nat) {d : FltD} {ks : List Str} {gg : {α : Type} → List α → List α} (hd : a.fx[i]? = some d) (t : FltT prog d)
    (bk : FK.BindK (d.x ++ ".__init__") d.st d.ps ks gg) (rel : ∀ (vs : List L2.V) (us : List Value), L2.Vals vs us → L2.Vals (gg vs) (gg us)) (len : ∀ vs : List L2.V, vs.length = ks.length → (gg vs).length = d.ps.length) : FK.FltK prog K mg d.x (ga K d.x) d.fl d.ps ks gg := by
  have e : a.fx.map (fun d => iniW K d.x) = a.fx.map FltD.val := congrArg (fun z : AlF => z.2.2.1) c
  have e2 : (a.fx.map fun d => iniW K d.x)[i]? = (a.fx.map FltD.val)[i]? := by rw [e]
  rw [List.getElem?_map, List.getElem?_map, hd] at e2
  exact fltK_ok X G (ef ▸ List.all_eq_true.mp c.all.2.2.1 d (List.mem_of_getElem? hd)) (Option.some.inj e2) t bk rel len
end
/-- isinstance by class, told of the frag: (class, asked, told) -/
def kitsOk (K : PySem.W.Frag) (xs : List Str) (ys : List (Value × (Str → Bool))) : Bool := xs.all fun x => ys.all fun y => decide (PySem.W.kitOne K (.ref (ga K x)) y.1 = some (y.2 x))
theorem kits_ok {K : PySem.W.Frag} {xs : List Str} {ys : List (Value × (Str → Bool))} (h : kitsOk K xs ys = true) {x : Str} {y : Value × (Str → Bool)} (hx : x ∈ xs) (hy : y ∈ ys) : PySem.W.kitOne K (.ref (ga K x)) y.1 = some (y.2 x) :=
  of_decide_eq_true (List.all_eq_true.mp (List.all_eq_true.mp h x hx) y hy)
end Hf
end
section
set_option Elab.async false
set_option linter.all false
set_option maxRecDepth 100000
set_option maxHeartbeats 4000000
/-! Own classes: methods, static methods, new instances, by name; what is never reached. -/
namespace U
open PySem PySem.Spec PyProof.Rows L2 RZ
/-! ### never reached -/
def tBotS : TS := fun _ _ _ => False
def tBotE : TE := fun _ _ _ => False
theorem ps_bot {X : Cx} {st : Stmt} : PS X st tBotS := ⟨fun _ _ _ _ _ _ h => h.elim⟩
theorem pss_bot {X : Cx} {st : List Stmt} : PSs X st tBotS := ⟨fun _ _ _ _ _ _ h => h.elim⟩
theorem pe_bot {X : Cx} {e : Expr} : PE X e tBotE := ⟨fun _ _ _ _ _ _ h => h.elim⟩
theorem pe_or {X : Cx} {e : Expr} {ta tb : TE} (a : PE X e ta) (b : PE X e tb) : PE X e (fun σ H Q => ta σ H Q ∨ tb σ H Q) := ⟨fun pins s σ H Q I h => h.elim (a.run pins s σ H Q I) (b.run pins s σ H Q I)⟩
/-! ### static methods -/
structure SMet (K : PySem.W.Frag) (C : Addr) (m : Str) (f : Addr) : Prop where
  rd : PySem.W.readsIn K C (.type "type") = true
  ga : PySem.W.specialIn K (.ref C) "__getattribute__" = some (some (.builtin "type.__getattribute__"))
  at_ : ∃ p, PySem.W.findCls K (.ref C) (.type "type") m = some (.get (.builtin "staticmethod.__get__") (.ref p) .none (.ref C)) ∧ ∃ rest, PySem.W.recIn K p "staticmethod" = some (.ref f :: rest)
section
variable {X : Cx} {pins : List (Addr × Obj)} {σ : L2.St} {H : Hp} {s : Shared} {C f : Addr} {m : Str} {A : Around} {E : Value → Shared → Prop}
theorem getmethsm_ok {pl : Sem Bool} {Q : Value × List Value → Shared → Prop} (I : Inv X pins σ H s) (k : SMet X.K C m f) (h : ∀ s', Inv X pins σ H s' → Q (.ref f, []) s') : wpAny (model X.prog X.w) A (getMethod (.ref C) m pl) Q E s := by
  obtain ⟨p, k1, rest, k2⟩ := k.at_
  refine PySem.W.method_cls I.kIn k.ga (PySem.W.cls_bind I.kIn k.rd k1 (wpAny_call (PySem.W.sm_get (s := { s with toks := s.toks + 1 }) I.kIn k2 (PySem.W.handed_on rfl ?_))))
  exact h _ (I.tok _)
end
/-! ### a method, a new instance, a static method, by what they promise -/
structure Md (P : Program) (w : World) (K : PySem.W.Frag) (mg : Str → Option Value) (base : Heap) (C : Addr) (m : Str) (k : Nat) (ps : List Str) (sp : Sp) : Prop where
  ex : ∃ (f : Addr) (fd : FuncData), FnOk P w K mg base CX0 k f fd ps sp ∧ Cls K C ∧ Meth K C m f ∧ Binds K fd ps []
structure Nd (P : Program) (w : World) (K : PySem.W.Frag) (mg : Str → Option Value) (base : Heap) (x : Str) (C : Addr) (k : Nat) (ps : List Str) (sp : Sp) : Prop where
  ex : ∃ (f : Addr) (fd : FuncData), FnOk P w K mg base CX0 k f fd ps sp ∧ mg x = some (.ref C) ∧ Mk K C f ∧ Binds K fd ps []
  nd : (x == ("__debug__" : Str)) = false
structure Sd (P : Program) (w : World) (K : PySem.W.Frag) (mg : Str → Option Value) (base : Heap) (C : Addr) (m : Str) (k : Nat) (ps : List Str) (sp : Sp) : Prop where
  ex : ∃ (f : Addr) (fd : FuncData), FnOk P w K mg base CX0 k f fd ps sp ∧ SMet K C m f ∧ PySem.W.keepIn K (.ref f) = true ∧ Binds K fd ps []
/-- o.m(e, ..): a method of the class at C -/
def tMd (C : Addr) (m : Str) (sp : Sp) (ta : TE) (t : TA) : TE := tMeth C m sp [] E0 ta t
def tNd (C : Addr) (sp : Sp) (t : TA) : TE := tMake C sp [] E0 t
def tSd (C : Addr) (sp : Sp) (ta : TE) (t : TA) : TE := fun σ H Q => ta σ H fun x H1 => x = .ref C ∧ t σ H1 fun vs H2 => sp vs H2 Q E0
section
variable {X : Cx} {x m : Str} {p pos apos : Pos} {e o : Expr} {es : List Expr} {t : TA} {ta : TE} {k : Nat} {ps : List Str} {sp : Sp} {C : Addr}
theorem pe_md {pl : Sem Bool} (D : Md X.prog X.w X.K X.mg X.base C m k ps sp) (hr : Room k X.A) (he : PE X o ta) (ha : PA X (e :: es) t)
    (hst : starEach (e :: es) X.env = (false, eval e X.env) :: starEach es X.env := by rfl) (hpl : (backTo pos (starEach es X.env)).any (·.1) = false := by rfl)
    (ht : eval (.Call (.Attribute o m apos) (e :: es) [] pos) X.env = (do
      let ov ← eval o X.env
      standAt apos.atName
      let (f, first) ← holding [ov] (getMethod ov m pl)
      callWith pos f first (backTo pos (starEach (e :: es) X.env)) (backToKw pos (keywordEach [] X.env))) := by rfl) :
    PE X (.Call (.Attribute o m apos) (e :: es) [] pos) (tMd C m sp ta t) := by
  obtain ⟨f, fd, F, c, hm, b⟩ := D.ex
  exact pe_meth (pl := pl) he c hm F hr b .nil pass0 ha hst hpl ht
theorem pe_md0 {pl : Sem Bool} (D : Md X.prog X.w X.K X.mg X.base C m k ps sp) (hr : Room k X.A) (he : PE X o ta)
    (ht : eval (.Call (.Attribute o m apos) [] [] pos) X.env = (do
      let ov ← eval o X.env
      standAt apos.atName
      let (f, first) ← holding [ov] (getMethod ov m pl)
      callWith pos f first (backTo pos (starEach [] X.env)) (backToKw pos (keywordEach [] X.env))) := by rfl) :
    PE X (.Call (.Attribute o m apos) [] [] pos) (tMeth C m sp [] E0 ta tNil) := by
  obtain ⟨f, fd, F, c, hm, b⟩ := D.ex
  exact pe_meth0 (pl := pl) he c hm F hr b .nil pass0 ht
theorem pe_nd (D : Nd X.prog X.w X.K X.mg X.base x C k ps sp) (hr : Room (k + 1) X.A) (ha : PA X (e :: es) t) (hg : Gl X x := by rfl)
    (he : starEach (e :: es) X.env = (false, eval e X.env) :: starEach es X.env := by rfl) (hpl : (backTo pos (starEach es X.env)).any (·.1) = false := by rfl) :
    PE X (.Call (.Name x p) (e :: es) [] pos) (tNd C sp t) := by
  obtain ⟨f, fd, F, hm, M, b⟩ := D.ex
  exact pe_make M F hr hg hm b .nil pass0 ha D.nd he hpl
theorem pe_sd {pl : Sem Bool} (D : Sd X.prog X.w X.K X.mg X.base C m k ps sp) (hr : Room k X.A) (he : PE X o ta) (ha : PA X (e :: es) t)
    (hst : starEach (e :: es) X.env = (false, eval e X.env) :: starEach es X.env := by rfl) (hpl : (backTo pos (starEach es X.env)).any (·.1) = false := by rfl)
    (ht : eval (.Call (.Attribute o m apos) (e :: es) [] pos) X.env = (do
      let ov ← eval o X.env
      standAt apos.atName
      let (f, first) ← holding [ov] (getMethod ov m pl)
      callWith pos f first (backTo pos (starEach (e :: es) X.env)) (backToKw pos (keywordEach [] X.env))) := by rfl) :
    PE X (.Call (.Attribute o m apos) (e :: es) [] pos) (tSd C sp ta t) := by
  obtain ⟨f, fd, F, sm, kp, b⟩ := D.ex
  refine ⟨fun pins s σ H Q I h => ?_⟩
  refine PySem.W.methodCall_KW (pl := pl) (thn (he.run pins s σ H _ I h) fun u s1 ⟨x, H1, I1, rx, ex, q⟩ => ?_) ht
  subst ex
  obtain rfl : u = Value.ref C := rx
  refine getmethsm_ok I1 sm fun s2 I2 => ?_
  refine PySem.W.callWith_K (h₀ := X.base) (first := []) I2.ok.mod.kin kp (thn (ha.run pos pins s2 σ H1 _ I2 q) fun us s3 ⟨vs, H2, I3, rv, q2⟩ => ⟨I3.kIn, ?_⟩) hst hpl
  exact run_fn F hr b .nil pass0 I3 rv (by rw [List.append_nil]; exact q2)
/-- f(k = e, ..) alone by keywords -/
structure Kd (P : Program) (w : World) (K : PySem.W.Frag) (mg : Str → Option Value) (base : Heap) (x : Str) (k : Nat) (ps ks : List Str) (gV : List V → List V → List V) (sp : Sp) : Prop where
  ex : ∃ (f : Addr) (fd : FuncData) (g : List Value → List Value → List Value), FnOk P w K mg base CX0 k f fd ps sp ∧ mg x = some (.ref f) ∧ PySem.W.keepIn K (.ref f) = true ∧ KBinds K fd ps ks g gV
  nd : (x == ("__debug__" : Str)) = false
variable {ks : List Str} {gV : List V → List V → List V} {kws : List Keyword} {tk : TA}
theorem pe_kd0 (D : Kd X.prog X.w X.K X.mg X.base x k ps ks gV sp) (hr : Room k X.A) (hkw : PK X kws tk) (hall : (backToKw pos (keywordEach kws X.env)).all (·.1.isSome) = true := by rfl) (hks : (backToKw pos (keywordEach kws X.env)).filterMap (·.1) = ks := by rfl)
    (hg : Gl X x := by rfl) (hpl : ((backTo pos (starEach [] X.env)).any (·.1) || (backToKw pos (keywordEach kws X.env)).any (·.1.isNone)) = false := by rfl) :
    PE X (.Call (.Name x p) [] kws pos) (tCallK sp gV E0 tNil tk) := by
  obtain ⟨f, fd, g, F, m, kp, b⟩ := D.ex
  refine ⟨fun pins s σ H Q I h => ?_⟩
  refine wpAny_Call_Name_kw (ld_glob I hg m ?_ D.nd)
  refine PySem.W.callWith_KW0 (h₀ := X.base) I.ok.mod.kin kp hall (thn (hkw.run pos pins s σ H _ I h) fun ws s2 ⟨zs, H2, I2, rz, q2⟩ => ⟨I2.kIn, ?_⟩) hpl
  rw [hks]
  exact run_fnk (us := []) (vs := []) F hr b pass0 I2 .nil rz q2
end
/-! ### fields -/
/-- o.f: an own instance's, a held error's -/
def tFldU (K : PySem.W.Frag) (ta : TE) (f : Str) : TE := tFld K ta f
section
variable {K : PySem.W.Frag} {σ : L2.St} {H : Hp} {Q : VK} {D : Ends} {ta tv : TE} {t : TA} {f m : Str} {a C dx : Addr} {fs : List (Str × V)} {v : V} {sp : Sp}
theorem v_fldo (q : ta σ H fun x H1 => ∃ a C dx fs v, x = .ref a ∧ H1 a = some (.ins C dx fs) ∧ Cls K C ∧ NoAttr K C f ∧ fs.lookup f = some v ∧ Q v H1) : tFld K ta f σ H Q := q
theorem v_sfld (q : tv σ H fun y H1 => ta σ H1 fun x H2 => ∃ a C dx fs, x = .ref a ∧ H2 a = some (.ins C dx fs) ∧ Cls K C ∧ NoAttr K C f ∧ fs.length < 1000 ∧ D.nx σ (upd H2 a (.ins C dx (putF f y fs)))) : sFld K ta tv f D σ H := q
theorem v_nd (q : t σ H fun vs H1 => ∀ x dx, H1 x = none → H1 dx = none → dx ≠ x → sp (.ref x :: vs) (upd (upd H1 dx (.own x)) x (.ins C dx [])) (fun v H2 => v = .non ∧ Q (.ref x) H2) E0) : tNd C sp t σ H Q := by
  show t σ H fun vs H1 => ∀ x dx, H1 x = none → H1 dx = none → dx ≠ x → sp (.ref x :: (vs ++ [])) (upd (upd H1 dx (.own x)) x (.ins C dx [])) (fun v H2 => v = .non ∧ Q (.ref x) H2) E0
  simp only [List.append_nil]
  exact q
theorem v_sd (q : ta σ H fun x H1 => x = .ref C ∧ t σ H1 fun vs H2 => sp vs H2 Q E0) : tSd C sp ta t σ H Q := q
end
end U
namespace U
open PySem PySem.Spec PyProof.Rows L2 RZ
/-! ### more of numbers and lists -/
/-- // by any divisor but 0, below 2 ^ 9000, or of a number below 2 ^ 13000 -/
def CDivV (i j : Int) : Prop := j ≠ 0 ∧ (j.natAbs.log2 < 9000 ∨ i.natAbs.log2 < 13000)
def rDivV : R2 := rI CDivV fun i j => .int (i.fdiv j)
theorem noPy_top {x y : Int} (h : x.natAbs.log2 < 13000) : Builtin.divisionGoesByPylong x y = false := by
  have e : Builtin.divisionGoesByPylong x y = (decide ((if y == 0 then 0 else y.natAbs.log2 / 30 + 1) > 300) && decide ((if x == 0 then 0 else x.natAbs.log2 / 30 + 1) > (if y == 0 then 0 else y.natAbs.log2 / 30 + 1) + 150)) := rfl
  rw [e, Bool.and_eq_false_iff]
  have hx : (if x == 0 then 0 else x.natAbs.log2 / 30 + 1) ≤ 434 := by
    split
    · exact Nat.zero_le _
    · omega
  generalize (if x == 0 then 0 else x.natAbs.log2 / 30 + 1) = a at hx ⊢
  generalize (if y == 0 then 0 else y.natAbs.log2 / 30 + 1) = c
  by_cases q : c > 300
  · exact .inr (decide_eq_false (by omega))
  · exact .inl (decide_eq_false q)
theorem o_divv {X : Cx} : OpR X (binaryOp .FloorDiv) rDivV := opI fun _ _ _ _ _ _ _ hc q => floordiv_int hc.1 q (.inl (hc.2.elim (fun h => PyProof.noPylong_of_log2 h) noPy_top))
theorem v_divv {H : Hp} {Q : VK} {a b : Int} (c : b ≠ 0) (l : b.natAbs.log2 < 9000) (q : Q (.int (a.fdiv b)) H) : rDivV (.int a) (.int b) H Q := ⟨a, b, rfl, rfl, ⟨c, .inl l⟩, q⟩
theorem truth_ints {prog : Program} {w : World} {A : Around} {ns : List Int} {its : List Value} (e : IntsAre its ns) :
    TruthOf prog w A (fun i v => its.toArray[i]? = some v) (fun i => (ns.getD i 0) != 0) := fun i v s Q E hv hq => by
  have hv' : its[i]? = some v := by simpa using hv
  have key : ∀ {its : List Value} {ns : List Int} (i : Nat), IntsAre its ns → its[i]? = some v → ∃ n t, ns[i]? = some n ∧ v = .int n t := by
    intro its ns i e
    induction e generalizing i with
    | nil => intro h; simp at h
    | cons n t r ih =>
      intro h
      cases i with
      | zero =>
        simp at h
        exact ⟨_, _, rfl, h.symm⟩
      | succ i => exact ih i (by simpa using h)
  obtain ⟨n, t, hn, rfl⟩ := key i e hv'
  have hg : ns.getD i 0 = n := by rw [List.getD_eq_getElem?_getD, hn] <;> rfl
  have hq' : Q ((ns.getD i 0) != 0) s := hq
  rw [hg] at hq'
  exact truthy_int hq'
theorem any_rangeI : ∀ ns : List Int, (List.range ns.length).any (fun i => (ns.getD i 0) != 0) = ns.any fun n => n != 0
  | [] => rfl
  | b :: bs => by
    rw [List.length_cons, List.range_succ_eq_map, List.any_cons, List.any_map, List.any_cons, ← any_rangeI bs]
    all_goals rfl
/-- any(xs) of a list of whole numbers -/
def rAnyI (K : PySem.W.Frag) : List V → Hp → VK → Prop := fun vs H Q => ∃ (a : Addr) (ns : List Int), vs = [V.ref a] ∧ SqL K H a (ns.map V.int) ∧ Q (.bl (ns.any fun n => n != 0)) H
theorem cr_anyI {X : Cx} (hc : X.calm = true) : CallR X (.builtin "any") (rAnyI X.K) := by
  intro pins s σ H vs us Q I r h
  obtain ⟨a, ns, rfl, hs, q⟩ := h
  obtain ⟨its, rv, hl, _⟩ := I.list hs
  rw [Vals.ref1 r]
  have hb := rv.ints
  refine call_any_walk (iter_any hl.isList fun s₂ e2 st hne => ?_)
  subst e2
  refine ⟨_, _, _, _, _, _, _, rfl, Walks.list (A := X.A.in1) (I.ok.hd hc) _ a hne its.toArray, st, truth_ints hb, fun h' tk hk => ?_⟩
  refine ⟨.bl _, H, I.kept fun b o eo => hk b o (fun hmem => ?_) (Heap.get?_push_of_some _ eo), ?_, q⟩
  · rcases List.mem_cons.mp hmem with e1 | hmem
    · exact absurd (e1 ▸ Heap.lt_size eo) (Nat.lt_irrefl _)
    · cases hmem
  · show Value.bool _ = Value.bool _
    rw [← any_rangeI, List.size_toArray, ← rv.length, List.length_map]
def rAnyU (K : PySem.W.Frag) : List V → Hp → VK → Prop := fun vs H Q => rAny K vs H Q ∨ rAnyI K vs H Q
theorem c_any {X : Cx} (hc : X.calm = true) : CallR X (.builtin "any") (rAnyU X.K) := CallR.or (cr_any hc) (cr_anyI hc)
def rStr : List V → Hp → VK → Prop := fun xs H Q => ∃ i, xs = [.int i] ∧ i.natAbs.log2 < 1920 ∧ Q (.str (toString i)) H
theorem c_str {X : Cx} : CallR X (.type "str") rStr := call_str_int
def rJoin (K : PySem.W.Frag) : V → V → Hp → VK → Prop := fun x y H Q => ∃ a p, ∃ ys : List Str, x = .str a ∧ y = .ref p ∧ (SqL K H p (ys.map V.str) ∨ SqT K H p (ys.map V.str)) ∧
      (ys.map (·.length)).sum + ys.length * a.length ≤ 16777216 ∧ Q (.str (Txt.join a ys)) H
end U
namespace U
open PySem PySem.Spec PyProof.Rows L2 RZ
/-- a global that is a whole number -/
theorem pe_globI {X : Cx} {x : Str} {p : Pos} {i : Int} (h : ∃ t, X.mg x = some (.int i t)) (hg : Gl X x := by rfl) (hd : (x == ("__debug__" : Str)) = false := by decide) : PE X (.Name x p) (tC (.int i)) := by
  obtain ⟨t, h⟩ := h
  exact pe_glob hg h ⟨t, rfl⟩ hd
/-- == of instances with an own __eq__ -/
theorem o_eqo {X : Cx} {C : Addr} {k : Nat} {ps : List Str} {R : Addr → Addr → Hp → Prop} (D : Md X.prog X.w X.K X.mg X.base C "__eq__" k ps (spEq R)) (hr : Room k X.A) : OpR X (compareOp .Eq) (rEqG (DIns C R)) := by
  obtain ⟨f, fd, F, c, hm, b⟩ := D.ex
  exact op_eqG (rcG_ins F hm.at_ hm.fn b pass0) hr
end U
namespace U
open PySem PySem.Spec PyProof.Rows L2 RZ
theorem smet_of {K : PySem.W.Frag} {d : Hf.SDef} (c : d.ok K = true) : SMet K (He.ga K d.x) d.m (d.ad K) ∧ PySem.W.keepIn K (.ref (d.ad K)) = true := by
  obtain ⟨c1, c⟩ := He.ba c
  obtain ⟨c2, c⟩ := He.ba c
  obtain ⟨c3, c⟩ := He.ba c
  obtain ⟨c4, _⟩ := He.ba c
  obtain ⟨k1, k2⟩ := He5.wrapB_ok c1
  exact ⟨⟨c2, He.eqO_ok c3, _, k1, k2⟩, c4⟩
theorem kd_of {P : Program} {w : World} {K : PySem.W.Frag} {mg : Str → Option Value} {base : Heap} {x : Str} {k : Nat} {ps ks : List Str} {sp : Sp} {st : Stmt} {f : Addr} {fd : FuncData} {gg : {α : Type} → List α → List α → List α}
    (F : FunD K x x (defArgs st) (defBody st) (defScope st) [] [] f fd) (ok : FnOk P w K mg base CX0 k f fd ps sp) (g : mg x = some (.ref f))
    (rel : ∀ {vs : List V} {us : List Value} {zs : List V} {ws : List Value}, Vals vs us → Vals zs ws → Vals (gg vs zs) (gg us ws))
    (h : ∀ (kV doc pm : Value) (an : Option Addr) (cdv ct : Value) (us ws : List Value), (gg us ws).length = ps.length → bindArgs (PySem.W.fnOf x x (defArgs st) (defBody st) (defScope st) .none kV doc pm an cdv ct) ⟨us, ks.zip ws⟩ = pure (ps.zip (gg us ws))) (nd : (x == ("__debug__" : Str)) = false := by decide) :
    Kd P w K mg base x k ps ks gg sp := by
  refine ⟨⟨f, fd, gg, ok, g, F.kp, ?_⟩, nd⟩
  obtain ⟨oc, od, dV, kV, doc, pm, an, cdv, ct, osl, rfl, lk, hcd, hD, hK⟩ := F.ex
  rcases hD with ⟨_, rfl⟩ | ⟨e, _⟩
  · exact ⟨fun s us ws _ hl => .of_eq (h kV doc pm an cdv ct us ws hl), rel⟩
  · exact absurd rfl e
end U
end
section
set_option Elab.async false
set_option linter.all false
set_option maxRecDepth 100000
set_option maxHeartbeats 4000000
/-! zip of a list and a tuple, either way. -/
namespace ZM
open PySem PySem.Spec PyProof.Rows L2 RZ
/-- a tuple (true), a list (false) -/
def SqB (K : PySem.W.Frag) : Bool → Hp → Addr → List V → Prop
  | true => fun H a xs => SqT K H a xs
  | false => fun H a xs => SqL K H a xs
def ItB : Bool → Heap → Addr → Addr → Nat → Prop
  | true => fun h it l i => h.IsTupleIter it l i
  | false => fun h it l i => h.IsListIter it l i
def IsB : Bool → Heap → Addr → Array Value → Prop
  | true => fun h l its => h.IsTuple l its
  | false => fun h l its => h.IsList l its
def obB : Bool → Addr → Obj
  | true => fun l => { cls := .type "tuple_iterator", data := .fields #[.ref l, .int 0 0] }
  | false => fun l => { cls := .type "list_iterator", data := .fields #[.ref l, .int 0 0] }
section
variable {P : Program} {w : World} {X : Cx} {pins : List (Addr × Obj)} {σ : L2.St} {H : Hp} {s : Shared} {t t1 t2 : Bool} {a b : Addr} {xs ys : List V}
theorem invB (I : Inv X pins σ H s) (h : SqB X.K t H a xs) : ∃ its : List Value, Vals xs its ∧ IsB t s.heap a its.toArray := by
  cases t
  · obtain ⟨its, rv, p, _⟩ := I.list h
    exact ⟨its, rv, p.isList⟩
  · obtain ⟨its, rv, p, _⟩ := I.tuple h
    exact ⟨its, rv, p⟩
theorem injB (I : Inv X pins σ H s) (h : SqB X.K t H a xs) (k : SqB X.K t H a ys) : ys = xs := by
  cases t
  · exact I.list_inj k h
  · exact I.tuple_inj k h
theorem drawsB {A : Around} (hh : A.handled = none) (it l : Addr) (ne : l ≠ it) (its : Array Value) : Draws P w A it [it, l] its.size (fun i v => its[i]? = some v) (fun i h => ItB t h it l i ∧ IsB t h l its) := by
  cases t
  · exact Draws.list hh it l ne its
  · exact Draws.tuple hh it l ne its
theorem beginsB (l : Addr) (its : Array Value) : Begins (.ref l) (obB t l) (fun h => IsB t h l its) := by
  cases t
  · exact begins_list l its
  · exact begins_tuple l its
theorem itB_of {h : Heap} {it l : Addr} (e : h.get? it = some (obB t l)) : ItB t h it l 0 := by
  cases t
  · exact ⟨_, e, rfl, rfl⟩
  · exact ⟨_, e, rfl, rfl⟩
theorem itB_obj {h : Heap} {it l : Addr} {i : Nat} (e : ItB t h it l i) : ∃ o, h.get? it = some o ∧ ∀ v, o.data ≠ .cell v := by
  cases t
  · obtain ⟨o, e1, _, d1⟩ := e
    exact ⟨o, e1, fun v q => by rw [d1] at q; cases q⟩
  · obtain ⟨o, e1, _, d1⟩ := e
    exact ⟨o, e1, fun v q => by rw [d1] at q; cases q⟩
theorem itB_at {h h' : Heap} {it l : Addr} {i : Nat} (e : ItB t h it l i) (k : ∀ o, h.get? it = some o → h'.get? it = some o) : ItB t h' it l i := by
  cases t
  · exact Heap.IsListIter.at e k
  · exact Heap.IsTupleIter.at e k
theorem isB_lt {h : Heap} {l : Addr} {its : Array Value} (e : IsB t h l its) : l < h.objs.size := by
  cases t
  · obtain ⟨o, e1, _⟩ := e
    exact Heap.lt_size e1
  · obtain ⟨o, e1, _⟩ := e
    exact Heap.lt_size e1
end
/-- the two sequences as they stand at each turn, the items in new pairs -/
def ItzM (K : PySem.W.Frag) (t1 t2 : Bool) (a b : Addr) : It :=
  ⟨fun i H => ∃ xs ys x y, SqB K t1 H a xs ∧ SqB K t2 H b ys ∧ xs[i]? = some x ∧ ys[i]? = some y,
    fun i H v H' => ∃ T x y, v = .ref T ∧ H T = none ∧ H' = upd H T (.tup [x, y]) ∧ (∀ l, SqB K t1 H a l → l[i]? = some x) ∧ (∀ l, SqB K t2 H b l → l[i]? = some y),
    fun i H => ∃ xs ys, SqB K t1 H a xs ∧ SqB K t2 H b ys ∧ i ≤ xs.length ∧ i ≤ ys.length ∧ (xs.length = i ∨ ys.length = i)⟩
structure Apart (z TI TO i1 i2 a b : Addr) : Prop where
  S : ZipSep2 z TI TO i1 i2 [i1, a] [i2, b]
  a1 : a ≠ i1
  b2 : b ≠ i2
theorem apart_nat : ∀ {n a b : Nat}, a < n → b < n → (n + 2 ≠ n + 4 ∧ n + 3 ≠ n + 4 ∧ n + 2 ≠ n + 3 ∧ n + 2 ≠ n ∧ n + 2 ≠ n + 1) ∧ (n + 4 ≠ n ∧ n + 4 ≠ a ∧ n + 3 ≠ n ∧ n + 3 ≠ a ∧ n + 4 ≠ n + 1 ∧ n + 4 ≠ b ∧ n + 3 ≠ n + 1 ∧ n + 3 ≠ b) ∧ (n ≠ n + 1 ∧ n ≠ b ∧ n + 1 ≠ n ∧ n + 1 ≠ a) ∧ a ≠ n ∧ b ≠ n + 1 := by omega
theorem apart_of {n a b : Addr} (ha : a < n) (hb : b < n) : Apart (n + 4) (n + 2) (n + 3) n (n + 1) a b := by
  obtain ⟨⟨p1, p2, p3, p4, p5⟩, ⟨q1, q2, q3, q4, q5, q6, q7, q8⟩, ⟨r1, r2, r3, r4⟩, u1, u2⟩ := apart_nat (n := n) (a := a) (b := b) ha hb
  have two : ∀ {x y z : Addr}, x ≠ y → x ≠ z → x ∉ [y, z] := fun h1 h2 q => by
    rcases List.mem_cons.mp q with e | e
    · exact h1 e
    · exact h2 (List.mem_singleton.mp e)
  exact ⟨⟨p1, p2, p3, p4, by simp, two q1 q2, two q3 q4, p5, by simp, two q5 q6, two q7 q8, two r1 r2, two r3 r4⟩, u1, u2⟩
theorem turn_zipM {P : Program} {w : World} {K : PySem.W.Frag} {elts : List Expr} {kk : Nat} {tpos : Pos} {t1 t2 : Bool} {a b z TI TO i1 i2 : Addr} (D : Apart z TI TO i1 i2 a b) :
    Turn P w K (.Tuple elts kk tpos) (ItzM K t1 t2 a b) [z, TI, TO, i1, i2] z (fun i h => IsZip h z TI TO .none ∧ (IsTupOf2 h TI (.ref i1) (.ref i2) ∧ ((∃ x y, IsTupOf2 h TO x y) ∧ (ItB t1 h i1 a i ∧ ItB t2 h i2 b i)))) where
  mem := by simp
  obj := fun i h st c hc => by
    obtain ⟨k1, k2, ⟨x, y, k3⟩, k4, k5⟩ := st
    have five : c = z ∨ c = TI ∨ c = TO ∨ c = i1 ∨ c = i2 := by simpa using hc
    rcases five with e | e | e | e | e <;> subst e
    · exact ⟨_, k1, fun v q => nomatch q⟩
    · exact ⟨_, k2, fun v q => nomatch q⟩
    · exact ⟨_, k3, fun v q => nomatch q⟩
    · exact itB_obj k4
    · exact itB_obj k5
  keep := fun i h h' st k => by
    obtain ⟨k1, k2, ⟨x, y, k3⟩, k4, k5⟩ := st
    exact ⟨k z (by simp) _ k1, k TI (by simp) _ k2, ⟨x, y, k TO (by simp) _ k3⟩, itB_at k4 fun o e => k i1 (by simp) o e, itB_at k5 fun o e => k i2 (by simp) o e⟩
  item := by
    intro X eP ew eK hc i pins s σ H E I fr st go
    subst eP ew eK
    obtain ⟨k1, k2, ⟨x0, y0, k3⟩, k4, k5⟩ := st
    obtain ⟨xs, ys, x, y, qa, qb, hx, hy⟩ := go
    obtain ⟨us, ru, pa⟩ := invB I qa
    obtain ⟨vs, rv, pb⟩ := invB I qb
    obtain ⟨u, hu, rxu⟩ := ru.get hx
    obtain ⟨v, hv, ryv⟩ := rv.get hy
    have li : i < us.length := (List.getElem?_eq_some_iff.mp hu).1
    have lj : i < vs.length := (List.getElem?_eq_some_iff.mp hv).1
    have hn : X.A.in1.handled = none := I.ok.hd hc
    have zl : z < s.heap.objs.size := Heap.lt_size k1
    refine wpAny_pyNext_zipD2_item D.S (drawsB hn i1 a D.a1 us.toArray) (drawsB hn i2 b D.b2 vs.toArray) k1 k2 k3 ⟨k4, pa⟩ ⟨k5, pb⟩ (by simpa using li) (by simpa using lj) ?_
    intro c1 c2 h' tk e1 e2 z' TO' st1 st2 new' size' keep'
    have f1 : c1 = u := by
      have q : us[i]? = some c1 := by simpa using e1
      rw [hu] at q
      exact (Option.some.inj q).symm
    have f2 : c2 = v := by
      have q : vs[i]? = some c2 := by simpa using e2
      rw [hv] at q
      exact (Option.some.inj q).symm
    subst f1 f2
    refine ⟨_, rfl, wpAny_letOwnedTupleGo_zip (s := { s with heap := h', toks := tk }) z' fun h'' z'' sb => ?_⟩
    have tup' : h''.get? s.heap.objs.size = some { cls := .type "tuple", data := .seq #[c1, c2] } := (sb.2 _ (Nat.ne_of_gt zl)).trans new'
    have ok : ObjOk X.prog X.w (upd H s.heap.objs.size (.tup [x, y])) h'' s.heap.objs.size (.tup [x, y]) := ⟨by show 2 ≤ sizeLine; decide, [c1, c2], .cons rxu (.cons ryv .nil), ⟨_, tup', rfl, _, rfl⟩⟩
    have J : Inv X pins σ (upd H s.heap.objs.size (.tup [x, y])) { s with heap := h'', toks := tk } := by
      refine I.turnedNew (t' := tk) (ch := [z, TI, TO, i1, i2]) (fun c o hb q => ?_) fr (Nat.le_refl _) ok
      have ne : ∀ d, d ∈ [z, TI, TO, i1, i2] → c ≠ d := fun d hd e => hb (e ▸ hd)
      exact (sb.2 c (ne z (by simp))).trans (keep' c o (ne z (by simp)) (ne TO (by simp)) (ne i1 (by simp)) (ne i2 (by simp)) q)
    have TIz : h''.get? TI = some { cls := .type "tuple", data := .seq #[.ref i1, .ref i2] } := (sb.2 _ D.S.TIz).trans (keep' _ _ D.S.TIz D.S.TITO D.S.TIi1 D.S.TIi2 k2)
    refine ⟨.ref s.heap.objs.size, _, J, rfl, ⟨_, x, y, rfl, I.hok.fresh (Nat.le_refl _), rfl, fun l hl => by rw [injB I qa hl]; exact hx, fun l hl => by rw [injB I qb hl]; exact hy⟩, ⟨z'', TIz, ⟨c1, c2, (sb.2 _ D.S.TOz).trans TO'⟩, itB_at st1.1 fun o q => (sb.2 _ D.S.zi1.symm).trans q, itB_at st2.1 fun o q => (sb.2 _ D.S.zi2.symm).trans q⟩, fun c hcm => ?_⟩
    have lt : c < s.heap.objs.size := by
      have five : c = z ∨ c = TI ∨ c = TO ∨ c = i1 ∨ c = i2 := by simpa using hcm
      rcases five with e | e | e | e | e <;> subst e
      · exact zl
      · exact Heap.lt_size k2
      · exact Heap.lt_size k3
      · exact Heap.lt_size (itB_obj k4).choose_spec.1
      · exact Heap.lt_size (itB_obj k5).choose_spec.1
    rw [upd_ne (Nat.ne_of_lt lt)]
    exact (fr c hcm).1
  done := by
    intro X eP ew eK hc i pins s σ H E I fr st go
    subst eP ew eK
    obtain ⟨k1, k2, ⟨x0, y0, k3⟩, k4, k5⟩ := st
    obtain ⟨xs, ys, qa, qb, l1, l2, le⟩ := go
    obtain ⟨us, ru, pa⟩ := invB I qa
    obtain ⟨vs, rv, pb⟩ := invB I qb
    have e1 := ru.length
    have e2 := rv.length
    have hn : X.A.in1.handled = none := I.ok.hd hc
    refine wpAny_pyNext_zipD2_end D.S (drawsB hn i1 a D.a1 us.toArray) (drawsB hn i2 b D.b2 vs.toArray) k1 k2 k3 ⟨k4, pa⟩ ⟨k5, pb⟩ (by simp; omega) (by simp; omega) (by simp; omega) fun h' tk keep' => ⟨rfl, ?_⟩
    refine I.turnedL (t' := tk) (ch := [z, TI, TO, i1, i2]) (fun c o hb q => ?_) fr
    have ne : ∀ d, d ∈ [z, TI, TO, i1, i2] → c ≠ d := fun d hd e => hb (e ▸ hd)
    exact keep' c o (ne z (by simp)) (ne TO (by simp)) (ne i1 (by simp)) (ne i2 (by simp)) q
  self := fun A i s Q E st h => wpAny_pyIter_zip st.1 h
/-- zip(x, y): each a list or a tuple -/
def iZipU (K : PySem.W.Frag) (ta : TA) : TI := fun σ H R => ta σ H fun vs H1 => ∃ a b t1 t2 xs ys, vs = [.ref a, .ref b] ∧ SqB K t1 H1 a xs ∧ SqB K t2 H1 b ys ∧ R (ItzM K t1 t2 a b) H1
theorem pi_zipU {X : Cx} {e e2 : Expr} {ta : TA} {p pos tpos : Pos} {elts : List Expr} {kk : Nat} (hg : Gl X "zip") (hm : X.mg "zip" = none) (ha : PA X [e, e2] ta)
    (hs : starEach [e, e2] X.env = (false, eval e X.env) :: starEach [e2] X.env := by rfl) (hpl : (backTo pos (starEach [e2] X.env)).any (·.1) = false := by rfl) : PI X (.Tuple elts kk tpos) (.Call (.Name "zip" p) [e, e2] [] pos) (iZipU X.K ta) := by
  refine ⟨fun pins s σ H R I h => Call_ (ld_blt I hg hm PyProof.Rows.boot_zip (PyProof.Rows.callWith_type1 (thn (ha.run pos pins s σ H _ I h) fun us s1 ⟨vs, H1, I1, r1, q1⟩ => ?_) hs hpl))⟩
  obtain ⟨a, b, t1, t2, xs, ys, rfl, qa, qb, q⟩ := q1
  obtain ⟨w1, w2, rfl, c1, c2⟩ := vals2 r1
  obtain rfl : w1 = Value.ref a := c1
  obtain rfl : w2 = Value.ref b := c2
  obtain ⟨us, ru, pa⟩ := invB I1 qa
  obtain ⟨vs, rv, pb⟩ := invB I1 qb
  have fresh : ∀ c, c ∈ [s1.heap.objs.size + 4, s1.heap.objs.size + 2, s1.heap.objs.size + 3, s1.heap.objs.size, s1.heap.objs.size + 1] → FpOk X pins H1 c := fun c hcm => by
    have le : s1.heap.objs.size ≤ c := by
      simp only [List.mem_cons, List.not_mem_nil, or_false] at hcm
      rcases hcm with e | e | e | e | e <;> subst e <;> first | exact Nat.le_refl _ | exact Nat.le_add_right _ _
    exact I1.fpOk le (I1.hok.fresh le)
  refine zip_begins2 (beginsB (t := t1) a us.toArray) (beginsB (t := t2) b vs.toArray) pa pb fun h' kz kTI kTO g1 g2 size' keep' => wpAny_pyIter_zip kz ?_
  have J : Inv X pins σ H1 { s1 with heap := h' } := I1.kept (t' := s1.toks) keep'
  exact ⟨_, _, _, _, H1, rfl, J, turn_zipM (apart_of (isB_lt pa) (isB_lt pb)), ⟨kz, kTI, ⟨_, _, kTO⟩, itB_of g1, itB_of g2⟩, fresh, q⟩
theorem walk_zipM {K : PySem.W.Frag} {t1 t2 : Bool} {a b : Addr} {xs ys : List V} {n : Nat} (hn : n = xs.length) (hm : n = ys.length) : Walk (ItzM K t1 t2 a b) n (fun H => SqB K t1 H a xs ∧ SqB K t2 H b ys) (YPair (fun i => xs[i]?) (fun i => ys[i]?)) := by
  subst hn
  refine ⟨fun i _ hi q => ⟨xs, ys, xs[i], ys[i]'(by omega), q.1, q.2, by simp, by simp⟩, fun _ q => ⟨xs, ys, q.1, q.2, by omega, by omega, by omega⟩, fun i H v H' _ q y => ?_⟩
  obtain ⟨T, x, z, h1, h2, h3, h4, h5⟩ := y
  exact ⟨T, x, z, h1, h2, h3, h4 xs q.1, h5 ys q.2⟩
/-- a sequence of either kind, walked -/
def ItsB (K : PySem.W.Frag) : Bool → Addr → It
  | true => fun a => Itt K a
  | false => fun a => Itl K a
def iSq (K : PySem.W.Frag) (ta : TE) : TI := fun σ H R => ta σ H fun x H1 => ∃ a t xs, x = .ref a ∧ SqB K t H1 a xs ∧ R (ItsB K t a) H1
theorem pi_sq {X : Cx} {tg e : Expr} {ta : TE} (he : PE X e ta) : PI X tg e (iSq X.K ta) := by
  refine ⟨fun pins s σ H R I h => thn (he.run pins s σ H _ I h) fun v s1 ⟨x, H1, I1, rx, a, t, xs, ex, hs, q⟩ => ?_⟩
  subst ex
  obtain rfl : v = Value.ref a := rx
  have fresh : ∀ c, c ∈ [s1.heap.objs.size] → FpOk X pins H1 c := fun c hc => by
    rw [List.mem_singleton.mp hc]
    exact I1.fpOk (Nat.le_refl _) (I1.hok.fresh (Nat.le_refl _))
  cases t
  · obtain ⟨us, ru, pl, _⟩ := I1.list hs
    exact wpAny_pyIter_list pl.isList ⟨_, [s1.heap.objs.size], _, _, H1, rfl, I1.kept (t' := s1.toks) (fun _ _ z => Heap.get?_push_of_some _ z), turn_list a _, ⟨_, Heap.get?_push_size _ rfl, rfl, rfl⟩, fresh, q⟩
  · obtain ⟨us, ru, pl, _⟩ := I1.tuple hs
    exact wpAny_pyIter_tuple (items := us.toArray) pl ⟨_, [s1.heap.objs.size], _, _, H1, rfl, I1.kept (t' := s1.toks) (fun _ _ z => Heap.get?_push_of_some _ z), turn_tuple a _, ⟨_, Heap.get?_push_size _ rfl, rfl, rfl⟩, fresh, q⟩
theorem walk_sq {K : PySem.W.Frag} {t : Bool} {a : Addr} {xs : List V} : Walk (ItsB K t a) xs.length (fun H => SqB K t H a xs) (YAt xs) := by
  cases t
  · exact walk_list
  · exact walk_tup
section
variable {K : PySem.W.Frag} {σ : L2.St} {H H' : Hp} {Q : VK} {D : Ends} {ta : TE} {t : TA} {g : TG} {tb : TS} {a b : Addr} {xs ys : List V} {k k2 : Bool} {R : It → Hp → Prop} {v : V}
theorem same_sqb (e : Same H H') (h : SqB K k H a xs) : SqB K k H' a xs := by
  cases k
  · exact U.same_sql e h
  · exact U.same_sqt e h
def sqK (K : PySem.W.Frag) (R : It → Hp → Prop) : VK := fun x H1 => ∃ a t xs, x = .ref a ∧ SqB K t H1 a xs ∧ R (ItsB K t a) H1
def zuK (K : PySem.W.Frag) (R : It → Hp → Prop) : List V → Hp → Prop := fun vs H1 => ∃ a b t1 t2 xs ys, vs = [.ref a, .ref b] ∧ SqB K t1 H1 a xs ∧ SqB K t2 H1 b ys ∧ R (ItzM K t1 t2 a b) H1
theorem v_sq (q : ta σ H (sqK K R)) : iSq K ta σ H R := q
theorem v_sqr (h : SqB K k H a xs) (q : R (ItsB K k a) H) : sqK K R (.ref a) H := ⟨a, k, xs, rfl, h, q⟩
theorem v_zu (q : t σ H (zuK K R)) : iZipU K t σ H R := q
theorem v_zur (ha : SqB K k H a xs) (hb : SqB K k2 H b ys) (q : R (ItzM K k k2 a b) H) : zuK K R [.ref a, .ref b] H := ⟨a, b, k, k2, xs, ys, rfl, ha, hb, q⟩
theorem v_lenb (h : SqB K k H a xs) (q : Q (.int xs.length) H) : U.rLenU K [.ref a] H Q := by
  cases k
  · exact U.v_lenl h q
  · exact U.v_lent h q
theorem v_ixb {n : Int} (h : SqB K k H a xs) (e : atI xs n = some v) (q : Q v H) : rIx K (.ref a) (.int n) H Q := by
  cases k
  · exact U.v_ixl h e q
  · exact U.v_ixt h e q
theorem v_listb (h : SqB K k H a xs) (q : ∀ l, H l = none → Q (.ref l) (upd H l (.lst xs))) : U.rListOf K [.ref a] H Q := by
  cases k
  · exact U.v_list h q
  · exact U.v_listt h q
theorem v_tupb (h : SqB K k H a xs) (q : ∀ l H', Same H H' → SqT K H' l xs → (H l = none ∧ H' = upd H l (.tup xs) ∨ l = a ∧ H' = H) → Q (.ref l) H') : U.rTupOf K [.ref a] H Q := by
  cases k
  · exact U.v_tuple h fun l hl => q l _ (U.same_new hl) (.inl (.inl upd_same)) (.inl ⟨hl, rfl⟩)
  · exact ⟨a, xs, rfl, .inr ⟨h, q a H (Same.refl H) h (.inr ⟨rfl, rfl⟩)⟩⟩
theorem for_sq (Pv : Nat → L2.St → Hp → Prop) (h0 : Pv 0 σ H) (hG : ∀ i σ H, i ≤ xs.length → Pv i σ H → SqB K k H a xs)
    (hs : ∀ i x σ H, xs[i]? = some x → Pv i σ H → g x σ H fun σ2 H2 => tb { D with nx := Pv (i + 1), ct := Pv (i + 1), bk := D.nx } σ2 H2) (hd : ∀ σ H, Pv xs.length σ H → D.nx σ H) : U.forI (ItsB K k a) g tb D σ H :=
  U.for_w walk_sq Pv h0 hG (fun i x σ H H' hi p ⟨e, q⟩ => by subst e; exact hs i x σ H' q p) hd
theorem sqb_lst (h : H a = some (.lst xs)) : SqB K false H a xs := SqL.of h
theorem sqb_tup (h : H a = some (.tup xs)) : SqB K true H a xs := .inl (.inl h)
end
section
variable {σ : L2.St} {H : Hp} {Q : VK} {r r' : R2} {ta tb tc : TE} {to te : TE} {D : Ends} {t : TA} {i j l : Nat} {v w x : V}
theorem v_chain (q : ta σ H fun x H1 => tb σ H1 fun y H2 => r x y H2 fun z H3 => ∃ k, z = .bl k ∧ (if k = true then tc σ H3 fun w' H4 => r' y w' H4 Q else Q (.bl false) H3)) : tChain r r' ta tb tc σ H Q := q
theorem v_m1 {r : V → List V → Hp → VK → Prop} (q : to σ H fun x H1 => (∃ a, x = .str a) ∧ te σ H1 fun y H2 => r x [y] H2 Q) : tM1 r to te σ H Q := q
theorem v_par3 (q : t σ H fun vs H1 => ∃ u v w, vs = [u, v, w] ∧ D.nx (((σ.set i (some u)).set j (some v)).set l (some w)) H1) : tPar3 i j l t D σ H := q
theorem v_x3 {P : V → V → V → Prop} (q : P v w x) : ∃ a b c, [v, w, x] = [a, b, c] ∧ P a b c := ⟨v, w, x, rfl, q⟩
end
def rJoinL (K : PySem.W.Frag) : V → List V → Hp → VK → Prop := fun x xs H Q => ∃ a p, ∃ ys : List Str, x = .str a ∧ xs = [.ref p] ∧ (SqL K H p (ys.map V.str) ∨ SqT K H p (ys.map V.str)) ∧ (ys.map (·.length)).sum + ys.length * a.length ≤ 16777216 ∧ Q (.str (Txt.join a ys)) H
end ZM
end
section
set_option Elab.async false
set_option linter.all false
set_option maxRecDepth 100000
set_option maxHeartbeats 4000000
/-! Operators of own classes. -/
namespace U
open PySem PySem.Spec PyProof.Rows L2 RZ
/-- x op y by the left one's own method, both of the class at C -/
def rSelf (C : Addr) (sp : Sp) : R2 := fun x y H Q => ∃ a b dx dy fs gs, x = .ref a ∧ y = .ref b ∧ H a = some (.ins C dx fs) ∧ H b = some (.ins C dy gs) ∧ sp [.ref a, .ref b] H Q E0
theorem back_of {X : Cx} {pins : List (Addr × Obj)} {σ : L2.St} {Q : VK} {v : Value} {s : Shared} (h : EP X pins σ Q v s) : PySem.W.CmpBack (EP X pins σ Q) v s := by
  have h' := h
  obtain ⟨x, H', I, r, q⟩ := h
  cases x with
  | non => cases (show v = Value.none from r); exact h'
  | bl b => cases (show v = Value.bool b from r); exact h'
  | int i => obtain ⟨t, e⟩ := (show ∃ t, v = Value.int i t from r); subst e; exact h'
  | str i => obtain ⟨t, e⟩ := (show ∃ t, v = Value.str i t from r); subst e; exact h'
  | byt i => obtain ⟨t, e⟩ := (show ∃ t, v = Value.bytes i t from r); subst e; exact h'
  | flt i => obtain ⟨t, e⟩ := (show ∃ t, v = Value.float i t from r); subst e; exact h'
  | ref a => cases (show v = Value.ref a from r); exact h'
  | ty n => cases (show v = Value.type n from r); exact h'
theorem o_own {X : Cx} {op : Operator} {C : Addr} {m : Str} {k : Nat} {ps : List Str} {sp : Sp} (D : Md X.prog X.w X.K X.mg X.base C m k ps sp) (hr : Room k X.A) (hc : PySem.W.selfFirst X.K C = true) (hm : PySem.dunder op.info.2 = m := by rfl) : OpR X (binaryOp op) (rSelf C sp) := by
  intro pins s σ H x y v u Q I rx ry h
  obtain ⟨a, b, dx, dy, fs, gs, rfl, rfl, ha, hb, q⟩ := h
  obtain ⟨f, fd, F, _, M, B⟩ := D.ex
  obtain rfl : v = Value.ref a := rx
  obtain rfl : u = Value.ref b := ry
  obtain ⟨mA, J, _⟩ := ins_get I.hok ha
  obtain ⟨mB, J', _⟩ := ins_get I.hok hb
  obtain ⟨od, J, _⟩ := J.look
  obtain ⟨od', J', _⟩ := J'.look
  obtain ⟨m', hF⟩ := I.fr
  refine PySem.W.binop_K hF I.ok.mod.kin J J'.type hc (by rw [hm]; exact M.at_) M.fn ?_
  refine thn (run_fn (us := [.ref a, .ref b]) (vs := [.ref a, .ref b]) F hr B .nil pass0 I (.cons rfl (.cons rfl .nil)) (by rw [List.append_nil]; exact q)) fun v s' z => back_of z
end U
namespace U
open PySem PySem.Spec PyProof.Rows L2 RZ
/-- x == y by the left one's own method, both of the class at C -/
theorem o_ownC {X : Cx} {op : CmpOp} {C : Addr} {m : Str} {k : Nat} {ps : List Str} {sp : Sp} (D : Md X.prog X.w X.K X.mg X.base C m k ps sp) (hr : Room k X.A) (hop : ∀ a b, compareOp op a b = richCompare op a b := by intro _ _; rfl) (hm : (cmpInfo op).2.1 = m := by rfl) : OpR X (compareOp op) (rSelf C sp) := by
  intro pins s σ H x y v u Q I rx ry h
  obtain ⟨a, b, dx, dy, fs, gs, rfl, rfl, ha, hb, q⟩ := h
  obtain ⟨f, fd, F, _, M, B⟩ := D.ex
  obtain rfl : v = Value.ref a := rx
  obtain rfl : u = Value.ref b := ry
  obtain ⟨mA, J, _⟩ := ins_get I.hok ha
  obtain ⟨mB, J', _⟩ := ins_get I.hok hb
  obtain ⟨od, J, _⟩ := J.look
  obtain ⟨od', J', _⟩ := J'.look
  obtain ⟨m', hF⟩ := I.fr
  rw [hop]
  refine PySem.W.cmp_K hr.units0 hF I.ok.mod.kin J J'.type (by simp [PySem.W.notFirst]) (by rw [hm]; exact M.at_) M.fn ?_
  refine thn (run_fn (us := [.ref a, .ref b]) (vs := [.ref a, .ref b]) F hr B .nil pass0 I (.cons rfl (.cons rfl .nil)) (by rw [List.append_nil]; exact q)) fun v s' z => back_of z
end U
namespace U
open PySem PySem.Spec PyProof.Rows L2 RZ
/-- math.lcm of two -/
def rLcm : List V → Hp → VK → Prop := fun vs H Q => ∃ a b : Int, vs = [.int a, .int b] ∧ a.natAbs < 2 ^ 13000 ∧ b.natAbs < 2 ^ 13000 ∧ Q (.int ((Nat.lcm a.natAbs b.natAbs : Nat) : Int)) H
theorem log_lt {n k : Nat} (hk : 0 < k) (h : n < 2 ^ k) : n.log2 < k := PySem.Flt.log2_lt_of hk h
theorem cr_lcm {X : Cx} : CallR X (.builtin "math.lcm") rLcm := by
  intro pins s σ H vs us Q I r h
  obtain ⟨a, b, rfl, ha, hb, q⟩ := h
  obtain ⟨t, u, rfl⟩ := Vals.int2 r
  have la : a.natAbs.log2 < 13000 := log_lt (by decide) ha
  have m1 : (max 1 a.natAbs).log2 < 13000 := log_lt (by decide) (by have : 1 < 2 ^ 13000 := Nat.one_lt_two_pow (by decide); omega)
  have m2 : (max a.natAbs b.natAbs).log2 < 13000 := log_lt (by decide) (by omega)
  have e1 : Nat.lcm 1 a.natAbs = a.natAbs := by rw [Nat.lcm_one_left]
  have l : ((((Nat.lcm 1 a.natAbs).lcm b.natAbs : Nat) : Int)).natAbs.log2 < bitsLine := by
    rw [e1, Int.natAbs_natCast]
    have h1 : Nat.lcm a.natAbs b.natAbs ≤ a.natAbs * b.natAbs := Nat.div_le_self _ _
    have h2 : a.natAbs * b.natAbs < 2 ^ 13000 * 2 ^ 13000 := Nat.mul_lt_mul'' ha hb
    rw [← Nat.pow_add] at h2
    have := log_lt (by decide) (Nat.lt_of_le_of_lt h1 h2)
    unfold bitsLine
    omega
  refine PySem.call_function_meets PySem.W.MGF.kind_lcm PySem.W.MGF.plain_lcm PySem.W.MGF.entry_lcm (PySem.W.MGF.args_lcm _ _) (PySem.W.mg_run_lcm a t b u (by omega) (by omega) l).meets ?_
  exact ⟨.int _, H, I.tok _, ⟨_, by rw [e1]⟩, q⟩
end U
end
section
set_option Elab.async false
set_option linter.all false
set_option maxRecDepth 100000
set_option maxHeartbeats 4000000
/-! enumerate of a list or a tuple. -/
namespace ZM
open PySem PySem.Spec PyProof.Rows L2 RZ
set_option maxHeartbeats 4000000 in
theorem meets_enum_new1 {v : Value} {o : Obj} {H : Heap → Prop} (B : Begins v o H) :
    Meets (Builtin.«enumerate.__new__» ⟨[.type "enumerate", v], []⟩) (fun _ R s => H s.heap ∧
      R (.ok (.ret (.ref (s.heap.push o).objs.size))) { s with heap := (s.heap.push o).push { cls := .type "enumerate", data := .fields #[.none, .bool false, .ref s.heap.objs.size, rawInt 0, .none, .none] } }) :=
  .of_wp fun prog w A R s h => by
    obtain ⟨hp, g, d, tk, os⟩ := s; obtain ⟨h1, h⟩ := h
    have hsub := sub_enumerate
    have q1 : ∀ {A' : Around} {E : Value → Shared → Prop} {Q : Value → Shared → Prop}, Q (.ref hp.objs.size) ⟨hp.push o, g, d, tk, os⟩ → wpAny (model prog w) A' (pyIter v) Q E ⟨hp, g, d, tk, os⟩ :=
      fun q => B.iter prog w _ _ ⟨hp, g, d, tk, os⟩ _ h1 q
    wp_walk using q1
    refine wpAny_stack_any fun st => wpAny_pure ?_
    split
    · rename_i c _ _ _ _ _
      cases (c == Value.type "enumerate")
      · wp_walk using q1
        exact ⟨_, rfl, h⟩
      · wp_walk using q1
        exact ⟨_, rfl, h⟩
    · wp_walk using q1
      exact ⟨_, rfl, h⟩
theorem call_enum1 {prog : Program} {w : World} {A : Around} {E : Value → Shared → Prop} {s : Shared} {v : Value} {o : Obj} {H : Heap → Prop} {Q : Value → Shared → Prop} (B : Begins v o H) (h1 : H s.heap)
    (h : ∀ h', IsEnum h' (s.heap.objs.size + 1) s.heap.objs.size 0 .none → h'.get? s.heap.objs.size = some o → h'.objs.size = s.heap.objs.size + 2 →
      (∀ b o, s.heap.get? b = some o → h'.get? b = some o) → Q (.ref (s.heap.objs.size + 1)) { s with heap := h' }) :
    wpAny (model prog w) A (call (.type "enumerate") [v]) Q E s := by
  refine callType_new F.called_enumerate (by decide) (F.typeCall_enumerate_1 _) (F.newCall_enumerate_1 _) (fun obj => F.args_object_init_2 obj _) F.entry_enumerate_new
    (meets_enum_new1 B) ⟨h1, ?_⟩
  have hz : (s.heap.push o).objs.size = s.heap.objs.size + 1 := Heap.size_push ..
  show _ ∧ _
  rw [hz]
  have he : IsEnum ((s.heap.push o).push { cls := .type "enumerate", data := .fields #[.none, .bool false, .ref s.heap.objs.size, rawInt 0, .none, .none] }) (s.heap.objs.size + 1) s.heap.objs.size 0 .none := by
    have := Heap.get?_push_size (s.heap.push o) (o := { cls := .type "enumerate", data := .fields #[.none, .bool false, .ref s.heap.objs.size, rawInt 0, .none, .none] }) rfl
    rw [hz] at this; exact this
  refine ⟨⟨_, he, rfl⟩, h _ he (Heap.get?_push_of_some _ (Heap.get?_push_size _ B.free)) (by rw [Heap.size_push, hz]) fun b o' x => Heap.get?_push_of_some _ (Heap.get?_push_of_some _ x)⟩
/-- the sequence at a as it stands at each turn, each item in a new pair -/
def IteM (K : PySem.W.Frag) (t : Bool) (a : Addr) : It :=
  ⟨fun i H => ∃ (xs : List V) (x : V), SqB K t H a xs ∧ xs[i]? = some x, fun i H v H' => ∃ T x, v = .ref T ∧ H T = none ∧ H' = upd H T (.tup [.int (i : Nat), x]) ∧ ∀ xs, SqB K t H a xs → xs[i]? = some x, fun i H => ∃ xs : List V, SqB K t H a xs ∧ xs.length = i⟩
theorem turn_enumM {P : Program} {w : World} {K : PySem.W.Frag} {elts : List Expr} {kk : Nat} {tpos : Pos} {t : Bool} (a e it : Addr) (hae : a ≠ e) (hai : a ≠ it) :
    Turn P w K (.Tuple elts kk tpos) (IteM K t a) [e, it] e (fun i h => (∃ old, IsEnum h e it ((i : Nat) : Int) old) ∧ ItB t h it a i ∧ e ≠ it) where
  mem := by simp
  obj := fun i h st b hb => by
    obtain ⟨⟨old, he⟩, hi, _⟩ := st
    have e' : b = e ∨ b = it := by simpa using hb
    rcases e' with z | z
    · rw [z]; exact ⟨_, he, fun v q => nomatch q⟩
    · rw [z]; exact itB_obj hi
  keep := fun i h h' st k => let ⟨⟨old, he⟩, hi, hne⟩ := st; ⟨⟨old, k e (by simp) _ he⟩, itB_at hi fun o q => k it (by simp) o q, hne⟩
  item := by
    intro X hP hw hK hc i pins s σ H E I hf st hg
    subst hP hw hK
    obtain ⟨⟨old, he⟩, hit, hne⟩ := st
    obtain ⟨xs, x, hq, hx⟩ := hg
    obtain ⟨its, rv, p⟩ := invB I hq
    obtain ⟨u, hu, ru⟩ := rv.get hx
    have hel : e < s.heap.objs.size := Heap.lt_size he
    have hil : it < s.heap.objs.size := by obtain ⟨_, q, _⟩ := itB_obj hit; exact Heap.lt_size q
    have hn : X.A.in1.handled = none := I.ok.hd hc
    have li : i < its.length := (List.getElem?_eq_some_iff.mp hu).1
    refine wpAny_pyNext_enum_itemD (drawsB hn it a hai its.toArray) he ⟨hit, p⟩ (by simpa using li) hne (by simp [hne, Ne.symm hae]) fun c h' tk pc ho hst hT hsz hk => ?_
    have ec : c = u := by
      have q : its[i]? = some c := by simpa using pc
      rw [hu] at q
      exact (Option.some.inj q).symm
    subst ec
    refine ⟨_, rfl, wpAny_letOwnedTupleGo_enum (s := { s with heap := h', toks := tk + 1 }) ho fun h'' he' sb => ?_⟩
    have hT2 : h''.get? s.heap.objs.size = some { cls := .type "tuple", data := .seq #[.int i tk, c] } := (sb.2 _ (Nat.ne_of_gt hel)).trans hT
    have new : ObjOk X.prog X.w (upd H s.heap.objs.size (.tup [.int (i : Nat), x])) h'' s.heap.objs.size (.tup [.int (i : Nat), x]) :=
      ⟨by show 2 ≤ sizeLine; decide, [.int i tk, c], .cons ⟨_, rfl⟩ (.cons ru .nil), ⟨_, hT2, rfl, _, rfl⟩⟩
    have I1 : Inv X pins σ (upd H s.heap.objs.size (.tup [.int (i : Nat), x])) { s with heap := h'', toks := tk + 1 } :=
      I.turnedNew (ch := [e, it]) (fun b ob hb q => (sb.2 b (fun z => hb (by simp [z]))).trans (hk b ob (fun z => hb (by simp [z])) (fun z => hb (by simp [z])) q)) hf (Nat.le_refl _) new
    refine ⟨.ref s.heap.objs.size, _, I1, rfl, ⟨_, x, rfl, I.hok.fresh (Nat.le_refl _), rfl, fun ys hy => by rw [injB I hq hy]; exact hx⟩, ⟨⟨c, ?_⟩, itB_at hst.1 fun o q => (sb.2 it (Ne.symm hne)).trans q, hne⟩, fun b hb => ?_⟩
    · have e1 : ((i + 1 : Nat) : Int) = (i : Int) + 1 := by omega
      rw [e1]; exact he'
    · have hb' : b < s.heap.objs.size := by
        have e' : b = e ∨ b = it := by simpa using hb
        rcases e' with z | z
        · rw [z]; exact hel
        · rw [z]; exact hil
      rw [upd_ne (Nat.ne_of_lt hb')]
      exact (hf b hb).1
  done := by
    intro X hP hw hK hc i pins s σ H E I hf st hg
    subst hP hw hK
    obtain ⟨⟨old, he⟩, hit, hne⟩ := st
    obtain ⟨xs, hq, hx⟩ := hg
    obtain ⟨its, rv, p⟩ := invB I hq
    obtain ⟨f0, f1, f2, f3, f4, f5⟩ := hf it (by simp)
    have hl := rv.length
    have hn : X.A.in1.handled = none := I.ok.hd hc
    have hst : ItB t s.heap it a its.toArray.size ∧ IsB t s.heap a its.toArray := ⟨by rw [List.size_toArray, ← hl, hx]; exact hit, p⟩
    exact wpAny_pyNext_enum_endD (drawsB hn it a hai its.toArray) he hst fun h' eb => ⟨rfl, I.turned (t' := s.toks) (fun b o hb q => eb b o hb q) f0 f1 f3 f4 f5⟩
  self := fun A i s Q E st h => let ⟨⟨_, he⟩, _⟩ := st; wpAny_pyIter_enum he h
/-- enumerate(x): a list or a tuple -/
def iEnumU (K : PySem.W.Frag) (ta : TA) : TI := fun σ H R => ta σ H fun vs H1 => ∃ a t xs, vs = [.ref a] ∧ SqB K t H1 a xs ∧ R (IteM K t a) H1
theorem pi_enumU {X : Cx} {e : Expr} {ta : TA} {p pos tpos : Pos} {elts : List Expr} {kk : Nat} (hg : Gl X "enumerate") (hm : X.mg "enumerate" = none) (ha : PA X [e] ta) (hs : starEach [e] X.env = [(false, eval e X.env)] := by rfl) :
    PI X (.Tuple elts kk tpos) (.Call (.Name "enumerate" p) [e] [] pos) (iEnumU X.K ta) := by
  refine ⟨fun pins s σ H R I h => ?_⟩
  refine Call_ (ld_blt I hg hm boot_enumerate (PyProof.Rows.callWith_type1 (thn (ha.run pos pins s σ H _ I h) fun us s1 ⟨vs, H1, I1, r1, q1⟩ => ?_) hs rfl))
  obtain ⟨a, t, xs, ex, hq, q⟩ := q1
  subst ex
  cases r1 with
  | cons r rr =>
    cases rr
    cases r
    obtain ⟨its, rv, p'⟩ := invB I1 hq
    have al := isB_lt p'
    refine call_enum1 (beginsB (t := t) a its.toArray) p' fun h' he hit hsz hk => wpAny_pyIter_enum he ?_
    have I2 : Inv X pins σ H1 { s1 with heap := h' } := I1.kept (t' := s1.toks) hk
    refine ⟨s1.heap.objs.size + 1, [s1.heap.objs.size + 1, s1.heap.objs.size], _, _, H1, rfl, I2, turn_enumM a (s1.heap.objs.size + 1) s1.heap.objs.size (Nat.ne_of_lt (Nat.lt_succ_of_lt al)) (Nat.ne_of_lt al), ⟨⟨.none, he⟩, itB_of hit, Nat.succ_ne_self _⟩, fun b hb => ?_, q⟩
    have e' : b = s1.heap.objs.size + 1 ∨ b = s1.heap.objs.size := by simpa using hb
    have hle : s1.heap.objs.size ≤ b := by
      rcases e' with z | z
      · rw [z]; exact Nat.le_add_right _ _
      · rw [z]; exact Nat.le_refl _
    exact I1.fpOk hle (I1.hok.fresh hle)
theorem walk_enumM {K : PySem.W.Frag} {t : Bool} {a : Addr} {xs : List V} : Walk (IteM K t a) xs.length (fun H => SqB K t H a xs) (YPair (fun i => some (.int (i : Nat))) (fun i => xs[i]?)) := by
  refine ⟨fun i _ hi q => ⟨xs, xs[i], q, by simp [hi]⟩, fun _ q => ⟨xs, q, rfl⟩, fun i H v H' _ q y => ?_⟩
  obtain ⟨T, x, h1, h2, h3, h4⟩ := y
  exact ⟨T, .int (i : Nat), x, h1, h2, h3, rfl, h4 xs q⟩
theorem v_eu {K : PySem.W.Frag} {t : TA} {σ : L2.St} {H : Hp} {R : It → Hp → Prop} (q : t σ H fun vs H1 => ∃ a t xs, vs = [.ref a] ∧ SqB K t H1 a xs ∧ R (IteM K t a) H1) : iEnumU K t σ H R := q
end ZM
end
section
set_option Elab.async false
set_option linter.all false
set_option maxRecDepth 100000
set_option maxHeartbeats 4000000
/-! t + u of tuples, t empty: u itself. -/
namespace U
open PySem PySem.Spec PyProof PyProof.Rows L2 RZ
def rCatT0 (K : PySem.W.Frag) : R2 := fun x y H Q => ∃ a b ys, x = .ref a ∧ y = .ref b ∧ SqT K H a [] ∧ SqT K H b ys ∧ Q (.ref b) H
theorem cat_tup0 {prog : Program} {w : World} {A : Around} {E : Value → Shared → Prop} {s : Shared} {t b : Addr} {ws : List Value} {Q : Value → Shared → Prop} (ht : IsTup s.heap t #[]) (hb : IsTup s.heap b ws.toArray) (h : Q (.ref b) s) : wpAny (model prog w) A (binaryOp .Add (.ref t) (.ref b)) Q E s := by
  obtain ⟨⟨cls, dd, data, sl⟩, ho, hc, n, hd⟩ := id ht
  obtain ⟨⟨cls2, dd2, data2, sl2⟩, ho2, hc2, n2, hd2⟩ := id hb
  simp only at hc hd hc2 hd2
  subst hc hd hc2 hd2
  exact concat_meets ⟨_, ho, rfl⟩ ⟨_, ho2, rfl⟩ noFill_tuple_add seq_tuple_add PySem.F.slot_tuple_add PySem.F.entry_tuple_add (PySem.F.args_tuple_add_2 _ _)
    (tuple_addW0 t b #[] ws.toArray n n2 dd dd2 sl sl2 rfl) ⟨ho, ho2, h⟩
theorem op_catT0 {X : Cx} : OpR X (binaryOp .Add) (rCatT0 X.K) := by
  intro pins s σ H x y v u Q I rx ry h
  obtain ⟨a, b, ys, rfl, rfl, ha, hb, q⟩ := h
  cases rx
  cases ry
  obtain ⟨its, r1, p1, _⟩ := I.tuple ha
  obtain ⟨its2, r2, p2, _⟩ := I.tuple hb
  cases r1
  exact cat_tup0 p1 p2 ⟨.ref b, H, I, rfl, q⟩
def rAddV (K : PySem.W.Frag) : R2 := fun x y H Q => rAddU K x y H Q ∨ rCatT0 K x y H Q
theorem o_addV {X : Cx} : OpR X (binaryOp .Add) (rAddV X.K) := OpR.or o_add op_catT0
end U
end
section
set_option Elab.async false
set_option linter.all false
set_option maxRecDepth 100000
set_option maxHeartbeats 4000000
/-! name = {..: .. for ..} on one line, the name a local. -/
namespace U
open PySem PySem.Spec PyProof PyProof.Rows L2 RZ
variable {X : Cx}
theorem ps_setDc {i : Nat} {y : Str} {py : Pos} {kx vx tg iter : Expr} {ifs : List Expr} {scope : Scope} {own : List (Str × Nat)} {pos spos : Pos} {wi : TI} {g : TG} {tt : TT} {tk tv : TE} (hc : X.calm = true) (hN : X.N.Nodup) (hy : X.N[i]? = some y) (hyl : X.env.scope.names.lookup y = some .local)
    (hsw : swapsWith (.DictComp kx vx [⟨tg, iter, ifs, 0⟩] scope pos) (some (.Name y py)) spos.line X.env = pure true) (hi : PI X tg iter wi) (ok : BlkOk X.N X.env.scope scope own)
    (hg : ∀ (s : Shared) (H : Hp) (C : Addr) (cl : List (Str × Addr)) (fp : List Addr), PG (X.blk s H scope (compEnvC scope cl C X.env) fp) tg g) (ht : ∀ (s : Shared) (H : Hp) (C : Addr) (cl : List (Str × Addr)) (fp : List Addr), PTs (X.blk s H scope (compEnvC scope cl C X.env) fp) ifs tt)
    (hk : ∀ (s : Shared) (H : Hp) (C : Addr) (cl : List (Str × Addr)) (fp : List Addr), PE (X.blk s H scope (compEnvC scope cl C X.env) fp) kx tk)
    (he : ∀ (s : Shared) (H : Hp) (C : Addr) (cl : List (Str × Addr)) (fp : List Addr), PE (X.blk s H scope (compEnvC scope cl C X.env) fp) vx tv) (hs : ∀ x, foldedSetIterable iter X.env x = pure x := by intro _; rfl) :
    PS X (.Assign [.Name y py] (.DictComp kx vx [⟨tg, iter, ifs, 0⟩] scope pos) spos) (tAsg (tDc wi g tt tk tv (own.map (·.2))) (gName i)) := by
  refine ⟨fun pins s σ H D I h => ?_⟩
  rw [exec_Assign_Name_used _ _ _ _ hsw]
  refine wpAny_bind (wpAny_standAt (wpAny_bind ?_))
  show wpAny _ X.A (do let _ ← comprehension (.DictComp kx vx [⟨tg, iter, ifs, 0⟩] scope pos) scope X.env (firstIterPos [⟨tg, iter, ifs, 0⟩] pos) newDict false (eval iter X.env) (some (assign (.Name y py) X.env))) _ _ s
  have h : tDc wi g tt tk tv (own.map (·.2)) σ H (fun x H1 => gName i x σ H1 D.nx) := h
  refine wpAny_bind (thn (dc_core (Qf := fun _ s' => SP X pins D .next s') hc hN I hi ok hg ht hk he hs h fun L C s' m H' I' q hn f => ?_) fun _ s' hq => wpAny_pure (wpAny_pure hq))
  show wpAny _ _ (assign (.Name y py) X.env (.ref L)) _ _ _
  refine wpAny_assign_Name (store_ok2 (v := V.ref L) I' hN hy (.inl hyl) rfl (fun s2 I2 ⟨a, sb, ha⟩ => ?_) (.inr hyl))
  obtain ⟨f0, f1, f2, f3, f4, f5⟩ := f
  have haC : C ≠ a := by
    rcases ha with z | z
    · rw [z]; exact f1
    · exact fun e => f4 y a z e.symm
  refine ⟨m, hn.sameBut sb haC, fun h3 sb3 => ?_⟩
  exact ⟨_, H', I2.turned (t' := s2.toks) (fun b o hb e => (sb3.2 b hb).trans e) f0 f1 f3 f4 f5, q⟩
theorem sw_trueD {kx vx : Expr} {gs : List Comprehension} {scope : Scope} {pos py : Pos} {y : Str} {l : Nat} {env : Env} (hk : env.scope.kind = .function) (hy : env.scope.names.lookup y = some .local) (hl : (py.line == pos.line) = true)
    (ha : (scope.names.any fun (n, k) => n == y && (k == .local || k == .cell)) = false) : swapsWith (.DictComp kx vx gs scope pos) (some (.Name y py)) l env = pure true := by
  have ky : env.kindOf y = some .local := hy
  have hb : env.blockKind = .function := by unfold Env.blockKind; rw [hk]; rfl
  unfold swapsWith
  simp only [hb, ky, ha, Expr.pos, hl]
  rfl
end U
end
section
set_option maxHeartbeats 4000000
namespace C
open PySem PySem.Spec PyProof.Rows L2 RZ U ZM
local macro_rules | `(tactic| walk_at "vc1") => `(tactic| first
  | (with_reducible refine v_seq ?_) | (with_reducible refine v_asg ?_) | ((with_reducible refine' v_var ?vch ?_); (case vch => exact rfl)) | (with_reducible refine v_c ?_) | (with_reducible refine v_op ?_)
  | (with_reducible refine v_cons ?_) | (with_reducible refine v_nil ?_) | (with_reducible refine v_name ?_) | (with_reducible refine v_cb ?_) | (with_reducible refine v_test ?_) | (with_reducible refine v_b ?_)
  | (with_reducible refine v_bl ?_) | (with_reducible refine v_ifs ?_) | (with_reducible refine v_if ?_) | (with_reducible refine v_ret ?_) | (with_reducible refine v_next ?_) | (with_reducible refine v_drop ?_)
  | (with_reducible refine v_and ?_) | (with_reducible refine v_or ?_) | (with_reducible refine v_not ?_) | (with_reducible refine v_andV ?_) | (with_reducible refine v_orV ?_) | (with_reducible refine v_notV ?_)
  | (with_reducible refine v_sub ?_) | (with_reducible refine v_un ?_) | (with_reducible refine v_tup ?_) | (with_reducible refine v_lst ?_) | (with_reducible refine v_call ?_) | (with_reducible refine v_sl ?_) | (with_reducible refine v_nopart ?_)
  | (with_reducible refine v_part ?_) | (with_reducible refine v_xi ?_) | (with_reducible refine v_par ?_) | (with_reducible refine v_x2 ?_) | (with_reducible refine v_bm ?_) | (with_reducible refine v_bm0 ?_) | (with_reducible refine v_retn ?_) | (with_reducible refine v_truth ?_)
  | (with_reducible refine v_addi ?_) | (with_reducible refine v_subi ?_) | (with_reducible refine v_lti ?_) | (with_reducible refine v_lei ?_) | (with_reducible refine v_gti ?_) | (with_reducible refine v_gei ?_) | (with_reducible refine v_eqi ?_) | (with_reducible refine v_eqs ?_) | (with_reducible refine v_nei ?_) | (with_reducible refine v_nes ?_)
  | (with_reducible refine v_int ?_) | (with_reducible refine v_neg ?_) | (with_reducible refine v_isn ?_) | (with_reducible refine v_notn ?_) | (with_reducible refine v_abs ?_) | (with_reducible refine v_min2 ?_) | (with_reducible refine v_max2 ?_) | (with_reducible refine v_gnil ?_) | (with_reducible refine v_gcons ?_)
  | (with_reducible refine v_for ?_) | (with_reducible refine v_lc ?_) | (with_reducible refine v_il ?_) | (with_reducible refine v_it ?_) | (with_reducible refine v_ir ?_) | (with_reducible refine v_iz ?_)
  | ((with_reducible refine' v_ilr ?vch ?_); (case vch => walk_at "sql")) | ((with_reducible refine' v_sll ?vch ?_); (case vch => walk_at "sql")) | ((with_reducible refine' v_list ?vch ?_); (case vch => walk_at "sql"))
  | ((with_reducible refine' v_muli ?vcm ?_); (case vcm => first | exact cmul_r (by decide) (by decide) | exact cmul_l (by decide) (by decide)))
  | ((with_reducible refine' v_modi ?vcm ?_); (case vcm => first | decide | assumption))
  | ((with_reducible refine' v_divi ?vcm ?_); (case vcm => first | exact cdiv_small (by decide) (by decide) | assumption))
  | ((with_reducible refine' v_pow ?vcm ?_); (case vcm => exact ⟨by decide, by decide, by decide⟩))
  | ((with_reducible refine' v_ixl ?vch ?vci ?_); (case vch => walk_at "sql"); (case vci => exact rfl))
  | ((with_reducible refine' v_setl ?vch ?vci ?_); (case vch => walk_at "hat"); (case vci => exact rfl))
  | ((with_reducible refine' v_lenl ?vch ?_); (case vch => walk_at "sql")))
local macro_rules | `(tactic| walk_at "hat") => `(tactic| first | assumption | exact upd_same | ((with_reducible refine' h_ne ?vcn ?vcq); (case vcq => walk_at "hat"); (case vcn => walk_at "ne")))
local macro_rules | `(tactic| walk_at "ne") => `(tactic| first | assumption | exact Ne.symm (by assumption) | exact ne_new (by assumption) (by assumption) | exact ne_new' (by assumption) (by assumption))
local macro_rules | `(tactic| walk_at "sql") => `(tactic| first | assumption | exact SqL.of (by walk_at "hat"))
local macro_rules | `(tactic| walk_at "vc") => `(tactic| repeat (walk_at "vc1"))
local macro_rules | `(tactic| walk_at "vc1") => `(tactic| first | (with_reducible refine v_sq ?_) | (with_reducible refine v_zu ?_) | (with_reducible refine v_fldo ?_) | (with_reducible refine v_sfld ?_) | (with_reducible refine v_nd ?_) | (with_reducible refine v_sd ?_) | (with_reducible refine v_yes ?_) | (with_reducible refine v_chain ?_) | (with_reducible refine v_par3 ?_) | (with_reducible refine v_x3 ?_))
local macro_rules | `(tactic| walk_at "dl") => `(tactic| ((conv => whnf); try dsimp only))

section

/-- the bag at b: its cells, the next one's place, the rest of a great one, the mixed number, the draws -/
structure BagAt (K : PySem.W.Frag) (H : Hp) (b c : Addr) (p r m n : Int) (xs : List Int) : Prop where
  at_ : H b = some (.lst [.ref c, .int p, .int r, .int m, .int n])
  cells : SqL K (wo [b] H) c (xs.map V.int)
  p0 : 0 ≤ p
  r0 : 0 ≤ r
  m0 : 0 ≤ m
  m1 : m < 2147483647
/-- g: where the cells stand, which they are -/
def Bag (K : PySem.W.Frag) (H : Hp) (b : Addr) (g : Addr × List Int) : Prop := ∃ p r m n, BagAt K H b g.1 p r m n g.2
abbrev Kp (b : Addr) (H H' : Hp) : Prop := Same (wo [b] H) (wo [b] H')
theorem BagAt.put {K : PySem.W.Frag} {H : Hp} {b c : Addr} {p r m n : Int} {xs : List Int} {p' r' m' n' : Int} (B : BagAt K H b c p r m n xs) (p0 : 0 ≤ p') (r0 : 0 ≤ r') (m0 : 0 ≤ m') (m1 : m' < 2147483647) :
    BagAt K (upd H b (.lst [.ref c, .int p', .int r', .int m', .int n'])) b c p' r' m' n' xs :=
  ⟨upd_same, same_sql (wo_upd (by simp)) B.cells, p0, r0, m0, m1⟩
theorem kp_upd {b : Addr} {H H' : Hp} {o : HO} (k : Kp b H H') : Kp b H (upd H' b o) := k.trans (wo_upd (by simp))
theorem atI_in {xs : List Int} {i : Int} (h0 : 0 ≤ i) (h1 : i < xs.length) : ∃ z, atI (xs.map V.int) i = some (.int z) := by
  have hl : i.toNat < xs.length := by omega
  refine ⟨xs[i.toNat], ?_⟩
  unfold atI ixN
  rw [if_pos h0, if_pos (by rw [List.length_map]; exact h1), Option.bind_some, List.getElem?_map, List.getElem?_eq_getElem hl]
  rfl

theorem kp_get {b a : Addr} {H H' : Hp} {o : HO} (k : Kp b H H') (ne : a ≠ b) (h : H a = some o) : H' a = some o := by
  have q := k a o (by rw [wo_out (by simpa using ne)]; exact h)
  exact (wo_get q).2
theorem kp_trans {b : Addr} {H H1 H2 : Hp} (a : Kp b H H1) (c : Kp b H1 H2) : Kp b H H2 := a.trans c
theorem kp_same {b : Addr} {H H' : Hp} (h : Same H H') : Kp b H H' := wo_mono h
theorem kp_new {b a : Addr} {H H' : Hp} {o : HO} (k : Kp b H H') (h : H' a = none) : Kp b H (upd H' a o) := k.trans (wo_new h)
/-- a write to what H did not know -/
theorem kp_mut {b a : Addr} {H H' : Hp} {o : HO} (k : Kp b H H') (h : H a = none) : Kp b H (upd H' a o) := wo_same fun x hx u e => by
  rw [upd_ne (ne_of_none e h)]
  exact kp_get k (by simpa using hx) e
theorem Bag.ne {K : PySem.W.Frag} {H : Hp} {b : Addr} {g : Addr × List Int} (B : Bag K H b g) {a : Addr} (h : H a = none) : a ≠ b := fun z => by
  obtain ⟨p, r, m, n, B⟩ := B
  rw [z, B.at_] at h
  cases h
theorem Bag.get {K : PySem.W.Frag} {H : Hp} {b : Addr} {g : Addr × List Int} (B : Bag K H b g) : ∃ o, H b = some o := by
  obtain ⟨p, r, m, n, B⟩ := B
  exact ⟨_, B.at_⟩
theorem Bag.cells {K : PySem.W.Frag} {H : Hp} {b : Addr} {g : Addr × List Int} (B : Bag K H b g) : SqL K (wo [b] H) g.1 (g.2.map V.int) := by
  obtain ⟨p, r, m, n, B⟩ := B
  exact B.cells
/-- the bag elsewhere: as it was at b, its cells by an elder heap -/
theorem Bag.move {K : PySem.W.Frag} {H0 H H' : Hp} {b : Addr} {g : Addr × List Int} (B : Bag K H b g) (hc : SqL K (wo [b] H0) g.1 (g.2.map V.int)) (k : Kp b H0 H') (e : H' b = H b) : Bag K H' b g := by
  obtain ⟨p, r, m, n, B⟩ := B
  exact ⟨p, r, m, n, e.trans B.at_, same_sql k hc, B.p0, B.r0, B.m0, B.m1⟩
theorem Bag.new {K : PySem.W.Frag} {H : Hp} {b a : Addr} {g : Addr × List Int} {o : HO} (B : Bag K H b g) (h : H a = none) : Bag K (upd H a o) b g :=
  B.move B.cells (wo_new h) (upd_ne (Ne.symm (B.ne h)))
/-- a write to a place that an elder heap (with the bag's cells) does not know -/
theorem Bag.mut {K : PySem.W.Frag} {H0 H : Hp} {b a : Addr} {g : Addr × List Int} {o : HO} (B : Bag K H b g) (hc : SqL K (wo [b] H0) g.1 (g.2.map V.int)) (k : Kp b H0 H) (h : H0 a = none) (ne : a ≠ b) : Bag K (upd H a o) b g :=
  B.move hc (kp_mut k h) (upd_ne (Ne.symm ne))
theorem size_small2 {n : Nat} (h : n ≤ 1000000000) : (n : Int) < 4149515568880992958512407863691161151012446232242436899995657329690652811412908146399707048947103794288197886611300789182395151075411775307886874834113963687061181803401509523685376 := by omega

end
section

/-! ### data: kinds, depth, likeness -/
def tyD : PyData → String
  | .none => "NoneType"
  | .bool _ => "bool"
  | .int _ => "int"
  | .str _ => "str"
  | .list _ => "list"
  | .tuple _ => "tuple"
  | .dict _ => "dict"
theorem sql_ty {K : PySem.W.Frag} {H : Hp} {a : Addr} {xs : List V} (h : SqL K H a xs) : TyX K H (.ref a) (.type "list") := by
  rcases h with (h | ⟨o, h⟩) | ⟨o, its, n, h1, h2, _⟩
  · exact .base (.lst h)
  · exact .base (.frz h)
  · exact .kList h1 h2
theorem sqt_ty {K : PySem.W.Frag} {H : Hp} {a : Addr} {xs : List V} (h : SqT K H a xs) : TyX K H (.ref a) (.type "tuple") := by
  rcases h with (h | ⟨o, h⟩) | ⟨o, its, n, h1, h2, _⟩
  · exact .base (.tup h)
  · exact .fTuple h
  · exact .kTuple h1 h2
theorem dp_ty {K : PySem.W.Frag} {H : Hp} {v : V} {d : PyData} (h : Dp K H v d) : TyX K H v (.type (tyD d)) := by
  cases h with
  | non => exact .base .non
  | bl b => exact .base (.bl b)
  | int i => exact .base (.int i)
  | str x => exact .base (.str x)
  | lst h _ => exact sql_ty h
  | tup h _ => exact sqt_ty h
theorem v_isi {K : PySem.W.Frag} {H : Hp} {Q : VK} {x : V} {d : PyData} {T : String} {b : Bool} (h : Dp K H x d) (hk : kitB (tyD d) T = some b) (q : Q (.bl b) H) : rIsiU K [x, .ty T] H Q :=
  .inl ⟨x, .ty T, _, .type T, b, rfl, .ty T, dp_ty h, kit_ty hk, q⟩
def isInt : PyData → Bool
  | .int _ => true
  | _ => false
def isBool : PyData → Bool
  | .bool _ => true
  | _ => false
def isStr : PyData → Bool
  | .str _ => true
  | _ => false
def isList : PyData → Bool
  | .list _ => true
  | _ => false
def isTuple : PyData → Bool
  | .tuple _ => true
  | _ => false
theorem kit_int (d : PyData) : kitB (tyD d) "int" = some (isInt d || isBool d) := by
  cases d
  · exact (show kitB "NoneType" "int" = some false by decide +kernel)
  · exact (show kitB "bool" "int" = some true by decide +kernel)
  · exact (show kitB "int" "int" = some true by decide +kernel)
  · exact (show kitB "str" "int" = some false by decide +kernel)
  · exact (show kitB "list" "int" = some false by decide +kernel)
  · exact (show kitB "tuple" "int" = some false by decide +kernel)
  · exact (show kitB "dict" "int" = some false by decide +kernel)
theorem kit_bool (d : PyData) : kitB (tyD d) "bool" = some (isBool d) := by
  cases d
  · exact (show kitB "NoneType" "bool" = some false by decide +kernel)
  · exact (show kitB "bool" "bool" = some true by decide +kernel)
  · exact (show kitB "int" "bool" = some false by decide +kernel)
  · exact (show kitB "str" "bool" = some false by decide +kernel)
  · exact (show kitB "list" "bool" = some false by decide +kernel)
  · exact (show kitB "tuple" "bool" = some false by decide +kernel)
  · exact (show kitB "dict" "bool" = some false by decide +kernel)
theorem kit_str (d : PyData) : kitB (tyD d) "str" = some (isStr d) := by
  cases d
  · exact (show kitB "NoneType" "str" = some false by decide +kernel)
  · exact (show kitB "bool" "str" = some false by decide +kernel)
  · exact (show kitB "int" "str" = some false by decide +kernel)
  · exact (show kitB "str" "str" = some true by decide +kernel)
  · exact (show kitB "list" "str" = some false by decide +kernel)
  · exact (show kitB "tuple" "str" = some false by decide +kernel)
  · exact (show kitB "dict" "str" = some false by decide +kernel)
theorem kit_list (d : PyData) : kitB (tyD d) "list" = some (isList d) := by
  cases d
  · exact (show kitB "NoneType" "list" = some false by decide +kernel)
  · exact (show kitB "bool" "list" = some false by decide +kernel)
  · exact (show kitB "int" "list" = some false by decide +kernel)
  · exact (show kitB "str" "list" = some false by decide +kernel)
  · exact (show kitB "list" "list" = some true by decide +kernel)
  · exact (show kitB "tuple" "list" = some false by decide +kernel)
  · exact (show kitB "dict" "list" = some false by decide +kernel)
theorem kit_tuple (d : PyData) : kitB (tyD d) "tuple" = some (isTuple d) := by
  cases d
  · exact (show kitB "NoneType" "tuple" = some false by decide +kernel)
  · exact (show kitB "bool" "tuple" = some false by decide +kernel)
  · exact (show kitB "int" "tuple" = some false by decide +kernel)
  · exact (show kitB "str" "tuple" = some false by decide +kernel)
  · exact (show kitB "list" "tuple" = some false by decide +kernel)
  · exact (show kitB "tuple" "tuple" = some true by decide +kernel)
  · exact (show kitB "dict" "tuple" = some false by decide +kernel)
mutual
def dep : PyData → Nat
  | .list xs => depAll xs + 1
  | .tuple xs => depAll xs + 1
  | _ => 0
def depAll : List PyData → Nat
  | [] => 0
  | d :: r => max (dep d) (depAll r)
end
theorem dep_mem {d : PyData} : ∀ {xs : List PyData}, d ∈ xs → dep d ≤ depAll xs
  | a :: r, h => by
    show dep d ≤ max (dep a) (depAll r)
    rcases List.mem_cons.mp h with h | h
    · subst h
      omega
    · have := dep_mem h
      omega
mutual
/-- the same value, of the same kinds -/
def like : PyData → PyData → Bool
  | .none, .none => true
  | .bool a, .bool b => a == b
  | .int a, .int b => a == b
  | .str a, .str b => a == b
  | .list xs, .list ys => likeAll xs ys
  | .tuple xs, .tuple ys => likeAll xs ys
  | _, _ => false
def likeAll : List PyData → List PyData → Bool
  | [], [] => true
  | x :: xs, y :: ys => like x y && likeAll xs ys
  | _, _ => false
end
mutual
def dictFree : PyData → Bool
  | .list xs => dictFreeAll xs
  | .tuple xs => dictFreeAll xs
  | .dict _ => false
  | _ => true
def dictFreeAll : List PyData → Bool
  | [] => true
  | d :: r => dictFree d && dictFreeAll r
end
mutual
theorem like_refl : ∀ d : PyData, (∀ kvs, d ≠ .dict kvs) → dictFree d = true → like d d = true
  | .none, _, _ => rfl
  | .bool a, _, _ => by simp [like]
  | .int a, _, _ => by simp [like]
  | .str a, _, _ => by simp [like]
  | .list xs, _, h => likeAll_refl xs h
  | .tuple xs, _, h => likeAll_refl xs h
  | .dict kvs, h, _ => absurd rfl (h kvs)
theorem likeAll_refl : ∀ xs : List PyData, dictFreeAll xs = true → likeAll xs xs = true
  | [], _ => rfl
  | d :: r, h => by
    have h2 : (dictFree d && dictFreeAll r) = true := h
    rw [Bool.and_eq_true] at h2
    show (like d d && likeAll r r) = true
    rw [like_refl d (fun kvs e => by rw [e] at h2; exact absurd h2.1 (by simp [dictFree])) h2.1, likeAll_refl r h2.2]
    rfl
end
mutual
theorem dp_free {K : PySem.W.Frag} {H : Hp} : ∀ {v : V} {d : PyData}, Dp K H v d → dictFree d = true
  | _, _, .non => rfl
  | _, _, .bl _ => rfl
  | _, _, .int _ => rfl
  | _, _, .str _ => rfl
  | _, _, .lst _ r => dps_free r
  | _, _, .tup _ r => dps_free r
theorem dps_free {K : PySem.W.Frag} {H : Hp} : ∀ {vs : List V} {ds : List PyData}, DpAll K H vs ds → dictFreeAll ds = true
  | _, _, .nil => rfl
  | _, _, .cons h r => by
    show (dictFree _ && dictFreeAll _) = true
    rw [dp_free h, dps_free r]
    rfl
end
theorem like_self {K : PySem.W.Frag} {H : Hp} {v : V} {d : PyData} (h : Dp K H v d) : like d d = true := like_refl d (fun kvs e => by subst e; cases h) (dp_free h)
theorem dps_get {K : PySem.W.Frag} {H : Hp} : ∀ {vs : List V} {ds : List PyData} {i : Nat} {v : V}, DpAll K H vs ds → vs[i]? = some v → ∃ d, ds[i]? = some d ∧ Dp K H v d
  | _, _, i, v, .nil, h => by simp at h
  | _, _, 0, v, .cons h r, e => by
    simp at e
    subst e
    exact ⟨_, rfl, h⟩
  | _, _, i + 1, v, .cons h r, e => by
    obtain ⟨d, h1, h2⟩ := dps_get (i := i) r (by simpa using e)
    exact ⟨d, by simpa using h1, h2⟩
theorem dps_len {K : PySem.W.Frag} {H : Hp} : ∀ {vs : List V} {ds : List PyData}, DpAll K H vs ds → vs.length = ds.length
  | _, _, .nil => rfl
  | _, _, .cons _ r => congrArg Nat.succ (dps_len r)
theorem likeAll_zip : ∀ (xs ys : List PyData), likeAll xs ys = (decide (xs.length = ys.length) && (List.zipWith like xs ys).all id)
  | [], [] => rfl
  | [], _ :: _ => rfl
  | _ :: _, [] => rfl
  | x :: xs, y :: ys => by
    show (like x y && likeAll xs ys) = _
    rw [likeAll_zip xs ys]
    simp only [List.length_cons, List.zipWith_cons_cons, List.all_cons, id_eq, Nat.add_right_cancel_iff]
    cases like x y <;> simp
theorem walk_zipT {K : PySem.W.Frag} {a b : Addr} {xs ys : List V} {n : Nat} (hn : n = min xs.length ys.length) : Walk (ItzT K a b) n (fun H => SqT K H a xs ∧ SqT K H b ys) (YPair (fun i => xs[i]?) (fun i => ys[i]?)) := by
  subst hn
  refine ⟨fun i _ hi q => ?_, fun _ q => ⟨xs, ys, q.1, q.2, by omega⟩, fun i H v H' _ q y => ?_⟩
  · have h1 : i < xs.length := by omega
    have h2 : i < ys.length := by omega
    exact ⟨xs, ys, xs[i], ys[i], q.1, q.2, by simp [h1], by simp [h2]⟩
  · obtain ⟨T, x, z, h1, h2, h3, h4, h5⟩ := y
    exact ⟨T, x, z, h1, h2, h3, h4 xs q.1, h5 ys q.2⟩

/-- at most n deep, no sequence too long -/
def fit : Nat → PyData → Prop
  | 0, _ => False
  | n + 1, .list xs => xs.length ≤ 1000000 ∧ ∀ d, d ∈ xs → fit n d
  | n + 1, .tuple xs => xs.length ≤ 1000000 ∧ ∀ d, d ∈ xs → fit n d
  | _ + 1, _ => True
theorem fit_up : ∀ {n : Nat} {d : PyData}, fit n d → fit (n + 1) d
  | 0, _, h => h.elim
  | n + 1, .none, _ => trivial
  | n + 1, .bool _, _ => trivial
  | n + 1, .int _, _ => trivial
  | n + 1, .str _, _ => trivial
  | n + 1, .dict _, _ => trivial
  | n + 1, .list xs, h => ⟨h.1, fun d hd => fit_up (h.2 d hd)⟩
  | n + 1, .tuple xs, h => ⟨h.1, fun d hd => fit_up (h.2 d hd)⟩
theorem fit_mono {n m : Nat} {d : PyData} (h : n ≤ m) (f : fit n d) : fit m d := by
  obtain ⟨k, rfl⟩ := Nat.le.dest h
  induction k with
  | zero => exact f
  | succ k ih => exact fit_up (ih (Nat.le_add_right _ _))
theorem same_mut {H H' : Hp} {a : Addr} {o : HO} (e : Same H H') (h : H a = none) : Same H (upd H' a o) := fun b u q => by
  rw [upd_ne (ne_of_none q h)]
  exact e b u q
theorem sqt_of {K : PySem.W.Frag} {H : Hp} {a : Addr} {xs : List V} (h : H a = some (.tup xs)) : SqT K H a xs := .inl (.inl h)
theorem v_yes {σ : L2.St} {H : Hp} {Qb : Bool → Hp → Prop} (q : Qb true H) : tYes σ H Qb := q
theorem take_succ_get {α : Type} {xs : List α} {i : Nat} {x : α} (h : xs[i]? = some x) : xs.take (i + 1) = xs.take i ++ [x] := by
  rw [List.take_add_one, h]
  rfl
theorem iT {c A B : Prop} [Decidable c] (h : c) (q : A) : if c then A else B := by
  rw [if_pos h]
  exact q
theorem iF {c A B : Prop} [Decidable c] (h : ¬c) (q : B) : if c then A else B := by
  rw [if_neg h]
  exact q
theorem nt {b : Bool} (h : b = false) : ¬b = true := by rw [h]; decide

end
section
abbrev N_law_int : List Str := ["v"]
def t_law_int (K : PySem.W.Frag) : TS :=
  (tRet (tAndV (tCB (rIsiU K) (tCons (tVar 0) (tCons (tC (.ty "int")) tNil))) (tNotV (tCB (rIsiU K) (tCons (tVar 0) (tCons (tC (.ty "bool")) tNil))))))
def sp_law_int (K : PySem.W.Frag) : Sp := fun vs H Q _ => ∃ x d, vs = [x] ∧ Dp K H x d ∧ Q (.bl (isInt d)) H
theorem pure_law_int {K : PySem.W.Frag} (vs : List V) (H : Hp) (Q : VK) (E : XK) (h : sp_law_int K vs H Q E) : t_law_int K { nx := fun _ H' => Q .non H', rt := Q } (start N_law_int vs) H := by
  obtain ⟨x, d, rfl, h, k⟩ := h
  show t_law_int K _ [some x] H
  unfold t_law_int
  walk_at "vc"
  refine v_isi h (kit_int d) ⟨_, rfl, ?_⟩
  have e : isInt d = ((isInt d || isBool d) && !isBool d) := by cases d <;> rfl
  refine ite2 (fun c => ?_) (fun c => ?_)
  · walk_at "vc"
    refine v_isi h (kit_bool d) ⟨_, rfl, ?_⟩
    rw [e, c] at k
    exact k
  · rw [e, Bool.eq_false_iff.mpr c] at k
    exact k

end
section

def sp_law_like (K : PySem.W.Frag) (n : Nat) : Sp := fun vs H Q _ => ∃ x y d e, vs = [x, y] ∧ Dp K H x d ∧ Dp K H y e ∧ fit n e ∧ ∀ H', Same H H' → Q (.bl (like d e)) H'
abbrev N_law_like : List Str := ["told", "due", "x", "y"]
def t_law_like (K : PySem.W.Frag) (n : Nat) : TS :=
  (tSeq (tIfS (tTest (tOp rIsN (tVar 1) (tC .non))) (tRet (tOp rIsN (tVar 0) (tC .non))) tNext)
    (tSeq (tIfS (tB (tCB (rIsiU K) (tCons (tVar 1) (tCons (tC (.ty "bool")) tNil)))) (tRet (tAndV (tCB (rIsiU K) (tCons (tVar 0) (tCons (tC (.ty "bool")) tNil))) (tOp (rEqU K) (tVar 0) (tVar 1)))) tNext)
    (tSeq (tIfS (tB (tCall (sp_law_int K) [] E0 (tCons (tVar 1) tNil))) (tRet (tAndV (tCall (sp_law_int K) [] E0 (tCons (tVar 0) tNil)) (tOp (rEqU K) (tVar 0) (tVar 1)))) tNext)
    (tSeq (tIfS (tB (tCB (rIsiU K) (tCons (tVar 1) (tCons (tC (.ty "str")) tNil)))) (tRet (tAndV (tCB (rIsiU K) (tCons (tVar 0) (tCons (tC (.ty "str")) tNil))) (tOp (rEqU K) (tVar 0) (tVar 1)))) tNext)
    (tSeq (tIfS (tOr (tAnd (tB (tCB (rIsiU K) (tCons (tVar 1) (tCons (tC (.ty "list")) tNil)))) (tNot (tB (tCB (rIsiU K) (tCons (tVar 0) (tCons (tC (.ty "list")) tNil)))))) (tAnd (tB (tCB (rIsiU K) (tCons (tVar 1) (tCons (tC (.ty "tuple")) tNil)))) (tNot (tB (tCB (rIsiU K) (tCons (tVar 0) (tCons (tC (.ty "tuple")) tNil))))))) (tRet (tC (.bl false))) tNext)
    (tRet (tAndV (tOp (rEqU K) (tCB (rLenU K) (tCons (tVar 0) tNil)) (tCB (rLenU K) (tCons (tVar 1) tNil))) (tCB (rAll K) (tCons (tLc (iZipA K (tCons (tVar 0) (tCons (tVar 1) tNil))) (gTup K 2 (gCons (gName 2) (gCons (gName 3) gNil))) tYes (tCall (sp_law_like K n) [] E0 (tCons (tVar 2) (tCons (tVar 3) tNil))) [2, 3]) tNil)))))))))
theorem no_law_like {K : PySem.W.Frag} {vs : List V} {H : Hp} {Q : VK} {E : XK} (h : sp_law_like K 0 vs H Q E) : False := by
  obtain ⟨_, _, _, _, _, _, _, h, _⟩ := h
  exact h
theorem like_lc {K : PySem.W.Frag} {n m : Nat} {J : It} {G : Hp → Prop} {xs ys : List V} {ds es : List PyData} {H : Hp} {a b : V} {Q : VK} (w : Walk J m G (YPair (fun i => xs[i]?) (fun i => ys[i]?))) (hG : ∀ H', Same H H' → G H') (hx : DpAll K H xs ds) (hy : DpAll K H ys es)
    (hm : m = ds.length) (hm2 : es.length = ds.length) (hl : ds.length ≤ 1000000) (hn : ∀ e, e ∈ es → fit n e) (k : ∀ l H', Same H H' → H' l = some (.lst ((List.zipWith like ds es).map V.bl)) → Q (.ref l) H') :
    lcI J (gTup K 2 (gCons (gName 2) (gCons (gName 3) gNil))) tYes (tCall (sp_law_like K n) [] E0 (tCons (tVar 2) (tCons (tVar 3) tNil))) [2, 3] [some a, some b, none, none] H Q := by
  refine lc_w w (fun D i H' => Same H H' ∧ H D = none ∧ H' D = some (.lst (((List.zipWith like ds es).take i).map V.bl))) (fun D hD => ⟨same_new hD, hD, upd_same⟩) (fun D i H' _ h => hG H' h.1) ?_ ?_
  · rintro D i x H1 H' hD hi ⟨s1, _, h2⟩ ⟨T, u, v, rfl, hT, rfl, hu, hv⟩
    obtain ⟨d, hd, du⟩ := dps_get hx hu
    obtain ⟨e, he, dv⟩ := dps_get hy hv
    have nTD := ne_new' h2 hT
    refine v_gtup (sqt_of upd_same) rfl ?_
    walk_at "vc"
    refine ⟨rfl, v_yes ?_⟩
    refine iT rfl ?_
    walk_at "vc"
    have s2 : Same H (upd H1 T (.tup [u, v])) := s1.trans (same_new hT)
    refine ⟨u, v, d, e, rfl, same_dp s2 du, same_dp s2 dv, hn e (List.mem_of_getElem? he), fun H4 s4 => ?_⟩
    have h4 := s4 _ _ (h_ne (Ne.symm nTD) h2)
    refine ⟨_, h4, ?_, same_mut (s2.trans s4) hD, hD, ?_⟩
    · rw [sizeLine_eq]
      simp
      omega
    · rw [upd_same, take_succ_get (x := like d e) (by rw [List.getElem?_zipWith, hd, he]), List.map_append]
      rfl
  · rintro D H1 hD ⟨s1, _, h2⟩
    refine k D H1 s1 ?_
    rw [h2, List.take_of_length_le (by rw [List.length_zipWith]; omega)]
theorem pure_law_like {K : PySem.W.Frag} (n : Nat) (vs : List V) (H : Hp) (Q : VK) (E : XK) (h : sp_law_like K (n + 1) vs H Q E) : t_law_like K n { nx := fun _ H' => Q .non H', rt := Q } (start N_law_like vs) H := by
  obtain ⟨x, y, d, e, rfl, hd, he, hn, k⟩ := h
  show t_law_like K n _ [some x, some y, none, none] H
  have k0 := k H (Same.refl H)
  unfold t_law_like
  walk_at "vc"
  cases he with
  | non =>
    refine iT (by decide) ?_
    walk_at "vc"
    show Q _ _
    cases hd <;> exact k0
  | bl b =>
    refine iF (by simp) ?_
    walk_at "vc"
    refine v_isi (.bl b) (kit_bool _) ⟨_, rfl, ?_⟩
    refine iT rfl ?_
    walk_at "vc"
    refine v_isi hd (kit_bool _) ⟨_, rfl, ?_⟩
    refine ite2 (fun c => ?_) (fun c => ?_)
    · cases hd <;> first | cases c | skip
      walk_at "vc"
      exact v_eqb k0
    · have z : like d (.bool b) = isBool d := by cases d <;> first | rfl | exact absurd rfl c
      rw [z, Bool.eq_false_iff.mpr c] at k0
      exact k0
  | int i =>
    refine iF (by simp) ?_
    walk_at "vc"
    refine v_isi (.int i) (kit_bool _) ⟨_, rfl, ?_⟩
    refine iF (nt rfl) ?_
    walk_at "vc"
    refine ⟨_, _, rfl, .int i, _, rfl, ?_⟩
    refine iT rfl ?_
    walk_at "vc"
    refine ⟨_, _, rfl, hd, _, rfl, ?_⟩
    refine ite2 (fun c => ?_) (fun c => ?_)
    · cases hd <;> first | cases c | skip
      walk_at "vc"
      exact k0
    · have z : like d (.int i) = isInt d := by cases d <;> first | rfl | exact absurd rfl c
      rw [z, Bool.eq_false_iff.mpr c] at k0
      exact k0
  | str z =>
    refine iF (by simp) ?_
    walk_at "vc"
    refine v_isi (.str z) (kit_bool _) ⟨_, rfl, ?_⟩
    refine iF (nt rfl) ?_
    walk_at "vc"
    refine ⟨_, _, rfl, .str z, _, rfl, ?_⟩
    refine iF (nt rfl) ?_
    walk_at "vc"
    refine v_isi (.str z) (kit_str _) ⟨_, rfl, ?_⟩
    refine iT rfl ?_
    walk_at "vc"
    refine v_isi hd (kit_str _) ⟨_, rfl, ?_⟩
    refine ite2 (fun c => ?_) (fun c => ?_)
    · cases hd <;> first | cases c | skip
      walk_at "vc"
      exact k0
    · have z : like d (.str z) = isStr d := by cases d <;> first | rfl | exact absurd rfl c
      rw [z, Bool.eq_false_iff.mpr c] at k0
      exact k0
  | lst hs ha =>
    rename_i q ys es
    have he := Dp.lst hs ha
    refine iF (by simp) ?_
    walk_at "vc"
    refine v_isi he (kit_bool _) ⟨_, rfl, ?_⟩
    refine iF (nt rfl) ?_
    walk_at "vc"
    refine ⟨_, _, rfl, he, _, rfl, ?_⟩
    refine iF (nt rfl) ?_
    walk_at "vc"
    refine v_isi he (kit_str _) ⟨_, rfl, ?_⟩
    refine iF (nt rfl) ?_
    walk_at "vc"
    refine v_isi he (kit_list _) ⟨_, rfl, ?_⟩
    refine iT rfl ?_
    walk_at "vc"
    refine v_isi hd (kit_list _) ⟨_, rfl, ?_⟩
    refine ite2 (fun c => ?_) (fun c => ?_)
    · walk_at "vc"
      have z : like d (.list es) = isList d := by cases d <;> first | rfl | cases c
      rw [z, show isList d = false from by simpa using c] at k0
      exact k0
    · walk_at "vc"
      refine v_isi he (kit_tuple _) ⟨_, rfl, ?_⟩
      refine iF (nt rfl) ?_
      walk_at "vc"
      refine iF (nt rfl) ?_
      cases hd <;> first | exact absurd rfl c | skip
      rename_i p xs ds hx hp
      have lx := dps_len hp
      have ly := dps_len ha
      walk_at "vc"
      have kz := likeAll_zip ds es
      refine ite2 (fun c2 => ?_) (fun c2 => ?_)
      · have c3 : xs.length = ys.length := by have := of_decide_eq_true c2; omega
        rw [decide_eq_true (by omega), Bool.true_and] at kz
        walk_at "vc"
        refine v_izl hx hs ?_
        refine like_lc (walk_zip rfl) (fun H' e => ⟨same_sql e hx, same_sql e hs⟩) hp ha (by omega) (by omega) (by have := hn.1; omega) hn.2 fun l H' e hl => ?_
        walk_at "vc"
        refine ⟨l, _, rfl, SqL.of hl, ?_⟩
        have k1 := k H' e
        rw [show like (.list ds) (.list es) = likeAll ds es from rfl, kz] at k1
        exact k1
      · rw [decide_eq_false (by intro c3; exact c2 (by simp; omega)), Bool.false_and] at kz
        rw [show like (.list ds) (.list es) = likeAll ds es from rfl, kz] at k0
        exact k0
  | tup hs ha =>
    rename_i q ys es
    have he := Dp.tup hs ha
    refine iF (by simp) ?_
    walk_at "vc"
    refine v_isi he (kit_bool _) ⟨_, rfl, ?_⟩
    refine iF (nt rfl) ?_
    walk_at "vc"
    refine ⟨_, _, rfl, he, _, rfl, ?_⟩
    refine iF (nt rfl) ?_
    walk_at "vc"
    refine v_isi he (kit_str _) ⟨_, rfl, ?_⟩
    refine iF (nt rfl) ?_
    walk_at "vc"
    refine v_isi he (kit_list _) ⟨_, rfl, ?_⟩
    refine iF (nt rfl) ?_
    refine iF (nt rfl) ?_
    walk_at "vc"
    refine v_isi he (kit_tuple _) ⟨_, rfl, ?_⟩
    refine iT rfl ?_
    walk_at "vc"
    refine v_isi hd (kit_tuple _) ⟨_, rfl, ?_⟩
    refine ite2 (fun c => ?_) (fun c => ?_)
    · walk_at "vc"
      have z : like d (.tuple es) = isTuple d := by cases d <;> first | rfl | cases c
      rw [z, show isTuple d = false from by simpa using c] at k0
      exact k0
    · walk_at "vc"
      cases hd <;> first | exact absurd rfl c | skip
      rename_i p xs ds hx hp
      have lx := dps_len hp
      have ly := dps_len ha
      walk_at "vc"
      refine v_lent hx ?_
      walk_at "vc"
      refine v_lent hs ?_
      walk_at "vc"
      have kz := likeAll_zip ds es
      refine ite2 (fun c2 => ?_) (fun c2 => ?_)
      · have c3 : xs.length = ys.length := by have := of_decide_eq_true c2; omega
        rw [decide_eq_true (by omega), Bool.true_and] at kz
        walk_at "vc"
        refine v_izt hx hs ?_
        refine like_lc (walk_zipT rfl) (fun H' e => ⟨same_sqt e hx, same_sqt e hs⟩) hp ha (by omega) (by omega) (by have := hn.1; omega) hn.2 fun l H' e hl => ?_
        walk_at "vc"
        refine ⟨l, _, rfl, SqL.of hl, ?_⟩
        have k1 := k H' e
        rw [show like (.tuple ds) (.tuple es) = likeAll ds es from rfl, kz] at k1
        exact k1
      · rw [decide_eq_false (by intro c3; exact c2 (by simp; omega)), Bool.false_and] at kz
        rw [show like (.tuple ds) (.tuple es) = likeAll ds es from rfl, kz] at k0
        exact k0

end
section
abbrev N_law_draw : List Str := ["bag", "size", "item", "digit", "mix"]
def t_law_draw (K : PySem.W.Frag) : TS :=
  (tSeq (tIfS (tTest (tOp rLtI (tVar 1) (tC (.int 2)))) (tRet (tC (.int 0))) tNext)
    (tSeq (tAsg (tOp (rAddU K) (tOp (rIx K) (tVar 0) (tC (.int 4))) (tC (.int 1))) (gSub (tVar 0) (tC (.int 4)) rSetL))
    (tMid (tIfS (tAnd (tTest (tOp (rEqU K) (tOp (rIx K) (tVar 0) (tC (.int 2))) (tC (.int 0)))) (tTest (tOp rLtI (tOp (rIx K) (tVar 0) (tC (.int 1))) (tCB (rLenU K) (tCons (tOp (rIx K) (tVar 0) (tC (.int 0))) tNil))))) (tSeq (tAsg (tCB rInt1 (tCons (tOp (rIx K) (tOp (rIx K) (tVar 0) (tC (.int 0))) (tOp (rIx K) (tVar 0) (tC (.int 1)))) tNil)) (gName 2))
    (tSeq (tAsg (tOp (rAddU K) (tOp (rIx K) (tVar 0) (tC (.int 1))) (tC (.int 1))) (gSub (tVar 0) (tC (.int 1)) rSetL))
    (tIfS (tTest (tOp rGeI (tVar 2) (tOp rPowU (tC (.int 10)) (tC (.int 18))))) (tAsg (tVar 2) (gSub (tVar 0) (tC (.int 2)) rSetL)) (tAsg (tOp rModU (tCB rInt1 (tCons (tOp (rAddU K) (tOp (rAddU K) (tOp rMulU (tOp (rIx K) (tVar 0) (tC (.int 3))) (tC (.int 50021))) (tOp rMulU (tOp rModU (tCB rInt1 (tCons (tVar 2) tNil)) (tC (.int 2147483563))) (tC (.int 30013)))) (tC (.int 223))) tNil)) (tC (.int 2147483647))) (gSub (tVar 0) (tC (.int 3)) rSetL))))) tNext)
    (tSeq (tIfS (tTest (tOp rGtI (tOp (rIx K) (tVar 0) (tC (.int 2))) (tC (.int 0)))) (tSeq (tAsg (tOp rModU (tCB rInt1 (tCons (tOp (rIx K) (tVar 0) (tC (.int 2))) tNil)) (tVar 1)) (gName 3))
    (tSeq (tAsg (tOp rDivU (tCB rInt1 (tCons (tOp (rIx K) (tVar 0) (tC (.int 2))) tNil)) (tVar 1)) (gSub (tVar 0) (tC (.int 2)) rSetL))
    (tRet (tVar 3)))) tNext)
    (tSeq (tAsg (tCB rInt1 (tCons (tOp (rIx K) (tVar 0) (tC (.int 3))) tNil)) (gName 4))
    (tSeq (tAsg (tOp rModU (tCB rInt1 (tCons (tOp (rAddU K) (tOp (rAddU K) (tOp (rAddU K) (tOp rPowU (tVar 4) (tC (.int 3))) (tOp rMulU (tVar 4) (tC (.int 49999)))) (tOp rMulU (tOp (rIx K) (tVar 0) (tC (.int 4))) (tC (.int 1299721)))) (tC (.int 70001))) tNil)) (tC (.int 2147483647))) (gSub (tVar 0) (tC (.int 3)) rSetL))
    (tRet (tOp rModU (tCB rInt1 (tCons (tOp (rAddU K) (tOp rDivU (tOp (rIx K) (tVar 0) (tC (.int 3))) (tC (.int 103))) (tOp rMulU (tOp rModU (tCB rInt1 (tCons (tOp (rIx K) (tVar 0) (tC (.int 3))) tNil)) (tC (.int 7901))) (tC (.int 71)))) tNil)) (tVar 1)))))))))
def sp_law_draw (K : PySem.W.Frag) : Sp := fun vs H Q _ => ∃ b n g, vs = [.ref b, .int n] ∧ Bag K H b g ∧ n < 4149515568880992958512407863691161151012446232242436899995657329690652811412908146399707048947103794288197886611300789182395151075411775307886874834113963687061181803401509523685376 ∧ ∀ d H', 0 ≤ d → (d < n ∨ d = 0) → Bag K H' b g → Kp b H H' → Q (.int d) H'
theorem pure_law_draw {K : PySem.W.Frag} (vs : List V) (H : Hp) (Q : VK) (E : XK) (h : sp_law_draw K vs H Q E) : t_law_draw K { nx := fun _ H' => Q .non H', rt := Q } (start N_law_draw vs) H := by
  obtain ⟨b, z, ⟨c, xs⟩, rfl, ⟨p, r, m, n, B⟩, hz, k⟩ := h
  simp only at B
  have hb2 := B.at_
  show t_law_draw K _ [some (.ref b), some (.int z), none, none, none] H
  unfold t_law_draw
  walk_at "vc"
  refine ite2 (fun h0 => ?_) (fun h0 => ?_)
  · walk_at "vc"
    exact k 0 H (by decide) (.inr rfl) ⟨p, r, m, n, B⟩ (Same.refl _)
  have hz2 : 2 ≤ z := by simpa using h0
  have hz0 : 0 < z := by omega
  have hdz : CDivW (0 : Int) z := cdiv_small hz0 hz
  walk_at "vc"
  refine v_mid (fun σ' H' => ∃ x p' r' m', σ' = [some (.ref b), some (.int z), x, none, none] ∧ BagAt K H' b c p' r' m' (n + 1) xs ∧ Kp b H H') ?_ ?_
  · have B1 := B.put (n' := n + 1) B.p0 B.r0 B.m0 B.m1
    have K1 : Kp b H (upd H b (.lst [.ref c, .int p, .int r, .int m, .int (n + 1)])) := wo_upd (by simp)
    generalize hH : upd H b (HO.lst ([V.ref c, V.int p, V.int r, V.int m, V.int n].set (Int.toNat 4) (V.int (n + 1)))) = H1
    have B2 : BagAt K H1 b c p r m (n + 1) xs := hH ▸ B1
    have K2 : Kp b H H1 := hH ▸ K1
    have hb3 := B2.at_
    have hc3 : SqL K H1 c (xs.map V.int) := same_sql wo_le B2.cells
    clear hH B1 K1
    walk_at "vc"
    refine ite2 (fun h1 => ?_) (fun h1 => ?_)
    · walk_at "vc"
      refine ite2 (fun h2 => ?_) (fun h2 => ?_)
      · walk_at "vc"
        obtain ⟨it, hit⟩ := atI_in B2.p0 (by simpa using h2)
        refine v_ixl hc3 hit ?_
        walk_at "vc"
        refine ite2 (fun h3 => ?_) (fun h3 => ?_)
        · walk_at "vc"
          have h4 : (10 : Int) ^ (18 : Int).toNat ≤ it := of_decide_eq_true h3
          have h5 : (0 : Int) ≤ it := Int.le_trans (by decide) h4
          refine ⟨some (.int it), p + 1, it, m, rfl, ?_, kp_upd (kp_upd K2)⟩
          exact (B2.put (by have := B2.p0; omega) B2.r0 B2.m0 B2.m1).put (by have := B2.p0; omega) h5 B2.m0 B2.m1
        · walk_at "vc"
          refine ⟨some (.int it), p + 1, r, (m * 50021 + it % 2147483563 * 30013 + 223) % 2147483647, rfl, ?_, kp_upd (kp_upd K2)⟩
          exact (B2.put (by have := B2.p0; omega) B2.r0 B2.m0 B2.m1).put (by have := B2.p0; omega) B2.r0 (Int.emod_nonneg _ (by decide)) (Int.emod_lt_of_pos _ (by decide))
      · walk_at "vc"
        exact ⟨none, p, r, m, rfl, B2, K2⟩
    · walk_at "vc"
      refine ite2 (fun h2 => absurd h2 (by decide)) (fun h2 => ?_)
      walk_at "vc"
      exact ⟨none, p, r, m, rfl, B2, K2⟩
  · rintro σ' H1 ⟨x, p', r', m', rfl, B2, K2⟩
    have hb3 := B2.at_
    walk_at "vc"
    refine ite2 (fun h1 => ?_) (fun h1 => ?_)
    · walk_at "vc"
      refine k (r' % z) _ (Int.emod_nonneg _ (by omega)) (.inl (Int.emod_lt_of_pos _ hz0)) ⟨p', r' / z, m', n + 1, B2.put B2.p0 (Int.ediv_nonneg B2.r0 (by omega)) B2.m0 B2.m1⟩ (kp_upd K2)
    · walk_at "vc"
      have hm0 := B2.m0
      have hm1 := B2.m1
      refine v_pow ⟨by decide, by decide, by omega⟩ ?_
      walk_at "vc"
      exact k _ _ (Int.emod_nonneg _ (by omega)) (.inl (Int.emod_lt_of_pos _ hz0)) ⟨p', r', _, n + 1, B2.put B2.p0 B2.r0 (Int.emod_nonneg _ (by decide)) (Int.emod_lt_of_pos _ (by decide))⟩ (kp_upd K2)

end
section
abbrev N_law_of : List Str := ["bag", "things"]
def t_law_of (K : PySem.W.Frag) : TS :=
  (tRet (tOp (rIx K) (tVar 1) (tCall (sp_law_draw K) [] E0 (tCons (tVar 0) (tCons (tCB (rLenU K) (tCons (tVar 1) tNil)) tNil)))))
theorem atI_of {xs : List V} {i : Int} (h0 : 0 ≤ i) (h1 : i < xs.length) : ∃ y, atI xs i = some y ∧ xs[i.toNat]? = some y := by
  have hl : i.toNat < xs.length := by omega
  refine ⟨xs[i.toNat], ?_, List.getElem?_eq_getElem hl⟩
  unfold atI ixN
  rw [if_pos h0, if_pos h1, Option.bind_some, List.getElem?_eq_getElem hl]
theorem size_small {n : Nat} (h : n ≤ sizeLine) : (n : Int) < 4149515568880992958512407863691161151012446232242436899995657329690652811412908146399707048947103794288197886611300789182395151075411775307886874834113963687061181803401509523685376 := by
  rw [sizeLine_eq] at h
  omega
def sp_law_of (K : PySem.W.Frag) : Sp := fun vs H Q _ => ∃ b x g, vs = [.ref b, x] ∧ Bag K H b g ∧
  ((∃ t xs, x = .ref t ∧ (SqL K (wo [b] H) t xs ∨ SqT K (wo [b] H) t xs) ∧ 0 < xs.length ∧ xs.length ≤ sizeLine ∧ ∀ (i : Nat) y H', xs[i]? = some y → Bag K H' b g → Kp b H H' → Q y H') ∨
   ∃ z : Str, x = .str z ∧ 0 < z.length ∧ z.length ≤ sizeLine ∧ ∀ (i : Nat) c H', z.cps.toList[i]? = some c → Bag K H' b g → Kp b H H' → Q (.str ⟨#[c]⟩) H')
theorem pure_law_of {K : PySem.W.Frag} (vs : List V) (H : Hp) (Q : VK) (E : XK) (h : sp_law_of K vs H Q E) : t_law_of K { nx := fun _ H' => Q .non H', rt := Q } (start N_law_of vs) H := by
  obtain ⟨b, x, g, rfl, B, h⟩ := h
  show t_law_of K _ [some (.ref b), some x] H
  unfold t_law_of
  walk_at "vc"
  rcases h with ⟨t, xs, rfl, hs, h0, h1, k⟩ | ⟨z, rfl, h0, h1, k⟩
  · have hb : ∀ {P : Prop}, (SqL K H t xs → P) → (SqT K H t xs → P) → P := fun a b => hs.elim (fun h => a (same_sql wo_le h)) (fun h => b (same_sqt wo_le h))
    have ln : ∀ {Q : VK}, Q (.int xs.length) H → rLenU K [.ref t] H Q := fun q => hb (fun h => v_lenl h q) fun h => v_lent h q
    refine ln ?_
    walk_at "vc"
    refine ⟨b, _, g, rfl, B, size_small h1, fun d H' d0 d1 B' KP => ?_⟩
    have d2 : d < xs.length := by omega
    obtain ⟨y, hy, hy2⟩ := atI_of d0 d2
    rcases hs with hs | hs
    · exact v_ixl (same_sql (KP.trans wo_le) hs) hy (k _ y H' hy2 B' KP)
    · exact v_ixt (same_sqt (KP.trans wo_le) hs) hy (k _ y H' hy2 B' KP)
  · refine v_lens h1 ?_
    walk_at "vc"
    refine ⟨b, _, g, rfl, B, size_small h1, fun d H' d0 d1 B' KP => ?_⟩
    have d2 : d < z.length := by omega
    have hl : d.toNat < z.cps.toList.length := by
      have : z.cps.toList.length = z.length := by simp [Str.length]
      omega
    have e : z.cps.toList[d.toNat]? = some z.cps.toList[d.toNat] := List.getElem?_eq_getElem hl
    refine .inr (.inr ⟨z, d, z.cps.toList[d.toNat], rfl, rfl, h1, ?_, k _ _ H' e B' KP⟩)
    unfold atI ixN
    have hz : z.cps.toList.length = z.length := by simp [Str.length]
    rw [if_pos d0, if_pos (by rw [hz]; exact d2), Option.bind_some, e]

end
section

/-! ### what is new in a heap -/
/-- what H' has and H has not -/
def nw (H H' : Hp) : Hp := fun a => match H a with
  | none => H' a
  | some _ => none
def Em : Hp := fun _ => none
theorem nw_em {H : Hp} : nw Em H = H := rfl
theorem nw_get {H H' : Hp} {a : Addr} {o : HO} (h : nw H H' a = some o) : H a = none ∧ H' a = some o := by
  unfold nw at h
  cases e : H a with
  | none => rw [e] at h; exact ⟨rfl, h⟩
  | some u => rw [e] at h; cases h
theorem nw_at {H H' : Hp} {a : Addr} (h : H a = none) : nw H H' a = H' a := by
  unfold nw
  rw [h]
theorem nw_le {H H' : Hp} : Same (nw H H') H' := fun a o h => (nw_get h).2
/-- the known places do not go -/
def Gr (H H' : Hp) : Prop := ∀ a, H' a = none → H a = none
theorem Gr.refl {H : Hp} : Gr H H := fun _ h => h
theorem Gr.trans {A B C : Hp} (h : Gr A B) (k : Gr B C) : Gr A C := fun a e => h a (k a e)
theorem gr_em {H : Hp} : Gr Em H := fun _ _ => rfl
theorem gr_upd {H : Hp} {a : Addr} {o : HO} : Gr H (upd H a o) := fun b h => by
  by_cases e : b = a
  · subst e
    rw [upd_same] at h
    cases h
  · rwa [upd_ne e] at h
theorem gr_same {H H' : Hp} (h : Same H H') : Gr H H' := fun a e => by
  cases q : H a with
  | none => rfl
  | some o => rw [h a o q] at e; cases e
theorem gr_kp {b : Addr} {H H' : Hp} (h : Kp b H H') (hb : H' b ≠ none) : Gr H H' := fun a e => by
  cases q : H a with
  | none => rfl
  | some o =>
    by_cases z : a = b
    · subst z
      exact absurd e hb
    · rw [kp_get h z q] at e
      cases e
theorem Bag.some {K : PySem.W.Frag} {H : Hp} {b : Addr} {g : Addr × List Int} (B : Bag K H b g) : H b ≠ none := by
  obtain ⟨o, h⟩ := B.get
  rw [h]
  exact fun z => nomatch z
theorem ne_some {H : Hp} {a : Addr} {o : HO} (h : H a = some o) : H a ≠ none := by
  rw [h]
  exact fun z => nomatch z
theorem ne_up {H H' : Hp} {a : Addr} (h : Gr H H') (e : H a ≠ none) : H' a ≠ none := fun z => e (h a z)
/-- the new of H1 to H2 stands in the new of H0 to H3, without S -/
theorem nw_into {S : List Addr} {H0 H1 H2 : Hp} (g : Gr H0 H1) (hs : ∀ a, a ∈ S → H1 a ≠ none) : Same (nw H1 H2) (wo S (nw H0 H2)) := fun a o h => by
  obtain ⟨h1, h2⟩ := nw_get h
  rw [wo_out fun z => hs a z h1, nw_at (g a h1)]
  exact h2
theorem nw_step {S : List Addr} {b : Addr} {H0 H1 H2 : Hp} (k : Kp b H1 H2) (hb : b ∈ S ∨ H0 b ≠ none) : Same (wo S (nw H0 H1)) (wo S (nw H0 H2)) := wo_same fun a ha o h => by
  obtain ⟨h1, h2⟩ := nw_get h
  have ne : a ≠ b := fun z => by
    subst z
    exact hb.elim ha fun q => q h1
  rw [nw_at h1]
  exact kp_get k ne h2
theorem nw_stepW {b : Addr} {H0 H1 H2 : Hp} (k : Kp b H1 H2) (hb : H0 b ≠ none) : Same (nw H0 H1) (nw H0 H2) := fun a o h => by
  obtain ⟨h1, h2⟩ := nw_get h
  have ne : a ≠ b := fun z => by
    subst z
    exact hb h1
  rw [nw_at h1]
  exact kp_get k ne h2
theorem nw_upd {S : List Addr} {H0 H1 : Hp} {a : Addr} {o : HO} (h : a ∈ S) : Same (wo S (nw H0 H1)) (wo S (nw H0 (upd H1 a o))) := wo_same fun x hx u e => by
  obtain ⟨h1, h2⟩ := nw_get e
  have ne : x ≠ a := fun z => by
    subst z
    exact hx h
  rw [nw_at h1, upd_ne ne]
  exact h2
theorem same_sub {S T : List Addr} {H : Hp} (h : ∀ a, a ∈ T → a ∈ S) : Same (wo S H) (wo T H) := wo_sub h
theorem kp_new1 {b a : Addr} {H : Hp} {o : HO} (h : H a = none) : Kp b H (upd H a o) := kp_new (Same.refl _) h
/-- the bag in a greater heap -/
theorem Bag.same {K : PySem.W.Frag} {H H' : Hp} {b : Addr} {g : Addr × List Int} (B : Bag K H b g) (e : Same H H') : Bag K H' b g := by
  obtain ⟨o, h⟩ := B.get
  exact B.move B.cells (kp_same e) (by rw [e _ _ h, h])
/-- a comprehension over range(n), its item drawn from the bag at b: El tells of the items -/
theorem lc_bag {K : PySem.W.Frag} {El : Nat → V → Hp → Prop} {H0 H : Hp} {b : Addr} {g : Addr × List Int} {n v : Nat} {te : TE} {σ : L2.St} {Q : VK} (mono : ∀ i x A B, Same A B → El i x A → El i x B) (B : Bag K H b g) (g0 : Gr H0 H) (hn : n ≤ 1000000)
    (hs : ∀ D i H1, i < n → H D = none → H1 D ≠ none → Bag K H1 b g → Kp b H H1 → ∀ R : VK, (∀ y H2, El i y (wo [b, D] (nw H0 H2)) → Bag K H2 b g → Kp b H1 H2 → R y H2) → te ((wipe σ [v]).set v (some (.int (0 + (i : Nat))))) H1 R)
    (hw : ∀ x : V, wipe ((wipe σ [v]).set v (some x)) [v] = wipe σ [v])
    (hd : ∀ D H' vs, H D = none → Bag K H' b g → Kp b H H' → H' D = some (.lst vs) → vs.length = n → (∀ i x, vs[i]? = some x → El i x (wo [b, D] (nw H0 H'))) → Q (.ref D) H') :
    lcI (Itr 0 n) (gName v) tYes te [v] σ H Q := by
  have hc := B.cells
  refine lc_w walk_range (fun D i H1 => H D = none ∧ Bag K H1 b g ∧ Kp b H H1 ∧ ∃ vs, H1 D = some (.lst vs) ∧ vs.length = i ∧ ∀ i x, vs[i]? = some x → El i x (wo [b, D] (nw H0 H1))) (fun D hD => ⟨hD, B.new hD, kp_new1 hD, ([] : List V), upd_same, rfl, fun i x h => by simp at h⟩) (fun _ _ _ _ _ => trivial) ?_ ?_
  · rintro D i x H1 H' hD hi ⟨_, B1, K1, vs, h1, h2, h3⟩ ⟨rfl, rfl⟩
    refine v_name ⟨hw _, v_yes (iT rfl ?_)⟩
    refine hs D i H' hi hD (ne_some h1) B1 K1 _ fun y H2 e1 B2 K2 => ?_
    have nDb := B.ne hD
    have h4 := kp_get K2 nDb h1
    refine ⟨vs, h4, by rw [sizeLine_eq]; omega, hD, B2.mut hc (K1.trans K2) hD nDb, kp_mut (K1.trans K2) hD, vs ++ [y], upd_same, by simp [h2], fun j z hj => ?_⟩
    have up : Same (wo [b, D] (nw H0 H2)) (wo [b, D] (nw H0 (upd H2 D (.lst (vs ++ [y]))))) := nw_upd (by simp)
    rw [List.getElem?_append] at hj
    split at hj
    · exact mono _ _ _ _ ((nw_step K2 (.inl (by simp))).trans up) (h3 j z hj)
    · rename_i hlt
      have e : j = i := by
        by_cases q : j - vs.length = 0
        · omega
        · rw [List.getElem?_eq_none (by simp; omega)] at hj
          cases hj
      subst e
      have ez : z = y := by simpa [h2] using hj.symm
      subst ez
      exact mono _ _ _ _ up e1
  · rintro D H1 hD ⟨_, B1, K1, vs, h1, h2, h3⟩
    exact hd D H1 vs hD B1 K1 h1 h2 h3
theorem str_of {ys : List Str} {i : Nat} {y : V} (h : (ys.map V.str)[i]? = some y) : ∃ s, y = .str s := by
  rw [List.getElem?_map] at h
  cases e : ys[i]? with
  | none => rw [e] at h; cases h
  | some s =>
    rw [e] at h
    exact ⟨s, (Option.some.inj h).symm⟩
/-- items one by one -/
theorem dps_of {K : PySem.W.Frag} {H : Hp} {P : PyData → Prop} : ∀ {vs : List V}, (∀ (i : Nat) (x : V), vs[i]? = some x → ∃ d, Dp K H x d ∧ P d) → ∃ ds, DpAll K H vs ds ∧ ∀ d, d ∈ ds → P d
  | [], _ => ⟨[], .nil, fun _ h => nomatch h⟩
  | v :: r, h => by
    obtain ⟨d, hd, p⟩ := h 0 v rfl
    obtain ⟨ds, hs, ps⟩ := dps_of (vs := r) fun i x e => h (i + 1) x (by simpa using e)
    refine ⟨d :: ds, .cons hd hs, fun e he => ?_⟩
    rcases List.mem_cons.mp he with z | z
    · subst z; exact p
    · exact ps e z
theorem upd_upd {H : Hp} {a : Addr} {o u : HO} : upd (upd H a o) a u = upd H a u := by
  funext x
  by_cases e : x = a
  · subst e
    rw [upd_same, upd_same]
  · rw [upd_ne e, upd_ne e, upd_ne e]
/-- a comprehension over range(n) whose items touch no heap -/
theorem lc_fn {H : Hp} {n v : Nat} {te : TE} {σ : L2.St} {Q : VK} (f : Nat → V) (hn : n ≤ 1000000) (hs : ∀ (i : Nat) (H1 : Hp) (R : VK), i < n → R (f i) H1 → te ((wipe σ [v]).set v (some (.int (0 + (i : Nat))))) H1 R)
    (hw : ∀ x : V, wipe ((wipe σ [v]).set v (some x)) [v] = wipe σ [v]) (hd : ∀ D, H D = none → Q (.ref D) (upd H D (.lst ((List.range n).map f)))) : lcI (Itr 0 n) (gName v) tYes te [v] σ H Q := by
  refine lc_w walk_range (fun D i H1 => H1 = upd H D (.lst ((List.range i).map f))) (fun D hD => rfl) (fun _ _ _ _ _ => trivial) ?_ ?_
  · rintro D i x H1 H' hD hi rfl ⟨rfl, rfl⟩
    refine v_name ⟨hw _, v_yes (iT rfl ?_)⟩
    refine hs i _ _ hi ⟨_, upd_same, by rw [sizeLine_eq]; simp; omega, ?_⟩
    rw [upd_upd, List.range_succ, List.map_append]
    rfl
  · rintro D H1 hD rfl
    exact hd D hD
theorem dps_bl {K : PySem.W.Frag} {H : Hp} : ∀ {bs : List Bool}, DpAll K H (bs.map V.bl) (bs.map PyData.bool)
  | [] => .nil
  | b :: r => .cons (.bl b) dps_bl
theorem like_true {K : PySem.W.Frag} {n : Nat} {H : Hp} {x y : V} {d : PyData} {Q : VK} {E : XK} (hx : Dp K H x d) (hy : Dp K H y d) (f : fit n d) (q : ∀ H', Same H H' → Q (.bl true) H') : sp_law_like K n [x, y] H Q E :=
  ⟨x, y, d, d, rfl, hx, hy, f, by rw [like_self hx]; exact q⟩
theorem like_bls {K : PySem.W.Frag} {n : Nat} {H : Hp} {x y : Addr} {bs : List Bool} {Q : VK} {E : XK} (hx : SqL K H x (bs.map V.bl)) (hy : SqL K H y (bs.map V.bl)) (l : bs.length ≤ 1000000) (q : ∀ H', Same H H' → Q (.bl true) H') : sp_law_like K (n + 2) [.ref x, .ref y] H Q E :=
  like_true (.lst hx dps_bl) (.lst hy dps_bl) ⟨by rw [List.length_map]; exact l, fun d hd => by
    obtain ⟨b, _, rfl⟩ := List.mem_map.mp hd
    trivial⟩ q
theorem dps_take {K : PySem.W.Frag} {H : Hp} : ∀ {vs : List V} {ds : List PyData} (n : Nat), DpAll K H vs ds → DpAll K H (vs.take n) (ds.take n)
  | _, _, 0, _ => .nil
  | _, _, _ + 1, .nil => .nil
  | _, _, n + 1, .cons h r => .cons h (dps_take n r)
theorem atI_nat {xs : List V} {i : Nat} {x : V} (h : xs[i]? = some x) : atI xs (i : Int) = some x := by
  have hl : i < xs.length := (List.getElem?_eq_some_iff.mp h).1
  unfold atI ixN
  rw [if_pos (by omega), if_pos (by omega), Option.bind_some]
  exact h
theorem v_lrg {ta : TE} {σ : L2.St} {H : Hp} {Q : VK} (q : ta σ H fun x H1 => ∃ n : Nat, x = .int n ∧ n ≤ 1000000 ∧ ∀ q, H1 q = none → Q (.ref q) (upd H1 q (.lst ((List.range n).map fun i => .int (i : Nat))))) (m : ∀ (H : Hp) (P P' : VK), (∀ y H2, P y H2 → P' y H2) → ta σ H P → ta σ H P') : tLstRg (tRg1 ta) σ H Q := by
  refine m _ _ _ ?_ q
  rintro y H2 ⟨n, rfl, hn, h⟩
  refine ⟨n, rfl, RgOk.of_le (by omega) (by omega) (by omega) (by omega), fun p hp => ?_⟩
  have e : rgV 0 (n : Int) = (List.range n).map fun i => V.int (i : Nat) := by
    unfold rgV
    rw [show ((n : Int) - 0).toNat = n by omega]
    refine List.map_congr_left fun i _ => ?_
    rw [Int.zero_add]
  rw [e]
  exact h p hp
theorem v_lrgc {n : Nat} {σ : L2.St} {H : Hp} {Q : VK} (hn : n ≤ 1000000) (q : ∀ q, H q = none → Q (.ref q) (upd H q (.lst ((List.range n).map fun i => .int (i : Nat))))) : tLstRg (tRg1 (tC (.int (n : Nat)))) σ H Q :=
  v_lrg ⟨n, rfl, hn, q⟩ fun _ _ _ h q => h _ _ q
theorem wo_at {S : List Addr} {H : Hp} {a : Addr} {o : HO} (h : H a = some o) (hs : a ∉ S) : wo S H a = some o := by rw [wo_out hs]; exact h
theorem not_two {H : Hp} {a b c : Addr} (ha : H a = none) (hb : H b ≠ none) (hc : H c ≠ none) : a ∉ [b, c] := fun z => by
  rcases List.mem_cons.mp z with e | e
  · subst e; exact hb ha
  · rw [List.mem_singleton.mp e] at ha
    exact hc ha

end
section

/-! ### rows of whole numbers, their echelon: plain -/
/-- the divisor of all -/
def gall (l : List Int) : Nat := l.foldl (fun g x => Nat.gcd g x.natAbs) 0
def prim (r : List Int) : List Int := if gall r ≤ 1 then r else r.map (· / (gall r : Int))
theorem gall_snoc (l : List Int) (x : Int) : gall (l ++ [x]) = Nat.gcd (gall l) x.natAbs := by
  unfold gall
  rw [List.foldl_append]
  rfl
theorem foldg_dvd : ∀ (l : List Int) (g : Nat), l.foldl (fun g x => Nat.gcd g x.natAbs) g ∣ g ∧ ∀ x, x ∈ l → l.foldl (fun g x => Nat.gcd g x.natAbs) g ∣ x.natAbs
  | [], g => ⟨Nat.dvd_refl _, fun _ h => nomatch h⟩
  | a :: l, g => by
    obtain ⟨h1, h2⟩ := foldg_dvd l (Nat.gcd g a.natAbs)
    refine ⟨Nat.dvd_trans h1 (Nat.gcd_dvd_left _ _), fun x hx => ?_⟩
    rcases List.mem_cons.mp hx with e | e
    · subst e
      exact Nat.dvd_trans h1 (Nat.gcd_dvd_right _ _)
    · exact h2 x e
theorem gall_dvd {l : List Int} {x : Int} (h : x ∈ l) : gall l ∣ x.natAbs := (foldg_dvd l 0).2 x h
theorem gall_zero : ∀ {l : List Int}, (∀ x, x ∈ l → x = 0) → gall l = 0 := by
  intro l
  have : ∀ (l : List Int) (g : Nat), (∀ x, x ∈ l → x = 0) → l.foldl (fun g x => Nat.gcd g x.natAbs) g = g := by
    intro l
    induction l with
    | nil => intro g _; rfl
    | cons a l ih =>
      intro g h
      show l.foldl _ (Nat.gcd g a.natAbs) = g
      rw [ih _ fun x hx => h x (List.mem_cons_of_mem _ hx), h a (List.mem_cons_self ..)]
      simp
  exact this l 0
/-- entries below 2 ^ b -/
def Bd (b : Nat) (r : List Int) : Prop := ∀ x, x ∈ r → x.natAbs < 2 ^ b
theorem gall_bd {b : Nat} {r : List Int} (h : Bd b r) (g : 1 < gall r) : gall r < 2 ^ b := by
  by_cases z : ∃ x, x ∈ r ∧ x ≠ 0
  · obtain ⟨x, hx, hne⟩ := z
    exact Nat.lt_of_le_of_lt (Nat.le_of_dvd (by omega) (gall_dvd hx)) (h x hx)
  · rw [gall_zero fun x hx => Classical.byContradiction fun q => z ⟨x, hx, q⟩] at g
    omega
theorem prim_bd {b : Nat} {r : List Int} (h : Bd b r) : Bd b (prim r) := by
  unfold prim
  split
  · exact h
  · intro x hx
    obtain ⟨y, hy, rfl⟩ := List.mem_map.mp hx
    have := h y hy
    have q : (y / (gall r : Int)).natAbs ≤ y.natAbs := Int.natAbs_ediv_le_natAbs y _
    omega
theorem prim_len (r : List Int) : (prim r).length = r.length := by
  unfold prim
  split
  · rfl
  · rw [List.length_map]
/-- turned round where its number at p is not above 0 -/
def led (r : List Int) (p : Nat) : List Int := if 0 < r.getD p 0 then r else r.map (- ·)
def comb (h o : Int) (r l : List Int) : List Int := List.zipWith (fun n m => h * n - o * m) r l
def strk (r l : List Int) (p : Nat) : List Int := if r.getD p 0 = 0 then r else prim (comb (l.getD p 0) (r.getD p 0) r l)
theorem getD_of {r : List Int} {p : Nat} (h : p < r.length) : r[p]? = some (r.getD p 0) := by
  rw [List.getD_eq_getElem?_getD, List.getElem?_eq_getElem h]
  rfl
theorem led_len (r : List Int) (p : Nat) : (led r p).length = r.length := by
  unfold led
  split
  · rfl
  · rw [List.length_map]
theorem led_bd {b : Nat} {r : List Int} {p : Nat} (h : Bd b r) : Bd b (led r p) := by
  unfold led
  split
  · exact h
  · intro x hx
    obtain ⟨y, hy, rfl⟩ := List.mem_map.mp hx
    rw [Int.natAbs_neg]
    exact h y hy
theorem comb_len {h o : Int} {r l : List Int} (e : r.length = l.length) : (comb h o r l).length = r.length := by
  unfold comb
  rw [List.length_zipWith]
  omega
theorem two_pow_add {a b : Nat} : 2 ^ a * 2 ^ b + 2 ^ a * 2 ^ b = 2 ^ (a + b + 1) := by
  rw [Nat.pow_succ, Nat.pow_add]
  omega
theorem comb_bd {a b : Nat} {h o : Int} {r l : List Int} (hh : h.natAbs < 2 ^ a) (ho : o.natAbs < 2 ^ b) (hr : Bd b r) (hl : Bd a l) : Bd (a + b + 1) (comb h o r l) := by
  intro x hx
  obtain ⟨i, hi⟩ := List.getElem?_of_mem hx
  unfold comb at hi
  rw [List.getElem?_zipWith] at hi
  cases e1 : r[i]? with
  | none => rw [e1] at hi; cases hi
  | some n =>
    cases e2 : l[i]? with
    | none => rw [e1, e2] at hi; cases hi
    | some m =>
      rw [e1, e2] at hi
      have ex : h * n - o * m = x := Option.some.inj hi
      have q1 := hr n (List.mem_of_getElem? e1)
      have q2 := hl m (List.mem_of_getElem? e2)
      have p1 : (h * n).natAbs < 2 ^ (a + b) := wide_lt hh q1
      have p2 : (o * m).natAbs < 2 ^ (b + a) := wide_lt ho q2
      rw [← ex, ← two_pow_add, ← Nat.pow_add]
      rw [Nat.add_comm b a] at p2
      omega
theorem strk_len {r l : List Int} {p : Nat} (e : r.length = l.length) : (strk r l p).length = r.length := by
  unfold strk
  split
  · rfl
  · rw [prim_len, comb_len e]
theorem getD_bd {b : Nat} {r : List Int} {p : Nat} (h : Bd b r) : (r.getD p 0).natAbs < 2 ^ b := by
  rw [List.getD_eq_getElem?_getD]
  cases e : r[p]? with
  | none => exact Nat.two_pow_pos b
  | some n => exact h n (List.mem_of_getElem? e)
theorem Bd.mono {a b : Nat} {r : List Int} (h : Bd a r) (e : a ≤ b) : Bd b r := fun x hx => Nat.lt_of_lt_of_le (h x hx) (Nat.pow_le_pow_right (by decide) e)
theorem strk_bd {b : Nat} {r l : List Int} {p : Nat} (hr : Bd b r) (hl : Bd b l) : Bd (2 * b + 1) (strk r l p) := by
  unfold strk
  split
  · exact hr.mono (by omega)
  · exact (prim_bd (comb_bd (getD_bd hl) (getD_bd hr) hr hl)).mono (by omega)
def units (d : Nat) : List (List Int) := (List.range d).map fun k => (List.range d).map fun j => if j = k then 1 else 0
def nz (r : List Int) : Bool := r.any fun n => n != 0
def lead? (L : List (List Int)) (p : Nat) : Option Nat := L.findIdx? fun r => r.getD p 0 != 0
/-- the told rows, the left rows: one place p -/
def estep (s : List (List Int) × List (List Int)) (p : Nat) : List (List Int) × List (List Int) := match lead? s.2 p with
  | none => s
  | some k => let l := led (s.2.getD k []) p
    (s.1.map (strk · l p) ++ [l], ((s.2.take k ++ s.2.drop (k + 1)).map (strk · l p)).filter nz)
def eleft (M : List (List Int)) : List (List Int) := (M.filter nz).map prim
def ech (d : Nat) (M : List (List Int)) : List (List Int) := ((List.range d).foldl estep ([], eleft M)).1
def bbits (b : Nat) : Nat → Nat
  | 0 => b
  | p + 1 => 2 * bbits b p + 1
theorem bbits_eq (b : Nat) : ∀ p, bbits b p + 1 = (b + 1) * 2 ^ p
  | 0 => by simp [bbits]
  | p + 1 => by
    have := bbits_eq b p
    show 2 * bbits b p + 1 + 1 = (b + 1) * 2 ^ (p + 1)
    rw [Nat.pow_succ, ← Nat.mul_assoc, ← this]
    omega
theorem bbits_le {b p : Nat} (hb : b ≤ 60) (hp : p ≤ 5) : bbits b p ≤ 3000 := by
  have e := bbits_eq b p
  have h : (b + 1) * 2 ^ p ≤ 61 * 2 ^ 5 := Nat.mul_le_mul (by omega) (Nat.pow_le_pow_right (by decide) hp)
  have : 61 * 2 ^ 5 = 1952 := by decide
  omega
/-- rows of one length, their numbers below 2 ^ b -/
def Okr (d b : Nat) (M : List (List Int)) : Prop := ∀ r, r ∈ M → r.length = d ∧ Bd b r
theorem okr_strk {d b p : Nat} {M : List (List Int)} {l : List Int} (h : Okr d b M) (hl : l.length = d ∧ Bd b l) : Okr d (2 * b + 1) (M.map (strk · l p)) := fun r hr => by
  obtain ⟨x, hx, rfl⟩ := List.mem_map.mp hr
  obtain ⟨h1, h2⟩ := h x hx
  exact ⟨by rw [strk_len (by omega)]; exact h1, strk_bd h2 hl.2⟩
theorem okr_sub {d b : Nat} {M N : List (List Int)} (h : Okr d b M) (s : ∀ r, r ∈ N → r ∈ M) : Okr d b N := fun r hr => h r (s r hr)
theorem lead_none {L : List (List Int)} {p : Nat} (h : lead? L p = none) : ∀ r, r ∈ L → r.getD p 0 = 0 := fun r hr => by
  have := List.findIdx?_eq_none_iff.mp h r hr
  simpa using this
theorem lead_some {L : List (List Int)} {p k : Nat} (h : lead? L p = some k) : ∃ r, L[k]? = some r ∧ r.getD p 0 ≠ 0 ∧ ∀ r', r' ∈ L.take k → r'.getD p 0 = 0 := by
  obtain ⟨hk, h1, h2⟩ := List.findIdx?_eq_some_iff_getElem.mp h
  refine ⟨L[k], List.getElem?_eq_getElem hk, by simpa using h1, fun r' hr => ?_⟩
  obtain ⟨j, hj⟩ := List.getElem?_of_mem hr
  have jl : j < k := by
    have := (List.getElem?_eq_some_iff.mp hj).1
    simp at this
    omega
  rw [List.getElem?_take_of_lt jl] at hj
  have q := h2 j jl
  rw [(List.getElem?_eq_some_iff.mp hj).2] at q
  simpa using q
theorem filter_take_succ {α : Type} {f : α → Bool} {M : List α} {i : Nat} {r : α} (h : M[i]? = some r) : (M.take (i + 1)).filter f = if f r = true then (M.take i).filter f ++ [r] else (M.take i).filter f := by
  rw [take_succ_get h, List.filter_append]
  by_cases c : f r = true
  · rw [if_pos c, List.filter_cons, if_pos c]
    rfl
  · rw [if_neg c, List.filter_cons, if_neg c, List.filter_nil, List.append_nil]

end
section

/-! ### spans of rows: plain -/
abbrev Vec : Type := List Int
/-- v is made of rows of M by whole combinations, divided -/
inductive Spn (d : Nat) (M : List Vec) : Vec → Prop
  | zero : Spn d M (List.replicate d 0)
  | mem {r : Vec} : r ∈ M → r.length = d → Spn d M r
  | lin {u w v : Vec} (a b c : Int) : c ≠ 0 → Spn d M u → Spn d M w → v.length = d → (∀ i, c * v.getD i 0 = a * u.getD i 0 + b * w.getD i 0) → Spn d M v
theorem vec_ext {u v : Vec} (l : u.length = v.length) (h : ∀ i, u.getD i 0 = v.getD i 0) : u = v := by
  refine List.ext_getElem? fun i => ?_
  by_cases q : i < u.length
  · have e := h i
    rw [getD_of q, getD_of (by omega : i < v.length), e]
  · rw [List.getElem?_eq_none (by omega), List.getElem?_eq_none (by omega)]
theorem getD_out {u : Vec} {i : Nat} (h : u.length ≤ i) : u.getD i 0 = 0 := by
  rw [List.getD_eq_getElem?_getD, List.getElem?_eq_none h]
  rfl
theorem getD_rep {d i : Nat} : (List.replicate d (0 : Int)).getD i 0 = 0 := by
  rw [List.getD_eq_getElem?_getD, List.getElem?_replicate]
  split <;> rfl
theorem getD_map {u : Vec} {f : Int → Int} {i : Nat} (f0 : f 0 = 0) : (u.map f).getD i 0 = f (u.getD i 0) := by
  rw [List.getD_eq_getElem?_getD, List.getD_eq_getElem?_getD, List.getElem?_map]
  cases u[i]? with
  | none => exact f0.symm
  | some n => rfl
theorem Spn.len {d : Nat} {M : List Vec} {v : Vec} (h : Spn d M v) : v.length = d := by
  cases h with
  | zero => rw [List.length_replicate]
  | mem _ l => exact l
  | lin _ _ _ _ _ _ l _ => exact l
/-- what is linear holds of the span -/
theorem Spn.ind {d : Nat} {M : List Vec} {P : (Nat → Int) → Prop} (p0 : P fun _ => 0) (pl : ∀ (f g h : Nat → Int) (a b c : Int), c ≠ 0 → P f → P g → (∀ i, c * h i = a * f i + b * g i) → P h) (pm : ∀ r, r ∈ M → r.length = d → P fun i => r.getD i 0) : ∀ {v : Vec}, Spn d M v → P fun i => v.getD i 0 := by
  intro v h
  induction h with
  | zero => have e : (fun i => (List.replicate d (0 : Int)).getD i 0) = fun _ => 0 := funext fun i => getD_rep
            rw [e]
            exact p0
  | mem m l => exact pm _ m l
  | lin a b c hc _ _ _ e iu iw => exact pl _ _ _ a b c hc iu iw e
theorem Spn.mono {d : Nat} {M N : List Vec} (h : ∀ r, r ∈ M → r.length = d → Spn d N r) {v : Vec} (s : Spn d M v) : Spn d N v := by
  induction s with
  | zero => exact .zero
  | mem m l => exact h _ m l
  | lin a b c hc _ _ l e iu iw => exact .lin a b c hc iu iw l e
theorem Spn.sub {d : Nat} {M N : List Vec} (h : ∀ r, r ∈ M → r ∈ N) {v : Vec} (s : Spn d M v) : Spn d N v := s.mono fun r m l => .mem (h r m) l
theorem Spn.smul {d : Nat} {M : List Vec} {u v : Vec} (a c : Int) (hc : c ≠ 0) (s : Spn d M u) (l : v.length = d) (e : ∀ i, c * v.getD i 0 = a * u.getD i 0) : Spn d M v := .lin a 0 c hc s s l fun i => by rw [e i]; omega
/-- the same rows up to multiples span the same -/
def Eqs (d : Nat) (M N : List Vec) : Prop := ∀ v, Spn d M v ↔ Spn d N v
theorem Eqs.refl {d : Nat} {M : List Vec} : Eqs d M M := fun _ => Iff.rfl
theorem Eqs.symm {d : Nat} {M N : List Vec} (h : Eqs d M N) : Eqs d N M := fun v => (h v).symm
theorem Eqs.trans {d : Nat} {M N L : List Vec} (h : Eqs d M N) (k : Eqs d N L) : Eqs d M L := fun v => (h v).trans (k v)
theorem eqs_of {d : Nat} {M N : List Vec} (h : ∀ r, r ∈ M → r.length = d → Spn d N r) (k : ∀ r, r ∈ N → r.length = d → Spn d M r) : Eqs d M N := fun _ => ⟨fun s => s.mono h, fun s => s.mono k⟩
theorem eqs_app {d : Nat} {M M' N N' : List Vec} (h : Eqs d M M') (k : Eqs d N N') : Eqs d (M ++ N) (M' ++ N') := eqs_of
  (fun r m l => (List.mem_append.mp m).elim (fun m => ((h r).mp (.mem m l)).sub fun x hx => List.mem_append_left _ hx) fun m => ((k r).mp (.mem m l)).sub fun x hx => List.mem_append_right _ hx)
  (fun r m l => (List.mem_append.mp m).elim (fun m => ((h r).mpr (.mem m l)).sub fun x hx => List.mem_append_left _ hx) fun m => ((k r).mpr (.mem m l)).sub fun x hx => List.mem_append_right _ hx)
theorem eqs_perm {d : Nat} {M N : List Vec} (h : ∀ r, r ∈ M ↔ r ∈ N) : Eqs d M N := eqs_of (fun r m l => .mem ((h r).mp m) l) fun r m l => .mem ((h r).mpr m) l
/-- v = (something of M) + (something of N), up to a number -/
theorem sp_app {d : Nat} {M N : List Vec} {v : Vec} (h : Spn d (M ++ N) v) : ∃ (c : Int) (u w : Vec), c ≠ 0 ∧ Spn d M u ∧ Spn d N w ∧ ∀ i, c * v.getD i 0 = u.getD i 0 + w.getD i 0 := by
  induction h with
  | zero => exact ⟨1, _, _, by decide, .zero, .zero, fun i => by rw [getD_rep]; rfl⟩
  | @mem r m l =>
    rcases List.mem_append.mp m with m | m
    · exact ⟨1, r, _, by decide, .mem m l, .zero, fun i => by rw [getD_rep]; omega⟩
    · exact ⟨1, _, r, by decide, .zero, .mem m l, fun i => by rw [getD_rep]; omega⟩
  | @lin u w v a b c hc _ _ lv e iu iw =>
    obtain ⟨c1, u1, w1, h1, su1, sw1, e1⟩ := iu
    obtain ⟨c2, u2, w2, h2, su2, sw2, e2⟩ := iw
    -- c1 u = u1 + w1, c2 w = u2 + w2: c c1 c2 v = a c2 (u1 + w1) + b c1 (u2 + w2)
    have mk : ∀ {L : List Vec} {x y : Vec}, Spn d L x → Spn d L y → ∃ z, Spn d L z ∧ ∀ i, z.getD i 0 = a * c2 * x.getD i 0 + b * c1 * y.getD i 0 := fun {L x y} sx sy => by
      refine ⟨(List.range d).map fun i => a * c2 * x.getD i 0 + b * c1 * y.getD i 0, ?_, ?_⟩
      · refine .lin (a * c2) (b * c1) 1 (by decide) sx sy (by simp) fun i => ?_
        rw [Int.one_mul]
        by_cases q : i < d
        · rw [List.getD_eq_getElem?_getD, List.getElem?_map, List.getElem?_range q]
          rfl
        · rw [getD_out (by simp; omega), getD_out (by rw [sx.len]; omega), getD_out (by rw [sy.len]; omega)]
          simp
      · intro i
        by_cases q : i < d
        · rw [List.getD_eq_getElem?_getD, List.getElem?_map, List.getElem?_range q]
          rfl
        · rw [getD_out (by simp; omega), getD_out (by rw [sx.len]; omega), getD_out (by rw [sy.len]; omega)]
          simp
    obtain ⟨x, sx, ex⟩ := mk su1 su2
    obtain ⟨y, sy, ey⟩ := mk sw1 sw2
    refine ⟨c * c1 * c2, x, y, Int.mul_ne_zero (Int.mul_ne_zero hc h1) h2, sx, sy, fun i => ?_⟩
    rw [ex, ey]
    have k1 := e1 i
    have k2 := e2 i
    have k := e i
    calc c * c1 * c2 * v.getD i 0 = c1 * c2 * (c * v.getD i 0) := by simp only [Int.mul_comm, Int.mul_left_comm, Int.mul_assoc]
      _ = a * c2 * (c1 * u.getD i 0) + b * c1 * (c2 * w.getD i 0) := by rw [k, Int.mul_add]; simp only [Int.mul_comm, Int.mul_left_comm, Int.mul_assoc]
      _ = _ := by rw [k1, k2, Int.mul_add, Int.mul_add]; omega

end
section

/-- the row r times x -/
def dt (r : List Int) (x : Nat → Int) : Nat → Int
  | 0 => 0
  | k + 1 => dt r x k + r.getD k 0 * x k
/-- nothing but 0 is orthogonal to all rows -/
theorem dt_zero {r : List Int} {x : Nat → Int} : ∀ {d : Nat}, (∀ j, j < d → r.getD j 0 * x j = 0) → dt r x d = 0
  | 0, _ => rfl
  | d + 1, h => by
    show dt r x d + r.getD d 0 * x d = 0
    rw [dt_zero fun j hj => h j (by omega), h d (by omega)]
    rfl
theorem dt_lin {r l c : List Int} {x : Nat → Int} {h o : Int} (e : ∀ j, c.getD j 0 = h * r.getD j 0 - o * l.getD j 0) : ∀ d, dt c x d = h * dt r x d - o * dt l x d
  | 0 => by simp [dt]
  | d + 1 => by
    show dt c x d + c.getD d 0 * x d = h * (dt r x d + r.getD d 0 * x d) - o * (dt l x d + l.getD d 0 * x d)
    rw [dt_lin e d, e d]
    grind
theorem dt_mul {r c : List Int} {x : Nat → Int} {g : Int} (e : ∀ j, r.getD j 0 = g * c.getD j 0) : ∀ d, dt r x d = g * dt c x d
  | 0 => by simp [dt]
  | d + 1 => by
    show dt r x d + r.getD d 0 * x d = g * (dt c x d + c.getD d 0 * x d)
    rw [dt_mul e d, e d]
    grind
theorem dt_two {r : List Int} {x : Nat → Int} {i p : Nat} (ne : i ≠ p) : ∀ d, (∀ j, j < d → j ≠ i → j ≠ p → r.getD j 0 * x j = 0) → dt r x d = (if i < d then r.getD i 0 * x i else 0) + (if p < d then r.getD p 0 * x p else 0)
  | 0, _ => by simp [dt]
  | d + 1, h => by
    show dt r x d + r.getD d 0 * x d = _
    rw [dt_two ne d fun j hj => h j (by omega)]
    by_cases e1 : d = i
    · subst e1
      rw [if_neg (by omega), if_pos (show d < d + 1 by omega)]
      by_cases e2 : p < d
      · rw [if_pos e2, if_pos (by omega)]
        omega
      · rw [if_neg e2, if_neg (by omega)]
        omega
    · by_cases e2 : d = p
      · subst e2
        rw [if_neg (show ¬d < d by omega), if_pos (show d < d + 1 by omega)]
        by_cases e3 : i < d
        · rw [if_pos e3, if_pos (by omega)]
          omega
        · rw [if_neg e3, if_neg (by omega)]
          omega
      · rw [h d (by omega) e1 e2]
        by_cases e3 : i < d <;> by_cases e4 : p < d
        · rw [if_pos e3, if_pos e4, if_pos (by omega), if_pos (by omega)]; omega
        · rw [if_pos e3, if_neg e4, if_pos (by omega), if_neg (by omega)]; omega
        · rw [if_neg e3, if_pos e4, if_neg (by omega), if_pos (by omega)]; omega
        · rw [if_neg e3, if_neg e4, if_neg (by omega), if_neg (by omega)]; omega
/-! rows by their entries -/
theorem comb_getD {h o : Int} {r l : List Int} (e : r.length = l.length) (j : Nat) : (comb h o r l).getD j 0 = h * r.getD j 0 - o * l.getD j 0 := by
  unfold comb
  simp only [List.getD_eq_getElem?_getD, List.getElem?_zipWith]
  by_cases hj : j < r.length
  · rw [List.getElem?_eq_getElem hj, List.getElem?_eq_getElem (show j < l.length by omega)]
    rfl
  · rw [List.getElem?_eq_none (by omega), List.getElem?_eq_none (show l.length ≤ j by omega)]
    simp
theorem prim_getD (r : List Int) (j : Nat) : r.getD j 0 = (if gall r ≤ 1 then 1 else (gall r : Int)) * (prim r).getD j 0 := by
  unfold prim
  split
  · simp
  · simp only [List.getD_eq_getElem?_getD, List.getElem?_map]
    cases e : r[j]? with
    | none => simp
    | some n =>
      show n = (gall r : Int) * (n / (gall r : Int))
      have hd : (gall r : Int) ∣ n := by
        have := gall_dvd (List.mem_of_getElem? e)
        exact Int.ofNat_dvd_left.mpr this
      exact (Int.mul_ediv_cancel' hd).symm
theorem gfac_pos (r : List Int) : (0 : Int) < (if gall r ≤ 1 then 1 else (gall r : Int)) := by
  split <;> omega
theorem led_getD (r : List Int) (p j : Nat) : (led r p).getD j 0 = (if 0 < r.getD p 0 then 1 else -1) * r.getD j 0 := by
  unfold led
  split
  · simp
  · simp only [List.getD_eq_getElem?_getD, List.getElem?_map]
    cases r[j]? <;> simp
/-- a struck row by its entries: two factors -/
theorem strk_getD {r l : List Int} {p : Nat} (e : r.length = l.length) (hl : 0 < l.getD p 0) : ∃ g h o : Int, 0 < g ∧ 0 < h ∧ (∀ j, g * (strk r l p).getD j 0 = h * r.getD j 0 - o * l.getD j 0) ∧ h * r.getD p 0 = o * l.getD p 0 := by
  by_cases c : r.getD p 0 = 0
  · refine ⟨1, 1, 0, by decide, by decide, fun j => ?_, by rw [c]; simp⟩
    unfold strk
    rw [if_pos c]
    simp
  · refine ⟨_, l.getD p 0, r.getD p 0, gfac_pos (comb (l.getD p 0) (r.getD p 0) r l), hl, fun j => ?_, Int.mul_comm _ _⟩
    rw [← comb_getD e j, prim_getD (comb (l.getD p 0) (r.getD p 0) r l) j]
    unfold strk
    rw [if_neg c]
/-! the divisor of all -/
theorem dvd_foldg {c : Nat} : ∀ (l : List Int) (g : Nat), c ∣ g → (∀ x, x ∈ l → c ∣ x.natAbs) → c ∣ l.foldl (fun g x => Nat.gcd g x.natAbs) g
  | [], g, h, _ => h
  | a :: l, g, h, k => dvd_foldg l _ (Nat.dvd_gcd h (k a (List.mem_cons_self ..))) fun x hx => k x (List.mem_cons_of_mem _ hx)
theorem dvd_gall {c : Nat} {l : List Int} (h : ∀ x, x ∈ l → c ∣ x.natAbs) : c ∣ gall l := dvd_foldg l 0 (Nat.dvd_zero c) h
theorem gall_led (r : List Int) (p : Nat) : gall (led r p) = gall r := by
  unfold led
  split
  · rfl
  · refine Nat.dvd_antisymm (dvd_gall fun x hx => ?_) (dvd_gall fun x hx => ?_)
    · have := gall_dvd (l := r.map (- ·)) (x := -x) (List.mem_map.mpr ⟨x, hx, rfl⟩)
      rwa [Int.natAbs_neg] at this
    · obtain ⟨y, hy, rfl⟩ := List.mem_map.mp hx
      rw [Int.natAbs_neg]
      exact gall_dvd hy
theorem gall_prim {r : List Int} (h : gall r ≠ 0) : gall (prim r) = 1 := by
  by_cases c : gall r ≤ 1
  · unfold prim
    rw [if_pos c]
    omega
  · have hp : 0 < gall r := by omega
    have q : gall r * gall (prim r) ∣ gall r := dvd_gall fun x hx => by
      obtain ⟨j, hj⟩ := List.getElem?_of_mem hx
      have e := prim_getD r j
      rw [if_neg c, List.getD_eq_getElem?_getD, hj] at e
      have hl : j < (prim r).length := by rw [prim_len]; exact (List.getElem?_eq_some_iff.mp hj).1
      have m := gall_dvd (List.mem_of_getElem? (getD_of hl))
      have e2 : x = (gall r : Int) * (prim r).getD j 0 := e
      rw [e2, Int.natAbs_mul, Int.natAbs_natCast]
      exact Nat.mul_dvd_mul_left _ m
    have := Nat.le_of_dvd hp q
    have m1 : gall (prim r) ≤ 1 := by
      have q2 : gall r * gall (prim r) ≤ gall r * 1 := by rw [Nat.mul_one]; exact this
      exact Nat.le_of_mul_le_mul_left q2 hp
    have m0 : gall (prim r) ≠ 0 := fun z => by
      rw [z, Nat.mul_zero] at q
      have := Nat.eq_zero_of_zero_dvd q
      omega
    omega
theorem gall_ne {r : List Int} {j : Nat} (h : r.getD j 0 ≠ 0) : gall r ≠ 0 := fun z => by
  have hl : j < r.length := by
    refine Classical.byContradiction fun q => h ?_
    rw [List.getD_eq_getElem?_getD, List.getElem?_eq_none (by omega)]
    rfl
  have := gall_dvd (List.mem_of_getElem? (getD_of hl))
  rw [z] at this
  exact h (Int.natAbs_eq_zero.mp (Nat.eq_zero_of_zero_dvd this))
theorem nz_ne {r : List Int} (h : nz r = true) : ∃ j, r.getD j 0 ≠ 0 := by
  unfold nz at h
  obtain ⟨x, hx, hne⟩ := List.any_eq_true.mp h
  obtain ⟨j, hj⟩ := List.getElem?_of_mem hx
  exact ⟨j, by rw [List.getD_eq_getElem?_getD, hj]; simpa using hne⟩
theorem nz_false {r : List Int} (h : ¬nz r = true) (j : Nat) : r.getD j 0 = 0 := by
  refine Classical.byContradiction fun c => h ?_
  have hl : j < r.length := by
    refine Classical.byContradiction fun q => c ?_
    rw [List.getD_eq_getElem?_getD, List.getElem?_eq_none (by omega)]
    rfl
  exact List.any_eq_true.mpr ⟨_, List.mem_of_getElem? (getD_of hl), by simpa using c⟩
theorem gall_strk {r l : List Int} {p j : Nat} (e : r.length = l.length) (hl : 0 < l.getD p 0) (h1 : gall r = 1) (h : (strk r l p).getD j 0 ≠ 0) : gall (strk r l p) = 1 := by
  by_cases c : r.getD p 0 = 0
  · unfold strk
    rw [if_pos c]
    exact h1
  · unfold strk at h ⊢
    rw [if_neg c] at h ⊢
    refine gall_prim fun z => h ?_
    have q := prim_getD (comb (l.getD p 0) (r.getD p 0) r l) j
    have z0 : (comb (l.getD p 0) (r.getD p 0) r l).getD j 0 = 0 := Classical.byContradiction fun w => gall_ne w z
    rw [z0] at q
    exact (Int.mul_eq_zero.mp q.symm).resolve_left (Int.ne_of_gt (gfac_pos _))
/-! scaled rows -/
theorem foldg_mul (g : Int) : ∀ (l : List Int) (a : Nat), (l.map (g * ·)).foldl (fun g x => Nat.gcd g x.natAbs) (g.natAbs * a) = g.natAbs * l.foldl (fun g x => Nat.gcd g x.natAbs) a
  | [], _ => rfl
  | x :: l, a => by
    show (l.map (g * ·)).foldl _ (Nat.gcd (g.natAbs * a) (g * x).natAbs) = g.natAbs * l.foldl _ (Nat.gcd a x.natAbs)
    rw [Int.natAbs_mul, Nat.gcd_mul_left, foldg_mul g l]
theorem gall_mul (g : Int) (l : List Int) : gall (l.map (g * ·)) = g.natAbs * gall l := by
  have := foldg_mul g l 0
  rw [Nat.mul_zero] at this
  exact this
theorem scale_eq {r c : List Int} {g : Int} (h : ∀ j, r.getD j 0 = g * c.getD j 0) (e : r.length = c.length) : r = c.map (g * ·) := vec_ext (by rw [List.length_map, e]) fun i => by rw [h, getD_map (by simp)]
theorem prim_scale {r c : List Int} {g : Int} (hg : 0 < g) (h : ∀ j, r.getD j 0 = g * c.getD j 0) (e : r.length = c.length) : prim r = prim c := by
  have ge : gall r = g.natAbs * gall c := by rw [scale_eq h e, gall_mul]
  have gn : ((g.natAbs : Nat) : Int) = g := by omega
  by_cases z : gall c = 0
  · have zr : gall r = 0 := by rw [ge, z, Nat.mul_zero]
    have hc : ∀ j, c.getD j 0 = 0 := fun j => Classical.byContradiction fun q => gall_ne q z
    unfold prim
    rw [if_pos (by omega), if_pos (by omega)]
    exact vec_ext e fun i => by rw [h, hc]; simp
  · refine vec_ext (by rw [prim_len, prim_len, e]) fun i => ?_
    have a := prim_getD r i
    have b := prim_getD c i
    have fr : (if gall r ≤ 1 then (1 : Int) else (gall r : Int)) = (gall r : Int) := by
      split
      · have : 1 ≤ gall r := by rw [ge]; exact Nat.mul_pos (by omega) (by omega)
        omega
      · rfl
    have fc : (if gall c ≤ 1 then (1 : Int) else (gall c : Int)) = (gall c : Int) := by
      split
      · omega
      · rfl
    rw [fr] at a
    rw [fc] at b
    rw [h, b, ge, Int.natCast_mul, gn, Int.mul_assoc] at a
    have a2 := Int.eq_of_mul_eq_mul_left (by omega) a
    exact (Int.eq_of_mul_eq_mul_left (by omega) a2).symm
theorem prim_prim (r : List Int) : prim (prim r) = prim r := by
  by_cases z : gall r = 0
  · have e : prim r = r := if_pos (by omega)
    rw [e, e]
  · exact if_pos (by rw [gall_prim z]; exact Nat.le_refl _)
theorem nz_iff {r : List Int} : nz r = true ↔ ∃ j, r.getD j 0 ≠ 0 := ⟨nz_ne, fun ⟨j, h⟩ => Classical.byContradiction fun q => h (nz_false q j)⟩
theorem nz_scale {r c : List Int} {g : Int} (hg : g ≠ 0) (h : ∀ j, r.getD j 0 = g * c.getD j 0) : nz r = nz c := by
  rw [Bool.eq_iff_iff, nz_iff, nz_iff]
  refine ⟨fun ⟨j, q⟩ => ⟨j, fun z => q (by rw [h, z]; simp)⟩, fun ⟨j, q⟩ => ⟨j, ?_⟩⟩
  rw [h]
  exact Int.mul_ne_zero hg q
theorem nz_prim (r : List Int) : nz (prim r) = nz r := (nz_scale (by have := gfac_pos r; omega) (prim_getD r)).symm
theorem prim_zero {r : List Int} {j : Nat} : (prim r).getD j 0 = 0 ↔ r.getD j 0 = 0 := by
  have a := prim_getD r j
  have b := gfac_pos r
  constructor
  · intro z
    rw [a, z]
    simp
  · intro z
    rw [z] at a
    exact (Int.mul_eq_zero.mp a.symm).resolve_left (by omega)
theorem prim_strk {r l : List Int} {p : Nat} (e : r.length = l.length) : prim (strk r l p) = strk (prim r) l p := by
  by_cases z : r.getD p 0 = 0
  · unfold strk
    rw [if_pos z, if_pos (prim_zero.mpr z)]
  · have z' : (prim r).getD p 0 ≠ 0 := fun q => z (prim_zero.mp q)
    have e' : (prim r).length = l.length := by rw [prim_len, e]
    unfold strk
    rw [if_neg z, if_neg z', prim_prim]
    refine prim_scale (gfac_pos r) (fun j => ?_) (by rw [comb_len e, comb_len e', prim_len])
    have a := prim_getD r j
    have b := prim_getD r p
    rw [comb_getD e, comb_getD e']
    generalize (if gall r ≤ 1 then (1 : Int) else (gall r : Int)) = f at a b ⊢
    rw [a, b]
    grind
/-! the law's echelon: the rows as they are until they are struck -/
def lstep (s : List (List Int) × List (List Int)) (p : Nat) : List (List Int) × List (List Int) := match lead? s.2 p with
  | none => s
  | some k => let l := led (prim (s.2.getD k [])) p
    (s.1.map (strk · l p) ++ [l], (s.2.take k ++ s.2.drop (k + 1)).map (strk · l p))
theorem eleft_app (A B : List (List Int)) : eleft (A ++ B) = eleft A ++ eleft B := by
  unfold eleft
  rw [List.filter_append, List.map_append]
theorem eleft_cons {r : List Int} {B : List (List Int)} (h : nz r = true) : eleft (r :: B) = prim r :: eleft B := by
  unfold eleft
  rw [List.filter_cons, if_pos h, List.map_cons]
theorem eleft_zero {A : List (List Int)} {p : Nat} (h : ∀ r, r ∈ A → r.getD p 0 = 0) : ∀ r, r ∈ eleft A → r.getD p 0 = 0 := fun r hr => by
  obtain ⟨x, hx, rfl⟩ := List.mem_map.mp hr
  exact prim_zero.mpr (h x (List.mem_filter.mp hx).1)
theorem eleft_strk {l : List Int} {p : Nat} : ∀ {N : List (List Int)}, (∀ r, r ∈ N → r.length = l.length) → eleft (N.map (strk · l p)) = ((eleft N).map (strk · l p)).filter nz
  | [], _ => rfl
  | r :: N, h => by
    have ih := eleft_strk (l := l) (p := p) (N := N) fun r hr => h r (List.mem_cons_of_mem _ hr)
    have e := h r (List.mem_cons_self ..)
    have ps := prim_strk (p := p) e
    by_cases c : nz r = true
    · rw [eleft_cons c, List.map_cons, List.map_cons]
      by_cases c2 : nz (strk r l p) = true
      · rw [eleft_cons c2, ih, List.filter_cons, if_pos (by rw [← ps, nz_prim]; exact c2), ps]
      · unfold eleft at ih ⊢
        rw [List.filter_cons, if_neg c2, List.filter_cons, if_neg (by rw [← ps, nz_prim]; exact c2)]
        exact ih
    · have sr : strk r l p = r := if_pos (nz_false c p)
      unfold eleft at ih ⊢
      rw [List.map_cons, sr, List.filter_cons, if_neg c, List.filter_cons, if_neg c]
      exact ih
theorem lead_app {A B : List (List Int)} {r : List Int} {p : Nat} (hA : ∀ x, x ∈ A → x.getD p 0 = 0) (hr : r.getD p 0 ≠ 0) : lead? (A ++ r :: B) p = some A.length := by
  refine List.findIdx?_eq_some_iff_getElem.mpr ⟨by simp, by simpa using hr, fun j hj => ?_⟩
  rw [List.getElem_append_left hj]
  simpa using hA _ (List.getElem_mem hj)
theorem but_split {α : Type} {A B : List α} {x : α} : (A ++ x :: B).take A.length ++ (A ++ x :: B).drop (A.length + 1) = A ++ B := by
  have e : (A ++ x :: B).drop (A.length + 1) = B := by
    rw [← List.drop_drop, List.drop_left]
    rfl
  rw [e, List.take_left]
theorem lsim {d p : Nat} {T L : List (List Int)} {E : List (List Int) × List (List Int)} (h1 : T = E.1) (h2 : eleft L = E.2) (hl : ∀ r, r ∈ L → r.length = d) : (lstep (T, L) p).1 = (estep E p).1 ∧ eleft (lstep (T, L) p).2 = (estep E p).2 := by
  obtain ⟨E1, E2⟩ := E
  dsimp only at h1 h2
  subst h1 h2
  cases hk : lead? L p with
  | none =>
    have z := eleft_zero (lead_none hk)
    have hk' : lead? (eleft L) p = none := List.findIdx?_eq_none_iff.mpr fun r hr => by
      have := z r hr
      simpa using this
    unfold lstep estep
    dsimp only
    rw [hk, hk']
    exact ⟨rfl, rfl⟩
  | some k =>
    obtain ⟨r, hr, hne, hz⟩ := lead_some hk
    have kl := (List.getElem?_eq_some_iff.mp hr).1
    have sp : L = L.take k ++ r :: L.drop (k + 1) := by
      have := List.drop_eq_getElem_cons kl
      rw [(List.getElem?_eq_some_iff.mp hr).2] at this
      rw [← this, List.take_append_drop]
    have nr : nz r = true := nz_iff.mpr ⟨p, hne⟩
    have es : eleft L = eleft (L.take k) ++ prim r :: eleft (L.drop (k + 1)) := by
      conv => lhs; rw [sp]
      rw [eleft_app, eleft_cons nr]
    have pn : (prim r).getD p 0 ≠ 0 := fun q => hne (prim_zero.mp q)
    have hk' := lead_app (B := eleft (L.drop (k + 1))) (eleft_zero hz) pn
    have hg : L.getD k [] = r := by
      rw [List.getD_eq_getElem?_getD, hr]
      rfl
    unfold lstep estep
    dsimp only
    rw [hk, es, hk']
    dsimp only
    rw [hg]
    have hg2 : (eleft (L.take k) ++ prim r :: eleft (L.drop (k + 1))).getD (eleft (L.take k)).length [] = prim r := by
      rw [List.getD_eq_getElem?_getD, List.getElem?_append_right (Nat.le_refl _), Nat.sub_self]
      rfl
    rw [hg2]
    refine ⟨rfl, ?_⟩
    rw [eleft_strk fun x hx => ?_, eleft_app, but_split]
    rw [led_len, prim_len, hl r (List.mem_of_getElem? hr)]
    refine hl x ?_
    rcases List.mem_append.mp hx with h | h
    · exact List.mem_of_mem_take h
    · exact List.mem_of_mem_drop h

end
section

/-! ### sums; small solutions of few equations -/
/-- the sum of the first n -/
def sg : Nat → (Nat → Int) → Int
  | 0, _ => 0
  | n + 1, f => sg n f + f n
theorem dt_sg (r : List Int) (x : Nat → Int) : ∀ d, dt r x d = sg d fun k => r.getD k 0 * x k
  | 0 => rfl
  | d + 1 => by
    show dt r x d + r.getD d 0 * x d = sg d _ + _
    rw [dt_sg r x d]
theorem sg_congr {f g : Nat → Int} : ∀ {n : Nat}, (∀ i, i < n → f i = g i) → sg n f = sg n g
  | 0, _ => rfl
  | n + 1, h => by
    show sg n f + f n = sg n g + g n
    rw [sg_congr fun i hi => h i (by omega), h n (by omega)]
theorem sg_zero : ∀ n, sg n (fun _ => 0) = 0
  | 0 => rfl
  | n + 1 => by
    show sg n _ + 0 = 0
    rw [sg_zero n]
    rfl
theorem sg_z {f : Nat → Int} {n : Nat} (h : ∀ i, i < n → f i = 0) : sg n f = 0 := (sg_congr h).trans (sg_zero n)
theorem sg_add (f g : Nat → Int) : ∀ n, sg n (fun i => f i + g i) = sg n f + sg n g
  | 0 => rfl
  | n + 1 => by
    show sg n _ + (f n + g n) = sg n f + f n + (sg n g + g n)
    rw [sg_add f g n]
    omega
theorem sg_sub (f g : Nat → Int) : ∀ n, sg n (fun i => f i - g i) = sg n f - sg n g
  | 0 => rfl
  | n + 1 => by
    show sg n _ + (f n - g n) = sg n f + f n - (sg n g + g n)
    rw [sg_sub f g n]
    omega
theorem sg_mul (a : Int) (f : Nat → Int) : ∀ n, sg n (fun i => a * f i) = a * sg n f
  | 0 => (Int.mul_zero a).symm
  | n + 1 => by
    show sg n _ + a * f n = a * (sg n f + f n)
    rw [sg_mul a f n, Int.mul_add]
theorem sg_swap (F : Nat → Nat → Int) (m : Nat) : ∀ n, sg n (fun i => sg m fun j => F i j) = sg m fun j => sg n fun i => F i j
  | 0 => (sg_zero m).symm
  | n + 1 => by
    show sg n _ + sg m (fun j => F n j) = sg m fun j => sg n (fun i => F i j) + F n j
    rw [sg_swap F m n, sg_add]
theorem sg_one {f : Nat → Int} {p : Nat} : ∀ {n : Nat}, p < n → (∀ i, i < n → i ≠ p → f i = 0) → sg n f = f p
  | 0, h, _ => absurd h (Nat.not_lt_zero _)
  | n + 1, h, z => by
    show sg n f + f n = f p
    by_cases e : p = n
    · subst e
      rw [sg_z fun i hi => z i (by omega) (by omega), Int.zero_add]
    · rw [sg_one (by omega) fun i hi => z i (by omega), z n (by omega) (fun q => e q.symm), Int.add_zero]
theorem sg_le {f : Nat → Int} {c : Nat} : ∀ {n : Nat}, (∀ i, i < n → (f i).natAbs ≤ c) → (sg n f).natAbs ≤ n * c
  | 0, _ => Nat.zero_le _
  | n + 1, h => by
    have a := sg_le (f := f) (n := n) fun i hi => h i (by omega)
    have b := h n (by omega)
    have p := Int.natAbs_add_le (sg n f) (f n)
    have q : (n + 1) * c = n * c + c := Nat.succ_mul n c
    rw [q]
    show (sg n f + f n).natAbs ≤ n * c + c
    omega
/-! more things than places -/
theorem pigeon : ∀ (k m : Nat) (f : Nat → Nat), k < m → (∀ i, i < m → f i < k) → ∃ i j, i < j ∧ j < m ∧ f i = f j
  | 0, m, f, hm, h => absurd (h 0 hm) (Nat.not_lt_zero _)
  | k + 1, 0, f, hm, h => absurd hm (Nat.not_lt_zero _)
  | k + 1, m + 1, f, hm, h => by
    by_cases c : ∃ i, i < m ∧ f i = f m
    · obtain ⟨i, hi, e⟩ := c
      exact ⟨i, m, hi, Nat.lt_succ_self m, e⟩
    · have c' : ∀ i, i < m → f i ≠ f m := fun i hi e => c ⟨i, hi, e⟩
      obtain ⟨i, j, h1, h2, e⟩ := pigeon k m (fun i => if f i = k then f m else f i) (by omega) (fun i hi => by
        have a := h i (by omega)
        have b := h m (by omega)
        have n := c' i hi
        show (if f i = k then f m else f i) < k
        split <;> omega)
      refine ⟨i, j, h1, by omega, ?_⟩
      have n1 := c' i (by omega)
      have n2 := c' j h2
      have e' : (if f i = k then f m else f i) = (if f j = k then f m else f j) := e
      split at e' <;> split at e' <;> omega
/-! digits -/
def dg (B u j : Nat) : Nat := u / B ^ j % B
theorem dg_inj {B : Nat} (hB : 0 < B) : ∀ (n u v : Nat), u < B ^ n → v < B ^ n → (∀ j, j < n → dg B u j = dg B v j) → u = v
  | 0, u, v, hu, hv, _ => by
    rw [Nat.pow_zero] at hu hv
    omega
  | n + 1, u, v, hu, hv, h => by
    have h0 := h 0 (by omega)
    unfold dg at h0
    rw [Nat.pow_zero, Nat.div_one, Nat.div_one] at h0
    have p : B ^ (n + 1) = B * B ^ n := by rw [Nat.pow_succ, Nat.mul_comm]
    rw [p] at hu hv
    have ih := dg_inj hB n (u / B) (v / B) (Nat.div_lt_of_lt_mul hu) (Nat.div_lt_of_lt_mul hv) fun j hj => by
      have := h (j + 1) (by omega)
      unfold dg at this ⊢
      have pj : B ^ (j + 1) = B * B ^ j := by rw [Nat.pow_succ, Nat.mul_comm]
      rw [pj, ← Nat.div_div_eq_div_mul, ← Nat.div_div_eq_div_mul] at this
      exact this
    have a := Nat.div_add_mod u B
    have b := Nat.div_add_mod v B
    rw [ih, h0] at a
    omega
def enc (C : Nat) (y : Nat → Nat) : Nat → Nat
  | 0 => 0
  | e + 1 => enc C y e * C + y e
theorem enc_lt {C : Nat} {y : Nat → Nat} : ∀ {e : Nat}, (∀ i, i < e → y i < C) → enc C y e < C ^ e
  | 0, _ => by
    rw [Nat.pow_zero]
    exact Nat.zero_lt_one
  | e + 1, h => by
    have a := enc_lt (C := C) (y := y) (e := e) fun i hi => h i (by omega)
    have b := h e (by omega)
    show enc C y e * C + y e < C ^ (e + 1)
    rw [Nat.pow_succ]
    have : (enc C y e + 1) * C ≤ C ^ e * C := Nat.mul_le_mul_right C a
    rw [Nat.add_mul, Nat.one_mul] at this
    omega
theorem enc_inj {C : Nat} {y z : Nat → Nat} : ∀ {e : Nat}, (∀ i, i < e → y i < C) → (∀ i, i < e → z i < C) → enc C y e = enc C z e → ∀ i, i < e → y i = z i
  | 0, _, _, _, i, hi => absurd hi (Nat.not_lt_zero _)
  | e + 1, hy, hz, h, i, hi => by
    have h' : enc C y e * C + y e = enc C z e * C + z e := h
    have b := hy e (by omega)
    have c := hz e (by omega)
    have m1 : (enc C y e * C + y e) % C = y e := by rw [Nat.mul_comm, Nat.mul_add_mod, Nat.mod_eq_of_lt b]
    have m2 : (enc C z e * C + z e) % C = z e := by rw [Nat.mul_comm, Nat.mul_add_mod, Nat.mod_eq_of_lt c]
    have ye : y e = z e := by rw [← m1, ← m2, h']
    by_cases q : i = e
    · rw [q, ye]
    · have : enc C y e * C = enc C z e * C := by omega
      exact enc_inj (fun i hi => hy i (by omega)) (fun i hi => hz i (by omega)) (Nat.eq_of_mul_eq_mul_right (by omega) this) i (by omega)
/-- fewer equations than unknowns: a small solution -/
theorem siegel {n e b : Nat} (A : Nat → Nat → Int) (hn : n ≤ 8) (he : e < n) (hA : ∀ i, i < e → ∀ j, j < n → (A i j).natAbs < 2 ^ b) :
    ∃ x : Nat → Int, (∃ j, j < n ∧ x j ≠ 0) ∧ (∀ i, i < e → sg n (fun j => A i j * x j) = 0) ∧ ∀ j, (x j).natAbs < 2 ^ (e * (b + 4) + 1) := by
  generalize hB : 2 ^ (e * (b + 4) + 1) = B
  have B0 : 0 < B := by rw [← hB]; exact Nat.two_pow_pos _
  generalize hD : 2 ^ b * B = D
  have D0 : 0 < D := by rw [← hD]; exact Nat.mul_pos (Nat.two_pow_pos _) B0
  let S : Nat → Nat → Int := fun u i => sg n fun j => A i j * (dg B u j : Int)
  have hS : ∀ u i, i < e → (S u i).natAbs ≤ 8 * (D - 1) := fun u i hi => by
    refine Nat.le_trans (sg_le (c := D - 1) fun j hj => ?_) (Nat.mul_le_mul_right (D - 1) hn)
    have : (A i j * (dg B u j : Int)).natAbs < D := by
      rw [Int.natAbs_mul, Int.natAbs_natCast, ← hD]
      exact Nat.mul_lt_mul'' (hA i hi j hj) (Nat.mod_lt _ B0)
    omega
  let y : Nat → Nat → Nat := fun u i => (S u i + (8 * D : Nat)).toNat
  have hy : ∀ u i, i < e → y u i < 16 * D := fun u i hi => by
    have := hS u i hi
    show (S u i + (8 * D : Nat)).toNat < 16 * D
    omega
  have cnt : (16 * D) ^ e < B ^ n := by
    have e1 : 16 * D = 2 ^ (b + 4) * B := by
      rw [← hD, Nat.pow_add, ← Nat.mul_assoc, Nat.mul_comm 16]
    have e2 : (16 * D) ^ e = 2 ^ (e * (b + 4)) * B ^ e := by rw [e1, Nat.mul_pow, ← Nat.pow_mul, Nat.mul_comm e]
    have e3 : 2 ^ (e * (b + 4)) < B := by
      rw [← hB]
      exact Nat.pow_lt_pow_right (by decide) (by omega)
    have e4 : B ^ (e + 1) ≤ B ^ n := Nat.pow_le_pow_right B0 he
    rw [Nat.pow_succ, Nat.mul_comm] at e4
    rw [e2]
    exact Nat.lt_of_lt_of_le (Nat.mul_lt_mul_of_pos_right e3 (Nat.pow_pos B0)) e4
  obtain ⟨u, v, huv, hv, he'⟩ := pigeon ((16 * D) ^ e) (B ^ n) (fun u => enc (16 * D) (y u) e) cnt fun u _ => enc_lt (hy u)
  have yy := enc_inj (hy u) (hy v) he'
  refine ⟨fun j => (dg B u j : Int) - (dg B v j : Int), ?_, fun i hi => ?_, fun j => ?_⟩
  · refine Classical.byContradiction fun c => ?_
    have := dg_inj B0 n u v (by omega) hv fun j hj => Classical.byContradiction fun q => c ⟨j, hj, fun z => q (by have z' : (dg B u j : Int) - (dg B v j : Int) = 0 := z; omega)⟩
    omega
  · have q : (S u i + (8 * D : Nat)).toNat = (S v i + (8 * D : Nat)).toNat := yy i hi
    have a := hS u i hi
    have b := hS v i hi
    have sq : S u i = S v i := by omega
    have e1 : sg n (fun j => A i j * ((dg B u j : Int) - (dg B v j : Int))) = S u i - S v i := by
      rw [← sg_sub]
      exact sg_congr fun j _ => Int.mul_sub _ _ _
    rw [e1, sq]
    omega
  · have a : dg B u j < B := Nat.mod_lt _ B0
    have b : dg B v j < B := Nat.mod_lt _ B0
    show ((dg B u j : Int) - (dg B v j : Int)).natAbs < B
    omega

end
section

/-! ### the data layer: values as data, slots by what is known of them, readings over both -/
inductive Dt where
  | non | bl (b : Bool) | int (i : Int) | str (s : Str) | ty (n : String) | cls (x : Str) | bag
  | lst (l : List Dt) | tup (l : List Dt)
  | obj (C : Str) (fs : List (Str × Dt))
  | err (C : Str) (fs : List (Str × Dt))
  | dk (kvs : List (Key × Dt))
/-- the bag that may be drawn from -/
abbrev Wd : Type := Option (Addr × (Addr × List Int))
def BagI (K : PySem.W.Frag) (W : Wd) (H : Hp) : Prop := ∀ b g, W = some (b, g) → Bag K H b g
def mt (W : Wd) (a : Addr) : Prop := ∃ g, W = some (a, g)
/-- the heap grows: what stands stays, but the bag's cell -/
structure Gw (K : PySem.W.Frag) (W : Wd) (H H' : Hp) : Prop where
  keep : ∀ a o, ¬mt W a → H a = some o → H' a = some o
  bag : BagI K W H'
  ne : ∀ a, H a ≠ none → H' a ≠ none
open Classical in
/-- the heap without what S says -/
noncomputable def hd (S : Addr → Prop) (H : Hp) : Hp := fun a => if S a then none else H a
section
variable {S T : Addr → Prop} {H H' : Hp} {a : Addr} {o : HO}
theorem hd_in (h : S a) : hd S H a = none := if_pos h
theorem hd_out (h : ¬S a) : hd S H a = H a := if_neg h
theorem hd_get (h : hd S H a = some o) : ¬S a ∧ H a = some o := by
  by_cases c : S a
  · rw [hd_in c] at h
    cases h
  · rw [hd_out c] at h
    exact ⟨c, h⟩
theorem hd_at (h : H a = some o) (n : ¬S a) : hd S H a = some o := by rw [hd_out n]; exact h
theorem hd_le : Same (hd S H) H := fun a o h => (hd_get h).2
theorem hd_sub (h : ∀ a, T a → S a) : Same (hd S H) (hd T H) := fun a o e => by
  obtain ⟨h1, h2⟩ := hd_get e
  exact hd_at h2 fun z => h1 (h a z)
theorem hd_mono (h : Same H H') : Same (hd S H) (hd S H') := fun a o e => by
  obtain ⟨h1, h2⟩ := hd_get e
  exact hd_at (h a o h2) h1
theorem hd_new (h : H a = none) : Same (hd S H) (hd S (upd H a o)) := hd_mono (same_new h)
theorem hd_set (h : S a) : Same (hd S H) (hd S (upd H a o)) := fun b u e => by
  obtain ⟨h1, h2⟩ := hd_get e
  have ne : b ≠ a := fun z => h1 (z ▸ h)
  exact hd_at (by rw [upd_ne ne]; exact h2) h1
end
section
variable {K : PySem.W.Frag} {W : Wd} {H H1 H2 : Hp} {a : Addr} {o : HO}
theorem Gw.refl (b : BagI K W H) : Gw K W H H := ⟨fun _ _ _ h => h, b, fun _ h => h⟩
theorem Gw.trans (x : Gw K W H H1) (y : Gw K W H1 H2) : Gw K W H H2 := ⟨fun a o n h => y.keep a o n (x.keep a o n h), y.bag, fun a h => y.ne a (x.ne a h)⟩
theorem BagI.same (b : BagI K W H) (e : Same H H1) : BagI K W H1 := fun x g h => (b x g h).same e
theorem Gw.of (b : BagI K W H) (e : Same H H1) : Gw K W H H1 := ⟨fun a o _ h => e a o h, b.same e, fun a h z => h (gr_same e a z)⟩
theorem Gw.new (b : BagI K W H) (h : H a = none) : Gw K W H (upd H a o) := .of b (same_new h)
theorem Gw.hd (x : Gw K W H H1) {S : Addr → Prop} (m : ∀ a, mt W a → S a) : Same (C.hd S H) (C.hd S H1) := fun a o e => by
  obtain ⟨h1, h2⟩ := hd_get e
  exact hd_at (x.keep a o (fun z => h1 (m a z)) h2) h1
/-- a write to what an elder heap does not know -/
theorem BagI.mut' (b0 : BagI K W H) (b : BagI K W H1) (g : Gw K W H H1) (h : H a = none) : BagI K W (upd H1 a o) := fun x gg e => by
  have B0 := b0 x gg e
  refine (b x gg e).mut B0.cells (wo_same fun c hc u q => g.keep c u (fun ⟨g2, z⟩ => ?_) q) h (B0.ne h)
  rw [e] at z
  cases z
  exact hc (by simp)
theorem Gw.put (b0 : BagI K W H) (g : Gw K W H H1) (h : H a = none) : Gw K W H (upd H1 a o) := ⟨fun c u n e => by rw [upd_ne (ne_of_none e h)]; exact g.keep c u n e, b0.mut' g.bag g h, fun c e => by
  by_cases z : c = a
  · subst z
    exact absurd h e
  · rw [upd_ne z]
    exact g.ne c e⟩
end
/-! ### values -/
mutual
/-- v is the datum d -/
inductive Dv (K : PySem.W.Frag) (W : Wd) (H : Hp) : V → Dt → Prop
  | non : Dv K W H .non .non
  | bl (b : Bool) : Dv K W H (.bl b) (.bl b)
  | int (i : Int) : Dv K W H (.int i) (.int i)
  | str (s : Str) : Dv K W H (.str s) (.str s)
  | ty (n : String) : Dv K W H (.ty n) (.ty n)
  | cls (x : Str) : Dv K W H (.ref (He.ga K x)) (.cls x)
  | bag {b : Addr} {g : Addr × List Int} : W = some (b, g) → Dv K W H (.ref b) .bag
  | lst {a : Addr} {xs : List V} {ds : List Dt} : H a = some (.lst xs) → DvA K W H xs ds → Dv K W H (.ref a) (.lst ds)
  | tup {a : Addr} {xs : List V} {ds : List Dt} : SqT K H a xs → DvA K W H xs ds → Dv K W H (.ref a) (.tup ds)
  | obj {a dx : Addr} {C : Str} {fs : List (Str × V)} {ds : List (Str × Dt)} : H a = some (.ins (He.ga K C) dx fs) → DvF K W H fs ds → (∀ f, ds.lookup f = none → fs.lookup f = none) → Dv K W H (.ref a) (.obj C ds)
  | dk {a : Addr} {kvs : List (Key × V)} {ds : List (Key × Dt)} : H a = some (.dK kvs) → DvK K W H kvs ds → Dv K W H (.ref a) (.dk ds)
inductive DvA (K : PySem.W.Frag) (W : Wd) (H : Hp) : List V → List Dt → Prop
  | nil : DvA K W H [] []
  | cons {v : V} {d : Dt} {vs : List V} {ds : List Dt} : Dv K W H v d → DvA K W H vs ds → DvA K W H (v :: vs) (d :: ds)
inductive DvK (K : PySem.W.Frag) (W : Wd) (H : Hp) : List (Key × V) → List (Key × Dt) → Prop
  | nil : DvK K W H [] []
  | cons {k : Key} {v : V} {d : Dt} {vs : List (Key × V)} {ds : List (Key × Dt)} : Dv K W H v d → DvK K W H vs ds → DvK K W H ((k, v) :: vs) ((k, d) :: ds)
inductive DvF (K : PySem.W.Frag) (W : Wd) (H : Hp) : List (Str × V) → List (Str × Dt) → Prop
  | nil {fs : List (Str × V)} : DvF K W H fs []
  | cons {fs : List (Str × V)} {f : Str} {v : V} {d : Dt} {ds : List (Str × Dt)} : fs.lookup f = some v → Dv K W H v d → DvF K W H fs ds → DvF K W H fs ((f, d) :: ds)
end
section
variable {K : PySem.W.Frag} {W : Wd} {A B : Hp}
mutual
theorem Dv.same (e : Same A B) : ∀ {v : V} {d : Dt}, Dv K W A v d → Dv K W B v d
  | _, _, .non => .non
  | _, _, .bl b => .bl b
  | _, _, .int i => .int i
  | _, _, .str s => .str s
  | _, _, .ty n => .ty n
  | _, _, .cls x => .cls x
  | _, _, .bag h => .bag h
  | _, _, .lst h r => .lst (e _ _ h) (DvA.same e r)
  | _, _, .tup h r => .tup (same_sqt e h) (DvA.same e r)
  | _, _, .obj h r n => .obj (e _ _ h) (DvF.same e r) n
  | _, _, .dk h r => .dk (e _ _ h) (DvK.same e r)
theorem DvA.same (e : Same A B) : ∀ {vs : List V} {ds : List Dt}, DvA K W A vs ds → DvA K W B vs ds
  | _, _, .nil => .nil
  | _, _, .cons h r => .cons (Dv.same e h) (DvA.same e r)
theorem DvK.same (e : Same A B) : ∀ {vs : List (Key × V)} {ds : List (Key × Dt)}, DvK K W A vs ds → DvK K W B vs ds
  | _, _, .nil => .nil
  | _, _, .cons h r => .cons (Dv.same e h) (DvK.same e r)
theorem DvF.same (e : Same A B) : ∀ {fs : List (Str × V)} {ds : List (Str × Dt)}, DvF K W A fs ds → DvF K W B fs ds
  | _, _, .nil => .nil
  | _, _, .cons l h r => .cons l (Dv.same e h) (DvF.same e r)
end
theorem DvA.len : ∀ {vs : List V} {ds : List Dt}, DvA K W A vs ds → vs.length = ds.length
  | _, _, .nil => rfl
  | _, _, .cons _ r => by rw [List.length_cons, List.length_cons, DvA.len r]
theorem DvA.get : ∀ {vs : List V} {ds : List Dt} {i : Nat} {v : V}, DvA K W A vs ds → vs[i]? = some v → ∃ d, ds[i]? = some d ∧ Dv K W A v d
  | _, _, 0, _, .cons h _, e => by
    cases e
    exact ⟨_, rfl, h⟩
  | _ :: vs, _ :: _, i + 1, v, .cons _ r, e => DvA.get (vs := vs) (i := i) (v := v) r (by simpa using e)
theorem DvA.get' {vs : List V} {ds : List Dt} {i : Nat} {d : Dt} (h : DvA K W A vs ds) (e : ds[i]? = some d) : ∃ v, vs[i]? = some v ∧ Dv K W A v d := by
  have l : i < vs.length := by rw [h.len]; exact (List.getElem?_eq_some_iff.mp e).1
  obtain ⟨d', h1, h2⟩ := h.get (List.getElem?_eq_getElem l)
  rw [e] at h1
  cases h1
  exact ⟨_, List.getElem?_eq_getElem l, h2⟩
theorem DvA.app : ∀ {vs us : List V} {ds es : List Dt}, DvA K W A vs ds → DvA K W A us es → DvA K W A (vs ++ us) (ds ++ es)
  | _, _, _, _, .nil, k => k
  | _, _, _, _, .cons h r, k => .cons h (DvA.app r k)
theorem DvA.take : ∀ {vs : List V} {ds : List Dt} (n : Nat), DvA K W A vs ds → DvA K W A (vs.take n) (ds.take n)
  | _, _, 0, _ => by rw [List.take_zero, List.take_zero]; exact .nil
  | _, _, _ + 1, .nil => .nil
  | _, _, n + 1, .cons h r => .cons h (DvA.take n r)
theorem DvA.drop : ∀ {vs : List V} {ds : List Dt} (n : Nat), DvA K W A vs ds → DvA K W A (vs.drop n) (ds.drop n)
  | _, _, 0, h => h
  | _, _, _ + 1, .nil => .nil
  | _, _, n + 1, .cons _ r => DvA.drop n r
theorem DvA.set : ∀ {vs : List V} {ds : List Dt} {v : V} {d : Dt} (n : Nat), DvA K W A vs ds → Dv K W A v d → DvA K W A (vs.set n v) (ds.set n d)
  | _, _, _, _, _, .nil, _ => .nil
  | _, _, _, _, 0, .cons _ r, k => .cons k r
  | _, _, _, _, n + 1, .cons h r, k => .cons h (DvA.set n r k)
theorem DvA.rev : ∀ {vs : List V} {ds : List Dt}, DvA K W A vs ds → DvA K W A vs.reverse ds.reverse
  | _, _, .nil => .nil
  | _, _, .cons h r => by
    rw [List.reverse_cons, List.reverse_cons]
    exact (DvA.rev r).app (.cons h .nil)
theorem DvA.ints : ∀ {vs : List V} {ns : List Int}, DvA K W A vs (ns.map Dt.int) → vs = ns.map V.int
  | _, [], .nil => rfl
  | _, _ :: ns, .cons (.int i) r => by rw [DvA.ints r]; rfl
theorem DvA.of_ints : ∀ {ns : List Int}, DvA K W A (ns.map V.int) (ns.map Dt.int)
  | [] => .nil
  | n :: _ => .cons (.int n) DvA.of_ints
theorem DvA.bls : ∀ {vs : List V} {ns : List Bool}, DvA K W A vs (ns.map Dt.bl) → vs = ns.map V.bl
  | _, [], .nil => rfl
  | _, _ :: ns, .cons (.bl i) r => by rw [DvA.bls r]; rfl
theorem DvA.strs : ∀ {vs : List V} {ns : List Str}, DvA K W A vs (ns.map Dt.str) → vs = ns.map V.str
  | _, [], .nil => rfl
  | _, _ :: ns, .cons (.str i) r => by rw [DvA.strs r]; rfl
theorem DvA.one {v : V} {d : Dt} (h : Dv K W A v d) : DvA K W A [v] [d] := .cons h .nil
theorem DvF.get : ∀ {fs : List (Str × V)} {ds : List (Str × Dt)} {f : Str} {d : Dt}, DvF K W A fs ds → ds.lookup f = some d → ∃ v, fs.lookup f = some v ∧ Dv K W A v d
  | _, _, f, d, .cons (f := g) l h r, e => by
    rw [List.lookup_cons] at e
    split at e
    · rename_i q
      have : f = g := by simpa using q
      subst this
      cases e
      exact ⟨_, l, h⟩
    · exact DvF.get r e
end
/-! ### slots -/
inductive Sl where
  | no | val (d : Dt) | own (l : List Dt) | ins (x : Addr) (C : Str) (fs : List (Str × Dt)) | exn (a dd : Addr) (C : Str) (fs : List (Str × Dt))
abbrev Ro : Type := List Sl
def gt : Ro → Nat → Sl
  | [], _ => .no
  | s :: _, 0 => s
  | _ :: r, n + 1 => gt r n
def pt : Ro → Nat → Sl → Ro
  | [], _, _ => []
  | _ :: r, 0, s => s :: r
  | x :: r, n + 1, s => x :: pt r n s
theorem pt_len : ∀ (ρ : Ro) (i : Nat) (s : Sl), (pt ρ i s).length = ρ.length
  | [], _, _ => rfl
  | _ :: _, 0, _ => rfl
  | _ :: r, n + 1, s => by show (pt r n s).length + 1 = r.length + 1; rw [pt_len r n s]
theorem gt_pt_ne : ∀ {ρ : Ro} {i j : Nat} {s : Sl}, j ≠ i → gt (pt ρ i s) j = gt ρ j
  | [], _, _, _, _ => rfl
  | _ :: _, 0, 0, _, h => absurd rfl h
  | _ :: _, 0, _ + 1, _, _ => rfl
  | _ :: _, _ + 1, 0, _, _ => rfl
  | _ :: r, i + 1, j + 1, s, h => gt_pt_ne (ρ := r) (i := i) (j := j) fun e => h (by rw [e])
theorem gt_pt : ∀ {ρ : Ro} {i : Nat} {s : Sl}, i < ρ.length → gt (pt ρ i s) i = s
  | [], _, _, h => absurd h (Nat.not_lt_zero _)
  | _ :: _, 0, _, _ => rfl
  | _ :: r, i + 1, s, h => gt_pt (ρ := r) (i := i) (by simpa using h)
theorem gt_out : ∀ {ρ : Ro} {i : Nat}, ρ.length ≤ i → gt ρ i = .no
  | [], _, _ => rfl
  | _ :: _, 0, h => absurd h (by simp)
  | _ :: r, i + 1, h => gt_out (ρ := r) (i := i) (by simpa using h)
theorem gt_pt_out : ∀ {ρ : Ro} {i : Nat} {s : Sl}, ρ.length ≤ i → pt ρ i s = ρ
  | [], _, _, _ => rfl
  | _ :: _, 0, _, h => absurd h (by simp)
  | x :: r, i + 1, s, h => by show x :: pt r i s = x :: r; rw [gt_pt_out (ρ := r) (by simpa using h)]
/-- the slot's thing is the frame's own -/
def Sl.owned : Sl → Bool
  | .own _ => true
  | .ins _ _ _ => true
  | _ => false
/-- what the frame hides: what is hidden from it, and its own things -/
def hid (S : Addr → Prop) (α : Nat → Addr) (ρ : Ro) (a : Addr) : Prop := S a ∨ ∃ i, (gt ρ i).owned = true ∧ α i = a
def SlR (K : PySem.W.Frag) (W : Wd) (S : Addr → Prop) (H : Hp) (a : Addr) (ov : Option (Option V)) : Sl → Prop
  | .no => True
  | .val d => ∃ v, ov = some (some v) ∧ Dv K W (hd S H) v d
  | .own l => ov = some (some (.ref a)) ∧ ∃ vs, H a = some (.lst vs) ∧ DvA K W (hd S H) vs l
  | .ins x C ds => ov = some (some (.ref a)) ∧ a = x ∧ ∃ dx fs, H a = some (.ins (He.ga K C) dx fs) ∧ DvF K W (hd S H) fs ds ∧ (∀ f, ds.lookup f = none → fs.lookup f = none) ∧ fs.length ≤ ds.length
  | .exn b dd C ds => ov = some (some (.ref b)) ∧ ∃ gs, hd S H dd = some (.xd gs) ∧ DvF K W (hd S H) gs ds
/-- the frame: S0 hidden from it, H0 the heap at its entry, α where its own things stand -/
structure Env (K : PySem.W.Frag) (W : Wd) (S0 : Addr → Prop) (H0 : Hp) (α : Nat → Addr) (H : Hp) (σ : L2.St) (ρ : Ro) : Prop where
  len : σ.length = ρ.length
  bag0 : BagI K W H0
  gw : Gw K W H0 H
  kn : ∀ a, S0 a → H a ≠ none
  ms : ∀ a, mt W a → S0 a
  new : ∀ i, (gt ρ i).owned = true → H0 (α i) = none ∧ ¬S0 (α i)
  inj : ∀ i j, (gt ρ i).owned = true → (gt ρ j).owned = true → α i = α j → i = j
  sl : ∀ i, SlR K W (hid S0 α ρ) H (α i) σ[i]? (gt ρ i)
section
variable {K : PySem.W.Frag} {W : Wd} {S0 S : Addr → Prop} {H0 H H' : Hp} {α : Nat → Addr} {σ : L2.St} {ρ : Ro}
theorem SlR.ex {S S' : Addr → Prop} {H H' : Hp} {a : Addr} {ov : Option (Option V)} {s : Sl} (e : Same (hd S H) (hd S' H')) (ea : s.owned = true → H' a = H a) (h : SlR K W S H a ov s) : SlR K W S' H' a ov s := by
  cases s with
  | no => trivial
  | val d =>
    obtain ⟨v, h1, h2⟩ := h
    exact ⟨v, h1, h2.same e⟩
  | own l =>
    obtain ⟨h1, vs, h2, h3⟩ := h
    exact ⟨h1, vs, (ea rfl).trans h2, h3.same e⟩
  | ins x C ds =>
    obtain ⟨h1, hx, dx, fs, h2, h3, h4⟩ := h
    exact ⟨h1, hx, dx, fs, (ea rfl).trans h2, h3.same e, h4⟩
  | exn b dd C ds =>
    obtain ⟨h1, gs, h2, h3⟩ := h
    exact ⟨h1, gs, e _ _ h2, h3.same e⟩
theorem SlR.some {S : Addr → Prop} {a : Addr} {ov : Option (Option V)} {s : Sl} (o : s.owned = true) (h : SlR K W S H a ov s) : ∃ u, H a = some u := by
  cases s with
  | no => cases o
  | val d => cases o
  | own l =>
    obtain ⟨h1, vs, h2, h3⟩ := h
    exact ⟨_, h2⟩
  | ins x C ds =>
    obtain ⟨h1, hx, dx, fs, h2, h3⟩ := h
    exact ⟨_, h2⟩
  | exn b dd C ds => cases o
theorem Env.hms (I : Env K W S0 H0 α H σ ρ) : ∀ a, mt W a → hid S0 α ρ a := fun a h => .inl (I.ms a h)
theorem Env.hkn (I : Env K W S0 H0 α H σ ρ) : ∀ a, hid S0 α ρ a → H a ≠ none := fun a h => by
  rcases h with h | ⟨i, h1, rfl⟩
  · exact I.kn a h
  · obtain ⟨u, hu⟩ := (I.sl i).some h1
    rw [hu]
    exact fun z => nomatch z
/-- more in the heap -/
theorem Env.grow (I : Env K W S0 H0 α H σ ρ) (g : Gw K W H H') : Env K W S0 H0 α H' σ ρ where
  len := I.len
  bag0 := I.bag0
  gw := I.gw.trans g
  kn := fun a h => g.ne a (I.kn a h)
  ms := I.ms
  new := I.new
  inj := I.inj
  sl := fun i => (I.sl i).ex (g.hd I.hms) fun o => by
    obtain ⟨u, hu⟩ := (I.sl i).some o
    rw [hu]
    exact g.keep _ _ (fun z => (I.new i o).2 (I.ms _ z)) hu
/-- a slot gets a value -/
theorem Env.set (I : Env K W S0 H0 α H σ ρ) {i : Nat} {v : V} {d : Dt} (h : Dv K W (hd (hid S0 α ρ) H) v d) : Env K W S0 H0 α H (σ.set i (some v)) (pt ρ i (.val d)) ∧ Same (hd (hid S0 α ρ) H) (hd (hid S0 α (pt ρ i (.val d))) H) := by
  have le : ∀ j, (gt (pt ρ i (.val d)) j).owned = true → j ≠ i ∧ (gt ρ j).owned = true := fun j hj => by
    by_cases e : j = i
    · subst e
      by_cases l : j < ρ.length
      · rw [gt_pt l] at hj
        cases hj
      · rw [gt_pt_out (by omega), gt_out (by omega)] at hj
        cases hj
    · rw [gt_pt_ne e] at hj
      exact ⟨e, hj⟩
  have sub : ∀ a, hid S0 α (pt ρ i (.val d)) a → hid S0 α ρ a := fun a q => by
    rcases q with q | ⟨j, h1, h2⟩
    · exact .inl q
    · exact .inr ⟨j, (le j h1).2, h2⟩
  have sm : Same (hd (hid S0 α ρ) H) (hd (hid S0 α (pt ρ i (.val d))) H) := hd_sub sub
  refine ⟨⟨by rw [List.length_set, pt_len, I.len], I.bag0, I.gw, I.kn, I.ms, fun j hj => I.new j (le j hj).2, fun j k hj hk => I.inj j k (le j hj).2 (le k hk).2, fun j => ?_⟩, sm⟩
  by_cases e : j = i
  · subst e
    by_cases l : j < ρ.length
    · rw [gt_pt l]
      exact ⟨v, by rw [List.getElem?_set_self (by rw [I.len]; exact l)], h.same sm⟩
    · rw [gt_pt_out (by omega), gt_out (by omega)]
      trivial
  · rw [gt_pt_ne e, List.getElem?_set_ne (by omega)]
    exact (I.sl j).ex sm fun _ => rfl
def upα (α : Nat → Addr) (i : Nat) (p : Addr) (j : Nat) : Addr := if j = i then p else α j
theorem upα_eq {i j : Nat} {p : Addr} (e : j = i) : upα α i p j = p := if_pos e
theorem upα_ne {i j : Nat} {p : Addr} (e : ¬j = i) : upα α i p j = α j := if_neg e
/-- a slot gets a thing of its own: o at the new place p -/
theorem Env.setOwn (I : Env K W S0 H0 α H σ ρ) {i : Nat} {p : Addr} {s : Sl} {u : HO} (hp : H p = none) (hs : s.owned = true) (h : ∀ S : Addr → Prop, (∀ a, S a → hid S0 α ρ a ∨ a = p) → SlR K W S (upd H p u) p (some (some (.ref p))) s) :
    Env K W S0 H0 (upα α i p) (upd H p u) (σ.set i (some (.ref p))) (pt ρ i s) ∧ Same (hd (hid S0 α ρ) H) (hd (hid S0 (upα α i p) (pt ρ i s)) (upd H p u)) := by
  have hp0 : H0 p = none := by
    cases q : H0 p with
    | none => rfl
    | some w => exact absurd hp (I.gw.ne p (by rw [q]; exact fun z => nomatch z))
  have le : ∀ j, j ≠ i → (gt (pt ρ i s) j).owned = true → (gt ρ j).owned = true := fun j e hj => by rwa [gt_pt_ne e] at hj
  have sub : ∀ a, hid S0 (upα α i p) (pt ρ i s) a → hid S0 α ρ a ∨ a = p := fun a q => by
    rcases q with q | ⟨j, h1, h2⟩
    · exact .inl (.inl q)
    · by_cases e : j = i
      · rw [upα_eq e] at h2
        exact .inr h2.symm
      · rw [upα_ne e] at h2
        exact .inl (.inr ⟨j, le j e h1, h2⟩)
  have g : Gw K W H (upd H p u) := .new I.gw.bag hp
  have sm : Same (hd (hid S0 α ρ) H) (hd (hid S0 (upα α i p) (pt ρ i s)) (upd H p u)) := fun a w e => by
    obtain ⟨h1, h2⟩ := hd_get e
    have ne : a ≠ p := ne_of_none h2 hp
    exact hd_at (by rw [upd_ne ne]; exact h2) fun z => (sub a z).elim h1 ne
  have αp : ∀ j, (gt ρ j).owned = true → α j ≠ p := fun j hj e => by
    obtain ⟨w, hw⟩ := (I.sl j).some hj
    rw [e, hp] at hw
    cases hw
  refine ⟨⟨by rw [List.length_set, pt_len, I.len], I.bag0, I.gw.trans g, fun a q => g.ne a (I.kn a q), I.ms, fun j hj => ?_, fun j k hj hk e => ?_, fun j => ?_⟩, sm⟩
  · by_cases e : j = i
    · rw [upα_eq e]
      exact ⟨hp0, fun z => I.kn p z hp⟩
    · rw [upα_ne e]
      exact I.new j (le j e hj)
  · by_cases e1 : j = i
    · by_cases e2 : k = i
      · rw [e1, e2]
      · rw [upα_eq e1, upα_ne e2] at e
        exact absurd e.symm (αp k (le k e2 hk))
    · by_cases e2 : k = i
      · rw [upα_ne e1, upα_eq e2] at e
        exact absurd e (αp j (le j e1 hj))
      · rw [upα_ne e1, upα_ne e2] at e
        exact I.inj j k (le j e1 hj) (le k e2 hk) e
  · by_cases e : j = i
    · subst e
      rw [upα_eq rfl]
      by_cases l : j < ρ.length
      · rw [gt_pt l, List.getElem?_set_self (by rw [I.len]; exact l)]
        exact h _ sub
      · rw [gt_pt_out (by omega), gt_out (by omega)]
        trivial
    · rw [upα_ne e, gt_pt_ne e, List.getElem?_set_ne (by omega)]
      refine (I.sl j).ex sm fun o => ?_
      rw [upd_ne (αp j o)]
/-- an own thing is changed -/
theorem Env.put (I : Env K W S0 H0 α H σ ρ) {i : Nat} {s : Sl} {u : HO} (o : (gt ρ i).owned = true) (hs : s.owned = true) (h : SlR K W (hid S0 α ρ) (upd H (α i) u) (α i) (some (some (.ref (α i)))) s) (hσ : σ[i]? = some (some (.ref (α i)))) :
    Env K W S0 H0 α (upd H (α i) u) σ (pt ρ i s) ∧ Same (hd (hid S0 α ρ) H) (hd (hid S0 α (pt ρ i s)) (upd H (α i) u)) := by
  have li : i < ρ.length := by
    apply Classical.byContradiction
    intro q
    rw [gt_out (by omega)] at o
    cases o
  have ow : ∀ j, (gt (pt ρ i s) j).owned = (gt ρ j).owned := fun j => by
    by_cases e : j = i
    · subst e
      rw [gt_pt li, hs, o]
    · rw [gt_pt_ne e]
  have hh : hid S0 α (pt ρ i s) = hid S0 α ρ := by
    funext a
    unfold hid
    simp only [ow]
  obtain ⟨n1, n2⟩ := I.new i o
  have sm : Same (hd (hid S0 α ρ) H) (hd (hid S0 α ρ) (upd H (α i) u)) := hd_set (.inr ⟨i, o, rfl⟩)
  have g : Gw K W H0 (upd H (α i) u) := .put I.bag0 I.gw n1
  refine ⟨⟨by rw [pt_len, I.len], I.bag0, g, fun a q => ?_, I.ms, fun j hj => I.new j (ow j ▸ hj), fun j k hj hk => I.inj j k (ow j ▸ hj) (ow k ▸ hk), fun j => ?_⟩, by rw [hh]; exact sm⟩
  · by_cases e : a = α i
    · subst e
      exact absurd q n2
    · rw [upd_ne e]
      exact I.kn a q
  · rw [hh]
    by_cases e : j = i
    · subst e
      rw [gt_pt li, hσ]
      exact h
    · rw [gt_pt_ne e]
      refine (I.sl j).ex sm fun oj => ?_
      rw [upd_ne fun z => e (I.inj j i oj o z)]
/-- an own list is no more changed -/
theorem Env.freeze (I : Env K W S0 H0 α H σ ρ) {i : Nat} {l : List Dt} (e : gt ρ i = .own l) : Env K W S0 H0 α H σ (pt ρ i (.val (.lst l))) ∧ Same (hd (hid S0 α ρ) H) (hd (hid S0 α (pt ρ i (.val (.lst l)))) H) := by
  have li : i < ρ.length := by
    apply Classical.byContradiction
    intro q
    rw [gt_out (by omega)] at e
    cases e
  have le : ∀ j, (gt (pt ρ i (.val (.lst l))) j).owned = true → j ≠ i ∧ (gt ρ j).owned = true := fun j hj => by
    by_cases e : j = i
    · subst e
      rw [gt_pt li] at hj
      cases hj
    · rw [gt_pt_ne e] at hj
      exact ⟨e, hj⟩
  have sub : ∀ a, hid S0 α (pt ρ i (.val (.lst l))) a → hid S0 α ρ a := fun a q => by
    rcases q with q | ⟨j, h1, h2⟩
    · exact .inl q
    · exact .inr ⟨j, (le j h1).2, h2⟩
  have sm : Same (hd (hid S0 α ρ) H) (hd (hid S0 α (pt ρ i (.val (.lst l)))) H) := hd_sub sub
  have oi : (gt ρ i).owned = true := by rw [e]; rfl
  refine ⟨⟨by rw [pt_len, I.len], I.bag0, I.gw, I.kn, I.ms, fun j hj => I.new j (le j hj).2, fun j k hj hk => I.inj j k (le j hj).2 (le k hk).2, fun j => ?_⟩, sm⟩
  by_cases ej : j = i
  · subst ej
    rw [gt_pt li]
    have q := I.sl j
    rw [e] at q
    obtain ⟨q1, vs, q2, q3⟩ := q
    refine ⟨_, q1, .lst (hd_at q2 fun z => ?_) (q3.same sm)⟩
    rcases z with z | ⟨k, h1, h2⟩
    · exact (I.new j oi).2 z
    · exact (le k h1).1 (I.inj k j (le k h1).2 oi h2)
  · rw [gt_pt_ne ej]
    exact (I.sl j).ex sm fun _ => rfl
/-- a new place is hidden from the frame -/
theorem Env.hide (I : Env K W S0 H0 α H σ ρ) {p : Addr} (g : Gw K W H H') (h : H p = none) (h' : H' p ≠ none) : Env K W (fun a => S0 a ∨ a = p) H0 α H' σ ρ ∧ Same (hd (hid S0 α ρ) H) (hd (hid (fun a => S0 a ∨ a = p) α ρ) H') := by
  have αp : ∀ j, (gt ρ j).owned = true → α j ≠ p := fun j hj e => by
    obtain ⟨w, hw⟩ := (I.sl j).some hj
    rw [e, h] at hw
    cases hw
  have sub : ∀ a, hid (fun a => S0 a ∨ a = p) α ρ a → hid S0 α ρ a ∨ a = p := fun a z => by
    rcases z with (z | z) | z
    · exact .inl (.inl z)
    · exact .inr z
    · exact .inl (.inr z)
  have sm : Same (hd (hid S0 α ρ) H) (hd (hid (fun a => S0 a ∨ a = p) α ρ) H') := fun a o e => by
    obtain ⟨h1, h2⟩ := hd_get e
    exact hd_at (g.keep a o (fun z => h1 (I.hms a z)) h2) fun z => (sub a z).elim h1 (ne_of_none h2 h)
  refine ⟨⟨I.len, I.bag0, I.gw.trans g, fun a z => ?_, fun a z => .inl (I.ms a z), fun i hi => ⟨(I.new i hi).1, fun z => z.elim (I.new i hi).2 (αp i hi)⟩, I.inj, fun i => (I.sl i).ex sm fun o => ?_⟩, sm⟩
  · rcases z with z | z
    · exact g.ne a (I.kn a z)
    · rw [z]; exact h'
  · obtain ⟨u, hu⟩ := (I.sl i).some o
    rw [hu]
    exact g.keep _ _ (fun z => (I.new i o).2 (I.ms _ z)) hu
/-- what was hidden becomes a slot's own -/
theorem Env.adopt {p : Addr} (I : Env K W (fun a => S0 a ∨ a = p) H0 α H σ ρ) (h0 : H0 p = none) (hS : ¬S0 p) {i : Nat} {s : Sl} (hs : s.owned = true) (h : SlR K W (hid (fun a => S0 a ∨ a = p) α ρ) H p (some (some (.ref p))) s) :
    Env K W S0 H0 (upα α i p) H (σ.set i (some (.ref p))) (pt ρ i s) ∧ Same (hd (hid (fun a => S0 a ∨ a = p) α ρ) H) (hd (hid S0 (upα α i p) (pt ρ i s)) H) := by
  have le : ∀ j, j ≠ i → (gt (pt ρ i s) j).owned = true → (gt ρ j).owned = true := fun j e hj => by rwa [gt_pt_ne e] at hj
  have sub : ∀ a, hid S0 (upα α i p) (pt ρ i s) a → hid (fun a => S0 a ∨ a = p) α ρ a := fun a q => by
    rcases q with q | ⟨j, h1, h2⟩
    · exact .inl (.inl q)
    · by_cases e : j = i
      · rw [upα_eq e] at h2
        exact .inl (.inr h2.symm)
      · rw [upα_ne e] at h2
        exact .inr ⟨j, le j e h1, h2⟩
  have sm := hd_sub (H := H) sub
  have αp : ∀ j, (gt ρ j).owned = true → α j ≠ p := fun j hj e => (I.new j hj).2 (.inr e)
  refine ⟨⟨by rw [List.length_set, pt_len, I.len], I.bag0, I.gw, fun a z => I.kn a (.inl z), fun a z => ?_, fun j hj => ?_, fun j k hj hk e => ?_, fun j => ?_⟩, sm⟩
  · rcases I.ms a z with q | q
    · exact q
    · obtain ⟨g, hg⟩ := z
      have := (I.bag0 a g hg).some
      rw [q] at this
      exact absurd h0 this
  · by_cases e : j = i
    · rw [upα_eq e]
      exact ⟨h0, hS⟩
    · rw [upα_ne e]
      have := I.new j (le j e hj)
      exact ⟨this.1, fun z => this.2 (.inl z)⟩
  · by_cases e1 : j = i
    · by_cases e2 : k = i
      · rw [e1, e2]
      · rw [upα_eq e1, upα_ne e2] at e
        exact absurd e.symm (αp k (le k e2 hk))
    · by_cases e2 : k = i
      · rw [upα_ne e1, upα_eq e2] at e
        exact absurd e (αp j (le j e1 hj))
      · rw [upα_ne e1, upα_ne e2] at e
        exact I.inj j k (le j e1 hj) (le k e2 hk) e
  · by_cases e : j = i
    · subst e
      rw [upα_eq rfl]
      by_cases l : j < ρ.length
      · rw [gt_pt l, List.getElem?_set_self (by rw [I.len]; exact l)]
        exact h.ex sm fun _ => rfl
      · rw [gt_pt_out (by omega), gt_out (by omega)]
        trivial
    · rw [upα_ne e, gt_pt_ne e, List.getElem?_set_ne (by omega)]
      exact (I.sl j).ex sm fun _ => rfl
theorem Env.none0 (I : Env K W S0 H0 α H σ ρ) {p : Addr} (h : H p = none) : H0 p = none ∧ ¬S0 p := by
  refine ⟨?_, fun z => I.kn p z h⟩
  cases q : H0 p with
  | none => rfl
  | some w => exact absurd h (I.gw.ne p (by rw [q]; exact fun z => nomatch z))
end
def wp (ρ : Ro) : List Nat → Ro
  | [] => ρ
  | v :: vs => pt (wp ρ vs) v .no
/-- no slot of ws is the frame's own -/
def clr (ρ : Ro) (ws : List Nat) : Prop := ∀ i, i ∈ ws → (gt ρ i).owned = false
theorem wp_len (ρ : Ro) : ∀ ws, (wp ρ ws).length = ρ.length
  | [] => rfl
  | v :: vs => by show (pt (wp ρ vs) v .no).length = _; rw [pt_len, wp_len ρ vs]
theorem wp_owned {ρ : Ro} {i : Nat} : ∀ {ws : List Nat}, (gt (wp ρ ws) i).owned = true → gt (wp ρ ws) i = gt ρ i ∧ i ∉ ws
  | [], h => ⟨rfl, by simp⟩
  | v :: vs, h => by
    have h' : (gt (pt (wp ρ vs) v .no) i).owned = true := h
    show gt (pt (wp ρ vs) v .no) i = gt ρ i ∧ _
    by_cases e : i = v
    · subst e
      by_cases l : i < (wp ρ vs).length
      · rw [gt_pt l] at h'
        cases h'
      · rw [gt_pt_out (by omega), gt_out (by omega)] at h'
        cases h'
    · rw [gt_pt_ne e] at h' ⊢
      obtain ⟨h1, h2⟩ := wp_owned h'
      exact ⟨h1, by simp [e, h2]⟩
theorem wp_or {ρ : Ro} {i : Nat} : ∀ {ws : List Nat}, gt (wp ρ ws) i = .no ∨ gt (wp ρ ws) i = gt ρ i ∧ i ∉ ws
  | [] => .inr ⟨rfl, by simp⟩
  | v :: vs => by
    show gt (pt (wp ρ vs) v .no) i = _ ∨ gt (pt (wp ρ vs) v .no) i = _ ∧ _
    by_cases e : i = v
    · subst e
      left
      by_cases l : i < (wp ρ vs).length
      · rw [gt_pt l]
      · rw [gt_pt_out (by omega), gt_out (by omega)]
    · rw [gt_pt_ne e]
      rcases wp_or (ws := vs) with h | ⟨h1, h2⟩
      · exact .inl h
      · exact .inr ⟨h1, by simp [e, h2]⟩
theorem wipe_out {σ : L2.St} {i : Nat} : ∀ {ws : List Nat}, i ∉ ws → (wipe σ ws)[i]? = σ[i]?
  | [], _ => rfl
  | v :: vs, h => by
    show ((wipe σ vs).set v none)[i]? = _
    rw [List.getElem?_set_ne (fun e => h (by simp [e])), wipe_out fun e => h (by simp [e])]
section
variable {K : PySem.W.Frag} {W : Wd} {S0 : Addr → Prop} {H0 H H' : Hp} {α : Nat → Addr} {σ : L2.St} {ρ : Ro} {ws : List Nat}
theorem Env.wipe (I : Env K W S0 H0 α H σ ρ) (c : clr ρ ws) : Env K W S0 H0 α H (L2.wipe σ ws) (wp ρ ws) ∧ hid S0 α (wp ρ ws) = hid S0 α ρ := by
  have ow : ∀ i, (gt (wp ρ ws) i).owned = (gt ρ i).owned := fun i => by
    by_cases m : i ∈ ws
    · rw [c i m]
      rcases wp_or (ρ := ρ) (ws := ws) (i := i) with h | ⟨_, h⟩
      · rw [h]; rfl
      · exact absurd m h
    · rcases wp_or (ρ := ρ) (ws := ws) (i := i) with h | ⟨h, _⟩
      · cases e : (gt ρ i).owned with
        | false => rw [h]; rfl
        | true =>
          exfalso
          have : ∀ ws : List Nat, i ∉ ws → gt (wp ρ ws) i = gt ρ i := by
            intro ws
            induction ws with
            | nil => intro _; rfl
            | cons v vs ih =>
              intro hm
              show gt (pt (wp ρ vs) v .no) i = _
              rw [gt_pt_ne fun e => hm (by simp [e]), ih fun e => hm (by simp [e])]
          rw [← this ws m, h] at e
          cases e
      · rw [h]
  have hh : hid S0 α (wp ρ ws) = hid S0 α ρ := by
    funext a
    unfold hid
    simp only [ow]
  refine ⟨⟨by rw [wipe_length, wp_len, I.len], I.bag0, I.gw, I.kn, I.ms, fun i hi => I.new i (ow i ▸ hi), fun i j hi hj => I.inj i j (ow i ▸ hi) (ow j ▸ hj), fun i => ?_⟩, hh⟩
  rw [hh]
  rcases wp_or (ρ := ρ) (ws := ws) (i := i) with h | ⟨h, m⟩
  · rw [h]
    trivial
  · rw [h, wipe_out m]
    exact I.sl i
end
/-! ### what is raised -/
abbrev XD : Type := Dt → Ro → Prop
/-- the exception d: its class, its own dict -/
def ExR (K : PySem.W.Frag) (W : Wd) (S : Addr → Prop) (H : Hp) (cls : Value) (dd : Option Addr) : Dt → Prop
  | .err C ds => cls = .ref (He.ga K C) ∧ ∃ a gs, dd = some a ∧ hd S H a = some (.xd gs) ∧ DvF K W (hd S H) gs ds
  | _ => False
structure EnvX (K : PySem.W.Frag) (Jx : WX) (Xd : XD) (W : Wd) (S0 : Addr → Prop) (H0 : Hp) (α : Nat → Addr) (H : Hp) (σ : L2.St) (ρ : Ro) : Prop extends Env K W S0 H0 α H σ ρ where
  xr : ∀ α' H' σ' ρ' d cls dd, Xd d ρ' → Env K W S0 H0 α' H' σ' ρ' → Same (hd (hid S0 α ρ) H) (hd (hid S0 α' ρ') H') → ExR K W (hid S0 α' ρ') H' cls dd d → Jx cls dd σ' H'
section
variable {K : PySem.W.Frag} {Jx : WX} {Xd : XD} {W : Wd} {S0 S : Addr → Prop} {H0 H H' : Hp} {α α' : Nat → Addr} {σ σ' : L2.St} {ρ ρ' : Ro}
theorem EnvX.next (I : EnvX K Jx Xd W S0 H0 α H σ ρ) (I' : Env K W S0 H0 α' H' σ' ρ') (e : Same (hd (hid S0 α ρ) H) (hd (hid S0 α' ρ') H')) : EnvX K Jx Xd W S0 H0 α' H' σ' ρ' :=
  ⟨I', fun α2 H2 σ2 ρ2 d cls dd x I2 e2 r => I.xr α2 H2 σ2 ρ2 d cls dd x I2 (e.trans e2) r⟩
theorem EnvX.grow (I : EnvX K Jx Xd W S0 H0 α H σ ρ) (g : Gw K W H H') : EnvX K Jx Xd W S0 H0 α H' σ ρ := I.next (I.toEnv.grow g) (g.hd I.hms)
theorem ExR.same {S S' : Addr → Prop} {H H' : Hp} {cls : Value} {dd : Option Addr} {d : Dt} (e : Same (hd S H) (hd S' H')) (h : ExR K W S H cls dd d) : ExR K W S' H' cls dd d := by
  cases d with
  | err C ds =>
    obtain ⟨h1, a, gs, h2, h3, h4⟩ := h
    exact ⟨h1, a, gs, h2, e _ _ h3, h4.same e⟩
  | _ => exact h.elim
/-- what was hidden need not be -/
theorem Env.unhide {p : Addr} (I : Env K W (fun a => S0 a ∨ a = p) H0 α H σ ρ) (n : ¬mt W p) : Env K W S0 H0 α H σ ρ ∧ Same (hd (hid (fun a => S0 a ∨ a = p) α ρ) H) (hd (hid S0 α ρ) H) := by
  have sm : Same (hd (hid (fun a => S0 a ∨ a = p) α ρ) H) (hd (hid S0 α ρ) H) := hd_sub fun a z => z.elim (fun y => .inl (.inl y)) .inr
  refine ⟨⟨I.len, I.bag0, I.gw, fun a z => I.kn a (.inl z), fun a z => ?_, fun i hi => ⟨(I.new i hi).1, fun z => (I.new i hi).2 (.inl z)⟩, I.inj, fun i => (I.sl i).ex sm fun _ => rfl⟩, sm⟩
  rcases I.ms a z with q | q
  · exact q
  · rw [q] at z
    exact absurd z n
theorem EnvX.hide (I : EnvX K Jx Xd W S0 H0 α H σ ρ) {p : Addr} (g : Gw K W H H') (h : H p = none) (h' : H' p ≠ none) (n : ¬mt W p) : EnvX K Jx Xd W (fun a => S0 a ∨ a = p) H0 α H' σ ρ ∧ Same (hd (hid S0 α ρ) H) (hd (hid (fun a => S0 a ∨ a = p) α ρ) H') := by
  obtain ⟨I2, s2⟩ := I.toEnv.hide g h h'
  refine ⟨⟨I2, fun α2 H2 σ2 ρ2 d cls dd x I3 e2 r => ?_⟩, s2⟩
  obtain ⟨I4, s4⟩ := I3.unhide n
  exact I.xr α2 H2 σ2 ρ2 d cls dd x I4 ((s2.trans e2).trans s4) (r.same s4)
theorem EnvX.wipe {ws : List Nat} (I : EnvX K Jx Xd W S0 H0 α H σ ρ) (c : clr ρ ws) : EnvX K Jx Xd W S0 H0 α H (L2.wipe σ ws) (wp ρ ws) ∧ hid S0 α (wp ρ ws) = hid S0 α ρ := by
  obtain ⟨I2, h2⟩ := I.toEnv.wipe c
  exact ⟨I.next I2 (by rw [h2]; exact Same.refl _), h2⟩
theorem Env.noMt (I : Env K W S0 H0 α H σ ρ) {p : Addr} (h : H p = none) : ¬mt W p := fun ⟨g, z⟩ => (I.gw.bag p g z).some h
end

end
section

/-! ### readings over data -/
abbrev DE : Type := Ro → (Dt → Prop) → Prop
abbrev DT : Type := Ro → (Bool → Prop) → Prop
abbrev DA : Type := Ro → (List Dt → Prop) → Prop
abbrev DO : Type := Ro → (Option Int → Prop) → Prop
abbrev DG : Type := Dt → Ro → (Ro → Prop) → Prop
abbrev DGs : Type := List Dt → Ro → (Ro → Prop) → Prop
abbrev DOp : Type := Dt → Dt → (Dt → Prop) → Prop
abbrev DUn : Type := Dt → (Dt → Prop) → Prop
abbrev DC : Type := List Dt → (Dt → Prop) → Prop
abbrev DSp : Type := List Dt → (Dt → Prop) → Prop
structure DEnds where
  nx : Ro → Prop
  rt : Dt → Prop
  bk : Ro → Prop := fun _ => False
  ct : Ro → Prop := fun _ => False
abbrev DS : Type := DEnds → Ro → Prop
/-- a heap and what is hidden in it -/
structure Ok (K : PySem.W.Frag) (W : Wd) (S : Addr → Prop) (H : Hp) : Prop where
  bag : BagI K W H
  kn : ∀ a, S a → H a ≠ none
  ms : ∀ a, mt W a → S a
/-- what is wanted of a value that comes -/
def Cn (K : PySem.W.Frag) (W : Wd) (S : Addr → Prop) (H : Hp) (Qd : Dt → Prop) (Q : VK) : Prop := ∀ d v H', Qd d → Gw K W H H' → Dv K W (hd S H') v d → Q v H'
/-- a value read: its outer part may be the frame's own -/
def Sh (K : PySem.W.Frag) (W : Wd) (S : Addr → Prop) (H : Hp) (v : V) : Dt → Prop
  | .lst l => ∃ a vs, v = .ref a ∧ ¬mt W a ∧ H a = some (.lst vs) ∧ DvA K W (hd S H) vs l
  | .obj C fs => ∃ a dx gs, v = .ref a ∧ ¬mt W a ∧ H a = some (.ins (He.ga K C) dx gs) ∧ DvF K W (hd S H) gs fs ∧ ∀ f, fs.lookup f = none → gs.lookup f = none
  | d => Dv K W (hd S H) v d
inductive ShA (K : PySem.W.Frag) (W : Wd) (S : Addr → Prop) (H : Hp) : List V → List Dt → Prop
  | nil : ShA K W S H [] []
  | cons {v : V} {d : Dt} {vs : List V} {ds : List Dt} : Sh K W S H v d → ShA K W S H vs ds → ShA K W S H (v :: vs) (d :: ds)
def CnB (K : PySem.W.Frag) (W : Wd) (S : Addr → Prop) (H : Hp) (Qd : Dt → Prop) (Q : VK) : Prop := ∀ d v H', Qd d → Gw K W H H' → Sh K W S H' v d → Q v H'
def CnA (K : PySem.W.Frag) (W : Wd) (S : Addr → Prop) (H : Hp) (Qd : List Dt → Prop) (Q : List V → Hp → Prop) : Prop := ∀ ds vs H', Qd ds → Gw K W H H' → DvA K W (hd S H') vs ds → Q vs H'
def CnX (K : PySem.W.Frag) (W : Wd) (S : Addr → Prop) (H : Hp) (Qd : List Dt → Prop) (Q : List V → Hp → Prop) : Prop := ∀ ds vs H', Qd ds → Gw K W H H' → ShA K W S H' vs ds → Q vs H'
def CnT (K : PySem.W.Frag) (W : Wd) (H : Hp) {α : Type} (Qd : α → Prop) (Q : α → Hp → Prop) : Prop := ∀ b H', Qd b → Gw K W H H' → Q b H'
def RefE (K : PySem.W.Frag) (Jx : WX) (Xd : XD) (te : TE) (de : DE) : Prop := ∀ W S0 H0 α H σ ρ Qd Q, EnvX K Jx Xd W S0 H0 α H σ ρ → Cn K W (hid S0 α ρ) H Qd Q → de ρ Qd → te σ H Q
def RefB (K : PySem.W.Frag) (Jx : WX) (Xd : XD) (te : TE) (de : DE) : Prop := ∀ W S0 H0 α H σ ρ Qd Q, EnvX K Jx Xd W S0 H0 α H σ ρ → CnB K W (hid S0 α ρ) H Qd Q → de ρ Qd → te σ H Q
def RefT (K : PySem.W.Frag) (Jx : WX) (Xd : XD) (tt : TT) (dt : DT) : Prop := ∀ W S0 H0 α H σ ρ Qd Q, EnvX K Jx Xd W S0 H0 α H σ ρ → CnT K W H Qd Q → dt ρ Qd → tt σ H Q
def RefO (K : PySem.W.Frag) (Jx : WX) (Xd : XD) (to : TO) (do' : DO) : Prop := ∀ W S0 H0 α H σ ρ Qd Q, EnvX K Jx Xd W S0 H0 α H σ ρ → CnT K W H Qd Q → do' ρ Qd → to σ H Q
def RefA (K : PySem.W.Frag) (Jx : WX) (Xd : XD) (ta : TA) (da : DA) : Prop := ∀ W S0 H0 α H σ ρ Qd Q, EnvX K Jx Xd W S0 H0 α H σ ρ → CnA K W (hid S0 α ρ) H Qd Q → da ρ Qd → ta σ H Q
def RefX (K : PySem.W.Frag) (Jx : WX) (Xd : XD) (ta : TA) (da : DA) : Prop := ∀ W S0 H0 α H σ ρ Qd Q, EnvX K Jx Xd W S0 H0 α H σ ρ → CnX K W (hid S0 α ρ) H Qd Q → da ρ Qd → ta σ H Q
def RefOp (K : PySem.W.Frag) (r : R2) (o : DOp) : Prop := ∀ W S H x y d e Qd Q, Ok K W S H → Sh K W S H x d → Sh K W S H y e → Cn K W S H Qd Q → o d e Qd → r x y H Q
def RefUn (K : PySem.W.Frag) (r : V → Hp → VK → Prop) (o : DUn) : Prop := ∀ W S H x d Qd Q, Ok K W S H → Sh K W S H x d → Cn K W S H Qd Q → o d Qd → r x H Q
def RefC (K : PySem.W.Frag) (r : List V → Hp → VK → Prop) (o : DC) : Prop := ∀ W S H xs ds Qd Q, Ok K W S H → ShA K W S H xs ds → Cn K W S H Qd Q → o ds Qd → r xs H Q
section
variable {K : PySem.W.Frag} {Jx : WX} {Xd : XD} {W : Wd} {S S0 : Addr → Prop} {H0 H H' H2 : Hp} {α : Nat → Addr} {σ : L2.St} {ρ : Ro} {Qd : Dt → Prop} {Q : VK} {v : V} {d : Dt}
theorem Env.ok (I : Env K W S0 H0 α H σ ρ) : Ok K W (hid S0 α ρ) H := ⟨I.gw.bag, I.hkn, I.hms⟩
theorem Ok.grow (O : Ok K W S H) (g : Gw K W H H') : Ok K W S H' := ⟨g.bag, fun a h => g.ne a (O.kn a h), O.ms⟩
theorem Cn.grow (c : Cn K W S H Qd Q) (g : Gw K W H H') : Cn K W S H' Qd Q := fun d v H2 q g2 h => c d v H2 q (g.trans g2) h
theorem CnB.grow (c : CnB K W S H Qd Q) (g : Gw K W H H') : CnB K W S H' Qd Q := fun d v H2 q g2 h => c d v H2 q (g.trans g2) h
theorem CnA.grow {Qd : List Dt → Prop} {Q : List V → Hp → Prop} (c : CnA K W S H Qd Q) (g : Gw K W H H') : CnA K W S H' Qd Q := fun d v H2 q g2 h => c d v H2 q (g.trans g2) h
theorem CnX.grow {Qd : List Dt → Prop} {Q : List V → Hp → Prop} (c : CnX K W S H Qd Q) (g : Gw K W H H') : CnX K W S H' Qd Q := fun d v H2 q g2 h => c d v H2 q (g.trans g2) h
theorem CnT.grow {β : Type} {Qd : β → Prop} {Q : β → Hp → Prop} (c : CnT K W H Qd Q) (g : Gw K W H H') : CnT K W H' Qd Q := fun b H2 q g2 => c b H2 q (g.trans g2)
theorem Dv.sh (O : Ok K W S H) (h : Dv K W (hd S H) v d) : Sh K W S H v d := by
  cases h with
  | lst h r =>
    obtain ⟨h1, h2⟩ := hd_get h
    exact ⟨_, _, rfl, fun z => h1 (O.ms _ z), h2, r⟩
  | obj h r n =>
    obtain ⟨h1, h2⟩ := hd_get h
    exact ⟨_, _, _, rfl, fun z => h1 (O.ms _ z), h2, r, n⟩
  | non => exact .non
  | bl b => exact .bl b
  | int b => exact .int b
  | str b => exact .str b
  | ty b => exact .ty b
  | cls b => exact .cls b
  | bag h => exact .bag h
  | tup h r => exact .tup h r
  | dk h r => exact .dk h r
theorem Sh.grow (O : Ok K W S H) (g : Gw K W H H') (h : Sh K W S H v d) : Sh K W S H' v d := by
  cases d with
  | lst l =>
    obtain ⟨a, vs, h1, h2, h3, h4⟩ := h
    exact ⟨a, vs, h1, h2, g.keep _ _ h2 h3, h4.same (g.hd O.ms)⟩
  | obj C fs =>
    obtain ⟨a, dx, gs, h1, h2, h3, h4, h5⟩ := h
    exact ⟨a, dx, gs, h1, h2, g.keep _ _ h2 h3, h4.same (g.hd O.ms), h5⟩
  | _ => exact Dv.same (g.hd O.ms) h
theorem ShA.grow (O : Ok K W S H) (g : Gw K W H H') : ∀ {vs : List V} {ds : List Dt}, ShA K W S H vs ds → ShA K W S H' vs ds
  | _, _, .nil => .nil
  | _, _, .cons h r => .cons (h.grow O g) (ShA.grow O g r)
theorem RefE.b {te : TE} {de : DE} (r : RefE K Jx Xd te de) : RefB K Jx Xd te de := fun W S0 H0 α H σ ρ Qd Q I c h => r W S0 H0 α H σ ρ Qd Q I (fun d v H' q g hv => c d v H' q g (hv.sh (I.ok.grow g))) h
theorem Cn.now (c : Cn K W S H Qd Q) (O : Ok K W S H) (q : Qd d) (h : Dv K W (hd S H) v d) : Q v H := c d v H q (.refl O.bag) h
/-- a new thing -/
theorem Cn.new (c : Cn K W S H Qd Q) (O : Ok K W S H) {p : Addr} {o : HO} (hp : H p = none) (q : Qd d) (h : Dv K W (hd S (upd H p o)) (.ref p) d) : Q (.ref p) (upd H p o) := c d _ _ q (.new O.bag hp) h
theorem Ok.out (O : Ok K W S H) {p : Addr} (hp : H p = none) : ¬S p := fun z => O.kn p z hp
theorem dv_newL (O : Ok K W S H) {p : Addr} {xs : List V} {ds : List Dt} (hp : H p = none) (h : DvA K W (hd S H) xs ds) : Dv K W (hd S (upd H p (.lst xs))) (.ref p) (.lst ds) := .lst (hd_at upd_same (O.out hp)) (h.same (hd_new hp))
theorem dv_newT (O : Ok K W S H) {p : Addr} {xs : List V} {ds : List Dt} (hp : H p = none) (h : DvA K W (hd S H) xs ds) : Dv K W (hd S (upd H p (.tup xs))) (.ref p) (.tup ds) := .tup (.inl (.inl (hd_at upd_same (O.out hp)))) (h.same (hd_new hp))
end
/-! ### slots, constants -/
def dVar (i : Nat) : DE := fun ρ Q => match gt ρ i with
  | .val d => Q d
  | _ => False
/-- read, not handed on -/
def dRd (i : Nat) : DE := fun ρ Q => match gt ρ i with
  | .val d => Q d
  | .own l => Q (.lst l)
  | .ins _ C fs => Q (.obj C fs)
  | _ => False
def dC (d : Dt) : DE := fun _ Q => Q d
def dOp (o : DOp) (da db : DE) : DE := fun ρ Q => da ρ fun x => db ρ fun y => o x y Q
def dUn (o : DUn) (da : DE) : DE := fun ρ Q => da ρ fun x => o x Q
def dTest (da : DE) : DT := fun ρ Q => da ρ fun x => match x with
  | .bl b => Q b
  | _ => False
def dIf (dt : DT) (da db : DE) : DE := fun ρ Q => dt ρ fun c => (c = true → da ρ Q) ∧ (c = false → db ρ Q)
def dAndV (da db : DE) : DE := fun ρ Q => da ρ fun x => match x with
  | .bl b => (b = true → db ρ Q) ∧ (b = false → Q (.bl false))
  | _ => False
def dOrV (da db : DE) : DE := fun ρ Q => da ρ fun x => match x with
  | .bl b => (b = true → Q (.bl true)) ∧ (b = false → db ρ Q)
  | _ => False
def dNotV (da : DE) : DE := fun ρ Q => da ρ fun x => match x with
  | .bl b => Q (.bl (!b))
  | _ => False
def dAnd (da db : DT) : DT := fun ρ Q => da ρ fun c => (c = true → db ρ Q) ∧ (c = false → Q false)
def dOr (da db : DT) : DT := fun ρ Q => da ρ fun c => (c = true → Q true) ∧ (c = false → db ρ Q)
def dNot (da : DT) : DT := fun ρ Q => da ρ fun c => Q (!c)
def dNil : DA := fun _ Q => Q []
def dCons (da : DE) (dr : DA) : DA := fun ρ Q => da ρ fun x => dr ρ fun xs => Q (x :: xs)
def dTup (da : DA) : DE := fun ρ Q => da ρ fun xs => xs.length ≤ 16777216 ∧ Q (.tup xs)
def dLst (da : DA) : DE := fun ρ Q => da ρ fun xs => xs.length ≤ 16777216 ∧ Q (.lst xs)
def dNoPart : DO := fun _ Q => Q none
def dPart (da : DE) : DO := fun ρ Q => da ρ fun x => match x with
  | .int i => Q (some i)
  | _ => False
def dCB (o : DC) (da : DA) : DE := fun ρ Q => da ρ fun ds => o ds Q
def dCall (sp : DSp) (da : DA) : DE := fun ρ Q => da ρ fun ds => sp ds Q
section
variable {K : PySem.W.Frag} {Jx : WX} {Xd : XD} {ta tb te tc : TE} {da db de dc : DE} {tt tu : TT} {dt du : DT} {t : TA} {dl : DA}
theorem rVar (i : Nat) : RefE K Jx Xd (tVar i) (dVar i) := fun W S0 H0 α H σ ρ Qd Q I c h => by
  have q := I.sl i
  unfold dVar at h
  generalize gt ρ i = s at h q
  cases s with
  | val d =>
    obtain ⟨v, h1, h2⟩ := q
    exact ⟨v, h1, c.now I.ok h h2⟩
  | _ => exact h.elim
theorem rRd (i : Nat) : RefB K Jx Xd (tVar i) (dRd i) := fun W S0 H0 α H σ ρ Qd Q I c h => by
  have q := I.sl i
  have nw := I.new i
  unfold dRd at h
  generalize gt ρ i = s at h q nw
  cases s with
  | val d =>
    obtain ⟨v, h1, h2⟩ := q
    exact ⟨v, h1, c d v H h (.refl I.gw.bag) (h2.sh I.ok)⟩
  | own l =>
    obtain ⟨h1, vs, h2, h3⟩ := q
    exact ⟨_, h1, c _ _ H h (.refl I.gw.bag) ⟨_, vs, rfl, fun z => (nw rfl).2 (I.ms _ z), h2, h3⟩⟩
  | ins x C fs =>
    obtain ⟨h1, hx, dx, gs, h2, h3, h4, _⟩ := q
    exact ⟨_, h1, c _ _ H h (.refl I.gw.bag) ⟨_, dx, gs, rfl, fun z => (nw rfl).2 (I.ms _ z), h2, h3, h4⟩⟩
  | _ => exact h.elim
theorem rInt (i : Int) : RefE K Jx Xd (tC (.int i)) (dC (.int i)) := fun W S0 H0 α H σ ρ Qd Q I c h => c.now I.ok h (.int i)
theorem rBl (b : Bool) : RefE K Jx Xd (tC (.bl b)) (dC (.bl b)) := fun W S0 H0 α H σ ρ Qd Q I c h => c.now I.ok h (.bl b)
theorem rNon : RefE K Jx Xd (tC .non) (dC .non) := fun W S0 H0 α H σ ρ Qd Q I c h => c.now I.ok h .non
theorem rStr' (s : Str) : RefE K Jx Xd (tC (.str s)) (dC (.str s)) := fun W S0 H0 α H σ ρ Qd Q I c h => c.now I.ok h (.str s)
theorem rTy (s : String) : RefE K Jx Xd (tC (.ty s)) (dC (.ty s)) := fun W S0 H0 α H σ ρ Qd Q I c h => c.now I.ok h (.ty s)
theorem rCls (x : Str) : RefE K Jx Xd (tC (.ref (He.ga K x))) (dC (.cls x)) := fun W S0 H0 α H σ ρ Qd Q I c h => c.now I.ok h (.cls x)
theorem rOp {r : R2} {o : DOp} (ro : RefOp K r o) (ra : RefB K Jx Xd ta da) (rb : RefB K Jx Xd tb db) : RefE K Jx Xd (tOp r ta tb) (dOp o da db) := fun W S0 H0 α H σ ρ Qd Q I c h =>
  ra W S0 H0 α H σ ρ _ _ I (fun d v H1 q g hv => rb W S0 H0 α H1 σ ρ _ _ (I.grow g) (fun e u H2 q2 g2 hu => ro W _ H2 v u d e Qd Q (I.ok.grow (g.trans g2)) (hv.grow (I.ok.grow g) g2) hu (c.grow (g.trans g2)) q2) q) h
theorem rUn {r : V → Hp → VK → Prop} {o : DUn} (ro : RefUn K r o) (ra : RefB K Jx Xd ta da) : RefE K Jx Xd (tUn r ta) (dUn o da) := fun W S0 H0 α H σ ρ Qd Q I c h =>
  ra W S0 H0 α H σ ρ _ _ I (fun d v H1 q g hv => ro W _ H1 v d Qd Q (I.ok.grow g) hv (c.grow g) q) h
theorem rTest (ra : RefE K Jx Xd ta da) : RefT K Jx Xd (tTest ta) (dTest da) := fun W S0 H0 α H σ ρ Qd Q I c h =>
  ra W S0 H0 α H σ ρ _ _ I (fun d v H1 q g hv => by
    cases hv with
    | bl b => exact ⟨b, rfl, c b H1 q g⟩
    | _ => exact q.elim) h
theorem rB (ra : RefE K Jx Xd ta da) : RefT K Jx Xd (tB ta) (dTest da) := rTest ra
theorem rIf (rt : RefT K Jx Xd tt dt) (ra : RefE K Jx Xd ta da) (rb : RefE K Jx Xd tb db) : RefE K Jx Xd (tIf tt ta tb) (dIf dt da db) := fun W S0 H0 α H σ ρ Qd Q I c h =>
  rt W S0 H0 α H σ ρ _ _ I (fun b H1 q g => by
    cases b with
    | true => exact (if_pos rfl).mpr (ra W S0 H0 α H1 σ ρ Qd Q (I.grow g) (c.grow g) (q.1 rfl))
    | false => exact (if_neg Bool.false_ne_true).mpr (rb W S0 H0 α H1 σ ρ Qd Q (I.grow g) (c.grow g) (q.2 rfl))) h
theorem rAndV (ra : RefE K Jx Xd ta da) (rb : RefE K Jx Xd tb db) : RefE K Jx Xd (tAndV ta tb) (dAndV da db) := fun W S0 H0 α H σ ρ Qd Q I c h =>
  ra W S0 H0 α H σ ρ _ _ I (fun d v H1 q g hv => by
    cases hv with
    | bl b =>
      refine ⟨b, rfl, ?_⟩
      cases b with
      | true => exact (if_pos rfl).mpr (rb W S0 H0 α H1 σ ρ Qd Q (I.grow g) (c.grow g) (q.1 rfl))
      | false => exact (if_neg Bool.false_ne_true).mpr (c _ _ H1 (q.2 rfl) g (.bl false))
    | _ => exact q.elim) h
theorem rOrV (ra : RefE K Jx Xd ta da) (rb : RefE K Jx Xd tb db) : RefE K Jx Xd (tOrV ta tb) (dOrV da db) := fun W S0 H0 α H σ ρ Qd Q I c h =>
  ra W S0 H0 α H σ ρ _ _ I (fun d v H1 q g hv => by
    cases hv with
    | bl b =>
      refine ⟨b, rfl, ?_⟩
      cases b with
      | true => exact (if_pos rfl).mpr (c _ _ H1 (q.1 rfl) g (.bl true))
      | false => exact (if_neg Bool.false_ne_true).mpr (rb W S0 H0 α H1 σ ρ Qd Q (I.grow g) (c.grow g) (q.2 rfl))
    | _ => exact q.elim) h
theorem rNotV (ra : RefE K Jx Xd ta da) : RefE K Jx Xd (tNotV ta) (dNotV da) := fun W S0 H0 α H σ ρ Qd Q I c h =>
  ra W S0 H0 α H σ ρ _ _ I (fun d v H1 q g hv => by
    cases hv with
    | bl b => exact ⟨b, rfl, c _ _ H1 q g (.bl _)⟩
    | _ => exact q.elim) h
theorem rAnd (ra : RefT K Jx Xd tt dt) (rb : RefT K Jx Xd tu du) : RefT K Jx Xd (tAnd tt tu) (dAnd dt du) := fun W S0 H0 α H σ ρ Qd Q I c h =>
  ra W S0 H0 α H σ ρ _ _ I (fun b H1 q g => by
    cases b with
    | true => exact (if_pos rfl).mpr (rb W S0 H0 α H1 σ ρ Qd Q (I.grow g) (c.grow g) (q.1 rfl))
    | false => exact (if_neg Bool.false_ne_true).mpr (c _ H1 (q.2 rfl) g)) h
theorem rOr (ra : RefT K Jx Xd tt dt) (rb : RefT K Jx Xd tu du) : RefT K Jx Xd (tOr tt tu) (dOr dt du) := fun W S0 H0 α H σ ρ Qd Q I c h =>
  ra W S0 H0 α H σ ρ _ _ I (fun b H1 q g => by
    cases b with
    | true => exact (if_pos rfl).mpr (c _ H1 (q.1 rfl) g)
    | false => exact (if_neg Bool.false_ne_true).mpr (rb W S0 H0 α H1 σ ρ Qd Q (I.grow g) (c.grow g) (q.2 rfl))) h
theorem rNot (ra : RefT K Jx Xd tt dt) : RefT K Jx Xd (tNot tt) (dNot dt) := fun W S0 H0 α H σ ρ Qd Q I c h => ra W S0 H0 α H σ ρ _ _ I (fun b H1 q g => c _ H1 q g) h
theorem rYes : RefT K Jx Xd tYes (fun _ Q => Q true) := fun W S0 H0 α H σ ρ Qd Q I c h => c _ H h (.refl I.gw.bag)
theorem rNil : RefA K Jx Xd tNil dNil := fun W S0 H0 α H σ ρ Qd Q I c h => c _ _ H h (.refl I.gw.bag) .nil
theorem rCons (ra : RefE K Jx Xd ta da) (rr : RefA K Jx Xd t dl) : RefA K Jx Xd (tCons ta t) (dCons da dl) := fun W S0 H0 α H σ ρ Qd Q I c h =>
  ra W S0 H0 α H σ ρ _ _ I (fun d v H1 q g hv => rr W S0 H0 α H1 σ ρ _ _ (I.grow g) (fun ds vs H2 q2 g2 hs => c _ _ H2 q2 (g.trans g2) (.cons (hv.same (g2.hd (I.ok.grow g).ms)) hs)) q) h
theorem rNilX : RefX K Jx Xd tNil dNil := fun W S0 H0 α H σ ρ Qd Q I c h => c _ _ H h (.refl I.gw.bag) .nil
theorem rConsX (ra : RefB K Jx Xd ta da) (rr : RefX K Jx Xd t dl) : RefX K Jx Xd (tCons ta t) (dCons da dl) := fun W S0 H0 α H σ ρ Qd Q I c h =>
  ra W S0 H0 α H σ ρ _ _ I (fun d v H1 q g hv => rr W S0 H0 α H1 σ ρ _ _ (I.grow g) (fun ds vs H2 q2 g2 hs => c _ _ H2 q2 (g.trans g2) (.cons (hv.grow (I.ok.grow g) g2) hs)) q) h
theorem rTup (ra : RefA K Jx Xd t dl) : RefE K Jx Xd (tTup t) (dTup dl) := fun W S0 H0 α H σ ρ Qd Q I c h =>
  ra W S0 H0 α H σ ρ _ _ I (fun ds vs H1 q g hs => ⟨by rw [sizeLine_eq, hs.len]; exact Nat.le_trans q.1 (by decide), fun p hp => (c.grow g).new (I.ok.grow g) hp q.2 (dv_newT (I.ok.grow g) hp hs)⟩) h
theorem rLst (ra : RefA K Jx Xd t dl) : RefE K Jx Xd (tLst t) (dLst dl) := fun W S0 H0 α H σ ρ Qd Q I c h =>
  ra W S0 H0 α H σ ρ _ _ I (fun ds vs H1 q g hs => ⟨by rw [sizeLine_eq, hs.len]; exact Nat.le_trans q.1 (by decide), fun p hp => (c.grow g).new (I.ok.grow g) hp q.2 (dv_newL (I.ok.grow g) hp hs)⟩) h
theorem rNoPart : RefO K Jx Xd tNoPart dNoPart := fun W S0 H0 α H σ ρ Qd Q I c h => c _ H h (.refl I.gw.bag)
theorem rPart (ra : RefE K Jx Xd ta da) : RefO K Jx Xd (tPart ta) (dPart da) := fun W S0 H0 α H σ ρ Qd Q I c h =>
  ra W S0 H0 α H σ ρ _ _ I (fun d v H1 q g hv => by
    cases hv with
    | int i => exact ⟨i, rfl, c _ H1 q g⟩
    | _ => exact q.elim) h
theorem rCB {r : List V → Hp → VK → Prop} {o : DC} (ro : RefC K r o) (ra : RefX K Jx Xd t dl) : RefE K Jx Xd (tCB r t) (dCB o dl) := fun W S0 H0 α H σ ρ Qd Q I c h =>
  ra W S0 H0 α H σ ρ _ _ I (fun ds vs H1 q g hs => ro W _ H1 vs ds Qd Q (I.ok.grow g) hs (c.grow g) q) h
/-! ### promises -/
/-- a promise over the heap from one over data -/
def spD (K : PySem.W.Frag) (sp : DSp) : Sp := fun vs H Q _ => ∃ W S ds Qd, Ok K W S H ∧ DvA K W (hd S H) vs ds ∧ sp ds Qd ∧ Cn K W S H Qd Q
theorem rCall {sp : Sp} {sd : DSp} (hw : ∀ vs H Q, spD K sd vs H Q E0 → sp vs H Q E0) (ra : RefA K Jx Xd t dl) : RefE K Jx Xd (tCall sp [] E0 t) (dCall sd dl) := fun W S0 H0 α H σ ρ Qd Q I c h =>
  v_call (ra W S0 H0 α H σ ρ _ _ I (fun ds vs H1 q g hs => hw vs H1 Q ⟨W, _, ds, Qd, I.ok.grow g, hs, q, c.grow g⟩) h)
end

end
section

/-! ### statements over data -/
def CnS (K : PySem.W.Frag) (W : Wd) (S0 : Addr → Prop) (H0 M : Hp) (P : Ro → Prop) (Q : L2.St → Hp → Prop) : Prop := ∀ α' H' σ' ρ', P ρ' → Env K W S0 H0 α' H' σ' ρ' → Same M (hd (hid S0 α' ρ') H') → Q σ' H'
structure EnR (K : PySem.W.Frag) (W : Wd) (S0 : Addr → Prop) (H0 M : Hp) (D : Ends) (Dd : DEnds) : Prop where
  nx : CnS K W S0 H0 M Dd.nx D.nx
  rt : ∀ d v H', Dd.rt d → Gw K W H0 H' → Dv K W (hd S0 H') v d → D.rt v H'
  bk : CnS K W S0 H0 M Dd.bk D.bk
  ct : CnS K W S0 H0 M Dd.ct D.ct
def RefS (K : PySem.W.Frag) (Jx : WX) (Xd : XD) (ts : TS) (ds : DS) : Prop := ∀ W S0 H0 α H σ ρ D Dd, EnvX K Jx Xd W S0 H0 α H σ ρ → EnR K W S0 H0 (hd (hid S0 α ρ) H) D Dd → ds Dd ρ → ts D σ H
def RefG (K : PySem.W.Frag) (Jx : WX) (Xd : XD) (g : TG) (dg : DG) : Prop := ∀ W S0 H0 α H σ ρ d v Qd Q, EnvX K Jx Xd W S0 H0 α H σ ρ → Dv K W (hd (hid S0 α ρ) H) v d → CnS K W S0 H0 (hd (hid S0 α ρ) H) Qd Q → dg d ρ Qd → g v σ H Q
def RefGs (K : PySem.W.Frag) (Jx : WX) (Xd : XD) (g : TGs) (dg : DGs) : Prop := ∀ W S0 H0 α H σ ρ ds vs Qd Q, EnvX K Jx Xd W S0 H0 α H σ ρ → DvA K W (hd (hid S0 α ρ) H) vs ds → CnS K W S0 H0 (hd (hid S0 α ρ) H) Qd Q → dg ds ρ Qd → g vs σ H Q
section
variable {K : PySem.W.Frag} {Jx : WX} {Xd : XD} {W : Wd} {S0 : Addr → Prop} {H0 H H' M M' : Hp} {α : Nat → Addr} {σ : L2.St} {ρ : Ro} {D : Ends} {Dd : DEnds}
theorem CnS.wk {P : Ro → Prop} {Q : L2.St → Hp → Prop} (c : CnS K W S0 H0 M P Q) (e : Same M M') : CnS K W S0 H0 M' P Q := fun α' H' σ' ρ' p I s => c α' H' σ' ρ' p I (e.trans s)
theorem EnR.wk (c : EnR K W S0 H0 M D Dd) (e : Same M M') : EnR K W S0 H0 M' D Dd := ⟨c.nx.wk e, c.rt, c.bk.wk e, c.ct.wk e⟩
theorem EnR.grow (c : EnR K W S0 H0 (hd (hid S0 α ρ) H) D Dd) (I : Env K W S0 H0 α H σ ρ) (g : Gw K W H H') : EnR K W S0 H0 (hd (hid S0 α ρ) H') D Dd := c.wk (g.hd I.hms)
theorem EnR.now (c : EnR K W S0 H0 (hd (hid S0 α ρ) H) D Dd) (I : Env K W S0 H0 α H σ ρ) (g : Gw K W H H') (q : Dd.nx ρ) : D.nx σ H' := c.nx α H' σ ρ q (I.grow g) (g.hd I.hms)
end
def dNext : DS := fun D ρ => D.nx ρ
def dSeq (s u : DS) : DS := fun D ρ => s { D with nx := u D } ρ
def dBreak : DS := fun D ρ => D.bk ρ
def dCont : DS := fun D ρ => D.ct ρ
def dDrop (de : DE) : DS := fun D ρ => de ρ fun _ => D.nx ρ
def dRet (de : DE) : DS := fun D ρ => de ρ D.rt
def dRetN : DS := fun D _ => D.rt .non
def dIfS (dt : DT) (s u : DS) : DS := fun D ρ => dt ρ fun b => (b = true → s D ρ) ∧ (b = false → u D ρ)
def dMid (s r : DS) : DS := fun D ρ => ∃ P : Ro → Prop, s { D with nx := P } ρ ∧ ∀ ρ', P ρ' → r D ρ'
def dAsg (de : DE) (g : DG) : DS := fun D ρ => de ρ fun d => g d ρ D.nx
def dFrz (i : Nat) (s : DS) : DS := fun D ρ => match gt ρ i with
  | .own l => s D (pt ρ i (.val (.lst l)))
  | .val _ => s D ρ
  | _ => False
def gN (i : Nat) : DG := fun d ρ Q => Q (pt ρ i (.val d))
def gsNil : DGs := fun ds ρ Q => match ds with
  | [] => Q ρ
  | _ => False
def gsCons (g : DG) (gs : DGs) : DGs := fun ds ρ Q => match ds with
  | d :: r => g d ρ fun ρ' => gs r ρ' Q
  | _ => False
def gT (n : Nat) (gs : DGs) : DG := fun d ρ Q => match d with
  | .tup l => l.length = n ∧ gs l ρ Q
  | _ => False
/-- x[k] = d, x the frame's own list -/
def gSet (i : Nat) (di : DE) : DG := fun d ρ Q => match gt ρ i with
  | .own l => di ρ fun k => match k with
    | .int k => match ixN l.length k with
      | some j => Q (pt ρ i (.own (l.set j d)))
      | none => False
    | _ => False
  | _ => False
def dAppend (i : Nat) (de : DE) : DS := fun D ρ => match gt ρ i with
  | .own l => de ρ fun d => l.length < 16777216 ∧ D.nx (pt ρ i (.own (l ++ [d])))
  | _ => False
section
variable {K : PySem.W.Frag} {Jx : WX} {Xd : XD} {te : TE} {de : DE} {tt : TT} {dt : DT} {s u : TS} {ds du : DS} {g : TG} {dg : DG} {gs : TGs} {dgs : DGs}
theorem rNext : RefS K Jx Xd tNext dNext := fun W S0 H0 α H σ ρ D Dd I c h => c.now I.toEnv (.refl I.gw.bag) h
theorem rSeq (a : RefS K Jx Xd s ds) (b : RefS K Jx Xd u du) : RefS K Jx Xd (tSeq s u) (dSeq ds du) := fun W S0 H0 α H σ ρ D Dd I c h =>
  a W S0 H0 α H σ ρ { D with nx := u D } { Dd with nx := du Dd } I ⟨fun α' H' σ' ρ' p I' e => b W S0 H0 α' H' σ' ρ' D Dd (I.next I' e) (c.wk e) p, c.rt, c.bk, c.ct⟩ h
theorem rBreak : RefS K Jx Xd tBreak dBreak := fun W S0 H0 α H σ ρ D Dd I c h => c.bk α H σ ρ h I.toEnv (Same.refl _)
theorem rCont : RefS K Jx Xd tCont dCont := fun W S0 H0 α H σ ρ D Dd I c h => c.ct α H σ ρ h I.toEnv (Same.refl _)
theorem rDrop (a : RefE K Jx Xd te de) : RefS K Jx Xd (tDrop te) (dDrop de) := fun W S0 H0 α H σ ρ D Dd I c h => a W S0 H0 α H σ ρ _ _ I (fun d v H1 q g _ => c.now I.toEnv g q) h
theorem rRet (a : RefE K Jx Xd te de) : RefS K Jx Xd (tRet te) (dRet de) := fun W S0 H0 α H σ ρ D Dd I c h => a W S0 H0 α H σ ρ _ _ I (fun d v H1 q g hv => c.rt d v H1 q (I.gw.trans g) (hv.same (hd_sub fun a z => .inl z))) h
theorem rRetN : RefS K Jx Xd tRetN dRetN := fun W S0 H0 α H σ ρ D Dd I c h => c.rt _ _ H h I.gw .non
theorem rIfS (a : RefT K Jx Xd tt dt) (b : RefS K Jx Xd s ds) (d : RefS K Jx Xd u du) : RefS K Jx Xd (tIfS tt s u) (dIfS dt ds du) := fun W S0 H0 α H σ ρ D Dd I c h =>
  a W S0 H0 α H σ ρ _ _ I (fun k H1 q g => by
    cases k with
    | true => exact (if_pos rfl).mpr (b W S0 H0 α H1 σ ρ D Dd (I.grow g) (c.grow I.toEnv g) (q.1 rfl))
    | false => exact (if_neg Bool.false_ne_true).mpr (d W S0 H0 α H1 σ ρ D Dd (I.grow g) (c.grow I.toEnv g) (q.2 rfl))) h
theorem rMid (a : RefS K Jx Xd s ds) (b : RefS K Jx Xd u du) : RefS K Jx Xd (tMid s u) (dMid ds du) := fun W S0 H0 α H σ ρ D Dd I c ⟨P, h1, h2⟩ =>
  ⟨fun σ' H' => ∃ α' ρ', P ρ' ∧ Env K W S0 H0 α' H' σ' ρ' ∧ Same (hd (hid S0 α ρ) H) (hd (hid S0 α' ρ') H'), a W S0 H0 α H σ ρ _ { Dd with nx := P } I ⟨fun α' H' σ' ρ' p I' e => ⟨α', ρ', p, I', e⟩, c.rt, c.bk, c.ct⟩ h1,
    fun σ' H' ⟨α', ρ', p, I', e⟩ => b W S0 H0 α' H' σ' ρ' D Dd (I.next I' e) (c.wk e) (h2 ρ' p)⟩
theorem rAsg (a : RefE K Jx Xd te de) (b : RefG K Jx Xd g dg) : RefS K Jx Xd (tAsg te g) (dAsg de dg) := fun W S0 H0 α H σ ρ D Dd I c h =>
  a W S0 H0 α H σ ρ _ _ I (fun d v H1 q g1 hv => b W S0 H0 α H1 σ ρ d v _ _ (I.grow g1) hv ((c.grow I.toEnv g1).nx) q) h
theorem rFrz (i : Nat) (a : RefS K Jx Xd s ds) : RefS K Jx Xd s (dFrz i ds) := fun W S0 H0 α H σ ρ D Dd I c h => by
  unfold dFrz at h
  cases e : gt ρ i with
  | own l =>
    rw [e] at h
    obtain ⟨I2, e2⟩ := I.freeze e
    exact a W S0 H0 α H σ _ D Dd (I.next I2 e2) (c.wk e2) h
  | val d =>
    rw [e] at h
    exact a W S0 H0 α H σ _ D Dd I c h
  | _ =>
    rw [e] at h
    exact h.elim
theorem rgN (i : Nat) : RefG K Jx Xd (gName i) (gN i) := fun W S0 H0 α H σ ρ d v Qd Q I hv c h => by
  obtain ⟨I2, e2⟩ := I.set hv
  exact c _ _ _ _ h I2 e2
theorem rgsNil : RefGs K Jx Xd gNil gsNil := fun W S0 H0 α H σ ρ ds vs Qd Q I hv c h => by
  cases hv with
  | nil => exact ⟨rfl, c _ _ _ _ h I.toEnv (Same.refl _)⟩
  | cons _ _ => exact h.elim
theorem rgsCons (a : RefG K Jx Xd g dg) (b : RefGs K Jx Xd gs dgs) : RefGs K Jx Xd (gCons g gs) (gsCons dg dgs) := fun W S0 H0 α H σ ρ ds vs Qd Q I hv c h => by
  cases hv with
  | nil => exact h.elim
  | cons h1 h2 => exact ⟨_, _, rfl, a W S0 H0 α H σ ρ _ _ _ _ I h1 (fun α' H' σ' ρ' p I' e => b W S0 H0 α' H' σ' ρ' _ _ Qd Q (I.next I' e) (h2.same e) (c.wk e) p) h⟩
theorem rgT (n : Nat) (a : RefGs K Jx Xd gs dgs) : RefG K Jx Xd (gTup K n gs) (gT n dgs) := fun W S0 H0 α H σ ρ d v Qd Q I hv c h => by
  cases hv with
  | tup h1 h2 => exact ⟨_, _, rfl, same_sqt hd_le h1, h2.len.trans h.1, a W S0 H0 α H σ ρ _ _ Qd Q I h2 c h.2⟩
  | _ => exact h.elim
theorem at_owned {W : Wd} {S0 : Addr → Prop} {H0 H : Hp} {α : Nat → Addr} {σ : L2.St} {ρ : Ro} {i : Nat} {l : List Dt} (I : Env K W S0 H0 α H σ ρ) (e : gt ρ i = .own l) : σ[i]? = some (some (.ref (α i))) ∧ (∃ vs, H (α i) = some (.lst vs) ∧ DvA K W (hd (hid S0 α ρ) H) vs l) ∧ (gt ρ i).owned = true := by
  have q := I.sl i
  rw [e] at q
  exact ⟨q.1, q.2, by rw [e]; rfl⟩
theorem hid_pt {S0 : Addr → Prop} {α : Nat → Addr} {ρ : Ro} {i : Nat} {s : Sl} (o : (gt ρ i).owned = true) (hs : s.owned = true) : hid S0 α (pt ρ i s) = hid S0 α ρ := by
  have li : i < ρ.length := by
    apply Classical.byContradiction
    intro q
    rw [gt_out (by omega)] at o
    cases o
  have ow : ∀ j, (gt (pt ρ i s) j).owned = (gt ρ j).owned := fun j => by
    by_cases e : j = i
    · subst e
      rw [gt_pt li, hs, o]
    · rw [gt_pt_ne e]
  funext a
  unfold hid
  simp only [ow]
theorem rgSet {ti : TE} {di : DE} (i : Nat) (a : RefE K Jx Xd ti di) : RefG K Jx Xd (gSub (tVar i) ti rSetL) (gSet i di) := fun W S0 H0 α H σ ρ d v Qd Q I hv c h => by
  unfold gSet at h
  cases e : gt ρ i with
  | own l =>
    rw [e] at h
    obtain ⟨e1, ⟨vs, e2, e3⟩, o⟩ := at_owned I.toEnv e
    refine ⟨_, e1, a W S0 H0 α H σ ρ _ _ I (fun k u H1 q g hk => ?_) h⟩
    cases hk with
    | int k =>
      dsimp only at q
      cases ej : ixN l.length k with
      | none =>
        rw [ej] at q
        exact q.elim
      | some j =>
        rw [ej] at q
        have I1 := I.grow g
        obtain ⟨f1, ⟨ws, f2, f3⟩, _⟩ := at_owned I1.toEnv e
        have hh : hid S0 α (pt ρ i (.own (l.set j d))) = hid S0 α ρ := hid_pt o rfl
        have sm := hd_set (S := hid S0 α ρ) (H := H1) (o := .lst (ws.set j v)) (a := α i) (.inr ⟨i, o, rfl⟩)
        obtain ⟨I2, s2⟩ := I1.put (s := .own (l.set j d)) (u := .lst (ws.set j v)) o rfl ⟨rfl, _, upd_same, (f3.same sm).set j (hv.same ((g.hd I.hms).trans sm))⟩ f1
        exact ⟨_, ws, k, j, rfl, rfl, f2, by rw [f3.len]; exact ej, c _ _ _ _ q I2 ((g.hd I.hms).trans s2)⟩
    | _ => exact q.elim
  | _ =>
    rw [e] at h
    exact h.elim
theorem rAppend' (i : Nat) (a : RefE K Jx Xd te de) : RefS K Jx Xd (tDrop (tBM K "list" rAppend (tVar i) (tCons te tNil))) (dAppend i de) := fun W S0 H0 α H σ ρ D Dd I c h => by
  unfold dAppend at h
  cases e : gt ρ i with
  | own l =>
    rw [e] at h
    obtain ⟨e1, ⟨vs, e2, e3⟩, o⟩ := at_owned I.toEnv e
    refine ⟨_, e1, .inl ⟨rfl, vs, SqL.of e2⟩, a W S0 H0 α H σ ρ _ _ I (fun d v H1 q g hv => ?_) h⟩
    have I1 := I.grow g
    obtain ⟨f1, ⟨ws, f2, f3⟩, _⟩ := at_owned I1.toEnv e
    have sm := hd_set (S := hid S0 α ρ) (H := H1) (o := .lst (ws ++ [v])) (a := α i) (.inr ⟨i, o, rfl⟩)
    obtain ⟨I2, s2⟩ := I1.put (s := .own (l ++ [d])) (u := .lst (ws ++ [v])) o rfl ⟨rfl, _, upd_same, (f3.same sm).app (.one (hv.same sm))⟩ f1
    exact ⟨_, ws, v, rfl, rfl, f2, by rw [sizeLine_eq, f3.len]; exact Nat.lt_of_lt_of_le q.1 (by decide), c.nx _ _ _ _ q.2 I2 ((g.hd I.hms).trans s2)⟩
  | _ =>
    rw [e] at h
    exact h.elim
end
/-! ### new things of the frame -/
abbrev DF : Type := Ro → (List Dt → Prop) → Prop
/-- a new list -/
def RefF (K : PySem.W.Frag) (Jx : WX) (Xd : XD) (te : TE) (df : DF) : Prop := ∀ W S0 H0 α H σ ρ Qd Q, EnvX K Jx Xd W S0 H0 α H σ ρ → (∀ l p vs H', Qd l → Gw K W H H' → H p = none → H' p = some (.lst vs) → DvA K W (hd (hid (fun a => S0 a ∨ a = p) α ρ) H') vs l → Q (.ref p) H') → df ρ Qd → te σ H Q
def dOwn (i : Nat) (df : DF) : DS := fun D ρ => df ρ fun l => D.nx (pt ρ i (.own l))
theorem rOwn {K : PySem.W.Frag} {Jx : WX} {Xd : XD} {te : TE} {df : DF} (i : Nat) (a : RefF K Jx Xd te df) : RefS K Jx Xd (tAsg te (gName i)) (dOwn i df) := fun W S0 H0 α H σ ρ D Dd I c h =>
  a W S0 H0 α H σ ρ _ _ I (fun l p vs H' q g hp hp' hv => by
    obtain ⟨I2, s2⟩ := I.hide g hp (by rw [hp']; exact fun z => nomatch z) (I.noMt hp)
    obtain ⟨n0, nS⟩ := I.none0 hp
    obtain ⟨I3, s3⟩ := I2.adopt (i := i) (s := .own l) n0 nS rfl ⟨rfl, vs, hp', hv⟩
    exact c.nx _ _ _ _ q I3 (s2.trans s3)) h
def fLst (da : DA) : DF := fun ρ Q => da ρ fun xs => xs.length ≤ 16777216 ∧ Q xs
theorem hid_new {S0 : Addr → Prop} {H : Hp} {α : Nat → Addr} {ρ : Ro} {p : Addr} {o : HO} (hp : H p = none) : Same (hd (hid S0 α ρ) H) (hd (hid (fun a => S0 a ∨ a = p) α ρ) (upd H p o)) := fun a u e => by
  obtain ⟨h1, h2⟩ := hd_get e
  have ne := ne_of_none h2 hp
  refine hd_at (by rw [upd_ne ne]; exact h2) fun z => ?_
  rcases z with (z | z) | z
  · exact h1 (.inl z)
  · exact ne z
  · exact h1 (.inr z)
theorem rfLst {K : PySem.W.Frag} {Jx : WX} {Xd : XD} {t : TA} {da : DA} (a : RefA K Jx Xd t da) : RefF K Jx Xd (tLst t) (fLst da) := fun W S0 H0 α H σ ρ Qd Q I c h =>
  a W S0 H0 α H σ ρ _ _ I (fun ds vs H1 q g hs => ⟨by rw [sizeLine_eq, hs.len]; exact Nat.le_trans q.1 (by decide), fun p hp => by
    have hp0 : H p = none := by
      cases z : H p with
      | none => rfl
      | some w => exact absurd hp (g.ne p (by rw [z]; exact fun q => nomatch q))
    exact c ds p vs _ q.2 (g.trans (.new g.bag hp)) hp0 upd_same (hs.same (hid_new hp))⟩) h

end
section

/-! ### what is walked; for, while, comprehensions -/
/-- J walks the items ds while Pm holds -/
structure Wk (K : PySem.W.Frag) (W : Wd) (J : It) (ds : List Dt) (Pm : (Addr → Prop) → Hp → Prop) : Prop where
  ex : ∃ (n : Nat) (G : Hp → Prop) (Y : Nat → Hp → V → Hp → Prop), n = ds.length ∧ Walk J n G Y ∧ (∀ S H, Pm S H → G H) ∧
    ∀ S i H1 x H2, i < n → Pm S H1 → (∀ a, S a → H1 a ≠ none) → Y i H1 x H2 → (∃ d, ds[i]? = some d ∧ Dv K W (hd S H2) x d) ∧ (H2 = H1 ∨ ∃ T o, H1 T = none ∧ H2 = upd H1 T o)
/-- as long as what was seen stands -/
def Pst (M : Hp) : (Addr → Prop) → Hp → Prop := fun S H => Same M (hd S H)
/-- as long as the heap but grows -/
def Pgr (K : PySem.W.Frag) (W : Wd) (M H0 : Hp) : (Addr → Prop) → Hp → Prop := fun S H => Same M (hd S H) ∧ Same (hd (mt W) H0) H
abbrev DI : Type := Ro → (List Dt → Prop) → Prop
def RefI (K : PySem.W.Frag) (Jx : WX) (Xd : XD) (wi : TI) (di : DI) : Prop := ∀ W S0 H0 α H σ ρ Qd R, EnvX K Jx Xd W S0 H0 α H σ ρ → (∀ ds J H', Qd ds → Gw K W H H' → Wk K W J ds (Pst (hd (hid S0 α ρ) H')) → R J H') → di ρ Qd → wi σ H R
def RefJ (K : PySem.W.Frag) (Jx : WX) (Xd : XD) (wi : TI) (di : DI) : Prop := ∀ W S0 H0 α H σ ρ Qd R, EnvX K Jx Xd W S0 H0 α H σ ρ → (∀ ds J H', Qd ds → Gw K W H H' → Wk K W J ds (Pgr K W (hd (hid S0 α ρ) H') H') → R J H') → di ρ Qd → wi σ H R
theorem RefI.j {K : PySem.W.Frag} {Jx : WX} {Xd : XD} {wi : TI} {di : DI} (r : RefI K Jx Xd wi di) : RefJ K Jx Xd wi di := fun W S0 H0 α H σ ρ Qd R I c h => r W S0 H0 α H σ ρ Qd R I (fun ds J H' q g w => c ds J H' q g (by
  obtain ⟨n, G, Y, e, wk, a, b⟩ := w.ex
  exact ⟨⟨n, G, Y, e, wk, fun S H p => a S H p.1, fun S i H1 x H2 hi p => b S i H1 x H2 hi p.1⟩⟩)) h
def dSeqOf (d : Dt) (Q : List Dt → Prop) : Prop := match d with
  | .lst l => Q l
  | .tup l => Q l
  | _ => False
def jSq (da : DE) : DI := fun ρ Q => da ρ fun d => dSeqOf d Q
section
variable {K : PySem.W.Frag} {Jx : WX} {Xd : XD} {W : Wd} {S : Addr → Prop} {H : Hp}
/-- a sequence read: what stands there -/
theorem sh_seq {v : V} {d : Dt} {Q : List Dt → Prop} (O : Ok K W S H) (h : Sh K W S H v d) (q : dSeqOf d Q) : ∃ a t xs l, v = .ref a ∧ SqB K t H a xs ∧ DvA K W (hd S H) xs l ∧ Q l ∧ ∀ H', Same (hd (mt W) H) H' → SqB K t H' a xs := by
  cases d with
  | lst l =>
    obtain ⟨a, vs, rfl, h1, h2, h3⟩ := h
    exact ⟨a, false, vs, l, rfl, SqL.of h2, h3, q, fun H' e => SqL.of (e _ _ (hd_at h2 h1))⟩
  | tup l =>
    have h' : Dv K W (hd S H) v (.tup l) := h
    cases h' with
    | tup h1 h2 => exact ⟨_, true, _, l, rfl, same_sqt hd_le h1, h2, q, fun H' e => same_sqt ((hd_sub O.ms).trans e) h1⟩
  | _ => exact q.elim
theorem dv_seq {v : V} {d : Dt} {Q : List Dt → Prop} (h : Dv K W (hd S H) v d) (q : dSeqOf d Q) : ∃ a t xs l, v = .ref a ∧ SqB K t (hd S H) a xs ∧ DvA K W (hd S H) xs l ∧ Q l := by
  cases h with
  | lst h1 h2 => exact ⟨_, false, _, _, rfl, SqL.of h1, h2, q⟩
  | tup h1 h2 => exact ⟨_, true, _, _, rfl, h1, h2, q⟩
  | _ => exact q.elim
end
theorem riSq {K : PySem.W.Frag} {Jx : WX} {Xd : XD} {te : TE} {de : DE} (a : RefE K Jx Xd te de) : RefI K Jx Xd (iSq K te) (jSq de) := fun W S0 H0 α H σ ρ Qd R I c h =>
  v_sq (a W S0 H0 α H σ ρ _ _ I (fun d v H1 q g hv => by
    obtain ⟨p, t, xs, l, rfl, h1, h2, h3⟩ := dv_seq hv q
    refine v_sqr (same_sqb hd_le h1) (c l _ H1 h3 g ⟨_, _, _, by rw [← h2.len], walk_sq, fun S H e => same_sqb (e.trans hd_le) h1, fun S i H2 x H3 hi e _ y => ?_⟩)
    obtain ⟨rfl, hx⟩ := y
    obtain ⟨d, e1, e2⟩ := h2.get hx
    exact ⟨⟨d, e1, e2.same e⟩, .inl rfl⟩) h)
theorem rjSq {K : PySem.W.Frag} {Jx : WX} {Xd : XD} {te : TE} {de : DE} (a : RefB K Jx Xd te de) : RefJ K Jx Xd (iSq K te) (jSq de) := fun W S0 H0 α H σ ρ Qd R I c h =>
  v_sq (a W S0 H0 α H σ ρ _ _ I (fun d v H1 q g hv => by
    obtain ⟨p, t, xs, l, rfl, h1, h2, h3, h4⟩ := sh_seq (I.ok.grow g) hv q
    refine v_sqr h1 (c l _ H1 h3 g ⟨_, _, _, by rw [← h2.len], walk_sq, fun S H e => h4 _ e.2, fun S i H2 x H3 hi e _ y => ?_⟩)
    obtain ⟨rfl, hx⟩ := y
    obtain ⟨d, e1, e2⟩ := h2.get hx
    exact ⟨⟨d, e1, e2.same e.1⟩, .inl rfl⟩) h)
def rngD (lo : Int) (n : Nat) : List Dt := (List.range n).map fun (i : Nat) => .int (lo + (i : Int))
def jRng1 (da : DA) : DI := fun ρ Q => da ρ fun ds => match ds with
  | [.int j] => (-4611686018427387904 ≤ j ∧ j < 4611686018427387904) ∧ Q (rngD 0 j.toNat)
  | _ => False
def jRng2 (da : DA) : DI := fun ρ Q => da ρ fun ds => match ds with
  | [.int i, .int j] => (-4611686018427387904 ≤ i ∧ i < 4611686018427387904 ∧ -4611686018427387904 ≤ j ∧ j < 4611686018427387904) ∧ Q (rngD i (j - i).toNat)
  | _ => False
theorem rng_get {lo : Int} {n i : Nat} (h : i < n) : (rngD lo n)[i]? = some (.int (lo + i)) := by
  unfold rngD
  rw [List.getElem?_map, List.getElem?_range h]
  rfl
theorem wk_rng {K : PySem.W.Frag} {W : Wd} {lo : Int} {n : Nat} {Pm : (Addr → Prop) → Hp → Prop} : Wk K W (Itr lo n) (rngD lo n) Pm :=
  ⟨n, _, _, by simp [rngD], walk_range, fun _ _ _ => trivial, fun S i H1 x H2 hi _ _ y => by
    obtain ⟨rfl, rfl⟩ := y
    exact ⟨⟨_, rng_get hi, .int _⟩, .inl rfl⟩⟩
theorem shA1 {K : PySem.W.Frag} {W : Wd} {S : Addr → Prop} {H : Hp} {vs : List V} {i : Int} (h : ShA K W S H vs [.int i]) : vs = [.int i] := by
  cases h with
  | cons h r =>
    cases r
    cases (show Dv K W (hd S H) _ (.int i) from h)
    rfl
theorem shA2 {K : PySem.W.Frag} {W : Wd} {S : Addr → Prop} {H : Hp} {vs : List V} {i j : Int} (h : ShA K W S H vs [.int i, .int j]) : vs = [.int i, .int j] := by
  cases h with
  | cons h r =>
    rw [shA1 r]
    cases (show Dv K W (hd S H) _ (.int i) from h)
    rfl
theorem two62 : (2 : Int) ^ 62 = 4611686018427387904 := by decide
theorem riRng1 {K : PySem.W.Frag} {Jx : WX} {Xd : XD} {t : TA} {da : DA} (a : RefX K Jx Xd t da) : RefI K Jx Xd (iRng1 t) (jRng1 da) := fun W S0 H0 α H σ ρ Qd R I c h =>
  a W S0 H0 α H σ ρ _ _ I (fun ds vs H1 q g hs => by
    match ds, q, hs with
    | [.int j], q, hs =>
      obtain rfl := shA1 hs
      exact ⟨j, rfl, by rw [two62]; exact q.1.1, by rw [two62]; exact q.1.2, c _ _ H1 q.2 g wk_rng⟩) h
theorem riRng2 {K : PySem.W.Frag} {Jx : WX} {Xd : XD} {t : TA} {da : DA} (a : RefX K Jx Xd t da) : RefI K Jx Xd (iRng2 t) (jRng2 da) := fun W S0 H0 α H σ ρ Qd R I c h =>
  a W S0 H0 α H σ ρ _ _ I (fun ds vs H1 q g hs => by
    match ds, q, hs with
    | [.int i, .int j], q, hs =>
      obtain rfl := shA2 hs
      exact ⟨i, j, rfl, by rw [two62]; exact q.1, c _ _ H1 q.2 g wk_rng⟩) h
/-! pairs -/
theorem dv_pair {K : PySem.W.Frag} {W : Wd} {S : Addr → Prop} {H : Hp} {T : Addr} {x y : V} {d e : Dt} (kn : ∀ a, S a → H a ≠ none) (hT : H T = none) (h1 : Dv K W (hd S H) x d) (h2 : Dv K W (hd S H) y e) : Dv K W (hd S (upd H T (.tup [x, y]))) (.ref T) (.tup [d, e]) :=
  .tup (.inl (.inl (hd_at upd_same fun z => kn T z hT))) (.cons (h1.same (hd_new hT)) (.cons (h2.same (hd_new hT)) .nil))
def zipD (l m : List Dt) : List Dt := List.zipWith (fun x y => .tup [x, y]) l m
def jZip (da : DA) : DI := fun ρ Q => da ρ fun ds => match ds with
  | [x, y] => dSeqOf x fun l => dSeqOf y fun m => l.length = m.length ∧ Q (zipD l m)
  | _ => False
theorem wk_zip {K : PySem.W.Frag} {W : Wd} {S : Addr → Prop} {H : Hp} {a b : Addr} {t1 t2 : Bool} {xs ys : List V} {l m : List Dt} {Pm : (Addr → Prop) → Hp → Prop} (hP : ∀ S' H', Pm S' H' → Same (hd S H) (hd S' H')) (hG : ∀ S' H', Pm S' H' → SqB K t1 H' a xs ∧ SqB K t2 H' b ys) (h1 : DvA K W (hd S H) xs l) (h2 : DvA K W (hd S H) ys m) (e : l.length = m.length) :
    Wk K W (ItzM K t1 t2 a b) (zipD l m) Pm :=
  ⟨l.length, _, _, by unfold zipD; rw [List.length_zipWith]; omega, walk_zipM (xs := xs) (ys := ys) h1.len.symm (by rw [h2.len]; exact e), hG, fun S' i H1 x H2 hi p kn y => by
    obtain ⟨T, u, v, rfl, hT, rfl, hu, hv⟩ := y
    obtain ⟨d, e1, e2⟩ := h1.get hu
    obtain ⟨d', f1, f2⟩ := h2.get hv
    exact ⟨⟨.tup [d, d'], by unfold zipD; rw [List.getElem?_zipWith, e1, f1], dv_pair kn hT (e2.same (hP _ _ p)) (f2.same (hP _ _ p))⟩, .inr ⟨T, _, hT, rfl⟩⟩⟩
theorem rjZip {K : PySem.W.Frag} {Jx : WX} {Xd : XD} {t : TA} {da : DA} (a : RefX K Jx Xd t da) : RefJ K Jx Xd (iZipU K t) (jZip da) := fun W S0 H0 α H σ ρ Qd R I c h =>
  v_zu (a W S0 H0 α H σ ρ _ _ I (fun ds vs H1 q g hs => by
    match ds, q, hs with
    | [x, y], q, .cons hx (.cons hy .nil) =>
      have O := I.ok.grow g
      obtain ⟨p1, t1, xs, l, rfl, a1, a2, a3, a4⟩ := sh_seq O hx q
      obtain ⟨p2, t2, ys, m, rfl, b1, b2, b3, b4⟩ := sh_seq O hy a3
      exact v_zur a1 b1 (c _ _ H1 b3.2 g (wk_zip (fun S' H' p => p.1) (fun S' H' p => ⟨a4 _ p.2, b4 _ p.2⟩) a2 b2 b3.1))) h)
theorem riZip {K : PySem.W.Frag} {Jx : WX} {Xd : XD} {t : TA} {da : DA} (a : RefA K Jx Xd t da) : RefI K Jx Xd (iZipU K t) (jZip da) := fun W S0 H0 α H σ ρ Qd R I c h =>
  v_zu (a W S0 H0 α H σ ρ _ _ I (fun ds vs H1 q g hs => by
    match ds, q, hs with
    | [x, y], q, .cons hx (.cons hy .nil) =>
      obtain ⟨p1, t1, xs, l, rfl, a1, a2, a3⟩ := dv_seq hx q
      obtain ⟨p2, t2, ys, m, rfl, b1, b2, b3⟩ := dv_seq hy a3
      exact v_zur (same_sqb hd_le a1) (same_sqb hd_le b1) (c _ _ H1 b3.2 g (wk_zip (fun S' H' p => p) (fun S' H' p => ⟨same_sqb (p.trans hd_le) a1, same_sqb (p.trans hd_le) b1⟩) a2 b2 b3.1))) h)
/-! loops -/
def dForGo (dg : DG) (db : DS) (D : DEnds) : List Dt → Ro → Prop
  | [], ρ => D.nx ρ
  | x :: xs, ρ => dg x ρ fun ρ' => db { D with nx := dForGo dg db D xs, ct := dForGo dg db D xs, bk := D.nx } ρ'
def dFor (di : DI) (dg : DG) (db : DS) : DS := fun D ρ => di ρ fun ds => dForGo dg db D ds ρ
theorem gw_turn {K : PySem.W.Frag} {W : Wd} {H1 H2 : Hp} (b : BagI K W H1) (h : H2 = H1 ∨ ∃ T o, H1 T = none ∧ H2 = upd H1 T o) : Gw K W H1 H2 := by
  rcases h with rfl | ⟨T, o, hT, rfl⟩
  · exact .refl b
  · exact .new b hT
theorem rFor {K : PySem.W.Frag} {Jx : WX} {Xd : XD} {wi : TI} {di : DI} {g : TG} {dg : DG} {s : TS} {ds : DS} (a : RefI K Jx Xd wi di) (b : RefG K Jx Xd g dg) (c : RefS K Jx Xd s ds) : RefS K Jx Xd (tFor wi g s) (dFor di dg ds) := fun W S0 H0 α H σ ρ D Dd I r h =>
  v_for (a W S0 H0 α H σ ρ _ _ I (fun items J H' q gw w => by
    have I1 := I.grow gw
    have r1 := r.grow I.toEnv gw
    obtain ⟨n, G, Y, en, wk, hG, hY⟩ := w.ex
    refine for_w wk (fun i σ1 H1 => ∃ α1 ρ1, EnvX K Jx Xd W S0 H0 α1 H1 σ1 ρ1 ∧ Same (hd (hid S0 α ρ) H') (hd (hid S0 α1 ρ1) H1) ∧ dForGo dg ds Dd (items.drop i) ρ1) ⟨α, ρ, I1, Same.refl _, q⟩ (fun i σ1 H1 _ ⟨α1, ρ1, I2, e2, _⟩ => hG _ _ e2) ?_ ?_
    · rintro i x σ1 H1 H2 hi ⟨α1, ρ1, I2, e2, go⟩ y
      obtain ⟨⟨d, hd1, hd2⟩, tn⟩ := hY _ i H1 x H2 hi e2 I2.hkn y
      have il : i < items.length := by omega
      have ed : items.drop i = d :: items.drop (i + 1) := by
        rw [List.drop_eq_getElem_cons il]
        rw [List.getElem?_eq_getElem il] at hd1
        rw [Option.some.inj hd1]
      rw [ed] at go
      have g2 := gw_turn I2.gw.bag tn
      have e3 := e2.trans (g2.hd I2.hms)
      refine b W S0 H0 α1 H2 σ1 ρ1 d x _ _ (I2.grow g2) hd2 (fun α3 H3 σ3 ρ3 go3 I3 e4 => ?_) go
      have e5 := e3.trans e4
      exact c W S0 H0 α3 H3 σ3 ρ3 _ { Dd with nx := dForGo dg ds Dd (items.drop (i + 1)), ct := dForGo dg ds Dd (items.drop (i + 1)), bk := Dd.nx } (I1.next I3 e5)
        ⟨fun α4 H4 σ4 ρ4 p I4 e6 => ⟨α4, ρ4, I1.next I4 (e5.trans e6), e5.trans e6, p⟩, r.rt, fun α4 H4 σ4 ρ4 p I4 e6 => r1.nx α4 H4 σ4 ρ4 p I4 (e5.trans e6), fun α4 H4 σ4 ρ4 p I4 e6 => ⟨α4, ρ4, I1.next I4 (e5.trans e6), e5.trans e6, p⟩⟩ go3
    · rintro σ1 H1 ⟨α1, ρ1, I2, e2, go⟩
      rw [en, List.drop_length] at go
      exact r1.nx α1 H1 σ1 ρ1 go I2.toEnv e2) h)
def dWhGo (dt : DT) (db : DS) (D : DEnds) : Nat → Ro → Prop
  | 0, _ => False
  | n + 1, ρ => dt ρ fun b => (b = true → db { D with nx := dWhGo dt db D n, ct := dWhGo dt db D n, bk := D.nx } ρ) ∧ (b = false → D.nx ρ)
def dWhile (dt : DT) (db : DS) : DS := fun D ρ => ∃ n, dWhGo dt db D n ρ
theorem rWhile {K : PySem.W.Frag} {Jx : WX} {Xd : XD} {tt : TT} {dt : DT} {s : TS} {ds : DS} (a : RefT K Jx Xd tt dt) (c : RefS K Jx Xd s ds) : RefS K Jx Xd (tWhile tt s) (dWhile dt ds) := fun W S0 H0 α H σ ρ D Dd I r ⟨n0, h⟩ => by
  refine ⟨fun n σ1 H1 => ∃ α1 ρ1, EnvX K Jx Xd W S0 H0 α1 H1 σ1 ρ1 ∧ Same (hd (hid S0 α ρ) H) (hd (hid S0 α1 ρ1) H1) ∧ dWhGo dt ds Dd n ρ1, ⟨n0, α, ρ, I, Same.refl _, h⟩, ?_⟩
  rintro n σ1 H1 ⟨α1, ρ1, I2, e2, go⟩
  cases n with
  | zero => exact go.elim
  | succ n =>
    refine a W S0 H0 α1 H1 σ1 ρ1 _ _ I2 (fun k H2 q g => ?_) go
    have e3 := e2.trans (g.hd I2.hms)
    cases k with
    | true =>
      refine (if_pos rfl).mpr ⟨fun σ' H' => ∃ α1 ρ1, EnvX K Jx Xd W S0 H0 α1 H' σ' ρ1 ∧ Same (hd (hid S0 α ρ) H) (hd (hid S0 α1 ρ1) H') ∧ dWhGo dt ds Dd n ρ1, fun σ' H' p => ⟨n, Nat.lt_succ_self _, p⟩, ?_⟩
      exact c W S0 H0 α1 H2 σ1 ρ1 _ { Dd with nx := dWhGo dt ds Dd n, ct := dWhGo dt ds Dd n, bk := Dd.nx } (I2.grow g) ⟨fun α4 H4 σ4 ρ4 p I4 e6 => ⟨α4, ρ4, I.next I4 (e3.trans e6), e3.trans e6, p⟩, r.rt, fun α4 H4 σ4 ρ4 p I4 e6 => r.nx α4 H4 σ4 ρ4 p I4 (e3.trans e6), fun α4 H4 σ4 ρ4 p I4 e6 => ⟨α4, ρ4, I.next I4 (e3.trans e6), e3.trans e6, p⟩⟩ (q.1 rfl)
    | false => exact (if_neg Bool.false_ne_true).mpr (r.nx α1 H2 σ1 ρ1 (q.2 rfl) (I2.grow g).toEnv e3)
/-! comprehensions -/
def RefGc (K : PySem.W.Frag) (Jx : WX) (Xd : XD) (ws : List Nat) (g : TG) (dg : DG) : Prop := ∀ W S0 H0 α H σ ρ d v Qd Q, EnvX K Jx Xd W S0 H0 α H σ ρ → clr ρ ws → Dv K W (hd (hid S0 α ρ) H) v d → (∀ σ' ρ', Qd ρ' → Env K W S0 H0 α H σ' ρ' → clr ρ' ws → hid S0 α ρ' = hid S0 α ρ → wipe σ' ws = wipe σ ws → Q σ' H) → dg d ρ Qd → g v σ H Q
def RefGsc (K : PySem.W.Frag) (Jx : WX) (Xd : XD) (ws : List Nat) (g : TGs) (dg : DGs) : Prop := ∀ W S0 H0 α H σ ρ ds vs Qd Q, EnvX K Jx Xd W S0 H0 α H σ ρ → clr ρ ws → DvA K W (hd (hid S0 α ρ) H) vs ds → (∀ σ' ρ', Qd ρ' → Env K W S0 H0 α H σ' ρ' → clr ρ' ws → hid S0 α ρ' = hid S0 α ρ → wipe σ' ws = wipe σ ws → Q σ' H) → dg ds ρ Qd → g vs σ H Q
theorem wipe_set {σ : L2.St} {x : Option V} : ∀ {ws : List Nat} {i : Nat}, i ∈ ws → wipe (σ.set i x) ws = wipe σ ws
  | v :: vs, i, h => by
    show (wipe (σ.set i x) vs).set v none = (wipe σ vs).set v none
    by_cases m : i ∈ vs
    · rw [wipe_set m]
    · have e : i = v := by
        rcases List.mem_cons.mp h with e | e
        · exact e
        · exact absurd e m
      subst e
      have sw : ∀ {us : List Nat}, i ∉ us → wipe (σ.set i x) us = (wipe σ us).set i x := by
        intro us
        induction us with
        | nil => intro _; rfl
        | cons u us ih =>
          intro hm
          show (wipe (σ.set i x) us).set u none = ((wipe σ us).set u none).set i x
          rw [ih fun e => hm (by simp [e]), List.set_comm _ _ fun e => hm (by simp [e])]
      rw [sw m, List.set_set]
theorem pt_own {ρ : Ro} {i j : Nat} {d : Dt} (c : (gt ρ i).owned = false) : (gt (pt ρ i (.val d)) j).owned = (gt ρ j).owned := by
  by_cases e : j = i
  · subst e
    by_cases l : j < ρ.length
    · rw [gt_pt l, c]
      rfl
    · rw [gt_pt_out (by omega)]
  · rw [gt_pt_ne e]
theorem rcN {K : PySem.W.Frag} {Jx : WX} {Xd : XD} {ws : List Nat} (i : Nat) (h : i ∈ ws) : RefGc K Jx Xd ws (gName i) (gN i) := fun W S0 H0 α H σ ρ d v Qd Q I cl hv c q => by
  obtain ⟨I2, e2⟩ := I.set hv
  refine c _ _ q I2 (fun j hj => by rw [pt_own (cl i h)]; exact cl j hj) ?_ (wipe_set h)
  funext a
  unfold hid
  simp only [pt_own (cl i h)]
theorem rcsNil {K : PySem.W.Frag} {Jx : WX} {Xd : XD} {ws : List Nat} : RefGsc K Jx Xd ws gNil gsNil := fun W S0 H0 α H σ ρ ds vs Qd Q I cl hv c h => by
  cases hv with
  | nil => exact ⟨rfl, c _ _ h I.toEnv cl rfl rfl⟩
  | cons _ _ => exact h.elim
theorem rcsCons {K : PySem.W.Frag} {Jx : WX} {Xd : XD} {ws : List Nat} {g : TG} {dg : DG} {gs : TGs} {dgs : DGs} (a : RefGc K Jx Xd ws g dg) (b : RefGsc K Jx Xd ws gs dgs) : RefGsc K Jx Xd ws (gCons g gs) (gsCons dg dgs) := fun W S0 H0 α H σ ρ ds vs Qd Q I cl hv c h => by
  cases hv with
  | nil => exact h.elim
  | cons h1 h2 => exact ⟨_, _, rfl, a W S0 H0 α H σ ρ _ _ _ _ I cl h1 (fun σ' ρ' p I' cl' e w => b W S0 H0 α H σ' ρ' _ _ Qd Q (I.next I' (by rw [e]; exact Same.refl _)) cl' (by rw [e]; exact h2) (fun σ2 ρ2 p2 I2 cl2 e2 w2 => c σ2 ρ2 p2 I2 cl2 (e2.trans e) (w2.trans w)) p) h⟩
theorem rcT {K : PySem.W.Frag} {Jx : WX} {Xd : XD} {ws : List Nat} {gs : TGs} {dgs : DGs} (n : Nat) (a : RefGsc K Jx Xd ws gs dgs) : RefGc K Jx Xd ws (gTup K n gs) (gT n dgs) := fun W S0 H0 α H σ ρ d v Qd Q I cl hv c h => by
  cases hv with
  | tup h1 h2 => exact ⟨_, _, rfl, same_sqt hd_le h1, h2.len.trans h.1, a W S0 H0 α H σ ρ _ _ Qd Q I cl h2 c h.2⟩
  | _ => exact h.elim
theorem wipe_wipe_sub {σ : L2.St} {ws : List Nat} : ∀ us : List Nat, (∀ i, i ∈ us → i ∈ ws) → wipe (wipe σ us) ws = wipe σ ws
  | [], _ => rfl
  | u :: us, h => by
    show wipe ((wipe σ us).set u none) ws = _
    rw [wipe_set (h u (by simp)), wipe_wipe_sub us fun i hi => h i (by simp [hi])]
theorem wipe_wipe' {σ : L2.St} {ws : List Nat} : wipe (wipe σ ws) ws = wipe σ ws := wipe_wipe_sub ws fun _ h => h
def if2 (b : Bool) (p q : Prop) : Prop := match b with
  | true => p
  | false => q
def dLcGo (dg : DG) (dt : DT) (de : DE) (ρ : Ro) (Q : List Dt → Prop) : List Dt → List Dt → Prop
  | [], acc => Q acc
  | x :: xs, acc => dg x ρ fun ρ' => dt ρ' fun b => if2 b (de ρ' fun y => dLcGo dg dt de ρ Q xs (acc ++ [y])) (dLcGo dg dt de ρ Q xs acc)
def fLc (di : DI) (dg : DG) (dt : DT) (de : DE) (ws : List Nat) : DF := fun ρ Q => (ws.all fun i => !(gt ρ i).owned) = true ∧ di ρ fun items => items.length ≤ 1000000 ∧ dLcGo dg dt de (wp ρ ws) Q items []
def dLc (di : DI) (dg : DG) (dt : DT) (de : DE) (ws : List Nat) : DE := fun ρ Q => fLc di dg dt de ws ρ fun l => Q (.lst l)
theorem rfLc {K : PySem.W.Frag} {Jx : WX} {Xd : XD} {wi : TI} {di : DI} {g : TG} {dg : DG} {tt : TT} {dt : DT} {te : TE} {de : DE} {ws : List Nat} (a : RefJ K Jx Xd wi di) (b : RefGc K Jx Xd ws g dg) (c : RefT K Jx Xd tt dt) (e : RefE K Jx Xd te de) : RefF K Jx Xd (tLc wi g tt te ws) (fLc di dg dt de ws) := fun W S0 H0 α H σ ρ Qd Q I r ⟨hc, h⟩ =>
  v_lc (a W S0 H0 α H σ ρ _ _ I (fun items J H' q gw w => by
    have cl : clr ρ ws := fun i hi => by
      have := List.all_eq_true.mp hc i hi
      simpa using this
    have I1 := I.grow gw
    obtain ⟨n, G, Y, en, wk, hG, hY⟩ := w.ex
    have up0 : ∀ {D : Addr} {X : Hp} {o : HO}, Same (hd (mt W) H') X → H' D = none → ¬mt W D → Same (hd (mt W) H') (upd X D o) := fun s hD nD a o e => by
      rw [upd_ne (ne_of_none (hd_get e).2 hD)]
      exact s a o e
    refine lc_w wk (fun D i H1 => H' D = none ∧ H1 D ≠ none ∧ Gw K W H' H1 ∧ ∃ vs acc, H1 D = some (.lst vs) ∧ vs.length ≤ i ∧ DvA K W (hd (hid (fun a => S0 a ∨ a = D) α ρ) H1) vs acc ∧ dLcGo dg dt de (wp ρ ws) Qd (items.drop i) acc) (fun D hD => ?_) (fun D i H1 _ ⟨hD, _, g1, _⟩ => ?_) ?_ ?_
    · exact ⟨hD, (by rw [upd_same]; exact fun z => nomatch z), Gw.new I1.gw.bag hD, [], [], upd_same, Nat.le_refl _, .nil, q.2⟩
    · exact hG (hid S0 α ρ) H1 ⟨g1.hd I1.hms, fun a o e => g1.keep a o (hd_get e).1 (hd_get e).2⟩
    · rintro D i x H1 H2 hD0 hi ⟨hD, hD1, g1, vs, acc, e1, e2, e3, go⟩ y
      have sMh : Same (hd (hid S0 α ρ) H') (hd (hid (fun a => S0 a ∨ a = D) α ρ) H1) := fun a o e => by
        obtain ⟨h1, h2⟩ := hd_get e
        refine hd_at (g1.keep a o (fun z => h1 (I1.hms a z)) h2) fun z => ?_
        rcases z with (z | z) | z
        · exact h1 (.inl z)
        · exact ne_of_none h2 hD z
        · exact h1 (.inr z)
      obtain ⟨Ih, _⟩ := I1.hide g1 hD hD1 (I1.noMt hD)
      obtain ⟨⟨d, hd1, hd2⟩, tn⟩ := hY (hid (fun a => S0 a ∨ a = D) α ρ) i H1 x H2 hi ⟨sMh, fun a o e => g1.keep a o (hd_get e).1 (hd_get e).2⟩ Ih.hkn y
      have g2 := gw_turn Ih.gw.bag tn
      obtain ⟨Iw, hw⟩ := (Ih.grow g2).wipe cl
      have il : i < items.length := by omega
      have ed : items.drop i = d :: items.drop (i + 1) := by
        rw [List.drop_eq_getElem_cons il]
        rw [List.getElem?_eq_getElem il] at hd1
        rw [Option.some.inj hd1]
      rw [ed] at go
      have nD : ¬mt W D := fun ⟨z, hz⟩ => by
        have := (I1.gw.bag D z hz).some
        exact this hD
      have stay : ∀ {H4 : Hp}, Gw K W H2 H4 → H4 D = some (.lst vs) := fun g4 => (g2.trans g4).keep _ _ nD e1
      have cw : clr (wp ρ ws) ws := fun i hi => by
        rcases wp_or (ρ := ρ) (ws := ws) (i := i) with h | ⟨_, h⟩
        · rw [h]; rfl
        · exact absurd hi h
      have gUp : ∀ {H4 : Hp} {o : HO}, Gw K W H1 H4 → Gw K W H' (upd H4 D o) := fun g4 => .put I1.gw.bag (g1.trans g4) hD
      refine b W _ H0 α H2 _ (wp ρ ws) d x _ _ Iw cw (by rw [hw]; exact hd2) (fun σ3 ρ3 go3 I3 cl3 h3 w3 => ⟨by rw [w3, wipe_wipe'], ?_⟩) go
      have I3 := Iw.next I3 (by rw [h3]; exact Same.refl _)
      refine c W _ H0 α H2 σ3 ρ3 _ _ I3 (fun k H3 q3 g3 => ?_) go3
      cases k with
      | true =>
        refine (if_pos rfl).mpr (e W _ H0 α H3 σ3 ρ3 _ _ (I3.grow g3) (fun dy y4 H4 q4 g4 hy => ?_) q3)
        have g34 := g3.trans g4
        have eD := stay g34
        have smU := hd_set (S := hid (fun a => S0 a ∨ a = D) α ρ) (H := H4) (o := .lst (vs ++ [y4])) (a := D) (.inl (.inr rfl))
        rw [h3, hw] at hy
        exact ⟨vs, eD, by rw [sizeLine_eq]; exact Nat.lt_of_le_of_lt e2 (Nat.lt_of_lt_of_le hi (by rw [en]; exact Nat.le_trans q.1 (by decide))), hD, (by rw [upd_same]; exact fun z => nomatch z), gUp (g2.trans g34), _, acc ++ [dy], upd_same, (by simp; omega),
          ((e3.same ((g2.trans g34).hd Ih.hms)).same smU).app (.one (hy.same smU)), q4⟩
      | false =>
        refine (if_neg Bool.false_ne_true).mpr ?_
        exact ⟨hD, (g2.trans g3).ne D hD1, g1.trans (g2.trans g3), vs, acc, stay g3, by omega, e3.same ((g2.trans g3).hd Ih.hms), q3⟩
    · rintro D H1 hD0 ⟨hD, hD1, g1, vs, acc, e1, e2, e3, go⟩
      rw [en, List.drop_length] at go
      have hDH : H D = none := by
        cases z : H D with
        | none => rfl
        | some u => exact absurd hD (gw.ne D (by rw [z]; exact fun q => nomatch q))
      exact r acc D vs H1 go (gw.trans g1) hDH e1 e3) h)
/-- a new list as a value -/
theorem RefF.e {K : PySem.W.Frag} {Jx : WX} {Xd : XD} {te : TE} {df : DF} (a : RefF K Jx Xd te df) : RefE K Jx Xd te (fun ρ Q => df ρ fun l => Q (.lst l)) := fun W S0 H0 α H σ ρ Qd Q I c h =>
  a W S0 H0 α H σ ρ _ _ I (fun l p vs H' q g hp hp' hv => c _ _ H' q g (.lst (hd_at hp' (I.ok.out hp)) (hv.same (hd_sub fun a z => z.elim (fun y => .inl (.inl y)) .inr)))) h
theorem rLc {K : PySem.W.Frag} {Jx : WX} {Xd : XD} {wi : TI} {di : DI} {g : TG} {dg : DG} {tt : TT} {dt : DT} {te : TE} {de : DE} {ws : List Nat} (a : RefJ K Jx Xd wi di) (b : RefGc K Jx Xd ws g dg) (c : RefT K Jx Xd tt dt) (e : RefE K Jx Xd te de) : RefE K Jx Xd (tLc wi g tt te ws) (dLc di dg dt de ws) := (rfLc a b c e).e

end
section

/-! ### operators over data -/
mutual
def plain : Dt → Bool
  | .non => true
  | .bl _ => true
  | .int _ => true
  | .str _ => true
  | .lst l => plainAll l
  | .tup l => plainAll l
  | _ => false
def plainAll : List Dt → Bool
  | [] => true
  | d :: r => plain d && plainAll r
end
mutual
def pyD : Dt → PyData
  | .bl b => .bool b
  | .int i => .int i
  | .str s => .str s
  | .lst l => .list (pyAll l)
  | .tup l => .tuple (pyAll l)
  | _ => .none
def pyAll : List Dt → List PyData
  | [] => []
  | d :: r => pyD d :: pyAll r
end
section
variable {K : PySem.W.Frag} {W : Wd} {A : Hp}
mutual
theorem Dv.dp : ∀ {v : V} {d : Dt}, Dv K W A v d → plain d = true → Dp K A v (pyD d)
  | _, _, .non, _ => .non
  | _, _, .bl b, _ => .bl b
  | _, _, .int i, _ => .int i
  | _, _, .str s, _ => .str s
  | _, _, .lst h r, p => .lst (SqL.of h) (DvA.dp r p)
  | _, _, .tup h r, p => .tup h (DvA.dp r p)
theorem DvA.dp : ∀ {vs : List V} {ds : List Dt}, DvA K W A vs ds → plainAll ds = true → DpAll K A vs (pyAll ds)
  | _, _, .nil, _ => .nil
  | _, _, .cons h r, p => .cons (Dv.dp h (Bool.and_eq_true_iff.mp p).1) (DvA.dp r (Bool.and_eq_true_iff.mp p).2)
end
end
theorem plainAll_iff : ∀ {l : List Dt}, plainAll l = true ↔ ∀ d, d ∈ l → plain d = true
  | [] => ⟨fun _ _ h => (nomatch h), fun _ => rfl⟩
  | a :: r => by
    show (plain a && plainAll r) = true ↔ _
    rw [Bool.and_eq_true, plainAll_iff]
    simp
theorem pyAll_map : ∀ {l : List Dt}, pyAll l = l.map pyD
  | [] => rfl
  | a :: r => by
    show pyD a :: pyAll r = _
    rw [pyAll_map]
    rfl
/-- x == y of scalars, of plain data -/
def eqQ (x y : Dt) (Q : Bool → Prop) : Prop := match x, y with
  | .int i, .int j => Q (decide (i = j))
  | .str i, .str j => Q (decide (i = j))
  | .bl i, .bl j => Q (decide (i = j))
  | x, y => plain x = true ∧ plain y = true ∧ SeqAt.shaped (pyD x) = true ∧ SeqAt.shaped (pyD y) = true ∧ Q (PyData.eqv (pyD x) (pyD y))
def oAdd : DOp := fun x y Q => match x, y with
  | .int i, .int j => Q (.int (i + j))
  | .str a, .str b => a.length + b.length ≤ 16777216 ∧ Q (.str (a ++ b))
  | .lst a, .lst b => a.length + b.length ≤ 16777216 ∧ Q (.lst (a ++ b))
  | .tup a, .tup b => (a ≠ [] ∧ a.length + b.length ≤ 16777216) ∧ Q (.tup (a ++ b))
  | _, _ => False
def oInt (f : Int → Int → Dt) : DOp := fun x y Q => match x, y with
  | .int i, .int j => Q (f i j)
  | _, _ => False
def oIntC (C : Int → Int → Prop) (f : Int → Int → Dt) : DOp := fun x y Q => match x, y with
  | .int i, .int j => C i j ∧ Q (f i j)
  | _, _ => False
def oSub : DOp := oInt fun i j => .int (i - j)
def cMul (i j : Int) : Prop := CMul i j ∨ CMulW i j
def oMul : DOp := fun x y Q => match x, y with
  | .int i, .int j => cMul i j ∧ Q (.int (i * j))
  | .lst l, .int k => (-(2 ^ 63) ≤ k ∧ k < 2 ^ 63 ∧ l.length * k.toNat ≤ 16777216) ∧ Q (.lst (List.replicate k.toNat l).flatten)
  | _, _ => False
def oDivv : DOp := oIntC CDivV fun i j => .int (i.fdiv j)
def oMod : DOp := oIntC (fun _ j => j ≠ 0) fun i j => .int (i.fmod j)
def oPow : DOp := oIntC CPow fun i j => .int (i ^ j.toNat)
def oLt : DOp := oInt fun i j => .bl (decide (i < j))
def oLe : DOp := oInt fun i j => .bl (decide (i ≤ j))
def oGt : DOp := oInt fun i j => .bl (decide (j < i))
def oGe : DOp := oInt fun i j => .bl (decide (j ≤ i))
def oEq : DOp := fun x y Q => eqQ x y fun b => Q (.bl b)
def oNe : DOp := fun x y Q => eqQ x y fun b => Q (.bl (!b))
def isNonD : Dt → Bool
  | .non => true
  | _ => false
def oIs : DOp := fun x y Q => match y with
  | .non => Q (.bl (isNonD x))
  | _ => False
def oNot : DOp := fun x y Q => match y with
  | .non => Q (.bl (!isNonD x))
  | _ => False
def inQ (x y : Dt) (Q : Bool → Prop) : Prop := match y with
  | .lst l => plain x = true ∧ plainAll l = true ∧ SeqAt.shaped (pyD x) = true ∧ SeqAt.shaped (pyD (.lst l)) = true ∧ Q ((pyAll l).any fun z => PyData.eqv z (pyD x))
  | .str b => match x with
    | .str a => Q (!(Builtin.Str.occurrences b a 0 b.length 1).isEmpty)
    | _ => False
  | _ => False
def oIn : DOp := fun x y Q => inQ x y fun b => Q (.bl b)
def oNin : DOp := fun x y Q => inQ x y fun b => Q (.bl (!b))
def oIx : DOp := fun x y Q => match y with
  | .int k => dSeqOf x fun l => match atI l k with
    | some d => Q d
    | none => False
  | _ => False
def uNeg : DUn := fun x Q => match x with
  | .int i => Q (.int (-i))
  | _ => False
section
variable {K : PySem.W.Frag} {W : Wd} {S : Addr → Prop} {H : Hp}
theorem sh_dp {v : V} {d : Dt} (h : Sh K W S H v d) (p : plain d = true) : Dp K H v (pyD d) := by
  cases d with
  | lst l =>
    obtain ⟨a, vs, rfl, h1, h2, h3⟩ := h
    exact .lst (SqL.of h2) (DvA.dp (h3.same hd_le) p)
  | obj C fs => cases p
  | _ => exact Dv.dp (Dv.same hd_le h) p
theorem shInt {v : V} {i : Int} (h : Sh K W S H v (.int i)) : v = .int i := by
  cases (show Dv K W (hd S H) v (.int i) from h)
  rfl
theorem shStr {v : V} {i : Str} (h : Sh K W S H v (.str i)) : v = .str i := by
  cases (show Dv K W (hd S H) v (.str i) from h)
  rfl
theorem shBl {v : V} {i : Bool} (h : Sh K W S H v (.bl i)) : v = .bl i := by
  cases (show Dv K W (hd S H) v (.bl i) from h)
  rfl
theorem foI {f : Int → Int → V} {g : Int → Int → Dt} (hf : ∀ i j H, Dv K W H (f i j) (g i j)) : ∀ W' S H x y d e Qd Q, W' = W → Ok K W' S H → Sh K W' S H x d → Sh K W' S H y e → Cn K W' S H Qd Q → oInt g d e Qd → rI0 f x y H Q := fun W' S H x y d e Qd Q ew O hx hy c h => by
  subst ew
  match d, e, h, hx, hy with
  | .int i, .int j, h, hx, hy =>
    rw [shInt hx, shInt hy]
    exact v_i0 (c.now O h (hf i j _))
theorem foC {f : Int → Int → V} {g : Int → Int → Dt} {C : Int → Int → Prop} (hf : ∀ i j W H, Dv K W H (f i j) (g i j)) : RefOp K (rI C f) (oIntC C g) := fun W S H x y d e Qd Q O hx hy c h => by
  match d, e, h, hx, hy with
  | .int i, .int j, h, hx, hy =>
    rw [shInt hx, shInt hy]
    exact v_i h.1 (c.now O h.2 (hf i j W _))
theorem fo0 {f : Int → Int → V} {g : Int → Int → Dt} (hf : ∀ i j W H, Dv K W H (f i j) (g i j)) : RefOp K (rI0 f) (oInt g) := fun W S H x y d e Qd Q O hx hy c h => foI (fun i j H => hf i j W H) W S H x y d e Qd Q rfl O hx hy c h
theorem foSub : RefOp K rSubI oSub := fo0 fun i j W H => .int _
theorem foLt : RefOp K rLtI oLt := fo0 fun i j W H => .bl _
theorem foLe : RefOp K rLeI oLe := fo0 fun i j W H => .bl _
theorem foGt : RefOp K rGtI oGt := fo0 fun i j W H => .bl _
theorem foGe : RefOp K rGeI oGe := fo0 fun i j W H => .bl _
theorem foDivv : RefOp K rDivV oDivv := foC fun i j W H => .int _
theorem foPow : RefOp K rPowU oPow := foC fun i j W H => .int _
theorem foMod : RefOp K rModU oMod := fun W S H x y d e Qd Q O hx hy c h => .inr (foC (C := fun _ j => j ≠ 0) (f := fun i j => .int (i.fmod j)) (g := fun i j => .int (i.fmod j)) (fun i j W H => .int _) W S H x y d e Qd Q O hx hy c h)
theorem foMul : RefOp K rMulU oMul := fun W S H x y d e Qd Q O hx hy c h => by
  match d, e, h, hx, hy with
  | .int i, .int j, h, hx, hy =>
    rw [shInt hx, shInt hy]
    rcases h.1 with m | m
    · exact v_muli m (c.now O h.2 (.int _))
    · exact v_mulw m (c.now O h.2 (.int _))
  | .lst l, .int k, h, hx, hy =>
    obtain ⟨a, vs, rfl, h1, h2, h3⟩ := hx
    rw [shInt hy]
    refine .inr (.inr ⟨a, k, vs, rfl, rfl, h2, h.1.1, h.1.2.1, by rw [h3.len, sizeLine_eq]; exact Nat.le_trans h.1.2.2 (by decide), fun p hp => c.new O hp h.2 (dv_newL O hp ?_)⟩)
    generalize k.toNat = n
    induction n with
    | zero => exact .nil
    | succ n ih =>
      rw [List.replicate_succ, List.replicate_succ, List.flatten_cons, List.flatten_cons]
      exact h3.app ih
theorem foAdd : RefOp K (rAddU K) oAdd := fun W S H x y d e Qd Q O hx hy c h => by
  match d, e, h, hx, hy with
  | .int i, .int j, h, hx, hy =>
    rw [shInt hx, shInt hy]
    exact v_addi (c.now O h (.int _))
  | .str i, .str j, h, hx, hy =>
    rw [shStr hx, shStr hy]
    exact v_adds (by rw [sizeLine_eq]; exact Nat.le_trans h.1 (by decide)) (c.now O h.2 (.str _))
  | .lst l, .lst m, h, hx, hy =>
    obtain ⟨a, vs, rfl, h1, h2, h3⟩ := hx
    obtain ⟨b, us, rfl, k1, k2, k3⟩ := hy
    exact v_addl h2 k2 (by rw [h3.len, k3.len, sizeLine_eq]; exact Nat.le_trans h.1 (by decide)) fun p hp => c.new O hp h.2 (dv_newL O hp (h3.app k3))
  | .tup l, .tup m, h, hx, hy =>
    cases (show Dv K W (hd S H) x (.tup l) from hx) with
    | @tup _ xs _ h1 h2 =>
      cases (show Dv K W (hd S H) y (.tup m) from hy) with
      | @tup _ ys _ k1 k2 =>
        have ne : xs ≠ [] := fun z => h.1.1 (List.eq_nil_of_length_eq_zero (by rw [← h2.len, z]; rfl))
        refine .inr (.inr (.inr ⟨_, _, xs, ys, rfl, rfl, same_sqt hd_le h1, same_sqt hd_le k1, ne, by rw [h2.len, k2.len, sizeLine_eq]; exact Nat.le_trans h.1.2 (by decide), fun z => ?_, fun _ p hp => c.new O hp h.2 (dv_newT O hp (h2.app k2))⟩))
        have zm : m = [] := List.eq_nil_of_length_eq_zero (by rw [← k2.len, z]; rfl)
        subst zm
        have q := h.2
        rw [List.append_nil] at q
        exact c.now O q (.tup h1 h2)
theorem eqQ_ok {x y : V} {d e : Dt} {Qb : Bool → Prop} (hx : Sh K W S H x d) (hy : Sh K W S H y e) (h : eqQ d e Qb) : ∃ b, Qb b ∧ ∀ Q : VK, (Q (.bl b) H → rEqU K x y H Q) ∧ (Q (.bl (!b)) H → rNeU K x y H Q) := by
  have gen : plain d = true ∧ plain e = true ∧ SeqAt.shaped (pyD d) = true ∧ SeqAt.shaped (pyD e) = true ∧ Qb (PyData.eqv (pyD d) (pyD e)) → ∃ b, Qb b ∧ ∀ Q : VK, (Q (.bl b) H → rEqU K x y H Q) ∧ (Q (.bl (!b)) H → rNeU K x y H Q) := fun ⟨p1, p2, s1, s2, q⟩ =>
    ⟨_, q, fun Q => ⟨fun k => v_eqd (sh_dp hx p1) (sh_dp hy p2) s1 s2 k, fun k => .inr ⟨_, _, sh_dp hx p1, sh_dp hy p2, s1, s2, k⟩⟩⟩
  unfold eqQ at h
  split at h
  · rw [shInt hx, shInt hy]
    exact ⟨_, h, fun Q => ⟨fun k => v_eqi k, fun k => v_nei k⟩⟩
  · rw [shStr hx, shStr hy]
    exact ⟨_, h, fun Q => ⟨fun k => v_eqs k, fun k => v_nes k⟩⟩
  · rename_i i j
    rw [shBl hx, shBl hy]
    refine ⟨_, h, fun Q => ⟨fun k => v_eqb k, fun k => .inl ⟨rfl, ?_⟩⟩⟩
    rw [show decide (V.bl i = V.bl j) = decide (i = j) from by rw [decide_eq_decide]; exact ⟨fun z => V.bl.inj z, fun z => by rw [z]⟩]
    exact k
  · exact gen h
theorem foEq : RefOp K (rEqU K) oEq := fun W S H x y d e Qd Q O hx hy c h => by
  obtain ⟨b, q, k⟩ := eqQ_ok hx hy h
  exact (k Q).1 (c.now O q (.bl b))
theorem foNe : RefOp K (rNeU K) oNe := fun W S H x y d e Qd Q O hx hy c h => by
  obtain ⟨b, q, k⟩ := eqQ_ok hx hy h
  exact (k Q).2 (c.now O q (.bl (!b)))
theorem sh_non {v : V} {d : Dt} (h : Sh K W S H v d) : decide (v = .non) = isNonD d := by
  cases d with
  | lst l =>
    obtain ⟨a, vs, rfl, _⟩ := h
    exact decide_eq_false (fun z => nomatch z)
  | obj C fs =>
    obtain ⟨a, dx, gs, rfl, _⟩ := h
    exact decide_eq_false (fun z => nomatch z)
  | non => cases (show Dv K W (hd S H) v .non from h); rfl
  | _ => cases (show Dv K W (hd S H) v _ from h) <;> exact decide_eq_false (fun z => nomatch z)
theorem foIs : RefOp K rIsN oIs := fun W S H x y d e Qd Q O hx hy c h => by
  match e, h, hy with
  | .non, h, hy =>
    cases (show Dv K W (hd S H) y .non from hy)
    refine ⟨rfl, ?_⟩
    rw [sh_non hx]
    exact c.now O h (.bl _)
theorem foNot : RefOp K rNotN oNot := fun W S H x y d e Qd Q O hx hy c h => by
  match e, h, hy with
  | .non, h, hy =>
    cases (show Dv K W (hd S H) y .non from hy)
    refine ⟨rfl, ?_⟩
    rw [sh_non hx]
    exact c.now O h (.bl _)
theorem inQ_ok {x y : V} {d e : Dt} {Qb : Bool → Prop} (hx : Sh K W S H x d) (hy : Sh K W S H y e) (h : inQ d e Qb) : ∃ b, Qb b ∧ ∀ Q : VK, (Q (.bl b) H → rInU K x y H Q) ∧ (Q (.bl (!b)) H → rNInU K x y H Q) := by
  match e, h, hy with
  | .lst l, h, hy =>
    obtain ⟨p1, p2, s1, s2, q⟩ := h
    exact ⟨_, q, fun Q => ⟨fun k => .inr (.inr ⟨_, _, sh_dp hx p1, sh_dp (d := .lst l) hy p2, s1, s2, k⟩), fun k => .inr (.inr ⟨_, _, sh_dp hx p1, sh_dp (d := .lst l) hy p2, s1, s2, k⟩)⟩⟩
  | .str b, h, hy =>
    match d, h, hx with
    | .str a, h, hx =>
      rw [shStr hx, shStr hy]
      exact ⟨_, h, fun Q => ⟨fun k => .inr (.inl ⟨a, b, rfl, rfl, k⟩), fun k => .inr (.inl ⟨a, b, rfl, rfl, k⟩)⟩⟩
theorem foIn : RefOp K (rInU K) oIn := fun W S H x y d e Qd Q O hx hy c h => by
  obtain ⟨b, q, k⟩ := inQ_ok hx hy h
  exact (k Q).1 (c.now O q (.bl b))
theorem foNin : RefOp K (rNInU K) oNin := fun W S H x y d e Qd Q O hx hy c h => by
  obtain ⟨b, q, k⟩ := inQ_ok hx hy h
  exact (k Q).2 (c.now O q (.bl (!b)))
theorem dva_atI {xs : List V} {l : List Dt} {k : Int} {d : Dt} {A : Hp} (h : DvA K W A xs l) (e : atI l k = some d) : ∃ v, atI xs k = some v ∧ Dv K W A v d := by
  unfold atI at e ⊢
  rw [h.len]
  cases q : ixN l.length k with
  | none => rw [q] at e; cases e
  | some j =>
    rw [q] at e
    exact h.get' e
theorem foIx : RefOp K (rIx K) oIx := fun W S H x y d e Qd Q O hx hy c h => by
  match e, h, hy with
  | .int k, h, hy =>
    rw [shInt hy]
    obtain ⟨a, t, xs, l, rfl, h1, h2, h3, _⟩ := sh_seq O hx h
    cases q : atI l k with
    | none => rw [q] at h3; exact h3.elim
    | some d' =>
      rw [q] at h3
      obtain ⟨v, e1, e2⟩ := dva_atI h2 q
      exact v_ixb h1 e1 (c.now O h3 e2)
theorem fuNeg : RefUn K rNegI uNeg := fun W S H x d Qd Q O hx c h => by
  match d, h, hx with
  | .int i, h, hx =>
    rw [shInt hx]
    exact v_neg (c.now O h (.int _))
end
/-! built-ins -/
def c1 (o : DUn) : DC := fun ds Q => match ds with
  | [x] => o x Q
  | _ => False
def lenQ (x : Dt) (Q : Nat → Prop) : Prop := match x with
  | .str z => z.length ≤ 16777216 ∧ Q z.length
  | x => dSeqOf x fun l => Q l.length
def uLen : DUn := fun x Q => lenQ x fun n => Q (.int n)
def uAbs : DUn := fun x Q => match x with
  | .int i => Q (.int (if i < 0 then -i else i))
  | _ => False
def uInt1 : DUn := fun x Q => match x with
  | .int i => Q (.int i)
  | .bl k => Q (.int (if k then 1 else 0))
  | _ => False
def uStr : DUn := fun x Q => match x with
  | .int i => i.natAbs.log2 < 1920 ∧ Q (.str (toString i))
  | _ => False
def uList : DUn := fun x Q => dSeqOf x fun l => Q (.lst l)
def uTuple : DUn := fun x Q => dSeqOf x fun l => Q (.tup l)
def cMin2 : DC := fun ds Q => match ds with
  | [.int i, .int j] => Q (.int (if j < i then j else i))
  | _ => False
def cMax2 : DC := fun ds Q => match ds with
  | [.int i, .int j] => Q (.int (if j > i then j else i))
  | _ => False
def cGcd : DC := fun ds Q => match ds with
  | [.int i, .int j] => Q (.int (Int.gcd i j))
  | _ => False
def uAll : DUn := fun x Q => ∃ bs : List Bool, x = .lst (bs.map Dt.bl) ∧ Q (.bl (bs.all id))
def uAny : DUn := fun x Q => (∃ bs : List Bool, x = .lst (bs.map Dt.bl) ∧ Q (.bl (bs.any id))) ∨ ∃ ns : List Int, x = .lst (ns.map Dt.int) ∧ Q (.bl (ns.any fun n => n != 0))
def uSum : DUn := fun x Q => ∃ ns : List Int, x = .lst (ns.map Dt.int) ∧ Q (.int ns.sum)
section
variable {K : PySem.W.Frag} {W : Wd} {S : Addr → Prop} {H : Hp}
theorem fc1 {r : List V → Hp → VK → Prop} {o : DUn} (h : ∀ W S H x d Qd Q, Ok K W S H → Sh K W S H x d → Cn K W S H Qd Q → o d Qd → r [x] H Q) : RefC K r (c1 o) := fun W S H xs ds Qd Q O hs c q => by
  match ds, q, hs with
  | [d], q, .cons hx .nil => exact h W S H _ d Qd Q O hx c q
theorem fc2 {r : List V → Hp → VK → Prop} {o : DC} (h : ∀ W S H x y d e Qd Q, Ok K W S H → Sh K W S H x d → Sh K W S H y e → Cn K W S H Qd Q → o [d, e] Qd → r [x, y] H Q) (n : ∀ ds Q, o ds Q → ds.length = 2) : RefC K r o := fun W S H xs ds Qd Q O hs c q => by
  match ds, n _ _ q, q, hs with
  | [d, e], _, q, .cons hx (.cons hy .nil) => exact h W S H _ _ d e Qd Q O hx hy c q
theorem fcLen : RefC K (rLenU K) (c1 uLen) := fc1 fun W S H x d Qd Q O hx c h => by
  by_cases s : ∃ z, d = .str z
  · obtain ⟨z, rfl⟩ := s
    rw [shStr hx]
    have h' : z.length ≤ 16777216 ∧ Qd (.int z.length) := h
    exact v_lens (by rw [sizeLine_eq]; exact Nat.le_trans h'.1 (by decide)) (c.now O h'.2 (.int _))
  · have h' : dSeqOf d fun l => Qd (.int l.length) := by
      cases d with
      | str z => exact absurd ⟨z, rfl⟩ s
      | _ => exact h
    obtain ⟨a, t, xs, l, rfl, h1, h2, h3, _⟩ := sh_seq O hx h'
    refine v_lenb h1 ?_
    rw [h2.len]
    exact c.now O h3 (.int _)
theorem fcAbs : RefC K rAbs (c1 uAbs) := fc1 fun W S H x d Qd Q O hx c h => by
  match d, h, hx with
  | .int i, h, hx =>
    rw [shInt hx]
    exact v_abs (c.now O h (.int _))
theorem fcInt1 : RefC K rInt1 (c1 uInt1) := fc1 fun W S H x d Qd Q O hx c h => by
  match d, h, hx with
  | .int i, h, hx =>
    rw [shInt hx]
    exact v_int (c.now O h (.int _))
  | .bl i, h, hx =>
    rw [shBl hx]
    exact .inr ⟨i, rfl, c.now O h (.int _)⟩
theorem fcStr : RefC K rStr (c1 uStr) := fc1 fun W S H x d Qd Q O hx c h => by
  match d, h, hx with
  | .int i, h, hx =>
    rw [shInt hx]
    exact ⟨i, rfl, h.1, c.now O h.2 (.str _)⟩
theorem fcList : RefC K (rListOf K) (c1 uList) := fc1 fun W S H x d Qd Q O hx c h => by
  obtain ⟨a, t, xs, l, rfl, h1, h2, h3, _⟩ := sh_seq O hx h
  exact v_listb h1 fun p hp => c.new O hp h3 (dv_newL O hp h2)
theorem fcTuple : RefC K (rTupOf K) (c1 uTuple) := fc1 fun W S H x d Qd Q O hx c h => by
  cases d with
  | lst l =>
    obtain ⟨a, vs, rfl, h1, h2, h3⟩ := hx
    exact v_tuple (SqL.of h2) fun p hp => c.new O hp h (dv_newT O hp h3)
  | tup l =>
    cases (show Dv K W (hd S H) x (.tup l) from hx) with
    | tup h1 h2 => exact ⟨_, _, rfl, .inr ⟨same_sqt hd_le h1, c.now O h (.tup h1 h2)⟩⟩
  | _ => exact h.elim
theorem fcMin2 : RefC K rMin2 cMin2 := fc2 (fun W S H x y d e Qd Q O hx hy c h => by
  match d, e, h, hx, hy with
  | .int i, .int j, h, hx, hy =>
    rw [shInt hx, shInt hy]
    exact v_min2 (c.now O h (.int _))) fun ds Q h => by
  unfold cMin2 at h
  split at h
  · rfl
  · exact h.elim
theorem fcMax2 : RefC K rMax2 cMax2 := fc2 (fun W S H x y d e Qd Q O hx hy c h => by
  match d, e, h, hx, hy with
  | .int i, .int j, h, hx, hy =>
    rw [shInt hx, shInt hy]
    exact v_max2 (c.now O h (.int _))) fun ds Q h => by
  unfold cMax2 at h
  split at h
  · rfl
  · exact h.elim
theorem fcGcd : RefC K rGcd cGcd := fc2 (fun W S H x y d e Qd Q O hx hy c h => by
  match d, e, h, hx, hy with
  | .int i, .int j, h, hx, hy =>
    rw [shInt hx, shInt hy]
    exact ⟨i, j, rfl, c.now O h (.int _)⟩) fun ds Q h => by
  unfold cGcd at h
  split at h
  · rfl
  · exact h.elim
theorem fcAll : RefC K (rAll K) (c1 uAll) := fc1 fun W S H x d Qd Q O hx c h => by
  obtain ⟨bs, rfl, q⟩ := h
  obtain ⟨a, vs, rfl, h1, h2, h3⟩ := hx
  exact ⟨a, bs, rfl, by rw [← h3.bls]; exact SqL.of h2, c.now O q (.bl _)⟩
theorem fcAny : RefC K (U.rAnyU K) (c1 uAny) := fc1 fun W S H x d Qd Q O hx c h => by
  rcases h with ⟨bs, rfl, q⟩ | ⟨bs, rfl, q⟩
  · obtain ⟨a, vs, rfl, h1, h2, h3⟩ := hx
    exact .inl ⟨a, bs, rfl, by rw [← h3.bls]; exact SqL.of h2, c.now O q (.bl _)⟩
  · obtain ⟨a, vs, rfl, h1, h2, h3⟩ := hx
    exact .inr ⟨a, bs, rfl, by rw [← h3.ints]; exact SqL.of h2, c.now O q (.bl _)⟩
theorem fcSum : RefC K (rSum K) (c1 uSum) := fc1 fun W S H x d Qd Q O hx c h => by
  obtain ⟨ns, rfl, q⟩ := h
  obtain ⟨a, vs, rfl, h1, h2, h3⟩ := hx
  exact ⟨a, ns, rfl, by rw [← h3.ints]; exact SqL.of h2, c.now O q (.int _)⟩
end

end
section

/-! ### own classes over data -/
structure ClsF (L : CL) (K : PySem.W.Frag) : Prop where
  k2 : PySem.W.specialIn K (.builtin "object.__class__") "__get__" = some (some (.builtin "getset_descriptor.__get__"))
  k3 : PySem.W.takesIn K (.builtin "object.__class__") = some true
  cl : ∀ p, p ∈ L → Cls K (He.ga K p.1)
  no : ∀ p, p ∈ L → ∀ f, f ∈ p.2 → NoAttr K (He.ga K p.1) f
  k1 : ∀ p, p ∈ L → PySem.W.findIn K (.ref (He.ga K p.1)) "__class__" = some (some (.builtin "object.__class__"))
  k4 : ∀ p, p ∈ L → PySem.W.mroIn K (He.ga K p.1) (.type "object") = some true
  is : ∀ p, p ∈ L → ∀ q, q ∈ L → PySem.W.kitOne K (.ref (He.ga K p.1)) (.ref (He.ga K q.1)) = some (p.1 == q.1)
  ib : ∀ p, p ∈ L → ∀ T, T ∈ bTys → PySem.W.kitOne K (.type T) (.ref (He.ga K p.1)) = some false
  it : ∀ p, p ∈ L → ∀ T, T ∈ bTys → PySem.W.kitOne K (.ref (He.ga K p.1)) (.type T) = some false
theorem cls_of {L : CL} {K : PySem.W.Frag} (h : clsB L K = true) : ClsF L K := by
  obtain ⟨h1, h⟩ := He.ba h
  obtain ⟨h2, h⟩ := He.ba h
  have g := fun p hp => He.ba (List.all_eq_true.mp h p hp)
  refine ⟨He.eqO_ok h1, of_decide_eq_true h2, fun p hp => He.cls_ok (g p hp).1, fun p hp f hf => He.eqO_ok (List.all_eq_true.mp (He.ba (g p hp).2).1 f hf), fun p hp => He.eqO_ok (He.ba (He.ba (g p hp).2).2).1, fun p hp => of_decide_eq_true (He.ba (He.ba (He.ba (g p hp).2).2).2).1, fun p hp q hq => ?_, fun p hp T hT => ?_, fun p hp T hT => ?_⟩
  · exact of_decide_eq_true (List.all_eq_true.mp (He.ba (He.ba (He.ba (He.ba (g p hp).2).2).2).2).1 q hq)
  · exact of_decide_eq_true (He.ba (List.all_eq_true.mp (He.ba (He.ba (He.ba (He.ba (g p hp).2).2).2).2).2 T hT)).1
  · exact of_decide_eq_true (He.ba (List.all_eq_true.mp (He.ba (He.ba (He.ba (He.ba (g p hp).2).2).2).2).2 T hT)).2
/-- the fields of the class C -/
def flds (L : CL) (C : Str) : Option (List Str) := L.lookup C
theorem flds_mem {L : CL} {C : Str} {fs : List Str} (h : flds L C = some fs) : (C, fs) ∈ L := by
  unfold flds at h
  induction L with
  | nil => cases h
  | cons p L ih =>
    rw [List.lookup_cons] at h
    split at h
    · rename_i e
      cases h
      have : C = p.1 := by simpa using e
      rw [this]
      exact List.mem_cons_self ..
    · exact List.mem_cons_of_mem _ (ih h)
/-- C has the field f -/
def hasF (L : CL) (C f : Str) : Bool := match flds L C with
  | some fs => fs.contains f
  | none => false
theorem ClsF.fld {L : CL} {K : PySem.W.Frag} (c : ClsF L K) {C f : Str} (h : hasF L C f = true) : Cls K (He.ga K C) ∧ NoAttr K (He.ga K C) f := by
  unfold hasF at h
  split at h
  · rename_i fs e
    exact ⟨c.cl _ (flds_mem e), c.no _ (flds_mem e) f (by simpa using h)⟩
  · cases h
def dFld (L : CL) (da : DE) (f : Str) : DE := fun ρ Q => da ρ fun x => match x with
  | .obj C fs => hasF L C f = true ∧ match fs.lookup f with
    | some d => Q d
    | none => False
  | _ => False
/-- self.f = e, self being made -/
def dSetF (L : CL) (i : Nat) (de : DE) (f : Str) : DS := fun D ρ => de ρ fun d => match gt ρ i with
  | .ins x C fs => (hasF L C f = true ∧ fs.length < 900 ∧ fs.lookup f = none) ∧ D.nx (pt ρ i (.ins x C (fs ++ [(f, d)])))
  | _ => False
def tyT : Dt → Option String
  | .non => some "NoneType"
  | .bl _ => some "bool"
  | .int _ => some "int"
  | .str _ => some "str"
  | .lst _ => some "list"
  | .tup _ => some "tuple"
  | _ => none
def kbQ (o : Option Bool) (Q : Bool → Prop) : Prop := match o with
  | some b => Q b
  | none => False
def tbQ (o : Option String) (T : String) (Q : Bool → Prop) : Prop := match o with
  | some t => kbQ (kitB t T) Q
  | none => False
def isiQ (L : CL) (x c : Dt) (Q : Bool → Prop) : Prop := match c with
  | .ty T => match x with
    | .obj C _ => ((flds L C).isSome = true ∧ bTys.contains T = true) ∧ Q false
    | x => tbQ (tyT x) T Q
  | .cls D => (flds L D).isSome = true ∧ match x with
    | .obj C _ => (flds L C).isSome = true ∧ Q (C == D)
    | x => (tyT x).isSome = true ∧ Q false
  | _ => False
def cIsi (L : CL) : DC := fun ds Q => match ds with
  | [x, c] => isiQ L x c fun b => Q (.bl b)
  | _ => False
def dMd (C m : Str) (sd : DSp) (da : DE) (dl : DA) : DE := fun ρ Q => da ρ fun x => match x with
  | .obj D fs => (D = C ∧ fs.lookup m = none) ∧ dl ρ fun ds => sd (.obj D fs :: ds) Q
  | _ => False
def dSd (x : Str) (sd : DSp) (da : DE) (dl : DA) : DE := fun ρ Q => da ρ fun c => match c with
  | .cls y => y = x ∧ dl ρ fun ds => sd ds Q
  | _ => False
def dNew (sd : DSp) (dl : DA) : DE := fun ρ Q => dl ρ fun ds => sd ds Q
def dCallK (sd : DSp) (g : List Dt → List Dt) (dl : DA) : DE := fun ρ Q => dl ρ fun ds => sd (g ds) Q
/-- the promise of an __init__ over the heap -/
def spN (K : PySem.W.Frag) (C : Str) (sd : DSp) : Sp := fun vs H Q _ => ∃ W S x dx ws ds Qd, vs = .ref x :: ws ∧ H x = some (.ins (He.ga K C) dx []) ∧ ¬S x ∧ Ok K W S H ∧ BagI K W (hd (fun a => a = x) H) ∧ DvA K W (hd (fun a => S a ∨ a = x) H) ws ds ∧ sd ds Qd ∧
  ∀ d H', Qd d → Gw K W (hd (fun a => a = x) H) H' → Dv K W (hd S H') (.ref x) d → Q .non H'
section
variable {K : PySem.W.Frag} {Jx : WX} {Xd : XD} {L : CL} {ta tv : TE} {da dv : DE} {t : TA} {dl : DA}
theorem rFld (c : ClsF L K) (f : Str) (a : RefB K Jx Xd ta da) : RefE K Jx Xd (tFld K ta f) (dFld L da f) := fun W S0 H0 α H σ ρ Qd Q I r h =>
  v_fldo (a W S0 H0 α H σ ρ _ _ I (fun d v H1 q g hv => by
    cases d with
    | obj C fs =>
      obtain ⟨q1, q2⟩ := q
      obtain ⟨p, dx, gs, rfl, h1, h2, h3, h4⟩ := hv
      split at q2
      · rename_i d' e
        obtain ⟨v', e1, e2⟩ := h3.get e
        obtain ⟨c1, c2⟩ := c.fld q1
        exact ⟨p, _, dx, gs, v', rfl, h2, c1, c2, e1, r _ _ H1 q2 g e2⟩
      · exact q2.elim
    | _ => exact q.elim) h)
theorem DvF.put {W : Wd} {A : Hp} {gs : List (Str × V)} {fs : List (Str × Dt)} {f : Str} {v : V} {d : Dt} (h : DvF K W A gs fs) (n : fs.lookup f = none) (hv : Dv K W A v d) : DvF K W A (putF f v gs) (fs ++ [(f, d)]) := by
  have key : ∀ {fs : List (Str × Dt)}, DvF K W A gs fs → fs.lookup f = none → DvF K W A (putF f v gs) (fs ++ [(f, d)]) := by
    intro fs
    induction fs with
    | nil => intro _ _; exact .cons (by rw [lookup_putF]; exact if_pos rfl) hv .nil
    | cons p fs ih =>
      intro h n
      cases h with
      | @cons _ g u e _ l hu r =>
        have ne : g ≠ f := fun z => by
          subst z
          rw [List.lookup_cons] at n
          simp at n
        refine .cons (by rw [lookup_putF, if_neg ne]; exact l) hu (ih r ?_)
        rw [List.lookup_cons] at n
        split at n
        · cases n
        · exact n
  exact key h n
theorem lookup_app {β : Type} {f g : Str} {fs : List (Str × β)} {d : β} : (fs ++ [(g, d)]).lookup f = none → fs.lookup f = none ∧ f ≠ g := by
  induction fs with
  | nil =>
    intro h
    refine ⟨rfl, fun z => ?_⟩
    subst z
    simp at h
  | cons p fs ih =>
    intro h
    rw [List.cons_append, List.lookup_cons] at h
    rw [List.lookup_cons]
    split at h
    · cases h
    · rename_i e
      exact ih h
theorem rSetF (c : ClsF L K) (i : Nat) (f : Str) (a : RefE K Jx Xd tv dv) : RefS K Jx Xd (sFld K (tVar i) tv f) (dSetF L i dv f) := fun W S0 H0 α H σ ρ D Dd I r h =>
  v_sfld (a W S0 H0 α H σ ρ _ _ I (fun d v H1 q g hv => by
    cases e : gt ρ i with
    | ins x C fs =>
      rw [e] at q
      obtain ⟨⟨q1, q2, q3⟩, q4⟩ := q
      have I1 := I.grow g
      have sl := I1.sl i
      have o : (gt ρ i).owned = true := by rw [e]; rfl
      rw [e] at sl
      obtain ⟨e1, ex, dx, gs, e2, e3, e4, e5⟩ := sl
      obtain ⟨c1, c2⟩ := c.fld q1
      have sm := hd_set (S := hid S0 α ρ) (H := H1) (o := .ins (He.ga K C) dx (putF f v gs)) (a := α i) (.inr ⟨i, o, rfl⟩)
      have e6 := e3.put q3 hv
      obtain ⟨I2, s2⟩ := I1.put (s := .ins x C (fs ++ [(f, d)])) (u := .ins (He.ga K C) dx (putF f v gs)) o rfl ⟨rfl, ex, dx, _, upd_same, e6.same sm, fun f' hf => by
        obtain ⟨n1, n2⟩ := lookup_app hf
        rw [lookup_putF, if_neg n2]
        exact e4 f' n1, by
        have := length_putF f v gs
        rw [List.length_append]
        simp only [List.length_singleton]
        omega⟩ e1
      exact ⟨_, e1, α i, _, dx, gs, rfl, e2, c1, c2, by omega, r.nx _ _ _ _ q4 I2 ((g.hd I.hms).trans s2)⟩
    | _ =>
      rw [e] at q
      exact q.elim) h)
theorem sh_ty {W : Wd} {S : Addr → Prop} {H : Hp} {v : V} {d : Dt} {t : String} (h : Sh K W S H v d) (e : tyT d = some t) : TyX K H v (.type t) := by
  cases d with
  | lst l =>
    obtain ⟨a, vs, rfl, _, h2, _⟩ := h
    cases e
    exact .base (.lst h2)
  | tup l =>
    cases (show Dv K W (hd S H) v (.tup l) from h) with
    | tup h1 h2 =>
      cases e
      exact sqt_ty (same_sqt hd_le h1)
  | non => cases (show Dv K W (hd S H) v .non from h); cases e; exact .base .non
  | bl b => cases (show Dv K W (hd S H) v (.bl b) from h); cases e; exact .base (.bl b)
  | int b => cases (show Dv K W (hd S H) v (.int b) from h); cases e; exact .base (.int b)
  | str b => cases (show Dv K W (hd S H) v (.str b) from h); cases e; exact .base (.str b)
  | _ => cases e
theorem ty_bTys {d : Dt} {t : String} (e : tyT d = some t) : t ∈ bTys := by
  cases d <;> cases e <;> decide
theorem fcIsi (c : ClsF L K) : RefC K (rIsiU K) (cIsi L) := fc2 (fun W S H x y d e Qd Q O hx hy cn h => by
  cases e with
  | ty T =>
    cases (show Dv K W (hd S H) y (.ty T) from hy)
    by_cases ob : ∃ C fs, d = .obj C fs
    · obtain ⟨C, fs, rfl⟩ := ob
      obtain ⟨⟨h1, h2⟩, h3⟩ := (show ((flds L C).isSome = true ∧ bTys.contains T = true) ∧ Qd (.bl false) from h)
      obtain ⟨a, dx, gs, rfl, _, g2, _⟩ := hx
      obtain ⟨fs', e1⟩ := Option.isSome_iff_exists.mp h1
      have m := flds_mem e1
      exact .inl ⟨_, _, _, .type T, false, rfl, .ty T, .base (.ins g2 (c.cl _ m) (c.k1 _ m) c.k2 c.k3 (c.k4 _ m)), c.it _ m T (by simpa using h2), cn.now O h3 (.bl _)⟩
    · have h' : tbQ (tyT d) T fun b => Qd (.bl b) := by
        cases d with
        | obj C fs => exact absurd ⟨C, fs, rfl⟩ ob
        | _ => exact h
      unfold tbQ at h'
      split at h'
      · rename_i t et
        unfold kbQ at h'
        split at h'
        · rename_i b eb
          exact .inl ⟨_, _, _, .type T, b, rfl, .ty T, sh_ty hx et, kit_ty eb, cn.now O h' (.bl _)⟩
        · exact h'.elim
      · exact h'.elim
  | cls D =>
    cases (show Dv K W (hd S H) y (.cls D) from hy)
    obtain ⟨h1, h2⟩ := (show (flds L D).isSome = true ∧ _ from h)
    obtain ⟨fs', e1⟩ := Option.isSome_iff_exists.mp h1
    have m := flds_mem e1
    by_cases ob : ∃ C fs, d = .obj C fs
    · obtain ⟨C, fs, rfl⟩ := ob
      obtain ⟨h3, h4⟩ := (show (flds L C).isSome = true ∧ Qd (.bl (C == D)) from h2)
      obtain ⟨a, dx, gs, rfl, _, g2, _⟩ := hx
      obtain ⟨fs2, e2⟩ := Option.isSome_iff_exists.mp h3
      have m2 := flds_mem e2
      exact .inl ⟨_, _, _, _, (C == D), rfl, .own _, .base (.ins g2 (c.cl _ m2) (c.k1 _ m2) c.k2 c.k3 (c.k4 _ m2)), c.is _ m2 _ m, cn.now O h4 (.bl _)⟩
    · have h' : (tyT d).isSome = true ∧ Qd (.bl false) := by
        cases d with
        | obj C fs => exact absurd ⟨C, fs, rfl⟩ ob
        | _ => exact h2
      obtain ⟨t, et⟩ := Option.isSome_iff_exists.mp h'.1
      exact .inl ⟨_, _, _, _, false, rfl, .own _, sh_ty hx et, c.ib _ m t (ty_bTys et), cn.now O h'.2 (.bl _)⟩
  | _ => exact h.elim) fun ds Q h => by
  unfold cIsi at h
  split at h
  · rfl
  · exact h.elim
theorem rMd {sp : Sp} {sd : DSp} {C m : Str} (hw : ∀ vs H Q, spD K sd vs H Q E0 → sp vs H Q E0) (a : RefE K Jx Xd ta da) (b : RefA K Jx Xd t dl) : RefE K Jx Xd (tMd (He.ga K C) m sp ta t) (dMd C m sd da dl) := fun W S0 H0 α H σ ρ Qd Q I r h => by
  show ta σ H fun x H1 => ∃ a dx fs, x = .ref a ∧ H1 a = some (.ins (He.ga K C) dx fs) ∧ fs.lookup m = none ∧ t σ H1 fun vs H2 => sp (x :: (vs ++ [])) H2 Q E0
  refine a W S0 H0 α H σ ρ _ _ I (fun d v H1 q g hv => ?_) h
  cases d with
  | obj D fs =>
    obtain ⟨⟨rfl, q1⟩, q2⟩ := q
    have hv' := hv
    cases hv with
    | obj h1 h2 h3 =>
      refine ⟨_, _, _, rfl, (hd_get h1).2, h3 m q1, b W S0 H0 α H1 σ ρ _ _ (I.grow g) (fun ds vs H2 q3 g2 hs => ?_) q2⟩
      rw [List.append_nil]
      exact hw _ H2 Q ⟨W, _, _, Qd, I.ok.grow (g.trans g2), .cons (hv'.same (g2.hd I.hms)) hs, q3, r.grow (g.trans g2)⟩
  | _ => exact q.elim
theorem rMd0 {sp : Sp} {sd : DSp} {C m : Str} (hw : ∀ vs H Q, spD K sd vs H Q E0 → sp vs H Q E0) (a : RefE K Jx Xd ta da) : RefE K Jx Xd (tMeth (He.ga K C) m sp [] E0 ta tNil) (dMd C m sd da dNil) := rMd hw a rNil
theorem rSd {sp : Sp} {sd : DSp} {x : Str} (hw : ∀ vs H Q, spD K sd vs H Q E0 → sp vs H Q E0) (a : RefE K Jx Xd ta da) (b : RefA K Jx Xd t dl) : RefE K Jx Xd (tSd (He.ga K x) sp ta t) (dSd x sd da dl) := fun W S0 H0 α H σ ρ Qd Q I r h =>
  v_sd (a W S0 H0 α H σ ρ _ _ I (fun d v H1 q g hv => by
    cases hv with
    | cls y =>
      obtain ⟨rfl, q2⟩ := q
      exact ⟨rfl, b W S0 H0 α H1 σ ρ _ _ (I.grow g) (fun ds vs H2 q3 g2 hs => hw _ H2 Q ⟨W, _, _, Qd, I.ok.grow (g.trans g2), hs, q3, r.grow (g.trans g2)⟩) q2⟩
    | _ => exact q.elim) h)
theorem rCallK {sp : Sp} {sd : DSp} {gV : List V → List V → List V} {gD : List Dt → List Dt} (hw : ∀ vs H Q, spD K sd vs H Q E0 → sp vs H Q E0) (rel : ∀ {W : Wd} {A : Hp} {vs : List V} {ds : List Dt}, DvA K W A vs ds → DvA K W A (gV [] vs) (gD ds)) (b : RefA K Jx Xd t dl) : RefE K Jx Xd (tCallK sp gV E0 tNil t) (dCallK sd gD dl) := fun W S0 H0 α H σ ρ Qd Q I r h => by
  show t σ H fun zs H2 => sp (gV [] zs) H2 Q E0
  exact b W S0 H0 α H σ ρ _ _ I (fun ds vs H2 q3 g2 hs => hw _ H2 Q ⟨W, _, _, Qd, I.ok.grow g2, rel hs, q3, r.grow g2⟩) h
theorem rNew {sp : Sp} {sd : DSp} {C : Str} (hw : ∀ vs H Q, spN K C sd vs H Q E0 → sp vs H Q E0) (b : RefA K Jx Xd t dl) : RefE K Jx Xd (tNd (He.ga K C) sp t) (dNew sd dl) := fun W S0 H0 α H σ ρ Qd Q I r h =>
  v_nd (b W S0 H0 α H σ ρ _ _ I (fun ds vs H1 q g hs x dx hx hdx ne => by
    have O := I.ok.grow g
    have g1 : Gw K W H1 (upd H1 dx (.own x)) := .new g.bag hdx
    have hx' : upd H1 dx (HO.own x) x = none := by rw [upd_ne (Ne.symm ne)]; exact hx
    have g2 : Gw K W (upd H1 dx (.own x)) (upd (upd H1 dx (.own x)) x (.ins (He.ga K C) dx [])) := .new g1.bag hx'
    have O2 := O.grow (g1.trans g2)
    have nS := O.out hx
    have s0 : Same H1 (hd (fun a => a = x) (upd (upd H1 dx (.own x)) x (.ins (He.ga K C) dx []))) := fun a o e => by
      have n1 := ne_of_none e hx
      exact hd_at (by rw [upd_ne n1, upd_ne (ne_of_none e hdx)]; exact e) n1
    refine hw _ _ _ ⟨W, _, x, dx, vs, ds, Qd, rfl, upd_same, nS, O2, g.bag.same s0, hs.same fun a o e => ?_, q, fun d H' qd gg hd' => ⟨rfl, r d _ H' qd (g.trans ((Gw.of g.bag s0).trans gg)) hd'⟩⟩
    obtain ⟨e1, e2⟩ := hd_get e
    have n1 := ne_of_none e2 hx
    exact hd_at (by rw [upd_ne n1, upd_ne (ne_of_none e2 hdx)]; exact e2) fun z => z.elim e1 n1) h)
end
/-! ### a def by its body over data -/
def vals (ds : List Dt) : Ro := ds.map Sl.val
theorem env_start {K : PySem.W.Frag} {W : Wd} {S : Addr → Prop} {H : Hp} {N : List Str} {vs : List V} {ds : List Dt} (O : Ok K W S H) (h : DvA K W (hd S H) vs ds) (hl : ds.length ≤ N.length) : Env K W S H (fun _ => 0) H (L2.start N vs) (vals ds ++ List.replicate (N.length - ds.length) .no) := by
  have gn : ∀ i, (gt (vals ds ++ List.replicate (N.length - ds.length) .no) i) = .no ∨ ∃ d, ds[i]? = some d ∧ gt (vals ds ++ List.replicate (N.length - ds.length) .no) i = .val d := by
    have rep : ∀ n i, gt (List.replicate n .no) i = .no := fun n => by
      induction n with
      | zero => intro i; rfl
      | succ n ih =>
        intro i
        cases i with
        | zero => rfl
        | succ i => exact ih i
    generalize N.length - ds.length = n
    clear h hl
    induction ds with
    | nil => intro i; exact .inl (rep n i)
    | cons d ds ih =>
      intro i
      cases i with
      | zero => exact .inr ⟨d, rfl, rfl⟩
      | succ i =>
        rcases ih i with e | ⟨d', e1, e2⟩
        · exact .inl e
        · exact .inr ⟨d', by simpa using e1, e2⟩
  have no : ∀ i, (gt (vals ds ++ List.replicate (N.length - ds.length) .no) i).owned = true → False := fun i hi => by
    rcases gn i with e | ⟨d, _, e⟩ <;> rw [e] at hi <;> cases hi
  have hh : hid S (fun _ => 0) (vals ds ++ List.replicate (N.length - ds.length) .no) = S := by
    funext a
    exact propext ⟨fun z => z.elim id fun ⟨i, hi, _⟩ => (no i hi).elim, .inl⟩
  refine ⟨?_, O.bag, .refl O.bag, O.kn, O.ms, fun i hi => (no i hi).elim, fun i j hi _ _ => (no i hi).elim, fun i => ?_⟩
  · unfold L2.start vals
    rw [List.length_append, List.length_append, List.length_map, List.length_map, List.length_replicate, List.length_replicate, h.len]
  · rw [hh]
    rcases gn i with e | ⟨d, e1, e2⟩
    · rw [e]
      trivial
    · rw [e2]
      obtain ⟨v, f1, f2⟩ := h.get' e1
      refine ⟨v, ?_, f2⟩
      unfold L2.start
      have il : i < vs.length := (List.getElem?_eq_some_iff.mp f1).1
      rw [List.getElem?_append_left (by rw [List.length_map]; exact il), List.getElem?_map, f1]
      rfl
/-- no exception leaves -/
def X0 : XD := fun _ _ => False
/-- a def keeps its promise over data if its body over data does -/
theorem fnD {K : PySem.W.Frag} {Jx : WX} {N : List Str} {ts : TS} {a : DS} {sd : DSp} {vs : List V} {H : Hp} {Q : VK} {E : XK} (r : RefS K Jx X0 ts a) (h : spD K sd vs H Q E) (p : ∀ ds Qd, sd ds Qd → ds.length ≤ N.length ∧ a ⟨fun _ => Qd .non, Qd, fun _ => False, fun _ => False⟩ (vals ds ++ List.replicate (N.length - ds.length) .no)) :
    ts { nx := fun _ H' => Q .non H', rt := Q } (L2.start N vs) H := by
  obtain ⟨W, S, ds, Qd, O, hs, hq, c⟩ := h
  obtain ⟨hl, q⟩ := p ds Qd hq
  have I := env_start O hs hl
  exact r W S H (fun _ => 0) H _ _ { nx := fun _ H' => Q .non H', rt := Q } ⟨fun _ => Qd .non, Qd, fun _ => False, fun _ => False⟩ ⟨I, fun _ _ _ _ _ _ _ (z : False) => z.elim⟩ ⟨fun α' H' σ' ρ' q I' e => c _ _ H' q I'.gw .non, fun d v H' q g hv => c d v H' q g hv, fun _ _ _ _ (z : False) => z.elim, fun _ _ _ _ (z : False) => z.elim⟩ q
theorem fnD_len {K : PySem.W.Frag} {sd : DSp} {n : Nat} {vs : List V} {H : Hp} {Q : VK} {E : XK} (h : spD K sd vs H Q E) (p : ∀ ds Qd, sd ds Qd → ds.length = n) : vs.length = n := by
  obtain ⟨W, S, ds, Qd, O, hs, hq, c⟩ := h
  rw [hs.len]
  exact p ds Qd hq
/-- an __init__ -/
theorem fnN {K : PySem.W.Frag} {Jx : WX} {N : List Str} {ts : TS} {a : DS} {sd : DSp} {C : Str} {vs : List V} {H : Hp} {Q : VK} {E : XK} (r : RefS K Jx X0 ts a) (h : spN K C sd vs H Q E)
    (p : ∀ ds Qd, sd ds Qd → ds.length + 1 ≤ N.length ∧ ∀ x, a ⟨fun ρ => match gt ρ 0 with | .ins y D fs => y = x ∧ D = C ∧ Qd (.obj C fs) | _ => False, fun _ => False, fun _ => False, fun _ => False⟩ (.ins x C [] :: (vals ds ++ List.replicate (N.length - (ds.length + 1)) .no))) :
    ts { nx := fun _ H' => Q .non H', rt := Q } (L2.start N vs) H := by
  obtain ⟨W, S, x, dx, ws, ds, Qd, rfl, hx, nS, O, b0, hs, hq, c⟩ := h
  obtain ⟨hl, q⟩ := p ds Qd hq
  have nm : ¬mt W x := fun z => nS (O.ms x z)
  have O' : Ok K W (fun a => S a ∨ a = x) H := ⟨O.bag, fun a z => z.elim (O.kn a) fun y => (by rw [y, hx]; exact fun q => nomatch q), fun a z => .inl (O.ms a z)⟩
  have J := env_start (N := N.tail) O' hs (by rw [List.length_tail]; omega)
  have g0 : Gw K W (hd (fun a => a = x) H) H := ⟨fun a o _ e => (hd_get e).2, O.bag, fun a e z => e (by
    by_cases y : a = x
    · exact hd_in (S := fun a => a = x) y
    · rw [hd_out (S := fun a => a = x) y]; exact z)⟩
  have eρ : N.tail.length - ds.length = N.length - (ds.length + 1) := by rw [List.length_tail]; omega
  rw [eρ] at J
  have own : ∀ i, (gt (Sl.ins x C [] :: (vals ds ++ List.replicate (N.length - (ds.length + 1)) .no)) i).owned = true → i = 0 := fun i hi => by
    cases i with
    | zero => rfl
    | succ i =>
      have : (gt (vals ds ++ List.replicate (N.length - (ds.length + 1)) .no) i).owned = true := hi
      exfalso
      have rep : ∀ n i, (gt (List.replicate n Sl.no) i).owned = false := fun n => by
        induction n with
        | zero => intro i; rfl
        | succ n ih =>
          intro i
          cases i with
          | zero => rfl
          | succ i => exact ih i
      have all : ∀ (ds : List Dt) n i, (gt (vals ds ++ List.replicate n .no) i).owned = false := fun ds n => by
        induction ds with
        | nil => intro i; exact rep n i
        | cons d ds ih =>
          intro i
          cases i with
          | zero => rfl
          | succ i => exact ih i
      rw [all] at this
      cases this
  have hh : hid S (fun _ => x) (Sl.ins x C [] :: (vals ds ++ List.replicate (N.length - (ds.length + 1)) .no)) = fun a => S a ∨ a = x := by
    funext a
    refine propext ⟨fun z => z.elim .inl fun ⟨i, _, e⟩ => .inr e.symm, fun z => z.elim .inl fun e => .inr ⟨0, rfl, e.symm⟩⟩
  have I : Env K W S (hd (fun a => a = x) H) (fun _ => x) H (L2.start N (.ref x :: ws)) (Sl.ins x C [] :: (vals ds ++ List.replicate (N.length - (ds.length + 1)) .no)) := by
    have es : L2.start N (.ref x :: ws) = some (.ref x) :: L2.start N.tail ws := by
      unfold L2.start
      rw [List.map_cons, List.length_cons, List.length_tail, List.cons_append, show N.length - (ws.length + 1) = N.length - 1 - ws.length by omega]
    rw [es]
    refine ⟨by have := J.len; simp only [List.length_cons, this], b0, g0, O.kn, O.ms, fun i hi => ⟨hd_in rfl, nS⟩, fun i j hi hj _ => by rw [own i hi, own j hj], fun i => ?_⟩
    rw [hh]
    cases i with
    | zero => exact ⟨rfl, rfl, dx, [], hx, .nil, fun _ _ => rfl, Nat.le_refl _⟩
    | succ i =>
      have js := J.sl i
      have : hid (fun a => S a ∨ a = x) (fun _ => 0) (vals ds ++ List.replicate (N.length - (ds.length + 1)) .no) = fun a => S a ∨ a = x := by
        funext a
        refine propext ⟨fun z => z.elim id fun ⟨k, hk, _⟩ => ?_, .inl⟩
        exact absurd (own (k + 1) hk) (by omega)
      rw [this] at js
      have sl : ∀ {p q : Addr}, SlR K W (fun a => S a ∨ a = x) H p (L2.start N.tail ws)[i]? (gt (vals ds ++ List.replicate (N.length - (ds.length + 1)) .no) i) → SlR K W (fun a => S a ∨ a = x) H q (L2.start N.tail ws)[i]? (gt (vals ds ++ List.replicate (N.length - (ds.length + 1)) .no) i) := fun {p q} z => by
        have nw : (gt (vals ds ++ List.replicate (N.length - (ds.length + 1)) .no) i).owned = false := by
          cases e : (gt (vals ds ++ List.replicate (N.length - (ds.length + 1)) .no) i).owned with
          | false => rfl
          | true => exact absurd (own (i + 1) e) (by omega)
        generalize gt (vals ds ++ List.replicate (N.length - (ds.length + 1)) .no) i = s at z nw ⊢
        cases s with
        | own l => cases nw
        | ins y C fs => cases nw
        | _ => exact z
      exact sl js
  refine r W S _ (fun _ => x) H _ _ { nx := fun _ H' => Q .non H', rt := Q } ⟨fun ρ => match gt ρ 0 with | .ins y D fs => y = x ∧ D = C ∧ Qd (.obj C fs) | _ => False, fun _ => False, fun _ => False, fun _ => False⟩ ⟨I, fun _ _ _ _ _ _ _ (z : False) => z.elim⟩ ⟨fun α' H' σ' ρ' q I' e => ?_, fun d v H' (z : False) => z.elim, fun _ _ _ _ (z : False) => z.elim, fun _ _ _ _ (z : False) => z.elim⟩ (q x)
  have sl := I'.sl 0
  have ow := I'.new 0
  dsimp only at q
  cases e0 : gt ρ' 0 with
  | ins y D fs =>
    rw [e0] at sl q ow
    obtain ⟨rfl, rfl, q⟩ := q
    obtain ⟨e1, ex, dx', gs, e2, e3, e4, _⟩ := sl
    subst ex
    exact c _ H' q I'.gw (.obj (hd_at e2 nS) (e3.same (hd_sub fun a z => .inl z)) e4)
  | _ =>
    rw [e0] at q
    exact q.elim

end
section

/-! ### more statements and expressions over data -/
def truQ (x : Dt) (Q : Bool → Prop) : Prop := match x with
  | .non => Q false
  | .bl b => Q b
  | .int i => Q (i != 0)
  | .str z => z.length ≤ 16777216 ∧ Q ((z.length : Int) != 0)
  | .lst l => Q (!l.isEmpty)
  | .tup l => Q (!l.isEmpty)
  | _ => False
def dTruth (da : DE) : DT := fun ρ Q => da ρ fun x => truQ x Q
def dChain (o o' : DOp) (da db dc : DE) : DE := fun ρ Q => da ρ fun x => db ρ fun y => o x y fun z => match z with
  | .bl k => (k = true → dc ρ fun w => o' y w Q) ∧ (k = false → Q (.bl false))
  | _ => False
def cutG {β : Type} (xs : List β) (lo hi : Option Int) : List β := (xs.drop (HT.sIx xs.length 0 lo)).take (HT.sIx xs.length xs.length hi - HT.sIx xs.length 0 lo)
def slQ (x : Dt) (lo hi : Option Int) (Q : Dt → Prop) : Prop := match x with
  | .lst l => Q (.lst (cutG l lo hi))
  | .tup l => Q (.tup (cutG l lo hi))
  | .str z => z.length ≤ 16777216 ∧ Q (.str (cutS z lo hi))
  | _ => False
def dSl (da : DE) (dl dh : DO) : DE := fun ρ Q => da ρ fun x => dl ρ fun l => dh ρ fun u => slQ x l u Q
def dRev (da : DE) : DE := fun ρ Q => da ρ fun x => match x with
  | .lst l => Q (.lst l.reverse)
  | _ => False
section
variable {K : PySem.W.Frag} {Jx : WX} {Xd : XD} {ta tb tc : TE} {da db dc : DE} {tl th : TO} {dl dh : DO}
theorem isEmpty_len {β γ : Type} {xs : List β} {ys : List γ} (e : xs.length = ys.length) : xs.isEmpty = ys.isEmpty := by
  cases xs <;> cases ys <;> first | rfl | cases e
theorem rTruth (a : RefB K Jx Xd ta da) : RefT K Jx Xd (tTruth K ta) (dTruth da) := fun W S0 H0 α H σ ρ Qd Q I r h =>
  v_truth (a W S0 H0 α H σ ρ _ _ I (fun d v H1 q g hv => by
    cases d with
    | non => cases (show Dv K W (hd (hid S0 α ρ) H1) v .non from hv); exact ⟨false, rfl, r _ _ q g⟩
    | bl b => rw [shBl hv]; exact ⟨b, rfl, r _ _ q g⟩
    | int b => rw [shInt hv]; exact ⟨_, rfl, r _ _ q g⟩
    | str b =>
      rw [shStr hv]
      have q' : b.length ≤ 16777216 ∧ Qd ((b.length : Int) != 0) := q
      exact ⟨_, ⟨by rw [sizeLine_eq]; exact Nat.le_trans q'.1 (by decide), rfl⟩, r _ _ q'.2 g⟩
    | lst l =>
      obtain ⟨p, vs, rfl, h1, h2, h3⟩ := hv
      exact ⟨_, .inl ⟨vs, SqL.of h2, by rw [isEmpty_len h3.len]⟩, r _ _ q g⟩
    | tup l =>
      cases (show Dv K W (hd (hid S0 α ρ) H1) v (.tup l) from hv) with
      | tup h1 h2 => exact ⟨_, .inr (.inl ⟨_, same_sqt hd_le h1, by rw [isEmpty_len h2.len]⟩), r _ _ q g⟩
    | _ => exact q.elim) h)
theorem rChain {r r' : R2} {o o' : DOp} (ro : RefOp K r o) (ro' : RefOp K r' o') (a : RefB K Jx Xd ta da) (b : RefB K Jx Xd tb db) (c : RefB K Jx Xd tc dc) : RefE K Jx Xd (tChain r r' ta tb tc) (dChain o o' da db dc) := fun W S0 H0 α H σ ρ Qd Q I cn h =>
  v_chain (a W S0 H0 α H σ ρ _ _ I (fun d v H1 q g hv => b W S0 H0 α H1 σ ρ _ _ (I.grow g) (fun e u H2 q2 g2 hu => by
    have O2 := I.ok.grow (g.trans g2)
    refine ro W _ H2 v u d e _ _ O2 (hv.grow (I.ok.grow g) g2) hu (fun z w H3 q3 g3 hw => ?_) q2
    cases hw with
    | bl k =>
      refine ⟨k, rfl, ?_⟩
      have g03 := (g.trans g2).trans g3
      cases k with
      | true => exact (if_pos rfl).mpr (c W S0 H0 α H3 σ ρ _ _ (I.grow g03) (fun f x H4 q4 g4 hx => ro' W _ H4 u x e f Qd Q (I.ok.grow (g03.trans g4)) ((hu.grow O2 (g3.trans g4))) hx (cn.grow (g03.trans g4)) q4) (q3.1 rfl))
      | false => exact (if_neg Bool.false_ne_true).mpr (cn _ _ H3 (q3.2 rfl) g03 (.bl false))
    | _ => exact q3.elim) q) h)
theorem DvA.cut {W : Wd} {A : Hp} {vs : List V} {ds : List Dt} {lo hi : Option Int} (h : DvA K W A vs ds) : DvA K W A (cutV vs lo hi) (cutG ds lo hi) := by
  unfold cutV cutG
  rw [h.len]
  exact (h.drop _).take _
theorem cutG_all {β : Type} {xs : List β} {lo hi : Option Int} (h : HT.sIx xs.length 0 lo = 0 ∧ HT.sIx xs.length xs.length hi = xs.length) : cutG xs lo hi = xs := by
  unfold cutG
  rw [h.1, h.2]
  simp
theorem rSl (a : RefB K Jx Xd ta da) (b : RefO K Jx Xd tl dl) (c : RefO K Jx Xd th dh) : RefE K Jx Xd (tSl (rSlU K) ta tl th) (dSl da dl dh) := fun W S0 H0 α H σ ρ Qd Q I cn h =>
  a W S0 H0 α H σ ρ _ _ I (fun d v H1 q g hv => b W S0 H0 α H1 σ ρ _ _ (I.grow g) (fun lo H2 q2 g2 => c W S0 H0 α H2 σ ρ _ _ (I.grow (g.trans g2)) (fun hi H3 q3 g3 => by
    have g03 := (g.trans g2).trans g3
    have O3 := I.ok.grow g03
    have hv3 := hv.grow (I.ok.grow g) (g2.trans g3)
    have cn3 := cn.grow g03
    cases d with
    | lst l =>
      obtain ⟨p, vs, rfl, h1, h2, h3⟩ := hv3
      exact v_sll (SqL.of h2) fun x hx => cn3.new O3 hx q3 (dv_newL O3 hx h3.cut)
    | tup l =>
      cases (show Dv K W (hd (hid S0 α ρ) H3) v (.tup l) from hv3) with
      | @tup _ xs _ h1 h2 =>
        refine .inr (.inr ⟨_, xs, rfl, same_sqt hd_le h1, fun z => ?_, fun z x hx => cn3.new O3 hx q3 (dv_newT O3 hx h2.cut)⟩)
        have e : cutG l lo hi = l := by
          refine cutG_all ?_
          rw [← h2.len]
          exact z
        have q3' : Qd (.tup (cutG l lo hi)) := q3
        rw [e] at q3'
        exact cn3.now O3 q3' (.tup h1 h2)
    | str z =>
      rw [shStr hv3]
      have q3' : z.length ≤ 16777216 ∧ Qd (.str (cutS z lo hi)) := q3
      exact .inr (.inl ⟨z, rfl, by rw [sizeLine_eq]; exact Nat.le_trans q3'.1 (by decide), cn3.now O3 q3'.2 (.str _)⟩)
    | _ => exact q3.elim) q2) q) h
theorem rRev (a : RefB K Jx Xd ta da) : RefE K Jx Xd (tRevL K ta) (dRev da) := fun W S0 H0 α H σ ρ Qd Q I cn h =>
  a W S0 H0 α H σ ρ _ _ I (fun d v H1 q g hv => by
    cases d with
    | lst l =>
      obtain ⟨p, vs, rfl, h1, h2, h3⟩ := hv
      exact ⟨p, vs, rfl, SqL.of h2, fun x hx => (cn.grow g).new (I.ok.grow g) hx q (dv_newL (I.ok.grow g) hx h3.rev)⟩
    | _ => exact q.elim) h
end
/-! a, b = x, y -/
inductive Cmp (K : PySem.W.Frag) (W : Wd) (S : Addr → Prop) (H : Hp) : List Addr → List V → List Sl → Prop
  | nil : Cmp K W S H [] [] []
  | val {v : V} {d : Dt} {ps : List Addr} {vs : List V} {ss : List Sl} : Dv K W (hd S H) v d → Cmp K W S H ps vs ss → Cmp K W S H ps (v :: vs) (.val d :: ss)
  | own {p : Addr} {ws : List V} {l : List Dt} {ps : List Addr} {vs : List V} {ss : List Sl} : H p = some (.lst ws) → DvA K W (hd S H) ws l → Cmp K W S H ps vs ss → Cmp K W S H (p :: ps) (.ref p :: vs) (.own l :: ss)
abbrev DP : Type := Ro → (List Sl → Prop) → Prop
def RefP (K : PySem.W.Frag) (Jx : WX) (Xd : XD) (ta : TA) (dp : DP) : Prop := ∀ W S0 H0 α H σ ρ Qd Q, EnvX K Jx Xd W S0 H0 α H σ ρ →
  (∀ ss vs H' ps, Qd ss → Gw K W H H' → ps.Nodup → (∀ p, p ∈ ps → H p = none) → Cmp K W (hid (fun a => S0 a ∨ a ∈ ps) α ρ) H' ps vs ss → Q vs H') → dp ρ Qd → ta σ H Q
def pNil : DP := fun _ Q => Q []
def pVal (de : DE) (dp : DP) : DP := fun ρ Q => de ρ fun d => dp ρ fun ss => Q (.val d :: ss)
def pOwn (df : DF) (dp : DP) : DP := fun ρ Q => df ρ fun l => dp ρ fun ss => Q (.own l :: ss)
section
variable {K : PySem.W.Frag} {Jx : WX} {Xd : XD} {te : TE} {de : DE} {df : DF} {t : TA} {dp : DP}
theorem Gw.none {W : Wd} {H H' : Hp} {p : Addr} (g : Gw K W H H') (h : H' p = none) : H p = none := by
  cases z : H p with
  | none => rfl
  | some u => exact absurd h (g.ne p (by rw [z]; exact fun q => nomatch q))
theorem Cmp.same {W : Wd} {S S' : Addr → Prop} {H : Hp} (e : ∀ a, S' a → S a) : ∀ {ps : List Addr} {vs : List V} {ss : List Sl}, Cmp K W S H ps vs ss → Cmp K W S' H ps vs ss
  | _, _, _, .nil => .nil
  | _, _, _, .val h r => .val (h.same (hd_sub e)) (Cmp.same e r)
  | _, _, _, .own h1 h2 r => .own h1 (h2.same (hd_sub e)) (Cmp.same e r)
theorem rpNil : RefP K Jx Xd tNil pNil := fun W S0 H0 α H σ ρ Qd Q I c h => c _ _ H [] h (.refl I.gw.bag) List.nodup_nil (fun _ z => nomatch z) .nil
theorem rpVal (a : RefE K Jx Xd te de) (b : RefP K Jx Xd t dp) : RefP K Jx Xd (tCons te t) (pVal de dp) := fun W S0 H0 α H σ ρ Qd Q I c h =>
  a W S0 H0 α H σ ρ _ _ I (fun d v H1 q g hv => b W S0 H0 α H1 σ ρ _ _ (I.grow g) (fun ss vs H' ps q2 g2 nd hp cm => c _ _ H' ps q2 (g.trans g2) nd (fun p z => g.none (hp p z)) (.val (hv.same fun x o e => by
    obtain ⟨e1, e2⟩ := hd_get e
    refine hd_at (g2.keep x o (fun z => e1 (I.hms x z)) e2) fun z => ?_
    rcases z with (z | z) | z
    · exact e1 (.inl z)
    · rw [hp x z] at e2
      cases e2
    · exact e1 (.inr z)) cm)) q) h
theorem rpOwn (a : RefF K Jx Xd te df) (b : RefP K Jx Xd t dp) : RefP K Jx Xd (tCons te t) (pOwn df dp) := fun W S0 H0 α H σ ρ Qd Q I c h =>
  a W S0 H0 α H σ ρ _ _ I (fun l p ws H1 q g hp hp' hv => by
    have nm := I.noMt hp
    obtain ⟨I2, s2⟩ := I.hide g hp (by rw [hp']; exact fun z => nomatch z) nm
    refine b W _ H0 α H1 σ ρ _ _ I2 (fun ss vs H' ps q2 g2 nd hps cm => ?_) q
    have np : p ∉ ps := fun z => by
      rw [hps p z] at hp'
      cases hp'
    have cm' : Cmp K W (hid (fun a => S0 a ∨ a ∈ p :: ps) α ρ) H' ps vs ss := cm.same fun x z => by
      rcases z with (z | z) | z
      · exact .inl (.inl (.inl z))
      · rcases List.mem_cons.mp z with z | z
        · exact .inl (.inl (.inr z))
        · exact .inl (.inr z)
      · exact .inr z
    refine c _ _ H' (p :: ps) q2 (g.trans g2) (List.nodup_cons.mpr ⟨np, nd⟩) (fun x z => ?_) (.own (g2.keep _ _ nm hp') (hv.same fun x o e => ?_) cm')
    · rcases List.mem_cons.mp z with e | e
      · rw [e]; exact hp
      · exact g.none (hps x e)
    · obtain ⟨e1, e2⟩ := hd_get e
      refine hd_at (g2.keep x o (fun z => e1 (I2.hms x z)) e2) fun z => ?_
      rcases z with (z | z) | z
      · exact e1 (.inl (.inl z))
      · rcases List.mem_cons.mp z with z | z
        · exact e1 (.inl (.inr z))
        · rw [hps x z] at e2
          cases e2
      · exact e1 (.inr z)) h
end
section
variable {K : PySem.W.Frag} {W : Wd} {S0 : Addr → Prop} {H0 H H' : Hp} {α : Nat → Addr} {σ : L2.St} {ρ : Ro}
theorem Env.hideP (I : Env K W S0 H0 α H σ ρ) {P : Addr → Prop} (g : Gw K W H H') (h : ∀ p, P p → H p = none ∧ H' p ≠ none) : Env K W (fun a => S0 a ∨ P a) H0 α H' σ ρ ∧ Same (hd (hid S0 α ρ) H) (hd (hid (fun a => S0 a ∨ P a) α ρ) H') := by
  have αp : ∀ j, (gt ρ j).owned = true → ¬P (α j) := fun j hj e => by
    obtain ⟨w, hw⟩ := (I.sl j).some hj
    rw [(h _ e).1] at hw
    cases hw
  have sub : ∀ a, hid (fun a => S0 a ∨ P a) α ρ a → hid S0 α ρ a ∨ P a := fun a z => by
    rcases z with (z | z) | z
    · exact .inl (.inl z)
    · exact .inr z
    · exact .inl (.inr z)
  have sm : Same (hd (hid S0 α ρ) H) (hd (hid (fun a => S0 a ∨ P a) α ρ) H') := fun a o e => by
    obtain ⟨h1, h2⟩ := hd_get e
    refine hd_at (g.keep a o (fun z => h1 (I.hms a z)) h2) fun z => (sub a z).elim h1 fun y => ?_
    rw [(h a y).1] at h2
    cases h2
  refine ⟨⟨I.len, I.bag0, I.gw.trans g, fun a z => ?_, fun a z => .inl (I.ms a z), fun i hi => ⟨(I.new i hi).1, fun z => z.elim (I.new i hi).2 (αp i hi)⟩, I.inj, fun i => (I.sl i).ex sm fun o => ?_⟩, sm⟩
  · rcases z with z | z
    · exact g.ne a (I.kn a z)
    · exact (h a z).2
  · obtain ⟨u, hu⟩ := (I.sl i).some o
    rw [hu]
    exact g.keep _ _ (fun z => (I.new i o).2 (I.ms _ z)) hu
def sets : List Nat → List V → L2.St → L2.St
  | i :: is, v :: vs, σ => sets is vs (σ.set i (some v))
  | _, _, σ => σ
def pts : List Nat → List Sl → Ro → Ro
  | i :: is, s :: ss, ρ => pts is ss (pt ρ i s)
  | _, _, ρ => ρ
theorem Env.setAll : ∀ {ps : List Addr} {vs : List V} {ss : List Sl} {is : List Nat} {α : Nat → Addr} {σ : L2.St} {ρ : Ro}, Cmp K W (hid (fun a => S0 a ∨ a ∈ ps) α ρ) H ps vs ss → Env K W (fun a => S0 a ∨ a ∈ ps) H0 α H σ ρ → (∀ p, p ∈ ps → H0 p = none ∧ ¬S0 p) → ps.Nodup → is.length = vs.length →
    ∃ α', Env K W S0 H0 α' H (sets is vs σ) (pts is ss ρ) ∧ Same (hd (hid (fun a => S0 a ∨ a ∈ ps) α ρ) H) (hd (hid S0 α' (pts is ss ρ)) H)
  | _, _, _, is, α, σ, ρ, .nil, I, _, _, el => by
    have e : (fun a => S0 a ∨ a ∈ ([] : List Addr)) = S0 := by
      funext a
      simp
    have ei : is = [] := List.eq_nil_of_length_eq_zero el
    subst ei
    rw [e] at I ⊢
    exact ⟨α, I, Same.refl _⟩
  | _, _, _, [], _, _, _, .val _ _, _, _, _, el => by cases el
  | _, _, _, [], _, _, _, .own _ _ _, _, _, _, el => by cases el
  | ps, _, _, i :: is, α, σ, ρ, .val (v := v) (d := d) (vs := vs) (ss := ss) h r, I, hn, nd, el => by
    obtain ⟨I2, s2⟩ := I.set (i := i) h
    have sub : ∀ a, hid (fun a => S0 a ∨ a ∈ ps) α (pt ρ i (.val d)) a → hid (fun a => S0 a ∨ a ∈ ps) α ρ a := fun a z => by
      rcases z with z | ⟨j, z1, z2⟩
      · exact .inl z
      · refine .inr ⟨j, ?_, z2⟩
        by_cases e : j = i
        · subst e
          by_cases l : j < ρ.length
          · rw [gt_pt l] at z1
            cases z1
          · rw [gt_pt_out (by omega)] at z1
            exact z1
        · rwa [gt_pt_ne e] at z1
    obtain ⟨α', I3, s3⟩ := Env.setAll (is := is) (r.same sub) I2 hn nd (by simpa using el)
    exact ⟨α', I3, s2.trans s3⟩
  | p :: ps, _, _, i :: is, α, σ, ρ, .own (ws := ws) (l := l) (vs := vs) (ss := ss) h1 h2 r, I, hn, nd, el => by
    have e : (fun a => S0 a ∨ a ∈ p :: ps) = fun a => (S0 a ∨ a ∈ ps) ∨ a = p := by
      funext a
      rw [List.mem_cons]
      exact propext ⟨fun z => z.elim (fun y => .inl (.inl y)) fun y => y.elim .inr fun q => .inl (.inr q), fun z => z.elim (fun y => y.elim .inl fun q => .inr (.inr q)) fun q => .inr (.inl q)⟩
    rw [e] at I h2 r ⊢
    obtain ⟨n0, nS⟩ := hn p (by simp)
    obtain ⟨np, nd'⟩ := List.nodup_cons.mp nd
    obtain ⟨I2, s2⟩ := I.adopt (i := i) (s := .own l) n0 (fun z => z.elim nS np) rfl ⟨rfl, ws, h1, h2⟩
    have sub : ∀ a, hid (fun a => S0 a ∨ a ∈ ps) (upα α i p) (pt ρ i (.own l)) a → hid (fun a => (S0 a ∨ a ∈ ps) ∨ a = p) α ρ a := fun a z => by
      rcases z with z | ⟨j, z1, z2⟩
      · exact .inl (.inl z)
      · by_cases ej : j = i
        · rw [upα_eq ej] at z2
          exact .inl (.inr z2.symm)
        · rw [upα_ne ej] at z2
          rw [gt_pt_ne ej] at z1
          exact .inr ⟨j, z1, z2⟩
    obtain ⟨α', I3, s3⟩ := Env.setAll (is := is) (r.same sub) I2 (fun q hq => hn q (by simp [hq])) nd' (by simpa using el)
    exact ⟨α', I3, s2.trans s3⟩
theorem Cmp.len {S : Addr → Prop} : ∀ {ps : List Addr} {vs : List V} {ss : List Sl}, Cmp K W S H ps vs ss → vs.length = ss.length
  | _, _, _, .nil => rfl
  | _, _, _, .val _ r => by rw [List.length_cons, List.length_cons, Cmp.len r]
  | _, _, _, .own _ _ r => by rw [List.length_cons, List.length_cons, Cmp.len r]
theorem Cmp.ne {S : Addr → Prop} : ∀ {ps : List Addr} {vs : List V} {ss : List Sl}, Cmp K W S H ps vs ss → ∀ p, p ∈ ps → H p ≠ none
  | _, _, _, .nil, _, h => nomatch h
  | _, _, _, .val _ r, p, h => Cmp.ne r p h
  | _, _, _, .own h1 _ r, p, h => by
    rcases List.mem_cons.mp h with e | e
    · rw [e, h1]
      exact fun z => nomatch z
    · exact Cmp.ne r p e
end
def dPar (is : List Nat) (dp : DP) : DS := fun D ρ => dp ρ fun ss => ss.length = is.length ∧ D.nx (pts is ss ρ)
section
variable {K : PySem.W.Frag} {Jx : WX} {Xd : XD} {t : TA} {dp : DP}
theorem par_core {is : List Nat} (a : RefP K Jx Xd t dp) {W : Wd} {S0 : Addr → Prop} {H0 H : Hp} {α : Nat → Addr} {σ : L2.St} {ρ : Ro} {D : Ends} {Dd : DEnds} (I : EnvX K Jx Xd W S0 H0 α H σ ρ) (r : EnR K W S0 H0 (hd (hid S0 α ρ) H) D Dd) (h : dPar is dp Dd ρ) (P : List V → Hp → Prop) (hP : ∀ vs H', vs.length = is.length → D.nx (sets is vs σ) H' → P vs H') : t σ H P :=
  a W S0 H0 α H σ ρ _ _ I (fun ss vs H' ps q g nd hp cm => by
    obtain ⟨I2, s2⟩ := I.toEnv.hideP (P := fun a => a ∈ ps) g fun p z => ⟨hp p z, cm.ne p z⟩
    have el : is.length = vs.length := by rw [cm.len]; exact q.1.symm
    obtain ⟨α', I3, s3⟩ := Env.setAll (is := is) cm I2 (fun p z => I.none0 (hp p z)) nd el
    exact hP _ _ el.symm (r.nx _ _ _ _ q.2 I3 (s2.trans s3))) h
theorem rPar2 {i j : Nat} (a : RefP K Jx Xd t dp) : RefS K Jx Xd (tPar i j t) (dPar [i, j] dp) := fun W S0 H0 α H σ ρ D Dd I r h =>
  par_core a I r h _ fun vs H' el q => by
    match vs, el, q with
    | [v, w], _, q => exact ⟨v, w, rfl, q⟩
theorem rPar3 {i j l : Nat} (a : RefP K Jx Xd t dp) : RefS K Jx Xd (tPar3 i j l t) (dPar [i, j, l] dp) := fun W S0 H0 α H σ ρ D Dd I r h =>
  par_core a I r h _ fun vs H' el q => by
    match vs, el, q with
    | [v, w, x], _, q => exact ⟨v, w, x, rfl, q⟩
end
/-! calls that change an own list -/
abbrev DW : Type := Ro → (Dt → Ro → Prop) → Prop
def RefW (K : PySem.W.Frag) (Jx : WX) (Xd : XD) (te : TE) (dw : DW) : Prop := ∀ W S0 H0 α H σ ρ Qd Q, EnvX K Jx Xd W S0 H0 α H σ ρ →
  (∀ d v α' H' ρ', Qd d ρ' → Env K W S0 H0 α' H' σ ρ' → Same (hd (hid S0 α ρ) H) (hd (hid S0 α' ρ') H') → Dv K W (hd (hid S0 α' ρ') H') v d → Q v H') → dw ρ Qd → te σ H Q
/-- x.pop(k) -/
def wPop (i : Nat) (de : DE) : DW := fun ρ Q => match gt ρ i with
  | .own l => de ρ fun k => match k with
    | .int k => (-(2 ^ 63) ≤ k ∧ k < 2 ^ 63) ∧ match seqIndex? k l.length with
      | some j => match l[j]? with
        | some d => Q d (pt ρ i (.own (l.eraseIdx j)))
        | none => False
      | none => False
    | _ => False
  | _ => False
def wCall (sd : DSp) (dw : DW) : DW := fun ρ Q => dw ρ fun d ρ' => sd [d] fun e => Q e ρ'
def dAsgW (dw : DW) (g : DG) : DS := fun D ρ => dw ρ fun d ρ' => g d ρ' D.nx
def dDropW (dw : DW) : DS := fun D ρ => dw ρ fun _ ρ' => D.nx ρ'
def dExtend (i : Nat) (de : DE) : DS := fun D ρ => match gt ρ i with
  | .own l => de ρ fun x => match x with
    | .lst m => l.length + m.length ≤ 16777216 ∧ D.nx (pt ρ i (.own (l ++ m)))
    | _ => False
  | _ => False
section
variable {K : PySem.W.Frag} {Jx : WX} {Xd : XD} {te : TE} {de : DE} {g : TG} {dg : DG} {dw : DW}
theorem DvA.erase {W : Wd} {A : Hp} : ∀ {vs : List V} {ds : List Dt} (n : Nat), DvA K W A vs ds → DvA K W A (vs.eraseIdx n) (ds.eraseIdx n)
  | _, _, _, .nil => .nil
  | _, _, 0, .cons _ r => r
  | _, _, n + 1, .cons h r => .cons h (DvA.erase n r)
theorem rwPop (i : Nat) (a : RefE K Jx Xd te de) : RefW K Jx Xd (tBM K "list" rPopAt (tVar i) (tCons te tNil)) (wPop i de) := fun W S0 H0 α H σ ρ Qd Q I c h => by
  unfold wPop at h
  cases e : gt ρ i with
  | own l =>
    rw [e] at h
    obtain ⟨e1, ⟨vs, e2, e3⟩, o⟩ := at_owned I.toEnv e
    refine ⟨_, e1, .inl ⟨rfl, vs, SqL.of e2⟩, a W S0 H0 α H σ ρ _ _ I (fun d v H1 q g hv => ?_) h⟩
    cases hv with
    | int k =>
      obtain ⟨q0, q⟩ := q
      have I1 := I.grow g
      obtain ⟨f1, ⟨ws, f2, f3⟩, _⟩ := at_owned I1.toEnv e
      split at q
      · rename_i j ej
        split at q
        · rename_i d' ed
          obtain ⟨v', g1, g2⟩ := f3.get' ed
          have sm := hd_set (S := hid S0 α ρ) (H := H1) (o := .lst (ws.eraseIdx j)) (a := α i) (.inr ⟨i, o, rfl⟩)
          obtain ⟨I2, s2⟩ := I1.put (s := .own (l.eraseIdx j)) (u := .lst (ws.eraseIdx j)) o rfl ⟨rfl, _, upd_same, (f3.same sm).erase j⟩ f1
          exact ⟨_, ws, k, j, v', rfl, rfl, f2, q0.1, q0.2, by rw [f3.len]; exact ej, g1, c _ _ _ _ _ q I2 ((g.hd I.hms).trans s2) (g2.same s2)⟩
        · exact q.elim
      · exact q.elim
    | _ => exact q.elim
  | _ =>
    rw [e] at h
    exact h.elim
theorem rwCall {sp : Sp} {sd : DSp} (hw : ∀ vs H Q, spD K sd vs H Q E0 → sp vs H Q E0) (a : RefW K Jx Xd te dw) : RefW K Jx Xd (tCall sp [] E0 (tCons te tNil)) (wCall sd dw) := fun W S0 H0 α H σ ρ Qd Q I c h =>
  v_call (a W S0 H0 α H σ ρ _ _ I (fun d v α' H' ρ' q I' e hv => hw _ H' Q ⟨W, _, _, _, I'.ok, .one hv, q, fun d' v' H2 q2 g2 hv2 => c d' v' α' H2 ρ' q2 (I'.grow g2) (e.trans (g2.hd I'.hms)) hv2⟩) h)
theorem rAsgW (a : RefW K Jx Xd te dw) (b : RefG K Jx Xd g dg) : RefS K Jx Xd (tAsg te g) (dAsgW dw dg) := fun W S0 H0 α H σ ρ D Dd I c h =>
  a W S0 H0 α H σ ρ _ _ I (fun d v α' H' ρ' q I' e hv => b W S0 H0 α' H' σ ρ' d v _ _ (I.next I' e) hv (c.nx.wk e) q) h
theorem rDropW (a : RefW K Jx Xd te dw) : RefS K Jx Xd (tDrop te) (dDropW dw) := fun W S0 H0 α H σ ρ D Dd I c h =>
  a W S0 H0 α H σ ρ _ _ I (fun d v α' H' ρ' q I' e hv => c.nx _ _ _ _ q I' e) h
theorem rExtend' (i : Nat) (a : RefB K Jx Xd te de) : RefS K Jx Xd (tDrop (tBM K "list" rExtend (tVar i) (tCons te tNil))) (dExtend i de) := fun W S0 H0 α H σ ρ D Dd I c h => by
  unfold dExtend at h
  cases e : gt ρ i with
  | own l =>
    rw [e] at h
    obtain ⟨e1, ⟨vs, e2, e3⟩, o⟩ := at_owned I.toEnv e
    refine ⟨_, e1, .inl ⟨rfl, vs, SqL.of e2⟩, a W S0 H0 α H σ ρ _ _ I (fun d v H1 q g hv => ?_) h⟩
    cases d with
    | lst m =>
      obtain ⟨b, us, rfl, k1, k2, k3⟩ := hv
      have q' : l.length + m.length ≤ 16777216 ∧ Dd.nx (pt ρ i (.own (l ++ m))) := q
      have I1 := I.grow g
      obtain ⟨f1, ⟨ws, f2, f3⟩, _⟩ := at_owned I1.toEnv e
      have sm := hd_set (S := hid S0 α ρ) (H := H1) (o := .lst (ws ++ us)) (a := α i) (.inr ⟨i, o, rfl⟩)
      obtain ⟨I2, s2⟩ := I1.put (s := .own (l ++ m)) (u := .lst (ws ++ us)) o rfl ⟨rfl, _, upd_same, (f3.same sm).app (k3.same sm)⟩ f1
      exact ⟨_, b, ws, us, rfl, rfl, f2, k2, by rw [sizeLine_eq, f3.len, k3.len]; exact Nat.le_trans q'.1 (by decide), c.nx _ _ _ _ q'.2 I2 ((g.hd I.hms).trans s2)⟩
    | _ => exact q.elim
  | _ =>
    rw [e] at h
    exact h.elim
end
/-! new lists -/
def fList (de : DE) : DF := fun ρ Q => de ρ fun x => dSeqOf x Q
def fCut (da : DE) (dl dh : DO) : DF := fun ρ Q => da ρ fun x => dl ρ fun l => dh ρ fun u => match x with
  | .lst xs => Q (cutG xs l u)
  | _ => False
def fCat (da db : DE) : DF := fun ρ Q => da ρ fun x => db ρ fun y => match x, y with
  | .lst a, .lst b => a.length + b.length ≤ 16777216 ∧ Q (a ++ b)
  | _, _ => False
def fRep (da db : DE) : DF := fun ρ Q => da ρ fun x => db ρ fun y => match x, y with
  | .lst l, .int k => (-(2 ^ 63) ≤ k ∧ k < 2 ^ 63 ∧ l.length * k.toNat ≤ 16777216) ∧ Q (List.replicate k.toNat l).flatten
  | _, _ => False
section
variable {K : PySem.W.Frag} {Jx : WX} {Xd : XD} {ta tb : TE} {da db : DE} {tl th : TO} {dl dh : DO}
theorem new_own {W : Wd} {S0 : Addr → Prop} {H H1 : Hp} {α : Nat → Addr} {ρ : Ro} {Qd : List Dt → Prop} {Q : VK} {l : List Dt} {xs : List V}
    (c : ∀ l p vs H', Qd l → Gw K W H H' → H p = none → H' p = some (.lst vs) → DvA K W (hd (hid (fun a => S0 a ∨ a = p) α ρ) H') vs l → Q (.ref p) H') (g : Gw K W H H1) (q : Qd l) (h : DvA K W (hd (hid S0 α ρ) H1) xs l) : ∀ p, H1 p = none → Q (.ref p) (upd H1 p (.lst xs)) :=
  fun p hp => c l p xs _ q (g.trans (.new g.bag hp)) (g.none hp) upd_same (h.same (hid_new hp))
theorem rfList (a : RefB K Jx Xd ta da) : RefF K Jx Xd (tCB (rListOf K) (tCons ta tNil)) (fList da) := fun W S0 H0 α H σ ρ Qd Q I c h =>
  a W S0 H0 α H σ ρ _ _ I (fun d v H1 q g hv => by
    obtain ⟨p, t, xs, l, rfl, h1, h2, h3, _⟩ := sh_seq (I.ok.grow g) hv q
    exact v_listb h1 (new_own c g h3 h2)) h
theorem rfCut (a : RefB K Jx Xd ta da) (b : RefO K Jx Xd tl dl) (e : RefO K Jx Xd th dh) : RefF K Jx Xd (tSl (rSlU K) ta tl th) (fCut da dl dh) := fun W S0 H0 α H σ ρ Qd Q I c h =>
  a W S0 H0 α H σ ρ _ _ I (fun d v H1 q g hv => b W S0 H0 α H1 σ ρ _ _ (I.grow g) (fun lo H2 q2 g2 => e W S0 H0 α H2 σ ρ _ _ (I.grow (g.trans g2)) (fun hi H3 q3 g3 => by
    have g03 := (g.trans g2).trans g3
    have hv3 := hv.grow (I.ok.grow g) (g2.trans g3)
    cases d with
    | lst l =>
      obtain ⟨p, vs, rfl, h1, h2, h3⟩ := hv3
      exact v_sll (SqL.of h2) (new_own c g03 q3 h3.cut)
    | _ => exact q3.elim) q2) q) h
theorem rfCat (a : RefB K Jx Xd ta da) (b : RefB K Jx Xd tb db) : RefF K Jx Xd (tOp (rAddU K) ta tb) (fCat da db) := fun W S0 H0 α H σ ρ Qd Q I c h =>
  a W S0 H0 α H σ ρ _ _ I (fun d v H1 q g hv => b W S0 H0 α H1 σ ρ _ _ (I.grow g) (fun e u H2 q2 g2 hu => by
    have hv2 := hv.grow (I.ok.grow g) g2
    match d, e, q2, hv2, hu with
    | .lst l, .lst m, q2, hv2, hu =>
      obtain ⟨p, vs, rfl, h1, h2, h3⟩ := hv2
      obtain ⟨p', us, rfl, k1, k2, k3⟩ := hu
      exact v_addl h2 k2 (by rw [h3.len, k3.len, sizeLine_eq]; exact Nat.le_trans q2.1 (by decide)) (new_own c (g.trans g2) q2.2 (h3.app k3))) q) h
theorem rfRep (a : RefB K Jx Xd ta da) (b : RefB K Jx Xd tb db) : RefF K Jx Xd (tOp rMulU ta tb) (fRep da db) := fun W S0 H0 α H σ ρ Qd Q I c h =>
  a W S0 H0 α H σ ρ _ _ I (fun d v H1 q g hv => b W S0 H0 α H1 σ ρ _ _ (I.grow g) (fun e u H2 q2 g2 hu => by
    have hv2 := hv.grow (I.ok.grow g) g2
    match d, e, q2, hv2, hu with
    | .lst l, .int k, q2, hv2, hu =>
      obtain ⟨p, vs, rfl, h1, h2, h3⟩ := hv2
      rw [shInt hu]
      refine .inr (.inr ⟨p, k, vs, rfl, rfl, h2, q2.1.1, q2.1.2.1, by rw [h3.len, sizeLine_eq]; exact Nat.le_trans q2.1.2.2 (by decide), new_own c (g.trans g2) q2.2 ?_⟩)
      generalize k.toNat = n
      induction n with
      | zero => exact .nil
      | succ n ih =>
        rw [List.replicate_succ, List.replicate_succ, List.flatten_cons, List.flatten_cons]
        exact h3.app ih) q) h
end
def dYes : DT := fun _ Q => Q true
def dBot : DS := fun _ _ => False
theorem rBot {K : PySem.W.Frag} {Jx : WX} {Xd : XD} : RefS K Jx Xd tBotS dBot := fun _ _ _ _ _ _ _ _ _ _ _ h => h.elim
def dLstRg (da : DE) : DE := fun ρ Q => da ρ fun x => match x with
  | .int n => (0 ≤ n ∧ n ≤ 1000000) ∧ Q (.lst (rngD 0 n.toNat))
  | _ => False
theorem rngV {n : Nat} : ((List.range n).map fun (i : Nat) => V.int (i : Int)) = ((List.range n).map fun (i : Nat) => (i : Int)).map V.int := by
  rw [List.map_map]
  rfl
theorem rngDt {n : Nat} : rngD 0 n = ((List.range n).map fun (i : Nat) => (i : Int)).map Dt.int := by
  unfold rngD
  rw [List.map_map]
  refine List.map_congr_left fun i _ => ?_
  show Dt.int (0 + (i : Int)) = Dt.int (i : Int)
  rw [Int.zero_add]
theorem rLstRg {K : PySem.W.Frag} {Jx : WX} {Xd : XD} {ta : TE} {da : DE} (a : RefE K Jx Xd ta da) : RefE K Jx Xd (tLstRg (tRg1 ta)) (dLstRg da) := fun W S0 H0 α H σ ρ Qd Q I c h =>
  a W S0 H0 α H σ ρ _ _ I (fun d v H1 q g hv => by
    cases hv with
    | int n =>
      have q' : (0 ≤ n ∧ n ≤ 1000000) ∧ Qd (.lst (rngD 0 n.toNat)) := q
      refine ⟨n, rfl, RgOk.of_le (by omega) (by omega) (by omega) (by omega), fun p hp => ?_⟩
      have e : rgV 0 n = ((List.range n.toNat).map fun (i : Nat) => (i : Int)).map V.int := by
        unfold rgV
        rw [show (n - 0).toNat = n.toNat by omega, List.map_map]
        refine List.map_congr_left fun i _ => ?_
        show V.int (0 + (i : Int)) = V.int (i : Int)
        rw [Int.zero_add]
      rw [e]
      rw [rngDt] at q'
      exact (c.grow g).new (I.ok.grow g) hp q'.2 (dv_newL (I.ok.grow g) hp DvA.of_ints)
    | _ => exact q.elim) h
def dJoin (da db : DE) : DE := fun ρ Q => da ρ fun x => match x with
  | .str a => db ρ fun y => ∃ ys : List Str, (y = .lst (ys.map Dt.str) ∨ y = .tup (ys.map Dt.str)) ∧ (ys.map (·.length)).sum + ys.length * a.length ≤ 16777216 ∧ Q (.str (Txt.join a ys))
  | _ => False
theorem rJoin {K : PySem.W.Frag} {Jx : WX} {Xd : XD} {ta tb : TE} {da db : DE} (a : RefE K Jx Xd ta da) (b : RefB K Jx Xd tb db) : RefE K Jx Xd (tM1 (rJoinL K) ta tb) (dJoin da db) := fun W S0 H0 α H σ ρ Qd Q I c h =>
  v_m1 (a W S0 H0 α H σ ρ _ _ I (fun d v H1 q g hv => by
    cases hv with
    | str z =>
      refine ⟨⟨z, rfl⟩, b W S0 H0 α H1 σ ρ _ _ (I.grow g) (fun e u H2 q2 g2 hu => ?_) q⟩
      obtain ⟨ys, ey, l, q3⟩ := q2
      rcases ey with rfl | rfl
      · obtain ⟨p, vs, rfl, h1, h2, h3⟩ := hu
        exact ⟨z, p, ys, rfl, rfl, .inl (by rw [← h3.strs]; exact SqL.of h2), l, c _ _ H2 q3 (g.trans g2) (.str _)⟩
      · cases (show Dv K W (hd (hid S0 α ρ) H2) u (.tup (ys.map Dt.str)) from hu) with
        | tup h1 h2 => exact ⟨z, _, ys, rfl, rfl, .inr (by rw [← h2.strs]; exact same_sqt hd_le h1), l, c _ _ H2 q3 (g.trans g2) (.str _)⟩
    | _ => exact q.elim) h)

end
section

/-! ### the laws' own helpers over data -/
theorem ok_bag {K : PySem.W.Frag} {W : Wd} {S : Addr → Prop} {H : Hp} {b : Addr} {g : Addr × List Int} (O : Ok K W S H) (e : W = some (b, g)) : Bag K H b g := O.bag b g e
/-- what the bag's calls leave -/
theorem gw_kp {K : PySem.W.Frag} {W : Wd} {H H' : Hp} {b : Addr} {g : Addr × List Int} (e : W = some (b, g)) (B : Bag K H' b g) (k : Kp b H H') : Gw K W H H' :=
  ⟨fun a o n h => kp_get k (fun z => n ⟨g, by rw [e, z]⟩) h, fun b' g' e' => by
    rw [e] at e'
    cases e'
    exact B, fun a h z => by
    cases q : H a with
    | none => exact h q
    | some o =>
      by_cases ab : a = b
      · subst ab
        exact B.some z
      · rw [kp_get k ab q] at z
        cases z⟩
theorem sd_bag1 {K : PySem.W.Frag} {W : Wd} {A : Hp} {v : V} (h : Dv K W A v .bag) : ∃ b g, W = some (b, g) ∧ v = .ref b := by
  cases h with
  | bag e => exact ⟨_, _, e, rfl⟩
def sd_law_draw : DSp := fun ds Q => match ds with
  | [.bag, .int n] => n < 4149515568880992958512407863691161151012446232242436899995657329690652811412908146399707048947103794288197886611300789182395151075411775307886874834113963687061181803401509523685376 ∧ ∀ d : Int, 0 ≤ d → (d < n ∨ d = 0) → Q (.int d)
  | _ => False
theorem hw_law_draw {K : PySem.W.Frag} (vs : List V) (H : Hp) (Q : VK) (h : spD K sd_law_draw vs H Q E0) : sp_law_draw K vs H Q E0 := by
  obtain ⟨W, S, ds, Qd, O, hs, q, c⟩ := h
  match ds, q, hs with
  | [.bag, .int n], q, .cons hb (.cons hn .nil) =>
    obtain ⟨b, g, e, rfl⟩ := sd_bag1 hb
    cases hn
    exact ⟨b, n, g, rfl, ok_bag O e, q.1, fun d H' d0 d1 B k => c _ _ H' (q.2 d d0 d1) (gw_kp e B k) (.int d)⟩
/-- things[draw] -/
def sd_law_of : DSp := fun ds Q => match ds with
  | [.bag, .str z] => (0 < z.length ∧ z.length ≤ 16777216) ∧ ∀ (i : Nat) c, z.cps.toList[i]? = some c → Q (.str ⟨#[c]⟩)
  | [.bag, x] => dSeqOf x fun l => (0 < l.length ∧ l.length ≤ 16777216) ∧ ∀ d, d ∈ l → Q d
  | _ => False
theorem wo_hd {S : Addr → Prop} {H : Hp} {b : Addr} (h : S b) : Same (hd S H) (wo [b] H) := fun a o e => by
  obtain ⟨e1, e2⟩ := hd_get e
  exact wo_at e2 fun z => e1 (by rw [List.mem_singleton.mp z]; exact h)
theorem hw_law_of {K : PySem.W.Frag} (vs : List V) (H : Hp) (Q : VK) (h : spD K sd_law_of vs H Q E0) : sp_law_of K vs H Q E0 := by
  obtain ⟨W, S, ds, Qd, O, hs, q, c⟩ := h
  match ds, q, hs with
  | [.bag, x], q, .cons hb (.cons hx .nil) =>
    obtain ⟨b, g, e, rfl⟩ := sd_bag1 hb
    have Sb : S b := O.ms b ⟨g, e⟩
    by_cases s : ∃ z, x = .str z
    · obtain ⟨z, rfl⟩ := s
      cases hx
      have q' : (0 < z.length ∧ z.length ≤ 16777216) ∧ ∀ (i : Nat) c, z.cps.toList[i]? = some c → Qd (.str ⟨#[c]⟩) := q
      exact ⟨b, _, g, rfl, ok_bag O e, .inr ⟨z, rfl, q'.1.1, by rw [sizeLine_eq]; exact Nat.le_trans q'.1.2 (by decide), fun i ch H' hc B k => c _ _ H' (q'.2 i ch hc) (gw_kp e B k) (.str _)⟩⟩
    · have q' : dSeqOf x fun l => (0 < l.length ∧ l.length ≤ 16777216) ∧ ∀ d, d ∈ l → Qd d := by
        cases x with
        | str z => exact absurd ⟨z, rfl⟩ s
        | _ => exact q
      obtain ⟨a, t, xs, l, rfl, h1, h2, h3⟩ := dv_seq hx q'
      refine ⟨b, _, g, rfl, ok_bag O e, .inl ⟨a, xs, rfl, ?_, by rw [h2.len]; exact h3.1.1, by rw [h2.len, sizeLine_eq]; exact Nat.le_trans h3.1.2 (by decide), fun i y H' hy B k => ?_⟩⟩
      · cases t
        · exact .inl (same_sql (wo_hd Sb) h1)
        · exact .inr (same_sqt (wo_hd Sb) h1)
      · obtain ⟨d, e1, e2⟩ := h2.get hy
        have gg := gw_kp e B k
        exact c _ _ H' (h3.2 d (List.mem_of_getElem? e1)) gg (e2.same (gg.hd O.ms))
  | .bag :: x :: _ :: _, q, _ => cases x <;> exact q.elim
def sd_law_int : DSp := fun ds Q => match ds with
  | [x] => plain x = true ∧ Q (.bl (isInt (pyD x)))
  | _ => False
theorem hw_law_int {K : PySem.W.Frag} (vs : List V) (H : Hp) (Q : VK) (h : spD K sd_law_int vs H Q E0) : sp_law_int K vs H Q E0 := by
  obtain ⟨W, S, ds, Qd, O, hs, q, c⟩ := h
  match ds, q, hs with
  | [x], q, .cons hx .nil => exact ⟨_, _, rfl, hx.dp q.1 |> same_dp hd_le, c.now O q.2 (.bl _)⟩
def sd_law_like (n : Nat) : DSp := fun ds Q => match ds with
  | [x, y] => (plain x = true ∧ plain y = true ∧ fit n (pyD y)) ∧ Q (.bl (like (pyD x) (pyD y)))
  | _ => False
theorem hw_law_like {K : PySem.W.Frag} {n : Nat} (vs : List V) (H : Hp) (Q : VK) (h : spD K (sd_law_like n) vs H Q E0) : sp_law_like K n vs H Q E0 := by
  obtain ⟨W, S, ds, Qd, O, hs, q, c⟩ := h
  match ds, q, hs with
  | [x, y], q, .cons hx (.cons hy .nil) => exact ⟨_, _, _, _, rfl, same_dp hd_le (hx.dp q.1.1), same_dp hd_le (hy.dp q.1.2.1), q.1.2.2, fun H' s => c _ _ H' q.2 (.of O.bag s) (.bl _)⟩

end
section

/-! ### loops over data, by invariants; own operators -/
section
variable {dg : DG} {db : DS} {D : DEnds} {ρ : Ro} {dt : DT} {de : DE} {Q : List Dt → Prop}
theorem for_inv {items : List Dt} (I : Nat → Ro → Prop) (h0 : I 0 ρ) (hs : ∀ i x ρ (P : Ro → Prop), items[i]? = some x → I i ρ → (∀ ρ', I (i + 1) ρ' → P ρ') → dg x ρ fun ρ' => db { D with nx := P, ct := P, bk := D.nx } ρ') (hd : ∀ ρ, I items.length ρ → D.nx ρ) : dForGo dg db D items ρ := by
  have key : ∀ (rest : List Dt) (i : Nat) (ρ : Ro), items.drop i = rest → i + rest.length = items.length → I i ρ → dForGo dg db D rest ρ := by
    intro rest
    induction rest with
    | nil =>
      intro i ρ e l p
      have : i = items.length := by simpa using l
      subst this
      exact hd ρ p
    | cons x rest ih =>
      intro i ρ e l p
      have hx : items[i]? = some x := by rw [← List.head?_drop, e]; rfl
      exact hs i x ρ _ hx p fun ρ' p' => ih (i + 1) ρ' (by rw [← List.drop_drop, e]; rfl) (by simp at l; omega) p'
  exact key items 0 ρ rfl (by simp) h0
/-- over mapped items -/
theorem for_map {β : Type} {xs : List β} {enc : β → Dt} (I : Nat → Ro → Prop) (h0 : I 0 ρ) (hs : ∀ i x ρ (P : Ro → Prop), xs[i]? = some x → I i ρ → (∀ ρ', I (i + 1) ρ' → P ρ') → dg (enc x) ρ fun ρ' => db { D with nx := P, ct := P, bk := D.nx } ρ') (hd : ∀ ρ, I xs.length ρ → D.nx ρ) : dForGo dg db D (xs.map enc) ρ :=
  for_inv I h0 (fun i x ρ P hx p hP => by
    rw [List.getElem?_map] at hx
    cases e : xs[i]? with
    | none => rw [e] at hx; cases hx
    | some y =>
      rw [e] at hx
      cases hx
      exact hs i y ρ P e p hP) (fun ρ p => hd ρ (by rw [List.length_map] at p; exact p))
theorem for_rng {lo : Int} {n : Nat} (I : Nat → Ro → Prop) (h0 : I 0 ρ) (hs : ∀ (i : Nat) ρ (P : Ro → Prop), i < n → I i ρ → (∀ ρ', I (i + 1) ρ' → P ρ') → dg (.int (lo + (i : Int))) ρ fun ρ' => db { D with nx := P, ct := P, bk := D.nx } ρ') (hd : ∀ ρ, I n ρ → D.nx ρ) : dForGo dg db D (rngD lo n) ρ := by
  unfold rngD
  refine for_map I h0 (fun i x ρ P hx p hP => ?_) (fun ρ p => hd ρ (by rw [List.length_range] at p; exact p))
  have il := (List.getElem?_eq_some_iff.mp hx).1
  rw [List.length_range] at il
  rw [List.getElem?_range il] at hx
  cases hx
  exact hs i ρ P il p hP
/-- a comprehension: what is told of the items so far -/
theorem lc_inv {items : List Dt} (P : Nat → List Dt → Prop) (h0 : P 0 []) (hs : ∀ i x acc (R : List Dt → Prop), items[i]? = some x → P i acc → (∀ acc', P (i + 1) acc' → R acc') → dg x ρ fun ρ' => dt ρ' fun b => if2 b (de ρ' fun y => R (acc ++ [y])) (R acc)) (hd : ∀ acc, P items.length acc → Q acc) : dLcGo dg dt de ρ Q items [] := by
  have key : ∀ (rest : List Dt) (i : Nat) (acc : List Dt), items.drop i = rest → i + rest.length = items.length → P i acc → dLcGo dg dt de ρ Q rest acc := by
    intro rest
    induction rest with
    | nil =>
      intro i acc e l p
      have : i = items.length := by simpa using l
      subst this
      exact hd acc p
    | cons x rest ih =>
      intro i acc e l p
      have hx : items[i]? = some x := by rw [← List.head?_drop, e]; rfl
      exact hs i x acc _ hx p fun acc' p' => ih (i + 1) acc' (by rw [← List.drop_drop, e]; rfl) (by simp at l; omega) p'
  exact key items 0 [] rfl (by simp) h0
/-- no test; each item's own value -/
theorem lc_map {β : Type} {xs : List β} {enc f : β → Dt} (hs : ∀ (i : Nat) x (R : Dt → Prop), xs[i]? = some x → R (f x) → dg (enc x) ρ fun ρ' => de ρ' R) (hd : Q (xs.map f)) : dLcGo dg dYes de ρ Q (xs.map enc) [] := by
  refine lc_inv (fun i acc => acc = (xs.take i).map f) rfl (fun i x acc R hx p hP => ?_) fun acc p => ?_
  · rw [List.getElem?_map] at hx
    cases e : xs[i]? with
    | none => rw [e] at hx; cases hx
    | some y =>
      rw [e] at hx
      cases hx
      subst p
      exact hs i y (fun d => R ((xs.take i).map f ++ [d])) e (hP _ (by rw [take_succ_get e, List.map_append]; rfl))
  · subst p
    rw [List.length_map, List.take_length]
    exact hd
/-- the items that pass, as they are -/
theorem lc_keep {β : Type} {xs : List β} {enc f : β → Dt} {p : β → Bool} (hs : ∀ (i : Nat) x (R : Prop) (R' : Dt → Prop), xs[i]? = some x → (p x = true → R' (f x)) → (p x = false → R) → dg (enc x) ρ fun ρ' => dt ρ' fun b => if2 b (de ρ' R') R) (hd : Q ((xs.filter p).map f)) : dLcGo dg dt de ρ Q (xs.map enc) [] := by
  refine lc_inv (fun i acc => acc = ((xs.take i).filter p).map f) rfl (fun i x acc R hx pp hP => ?_) fun acc pp => ?_
  · rw [List.getElem?_map] at hx
    cases e : xs[i]? with
    | none => rw [e] at hx; cases hx
    | some y =>
      rw [e] at hx
      cases hx
      subst pp
      refine hs i y (R (((xs.take i).filter p).map f)) (fun d => R (((xs.take i).filter p).map f ++ [d])) e (fun c => hP _ ?_) (fun c => hP _ ?_)
      · rw [take_succ_get e, List.filter_append, List.map_append, List.filter_cons, if_pos c]
        rfl
      · rw [take_succ_get e, List.filter_append, List.map_append, List.filter_cons, if_neg (by rw [c]; exact Bool.false_ne_true)]
        simp
  · subst pp
    rw [List.length_map, List.take_length]
    exact hd
end
/-- a while: a word W m, m the turns that are left -/
theorem wh_inv {dt : DT} {db : DS} {D : DEnds} {ρ : Ro} (W : Nat → Ro → Prop) (n : Nat) (h0 : W n ρ) (hs : ∀ m ρ (P : Ro → Prop), W m ρ → (∀ m' ρ', m' < m → W m' ρ' → P ρ') → dt ρ fun b => (b = true → db { D with nx := P, ct := P, bk := D.nx } ρ) ∧ (b = false → D.nx ρ)) : dWhile dt db D ρ := by
  have key : ∀ k m ρ, m < k → W m ρ → dWhGo dt db D k ρ := by
    intro k
    induction k with
    | zero => intro m ρ h _; exact absurd h (Nat.not_lt_zero _)
    | succ k ih => exact fun m ρ h w => hs m ρ _ w fun m' ρ' l w' => ih m' ρ' (by omega) w'
  exact ⟨n + 1, key (n + 1) n ρ (Nat.lt_succ_self _) h0⟩
/-! operators whose operands are handed on -/
def RefOpE (K : PySem.W.Frag) (r : R2) (o : DOp) : Prop := ∀ W S H x y d e Qd Q, Ok K W S H → Dv K W (hd S H) x d → Dv K W (hd S H) y e → Cn K W S H Qd Q → o d e Qd → r x y H Q
section
variable {K : PySem.W.Frag} {Jx : WX} {Xd : XD} {ta tb : TE} {da db : DE}
theorem rOpE {r : R2} {o : DOp} (ro : RefOpE K r o) (ra : RefE K Jx Xd ta da) (rb : RefE K Jx Xd tb db) : RefE K Jx Xd (tOp r ta tb) (dOp o da db) := fun W S0 H0 α H σ ρ Qd Q I c h =>
  ra W S0 H0 α H σ ρ _ _ I (fun d v H1 q g hv => rb W S0 H0 α H1 σ ρ _ _ (I.grow g) (fun e u H2 q2 g2 hu => ro W _ H2 v u d e Qd Q (I.ok.grow (g.trans g2)) (hv.same (g2.hd I.hms)) hu (c.grow (g.trans g2)) q2) q) h
def oOwn (C : Str) (sd : DSp) : DOp := fun x y Q => match x, y with
  | .obj D fs, .obj E gs => (D = C ∧ E = C) ∧ sd [.obj D fs, .obj E gs] Q
  | _, _ => False
theorem foOwn {sp : Sp} {sd : DSp} {C : Str} (hw : ∀ vs H Q, spD K sd vs H Q E0 → sp vs H Q E0) : RefOpE K (rSelf (He.ga K C) sp) (oOwn C sd) := fun W S H x y d e Qd Q O hx hy c h => by
  match d, e, h, hx, hy with
  | .obj D fs, .obj E gs, h, hx, hy =>
    obtain ⟨⟨rfl, rfl⟩, q⟩ := h
    have hx' := hx
    have hy' := hy
    cases hx with
    | obj h1 h2 h3 =>
      cases hy with
      | obj k1 k2 k3 => exact ⟨_, _, _, _, _, _, rfl, rfl, (hd_get h1).2, (hd_get k1).2, hw _ H Q ⟨W, S, _, Qd, O, .cons hx' (.cons hy' .nil), q, c⟩⟩
end
/-- two numbers below 2 ^ 13000 -/
def cLcm : DC := fun ds Q => match ds with
  | [.int i, .int j] => (i.natAbs < 2 ^ 13000 ∧ j.natAbs < 2 ^ 13000) ∧ Q (.int (Nat.lcm i.natAbs j.natAbs : Nat))
  | _ => False
theorem fcLcm {K : PySem.W.Frag} : RefC K rLcm cLcm := fc2 (fun W S H x y d e Qd Q O hx hy c h => by
  match d, e, h, hx, hy with
  | .int i, .int j, h, hx, hy =>
    rw [shInt hx, shInt hy]
    exact ⟨i, j, rfl, h.1.1, h.1.2, c.now O h.2 (.int _)⟩) fun ds Q h => by
  unfold cLcm at h
  split at h
  · rfl
  · exact h.elim
/-! enumerate -/
def enumD (l : List Dt) : List Dt := List.zipWith (fun (i : Nat) x => .tup [.int (i : Int), x]) (List.range l.length) l
def jEnum (da : DA) : DI := fun ρ Q => da ρ fun ds => match ds with
  | [x] => dSeqOf x fun l => Q (enumD l)
  | _ => False
theorem enumD_get {l : List Dt} {i : Nat} {d : Dt} (h : l[i]? = some d) : (enumD l)[i]? = some (.tup [.int (i : Int), d]) := by
  have il := (List.getElem?_eq_some_iff.mp h).1
  unfold enumD
  rw [List.getElem?_zipWith, List.getElem?_range il, h]
theorem enumD_len {l : List Dt} : (enumD l).length = l.length := by
  unfold enumD
  rw [List.length_zipWith, List.length_range, Nat.min_self]
theorem wk_enum {K : PySem.W.Frag} {W : Wd} {S : Addr → Prop} {H : Hp} {a : Addr} {t : Bool} {xs : List V} {l : List Dt} {Pm : (Addr → Prop) → Hp → Prop} (hP : ∀ S' H', Pm S' H' → Same (hd S H) (hd S' H')) (hG : ∀ S' H', Pm S' H' → SqB K t H' a xs) (h : DvA K W (hd S H) xs l) : Wk K W (IteM K t a) (enumD l) Pm :=
  ⟨xs.length, _, _, by rw [enumD_len, h.len], walk_enumM, hG, fun S' i H1 x H2 hi p kn y => by
    obtain ⟨T, u, v, rfl, hT, rfl, hu, hv⟩ := y
    have hu' : V.int (i : Nat) = u := Option.some.inj hu
    subst hu'
    obtain ⟨d, e1, e2⟩ := h.get hv
    exact ⟨⟨_, enumD_get e1, dv_pair kn hT (.int _) (e2.same (hP _ _ p))⟩, .inr ⟨T, _, hT, rfl⟩⟩⟩
theorem rjEnum {K : PySem.W.Frag} {Jx : WX} {Xd : XD} {t : TA} {da : DA} (a : RefX K Jx Xd t da) : RefJ K Jx Xd (iEnumU K t) (jEnum da) := fun W S0 H0 α H σ ρ Qd R I c h =>
  v_eu (a W S0 H0 α H σ ρ _ _ I (fun ds vs H1 q g hs => by
    match ds, q, hs with
    | [x], q, .cons hx .nil =>
      obtain ⟨p, t, xs, l, rfl, a1, a2, a3, a4⟩ := sh_seq (I.ok.grow g) hx q
      exact ⟨p, t, xs, rfl, a1, c _ _ H1 a3 g (wk_enum (fun S' H' p => p.1) (fun S' H' p => a4 _ p.2) a2)⟩) h)
theorem riEnum {K : PySem.W.Frag} {Jx : WX} {Xd : XD} {t : TA} {da : DA} (a : RefA K Jx Xd t da) : RefI K Jx Xd (iEnumU K t) (jEnum da) := fun W S0 H0 α H σ ρ Qd R I c h =>
  v_eu (a W S0 H0 α H σ ρ _ _ I (fun ds vs H1 q g hs => by
    match ds, q, hs with
    | [x], q, .cons hx .nil =>
      obtain ⟨p, t, xs, l, rfl, a1, a2, a3⟩ := dv_seq hx q
      exact ⟨p, t, xs, rfl, same_sqb hd_le a1, c _ _ H1 a3 g (wk_enum (fun S' H' p => p) (fun S' H' p => same_sqb (p.trans hd_le) a1) a2)⟩) h)
/-- a for over enumerate -/
theorem for_enum {β : Type} {dg : DG} {db : DS} {D : DEnds} {ρ : Ro} {xs : List β} {enc : β → Dt} (I : Nat → Ro → Prop) (h0 : I 0 ρ) (hs : ∀ i x ρ (P : Ro → Prop), xs[i]? = some x → I i ρ → (∀ ρ', I (i + 1) ρ' → P ρ') → dg (.tup [.int (i : Int), enc x]) ρ fun ρ' => db { D with nx := P, ct := P, bk := D.nx } ρ') (hd : ∀ ρ, I xs.length ρ → D.nx ρ) : dForGo dg db D (enumD (xs.map enc)) ρ :=
  for_inv I h0 (fun i x ρ P hx p hP => by
    have il : i < xs.length := by
      have := (List.getElem?_eq_some_iff.mp hx).1
      rw [enumD_len, List.length_map] at this
      exact this
    rw [enumD_get (d := enc xs[i]) (by rw [List.getElem?_map, List.getElem?_eq_getElem il]; rfl)] at hx
    cases hx
    exact hs i _ ρ P (List.getElem?_eq_getElem il) p hP) (fun ρ p => hd ρ (by rw [enumD_len, List.length_map] at p; exact p))

end
section

/-! ### the program's rows over data -/
abbrev rwD (r : List Int) : List Dt := r.map Dt.int
/-- a row: a list or a tuple of whole numbers -/
def isRow (x : Dt) (r : List Int) : Prop := x = .lst (rwD r) ∨ x = .tup (rwD r)
theorem row_seq {x : Dt} {r : List Int} {Q : List Dt → Prop} (h : isRow x r) (q : Q (rwD r)) : dSeqOf x Q := by
  rcases h with rfl | rfl <;> exact q
theorem log2_bd {b k : Nat} {i : Int} (h : i.natAbs < 2 ^ b) (e : b + 1 ≤ k) : i.natAbs.log2 < k := PySem.Flt.log2_lt_of (by omega) (Nat.lt_of_lt_of_le h (Nat.pow_le_pow_right (by decide) (by omega)))
def sd_primitive_row : DSp := fun ds Q => ∃ x r, ds = [x] ∧ isRow x r ∧ (r.length ≤ 1000000 ∧ Bd 12900 r) ∧ ∀ y, isRow y (prim r) → Q y
abbrev N_primitive_row : List Str := ["row", "shared", "number"]
def t_primitive_row (K : PySem.W.Frag) : TS :=
  (tSeq (tAsg (tC (.int 0)) (gName 1))
    (tSeq (tFor (iSq K (tVar 0)) (gName 2)
    (tAsg (tCB rGcd (tCons (tVar 1) (tCons (tVar 2) tNil))) (gName 1)))
    (tSeq (tIfS (tTest (tOp rLeI (tVar 1) (tC (.int 1)))) (tRet (tVar 0)) tNext)
    (tRet (tLc (iSq K (tVar 0)) (gName 2) tYes (tOp rDivV (tVar 2) (tVar 1)) [2])))))
def a_primitive_row : DS :=
  (dSeq (dAsg (dC (.int 0)) (gN 1))
    (dSeq (dFor (jSq (dVar 0)) (gN 2)
    (dAsg (dCB cGcd (dCons (dRd 1) (dCons (dRd 2) dNil))) (gN 1)))
    (dSeq (dIfS (dTest (dOp oLe (dRd 1) (dC (.int 1)))) (dRet (dVar 0)) dNext)
    (dRet (dLc (jSq (dRd 0)) (gN 2) dYes (dOp oDivv (dRd 2) (dRd 1)) [2])))))
theorem r_primitive_row {K : PySem.W.Frag} {Jx : WX} {Xd : XD} : RefS K Jx Xd (t_primitive_row K) a_primitive_row :=
  (rSeq (rAsg (rInt 0) (rgN 1))
    (rSeq (rFor (riSq (rVar 0)) (rgN 2)
    (rAsg (rCB fcGcd (rConsX (rRd 1) (rConsX (rRd 2) rNilX))) (rgN 1)))
    (rSeq (rIfS (rTest (rOp foLe (rRd 1) (RefE.b (rInt 1)))) (rRet (rVar 0)) rNext)
    (rRet (rLc (rjSq (rRd 0)) (rcN 2 (by decide)) rYes (rOp foDivv (rRd 2) (rRd 1)))))))
theorem pd_primitive_row (ds : List Dt) (Qd : Dt → Prop) (h : sd_primitive_row ds Qd) : ds.length ≤ N_primitive_row.length ∧ a_primitive_row ⟨fun _ => Qd .non, Qd, fun _ => False, fun _ => False⟩ (vals ds ++ List.replicate (N_primitive_row.length - ds.length) .no) := by
  obtain ⟨x, r, rfl, hx, ⟨hl, hb⟩, q⟩ := h
  refine ⟨Nat.le_of_ble_eq_true rfl, ?_⟩
  walk_at "dl"
  refine row_seq hx ?_
  refine for_map (xs := r) (enc := Dt.int) (fun i ρ => ∃ z, z.owned = false ∧ ρ = [.val x, .val (.int (gall (r.take i))), z]) ⟨_, rfl, rfl⟩ ?_ ?_
  · rintro i n ρ P hn ⟨z, hz, rfl⟩ hP
    walk_at "dl"
    exact hP _ ⟨_, rfl, by rw [take_succ_get hn, gall_snoc]; rfl⟩
  · rintro ρ ⟨z, hz, rfl⟩
    rw [List.take_length]
    walk_at "dl"
    refine ⟨fun c => ?_, fun c => ?_⟩
    · walk_at "dl"
      refine q _ ?_
      unfold prim
      rw [if_pos (by have := of_decide_eq_true c; omega)]
      exact hx
    · walk_at "dl"
      refine ⟨by simp [gt, hz], row_seq hx ⟨by rw [List.length_map]; exact hl, ?_⟩⟩
      have g1 : 1 < gall r := by have := of_decide_eq_false c; omega
      refine lc_map (f := fun n => .int (n / (gall r : Int))) (fun i n R hn hR => ?_) ?_
      · walk_at "dl"
        refine ⟨⟨by omega, .inr ?_⟩, ?_⟩
        · exact log2_bd (k := 13000) (hb n (List.mem_of_getElem? hn)) (Nat.le_of_ble_eq_true rfl)
        · rw [Int.fdiv_eq_ediv_of_nonneg _ (by omega)]
          exact hR
      · refine q _ (.inl ?_)
        unfold prim
        rw [if_neg (by omega)]
        unfold rwD
        rw [List.map_map]
        rfl
abbrev sp_primitive_row (K : PySem.W.Frag) : Sp := spD K sd_primitive_row
theorem pure_primitive_row {K : PySem.W.Frag} (vs : List V) (H : Hp) (Q : VK) (E : XK) (h : sp_primitive_row K vs H Q E) : t_primitive_row K { nx := fun _ H' => Q .non H', rt := Q } (L2.start N_primitive_row vs) H := fnD (Jx := fun _ _ _ _ => False) (r_primitive_row) h pd_primitive_row

end
section

/-! ### rows struck, over data -/
theorem atI_at {α : Type} {xs : List α} {i : Nat} {x : α} (h : xs[i]? = some x) : atI xs (i : Int) = some x := by
  have hl : i < xs.length := (List.getElem?_eq_some_iff.mp h).1
  unfold atI ixN
  rw [if_pos (by omega), if_pos (by omega), Option.bind_some]
  exact h
theorem row_ix {x : Dt} {r : List Int} {p : Nat} {Q : Dt → Prop} (h : isRow x r) (l : p < r.length) (q : Q (.int (r.getD p 0))) : oIx x (.int (p : Int)) Q := by
  have e0 : (rwD r)[p]? = some (Dt.int (r.getD p 0)) := by unfold rwD; rw [List.getElem?_map, getD_of l]; rfl
  have e : atI (rwD r) (p : Int) = some (Dt.int (r.getD p 0)) := atI_at e0
  refine row_seq (Q := fun l => match atI l (p : Int) with | some d => Q d | none => False) h ?_
  rw [e]
  exact q
theorem row_tab {x : Dt} {r : List Int} (h : isRow x r) : x = .lst (rwD r) ∨ x = .tup (rwD r) := h
theorem rwD_len (r : List Int) : (rwD r).length = r.length := List.length_map ..
def sd_led_row : DSp := fun ds Q => ∃ x r p, ds = [x, .int ((p : Nat) : Int)] ∧ isRow x r ∧ (p < r.length ∧ r.length ≤ 1000000) ∧ ∀ y, isRow y (led r p) → Q y
abbrev N_led_row : List Str := ["row", "place", "number"]
def t_led_row (K : PySem.W.Frag) : TS :=
  (tSeq (tIfS (tTest (tOp rGtI (tOp (rIx K) (tVar 0) (tVar 1)) (tC (.int 0)))) (tRet (tVar 0)) tNext)
    (tRet (tLc (iSq K (tVar 0)) (gName 2) tYes (tUn rNegI (tVar 2)) [2])))
def a_led_row : DS :=
  (dSeq (dIfS (dTest (dOp oGt (dOp oIx (dRd 0) (dRd 1)) (dC (.int 0)))) (dRet (dVar 0)) dNext)
    (dRet (dLc (jSq (dRd 0)) (gN 2) dYes (dUn uNeg (dRd 2)) [2])))
theorem r_led_row {K : PySem.W.Frag} {Jx : WX} {Xd : XD} : RefS K Jx Xd (t_led_row K) a_led_row :=
  (rSeq (rIfS (rTest (rOp foGt (RefE.b (rOp foIx (rRd 0) (rRd 1))) (RefE.b (rInt 0)))) (rRet (rVar 0)) rNext)
    (rRet (rLc (rjSq (rRd 0)) (rcN 2 (by decide)) rYes (rUn fuNeg (rRd 2)))))
theorem pd_led_row (ds : List Dt) (Qd : Dt → Prop) (h : sd_led_row ds Qd) : ds.length ≤ N_led_row.length ∧ a_led_row ⟨fun _ => Qd .non, Qd, fun _ => False, fun _ => False⟩ (vals ds ++ List.replicate (N_led_row.length - ds.length) .no) := by
  obtain ⟨x, r, p, rfl, hx, ⟨hp, hl⟩, q⟩ := h
  refine ⟨Nat.le_of_ble_eq_true rfl, ?_⟩
  walk_at "dl"
  refine row_ix hx hp ?_
  walk_at "dl"
  refine ⟨fun c => ?_, fun c => ?_⟩
  · walk_at "dl"
    refine q _ ?_
    unfold led
    rw [if_pos (of_decide_eq_true c)]
    exact hx
  · walk_at "dl"
    refine ⟨rfl, row_seq hx ⟨by rw [rwD_len]; exact hl, ?_⟩⟩
    refine lc_map (f := fun n => .int (-n)) (fun i n R hn hR => ?_) ?_
    · walk_at "dl"
      exact hR
    · refine q _ (.inl ?_)
      unfold led
      rw [if_neg (of_decide_eq_false c)]
      unfold rwD
      rw [List.map_map]
      rfl
abbrev sp_led_row (K : PySem.W.Frag) : Sp := spD K sd_led_row
theorem pure_led_row {K : PySem.W.Frag} (vs : List V) (H : Hp) (Q : VK) (E : XK) (h : sp_led_row K vs H Q E) : t_led_row K { nx := fun _ H' => Q .non H', rt := Q } (L2.start N_led_row vs) H := fnD (Jx := fun _ _ _ _ => False) (r_led_row) h pd_led_row
theorem log2_le {b : Nat} {i : Int} (h : i.natAbs < 2 ^ b) : i.natAbs.log2 ≤ b := Nat.lt_succ_iff.mp (PySem.Flt.log2_lt_of (Nat.succ_pos b) (Nat.lt_of_lt_of_le h (Nat.pow_le_pow_right (by decide) (Nat.le_succ b))))
theorem cmul_bd {a b : Nat} {i j : Int} (hi : i.natAbs < 2 ^ a) (hj : j.natAbs < 2 ^ b) (ha : a ≤ 100000) (hb : b ≤ 100000) : cMul i j := .inr (by
  have h1 := log2_le hi
  have h2 := log2_le hj
  show i.natAbs.log2 + j.natAbs.log2 < 1000000
  omega)
theorem zipD_get {l m : List Dt} {i : Nat} {d : Dt} (h : (zipD l m)[i]? = some d) : ∃ x y, l[i]? = some x ∧ m[i]? = some y ∧ d = .tup [x, y] := by
  unfold zipD at h
  rw [List.getElem?_zipWith] at h
  cases e1 : l[i]? with
  | none => rw [e1] at h; cases h
  | some x =>
    cases e2 : m[i]? with
    | none => rw [e1, e2] at h; cases h
    | some y =>
      rw [e1, e2] at h
      exact ⟨x, y, rfl, rfl, (Option.some.inj h).symm⟩
theorem zipD_len {l m : List Dt} : (zipD l m).length = min l.length m.length := List.length_zipWith ..
theorem zipWith_take_succ {α β γ : Type} {f : α → β → γ} {l : List α} {m : List β} {i : Nat} {x : α} {y : β} (h1 : l[i]? = some x) (h2 : m[i]? = some y) : List.zipWith f (l.take (i + 1)) (m.take (i + 1)) = List.zipWith f (l.take i) (m.take i) ++ [f x y] := by
  rw [take_succ_get h1, take_succ_get h2]
  have a := (List.getElem?_eq_some_iff.mp h1).1
  have b := (List.getElem?_eq_some_iff.mp h2).1
  rw [List.zipWith_append (by rw [List.length_take, List.length_take]; omega)]
  rfl
/-- a comprehension over two rows at once -/
theorem lc_zip {dg : DG} {de : DE} {ρ : Ro} {Q : List Dt → Prop} {r l : List Int} (f : Int → Int → Int) (hs : ∀ (i : Nat) n m (R : Dt → Prop), r[i]? = some n → l[i]? = some m → R (.int (f n m)) → dg (.tup [.int n, .int m]) ρ fun ρ' => de ρ' R) (hd : Q (rwD (List.zipWith f r l))) : dLcGo dg dYes de ρ Q (zipD (rwD r) (rwD l)) [] := by
  have hrow : ∀ {r : List Int} {i : Nat} {x : Dt}, (rwD r)[i]? = some x → ∃ n, r[i]? = some n ∧ x = .int n := fun {r i x} h => by
    unfold rwD at h
    rw [List.getElem?_map] at h
    cases e : r[i]? with
    | none => rw [e] at h; cases h
    | some n => rw [e] at h; exact ⟨n, rfl, (Option.some.inj h).symm⟩
  refine lc_inv (fun i acc => acc = rwD (List.zipWith f (r.take i) (l.take i))) rfl (fun i d acc R hx p hP => ?_) fun acc p => ?_
  · obtain ⟨x, y, e1, e2, rfl⟩ := zipD_get hx
    obtain ⟨n, h1, rfl⟩ := hrow e1
    obtain ⟨m, h2, rfl⟩ := hrow e2
    subst p
    exact hs i n m (fun d => R (_ ++ [d])) h1 h2 (hP _ (by rw [zipWith_take_succ h1 h2]; unfold rwD; rw [List.map_append]; rfl))
  · subst p
    rw [zipD_len, rwD_len, rwD_len]
    have e : List.zipWith f (r.take (min r.length l.length)) (l.take (min r.length l.length)) = List.zipWith f r l := by
      rw [← List.take_zipWith, List.take_of_length_le (by rw [List.length_zipWith]; exact Nat.le_refl _)]
    rw [e]
    exact hd
theorem row_zip {x y : Dt} {r l : List Int} {Q : List Dt → Prop} (h : isRow x r) (k : isRow y l) (e : r.length = l.length) (q : Q (zipD (rwD r) (rwD l))) : dSeqOf x fun a => dSeqOf y fun b => a.length = b.length ∧ Q (zipD a b) := row_seq (Q := fun a => dSeqOf y fun b => a.length = b.length ∧ Q (zipD a b)) h (row_seq (Q := fun b => (rwD r).length = b.length ∧ Q (zipD (rwD r) b)) k ⟨by rw [rwD_len, rwD_len, e], q⟩)
def sd_struck : DSp := fun ds Q => ∃ x u r l p b, ds = [x, u, .int ((p : Nat) : Int)] ∧ isRow x r ∧ isRow u l ∧ (p < r.length ∧ r.length = l.length ∧ r.length ≤ 1000000) ∧ (Bd b r ∧ Bd b l ∧ b ≤ 6449) ∧ ∀ y, isRow y (strk r l p) → Q y
abbrev N_struck : List Str := ["row", "lead", "place", "own", "head", "number", "other"]
def t_struck (K : PySem.W.Frag) : TS :=
  (tSeq (tAsg (tOp (rIx K) (tVar 0) (tVar 2)) (gName 3))
    (tSeq (tIfS (tTest (tOp (rEqU K) (tVar 3) (tC (.int 0)))) (tRet (tVar 0)) tNext)
    (tSeq (tAsg (tOp (rIx K) (tVar 1) (tVar 2)) (gName 4))
    (tRet (tCall (sp_primitive_row K) [] E0 (tCons (tLc (iZipU K (tCons (tVar 0) (tCons (tVar 1) tNil))) (gTup K 2 (gCons (gName 5) (gCons (gName 6) gNil))) tYes (tOp rSubI (tOp rMulU (tVar 4) (tVar 5)) (tOp rMulU (tVar 3) (tVar 6))) [5, 6]) tNil))))))
def a_struck : DS :=
  (dSeq (dAsg (dOp oIx (dRd 0) (dRd 2)) (gN 3))
    (dSeq (dIfS (dTest (dOp oEq (dRd 3) (dC (.int 0)))) (dRet (dVar 0)) dNext)
    (dSeq (dAsg (dOp oIx (dRd 1) (dRd 2)) (gN 4))
    (dRet (dCall sd_primitive_row (dCons (dLc (jZip (dCons (dRd 0) (dCons (dRd 1) dNil))) (gT 2 (gsCons (gN 5) (gsCons (gN 6) gsNil))) dYes (dOp oSub (dOp oMul (dRd 4) (dRd 5)) (dOp oMul (dRd 3) (dRd 6))) [5, 6]) dNil))))))
theorem r_struck {K : PySem.W.Frag} {Jx : WX} {Xd : XD} : RefS K Jx Xd (t_struck K) a_struck :=
  (rSeq (rAsg (rOp foIx (rRd 0) (rRd 2)) (rgN 3))
    (rSeq (rIfS (rTest (rOp foEq (rRd 3) (RefE.b (rInt 0)))) (rRet (rVar 0)) rNext)
    (rSeq (rAsg (rOp foIx (rRd 1) (rRd 2)) (rgN 4))
    (rRet (rCall (fun _ _ _ h => h) (rCons (rLc (rjZip (rConsX (rRd 0) (rConsX (rRd 1) rNilX))) (rcT 2 (rcsCons (rcN 5 (by decide)) (rcsCons (rcN 6 (by decide)) rcsNil))) rYes (rOp foSub (RefE.b (rOp foMul (rRd 4) (rRd 5))) (RefE.b (rOp foMul (rRd 3) (rRd 6))))) rNil))))))
theorem pd_struck (ds : List Dt) (Qd : Dt → Prop) (h : sd_struck ds Qd) : ds.length ≤ N_struck.length ∧ a_struck ⟨fun _ => Qd .non, Qd, fun _ => False, fun _ => False⟩ (vals ds ++ List.replicate (N_struck.length - ds.length) .no) := by
  obtain ⟨x, u, r, l, p, b, rfl, hx, hu, ⟨hp, hl, hm⟩, ⟨hr, hlb, hb⟩, q⟩ := h
  refine ⟨Nat.le_of_ble_eq_true rfl, ?_⟩
  walk_at "dl"
  refine row_ix hx hp ?_
  walk_at "dl"
  refine ⟨fun c => ?_, fun c => ?_⟩
  · walk_at "dl"
    refine q _ ?_
    unfold strk
    rw [if_pos (of_decide_eq_true c)]
    exact hx
  · walk_at "dl"
    refine row_ix hu (by omega) ?_
    walk_at "dl"
    refine ⟨rfl, ?_⟩
    walk_at "dl"
    refine row_zip (Q := fun items => items.length ≤ 1000000 ∧ dLcGo _ _ _ _ _ items []) hx hu hl ⟨by rw [zipD_len, rwD_len, rwD_len]; omega, ?_⟩
    refine lc_zip (fun n m => l.getD p 0 * n - r.getD p 0 * m) (fun i n m R hn hm hR => ?_) ?_
    · walk_at "dl"
      refine ⟨rfl, cmul_bd (a := b) (b := b) (getD_bd hlb) (hr n (List.mem_of_getElem? hn)) (by omega) (by omega), ?_⟩
      refine ⟨cmul_bd (a := b) (b := b) (getD_bd hr) (hlb m (List.mem_of_getElem? hm)) (by omega) (by omega), ?_⟩
      exact hR
    · refine ⟨_, comb (l.getD p 0) (r.getD p 0) r l, rfl, .inl rfl, ⟨by rw [comb_len hl]; exact hm, (comb_bd (getD_bd hlb) (getD_bd hr) hr hlb).mono (by omega)⟩, fun y hy => q y ?_⟩
      unfold strk
      rw [if_neg (of_decide_eq_false c)]
      exact hy
abbrev sp_struck (K : PySem.W.Frag) : Sp := spD K sd_struck
theorem pure_struck {K : PySem.W.Frag} (vs : List V) (H : Hp) (Q : VK) (E : XK) (h : sp_struck K vs H Q E) : t_struck K { nx := fun _ H' => Q .non H', rt := Q } (L2.start N_struck vs) H := fnD (Jx := fun _ _ _ _ => False) (r_struck) h pd_struck

end
section

/-! ### lists of rows over data; the echelon -/
def Rws (xs : List Dt) (M : List (List Int)) : Prop := xs.length = M.length ∧ ∀ (i : Nat) x, xs[i]? = some x → ∃ r, M[i]? = some r ∧ isRow x r
def isMat (x : Dt) (M : List (List Int)) : Prop := ∃ xs, (x = .lst xs ∨ x = .tup xs) ∧ Rws xs M
theorem mat_seq {x : Dt} {M : List (List Int)} {Q : List Dt → Prop} (h : isMat x M) (q : ∀ xs, Rws xs M → Q xs) : dSeqOf x Q := by
  obtain ⟨xs, rfl | rfl, h⟩ := h <;> exact q xs h
theorem rws_nil : Rws [] [] := ⟨rfl, fun i x h => by simp at h⟩
theorem rws_app {xs ys : List Dt} {M N : List (List Int)} (h : Rws xs M) (k : Rws ys N) : Rws (xs ++ ys) (M ++ N) := ⟨by rw [List.length_append, List.length_append, h.1, k.1], fun i x hx => by
  rw [List.getElem?_append] at hx
  rw [List.getElem?_append, ← h.1]
  split at hx
  · rename_i hl
    rw [if_pos hl]
    exact h.2 i x hx
  · rename_i hl
    rw [if_neg hl]
    exact k.2 _ x hx⟩
theorem rws_one {x : Dt} {r : List Int} (h : isRow x r) : Rws [x] [r] := ⟨rfl, fun i y hy => by
  cases i with
  | zero =>
    simp at hy
    subst hy
    exact ⟨r, rfl, h⟩
  | succ i => simp at hy⟩
theorem rws_cut {xs : List Dt} {M : List (List Int)} {n m : Nat} (h : Rws xs M) : Rws ((xs.drop n).take m) ((M.drop n).take m) := ⟨by simp [h.1], fun i x hx => by
  have hm : i < m := by
    have q := (List.getElem?_eq_some_iff.mp hx).1
    simp at q
    omega
  rw [List.getElem?_take_of_lt hm, List.getElem?_drop] at hx
  rw [List.getElem?_take_of_lt hm, List.getElem?_drop]
  exact h.2 _ x hx⟩
theorem rws_take {xs : List Dt} {M : List (List Int)} {m : Nat} (h : Rws xs M) : Rws (xs.take m) (M.take m) := by
  have := rws_cut (n := 0) (m := m) h
  rwa [List.drop_zero, List.drop_zero] at this
theorem rws_drop {xs : List Dt} {M : List (List Int)} {n : Nat} (h : Rws xs M) : Rws (xs.drop n) (M.drop n) := by
  have := rws_cut (n := n) (m := xs.length) h
  rwa [List.take_of_length_le (by simp), List.take_of_length_le (by simp [h.1])] at this
theorem rws_ex {xs : List Dt} {M : List (List Int)} {i : Nat} {r : List Int} (h : Rws xs M) (hr : M[i]? = some r) : ∃ x, xs[i]? = some x ∧ isRow x r := by
  have hl : i < xs.length := by rw [h.1]; exact (List.getElem?_eq_some_iff.mp hr).1
  obtain ⟨r', h1, h2⟩ := h.2 i _ (List.getElem?_eq_getElem hl)
  rw [hr] at h1
  cases h1
  exact ⟨_, List.getElem?_eq_getElem hl, h2⟩
theorem rws_tups {M : List (List Int)} : Rws (M.map fun r => .tup (rwD r)) M := ⟨List.length_map .., fun i x hx => by
  rw [List.getElem?_map] at hx
  cases e : M[i]? with
  | none => rw [e] at hx; cases hx
  | some r => rw [e] at hx; exact ⟨r, rfl, .inr (Option.some.inj hx).symm⟩⟩
/-- told rows: tuples -/
abbrev mD (M : List (List Int)) : List Dt := M.map fun r => .tup (rwD r)
theorem mat_mD {M : List (List Int)} : isMat (.lst (mD M)) M := ⟨_, .inl rfl, rws_tups⟩
theorem mat_ix {x : Dt} {M : List (List Int)} {k : Nat} {r : List Int} {Q : Dt → Prop} (h : isMat x M) (e : M[k]? = some r) (q : ∀ y, isRow y r → Q y) : oIx x (.int (k : Int)) Q := by
  refine mat_seq (Q := fun l => match atI l (k : Int) with | some d => Q d | none => False) h fun xs hx => ?_
  obtain ⟨y, e1, e2⟩ := rws_ex hx e
  show match atI xs (k : Int) with | some d => Q d | none => False
  rw [atI_at e1]
  exact q y e2
def sd_first_with : DSp := fun ds Q => ∃ x M p d, ds = [x, .int ((p : Nat) : Int)] ∧ isMat x M ∧ (p < d ∧ (∀ r, r ∈ M → r.length = d)) ∧ Q (.int (match lead? M p with | some k => ((k : Nat) : Int) | none => -1))
abbrev N_first_with : List Str := ["rows", "place", "at", "row"]
def t_first_with (K : PySem.W.Frag) : TS :=
  (tSeq (tFor (iEnumU K (tCons (tVar 0) tNil)) (gTup K 2 (gCons (gName 2) (gCons (gName 3) gNil)))
    (tIfS (tTest (tOp (rNeU K) (tOp (rIx K) (tVar 3) (tVar 1)) (tC (.int 0)))) (tRet (tVar 2)) tNext))
    (tRet (tUn rNegI (tC (.int 1)))))
def a_first_with : DS :=
  (dSeq (dFor (jEnum (dCons (dVar 0) dNil)) (gT 2 (gsCons (gN 2) (gsCons (gN 3) gsNil)))
    (dIfS (dTest (dOp oNe (dOp oIx (dRd 3) (dRd 1)) (dC (.int 0)))) (dRet (dVar 2)) dNext))
    (dRet (dUn uNeg (dC (.int 1)))))
theorem r_first_with {K : PySem.W.Frag} {Jx : WX} {Xd : XD} : RefS K Jx Xd (t_first_with K) a_first_with :=
  (rSeq (rFor (riEnum (rCons (rVar 0) rNil)) (rgT 2 (rgsCons (rgN 2) (rgsCons (rgN 3) rgsNil)))
    (rIfS (rTest (rOp foNe (RefE.b (rOp foIx (rRd 3) (rRd 1))) (RefE.b (rInt 0)))) (rRet (rVar 2)) rNext))
    (rRet (rUn fuNeg (RefE.b (rInt 1)))))
theorem lead_at {M : List (List Int)} {p i : Nat} {r : List Int} (h : M[i]? = some r) (hz : ∀ r', r' ∈ M.take i → r'.getD p 0 = 0) (hr : r.getD p 0 ≠ 0) : lead? M p = some i := by
  have il := (List.getElem?_eq_some_iff.mp h).1
  refine List.findIdx?_eq_some_iff_getElem.mpr ⟨il, by rw [(List.getElem?_eq_some_iff.mp h).2]; simpa using hr, fun j hj => ?_⟩
  have := hz M[j] (List.mem_of_getElem? (i := j) (by rw [List.getElem?_take_of_lt hj, List.getElem?_eq_getElem (by omega)]))
  simpa using this
theorem lead_no {M : List (List Int)} {p : Nat} (hz : ∀ r, r ∈ M → r.getD p 0 = 0) : lead? M p = none := List.findIdx?_eq_none_iff.mpr fun r hr => by
  have := hz r hr
  simpa using this
/-- enumerate of a sequence, stepped by its index -/
theorem for_enumd {dg : DG} {db : DS} {D : DEnds} {ρ : Ro} {l : List Dt} (I : Nat → Ro → Prop) (h0 : I 0 ρ) (hs : ∀ i x ρ (P : Ro → Prop), l[i]? = some x → I i ρ → (∀ ρ', I (i + 1) ρ' → P ρ') → dg (.tup [.int (i : Int), x]) ρ fun ρ' => db { D with nx := P, ct := P, bk := D.nx } ρ') (hd : ∀ ρ, I l.length ρ → D.nx ρ) : dForGo dg db D (enumD l) ρ :=
  for_inv I h0 (fun i x ρ P hx p hP => by
    have il : i < l.length := by
      have := (List.getElem?_eq_some_iff.mp hx).1
      rw [enumD_len] at this
      exact this
    rw [enumD_get (List.getElem?_eq_getElem il)] at hx
    cases hx
    exact hs i _ ρ P (List.getElem?_eq_getElem il) p hP) (fun ρ p => hd ρ (by rw [enumD_len] at p; exact p))
theorem pd_first_with (ds : List Dt) (Qd : Dt → Prop) (h : sd_first_with ds Qd) : ds.length ≤ N_first_with.length ∧ a_first_with ⟨fun _ => Qd .non, Qd, fun _ => False, fun _ => False⟩ (vals ds ++ List.replicate (N_first_with.length - ds.length) .no) := by
  obtain ⟨x, M, p, d, rfl, hx, ⟨hp, hM⟩, q⟩ := h
  refine ⟨Nat.le_of_ble_eq_true rfl, ?_⟩
  walk_at "dl"
  refine mat_seq hx fun xs hxs => ?_
  refine for_enumd (fun i ρ => (∀ r, r ∈ M.take i → r.getD p 0 = 0) ∧ ∃ z w, (z.owned = false ∧ w.owned = false) ∧ ρ = [.val x, .val (.int (p : Int)), z, w]) ⟨by simp, _, _, ⟨rfl, rfl⟩, rfl⟩ ?_ ?_
  · rintro i y ρ P hy ⟨hz, z, w, ho, rfl⟩ hP
    obtain ⟨r, hr, ry⟩ := hxs.2 i y hy
    walk_at "dl"
    refine ⟨rfl, ?_⟩
    refine row_ix ry (by rw [hM r (List.mem_of_getElem? hr)]; exact hp) ?_
    walk_at "dl"
    refine ⟨fun c => ?_, fun c => ?_⟩
    · walk_at "dl"
      rw [lead_at hr hz (by simpa using c)] at q
      exact q
    · walk_at "dl"
      refine hP _ ⟨fun r' hr' => ?_, _, _, ⟨rfl, rfl⟩, rfl⟩
      rw [take_succ_get hr] at hr'
      rcases List.mem_append.mp hr' with e | e
      · exact hz r' e
      · rw [List.mem_singleton.mp e]
        simpa using c
  · rintro ρ ⟨hz, z, w, ho, rfl⟩
    rw [hxs.1, List.take_length] at hz
    walk_at "dl"
    rw [lead_no hz] at q
    exact q
abbrev sp_first_with (K : PySem.W.Frag) : Sp := spD K sd_first_with
theorem pure_first_with {K : PySem.W.Frag} (vs : List V) (H : Hp) (Q : VK) (E : XK) (h : sp_first_with K vs H Q E) : t_first_with K { nx := fun _ H' => Q .non H', rt := Q } (L2.start N_first_with vs) H := fnD (Jx := fun _ _ _ _ => False) (r_first_with) h pd_first_with
/-- the state before place p -/
def est (M : List (List Int)) (p : Nat) : List (List Int) × List (List Int) := (List.range p).foldl estep ([], eleft M)
theorem est_succ (M : List (List Int)) (p : Nat) : est M (p + 1) = estep (est M p) p := by
  unfold est
  rw [List.range_succ, List.foldl_append]
  rfl
/-- what the echelon's numbers must keep to -/
structure EchOk (d : Nat) (M : List (List Int)) : Prop where
  dle : d ≤ 1000
  len : M.length ≤ 100000
  rows : Okr d 12900 M
  told : ∀ p, p < d → Okr d 6449 (est M p).1
  left : ∀ p, p < d → Okr d 6449 (est M p).2
theorem est_len1 (M : List (List Int)) : ∀ p, (est M p).1.length ≤ p
  | 0 => Nat.le_refl _
  | p + 1 => by
    rw [est_succ]
    have := est_len1 M p
    unfold estep
    split
    · omega
    · simp
      omega
theorem est_len2 (M : List (List Int)) : ∀ p, (est M p).2.length ≤ M.length
  | 0 => by
    show (eleft M).length ≤ _
    unfold eleft
    rw [List.length_map]
    exact List.length_filter_le ..
  | p + 1 => by
    rw [est_succ]
    have := est_len2 M p
    unfold estep
    split
    · exact this
    · rename_i k e
      refine Nat.le_trans (List.length_filter_le ..) ?_
      simp
      omega
def sd_echelon : DSp := fun ds Q => ∃ x M d, ds = [.int ((d : Nat) : Int), x] ∧ isMat x M ∧ EchOk d M ∧ Q (.lst (mD (ech d M)))
abbrev N_echelon : List Str := ["deep", "rows", "left", "told", "place", "at", "lead", "others", "row"]
def t_echelon (K : PySem.W.Frag) : TS :=
  (tSeq (tAsg (tLc (iSq K (tVar 1)) (gName 8) (tB (tCB (rAnyU K) (tCons (tCB (rListOf K) (tCons (tVar 8) tNil)) tNil))) (tCall (sp_primitive_row K) [] E0 (tCons (tVar 8) tNil)) [8]) (gName 2))
    (tSeq (tAsg (tLst tNil) (gName 3))
    (tSeq (tFor (iRng1 (tCons (tVar 0) tNil)) (gName 4)
    (tSeq (tAsg (tCall (sp_first_with K) [] E0 (tCons (tVar 2) (tCons (tVar 4) tNil))) (gName 5))
    (tIfS (tTest (tOp rGeI (tVar 5) (tC (.int 0)))) (tSeq (tAsg (tCall (sp_led_row K) [] E0 (tCons (tOp (rIx K) (tVar 2) (tVar 5)) (tCons (tVar 4) tNil))) (gName 6))
    (tSeq (tAsg (tLc (iSq K (tOp (rAddU K) (tSl (rSlU K) (tVar 2) tNoPart (tPart (tVar 5))) (tSl (rSlU K) (tVar 2) (tPart (tOp (rAddU K) (tVar 5) (tC (.int 1)))) tNoPart))) (gName 8) tYes (tCall (sp_struck K) [] E0 (tCons (tVar 8) (tCons (tVar 6) (tCons (tVar 4) tNil)))) [8]) (gName 7))
    (tSeq (tAsg (tLc (iSq K (tVar 7)) (gName 8) (tB (tCB (rAnyU K) (tCons (tCB (rListOf K) (tCons (tVar 8) tNil)) tNil))) (tVar 8) [8]) (gName 2))
    (tAsg (tOp (rAddU K) (tLc (iSq K (tVar 3)) (gName 8) tYes (tCall (sp_struck K) [] E0 (tCons (tVar 8) (tCons (tVar 6) (tCons (tVar 4) tNil)))) [8]) (tLst (tCons (tVar 6) tNil))) (gName 3))))) tNext)))
    (tRet (tLc (iSq K (tVar 3)) (gName 8) tYes (tCB (rTupOf K) (tCons (tVar 8) tNil)) [8])))))
def a_echelon : DS :=
  (dSeq (dAsg (dLc (jSq (dRd 1)) (gN 8) (dTest (dCB (c1 uAny) (dCons (dCB (c1 uList) (dCons (dRd 8) dNil)) dNil))) (dCall sd_primitive_row (dCons (dVar 8) dNil)) [8]) (gN 2))
    (dSeq (dAsg (dLst dNil) (gN 3))
    (dSeq (dFor (jRng1 (dCons (dRd 0) dNil)) (gN 4)
    (dSeq (dAsg (dCall sd_first_with (dCons (dVar 2) (dCons (dVar 4) dNil))) (gN 5))
    (dIfS (dTest (dOp oGe (dRd 5) (dC (.int 0)))) (dSeq (dAsg (dCall sd_led_row (dCons (dOp oIx (dRd 2) (dRd 5)) (dCons (dVar 4) dNil))) (gN 6))
    (dSeq (dAsg (dLc (jSq (dOp oAdd (dSl (dRd 2) dNoPart (dPart (dVar 5))) (dSl (dRd 2) (dPart (dOp oAdd (dRd 5) (dC (.int 1)))) dNoPart))) (gN 8) dYes (dCall sd_struck (dCons (dVar 8) (dCons (dVar 6) (dCons (dVar 4) dNil)))) [8]) (gN 7))
    (dSeq (dAsg (dLc (jSq (dRd 7)) (gN 8) (dTest (dCB (c1 uAny) (dCons (dCB (c1 uList) (dCons (dRd 8) dNil)) dNil))) (dVar 8) [8]) (gN 2))
    (dAsg (dOp oAdd (dLc (jSq (dRd 3)) (gN 8) dYes (dCall sd_struck (dCons (dVar 8) (dCons (dVar 6) (dCons (dVar 4) dNil)))) [8]) (dLst (dCons (dVar 6) dNil))) (gN 3))))) dNext)))
    (dRet (dLc (jSq (dRd 3)) (gN 8) dYes (dCB (c1 uTuple) (dCons (dRd 8) dNil)) [8])))))
theorem r_echelon {K : PySem.W.Frag} {Jx : WX} {Xd : XD} : RefS K Jx Xd (t_echelon K) a_echelon :=
  (rSeq (rAsg (rLc (rjSq (rRd 1)) (rcN 8 (by decide)) (rB (rCB fcAny (rConsX (RefE.b (rCB fcList (rConsX (rRd 8) rNilX))) rNilX))) (rCall (fun _ _ _ h => h) (rCons (rVar 8) rNil))) (rgN 2))
    (rSeq (rAsg (rLst rNil) (rgN 3))
    (rSeq (rFor (riRng1 (rConsX (rRd 0) rNilX)) (rgN 4)
    (rSeq (rAsg (rCall (fun _ _ _ h => h) (rCons (rVar 2) (rCons (rVar 4) rNil))) (rgN 5))
    (rIfS (rTest (rOp foGe (rRd 5) (RefE.b (rInt 0)))) (rSeq (rAsg (rCall (fun _ _ _ h => h) (rCons (rOp foIx (rRd 2) (rRd 5)) (rCons (rVar 4) rNil))) (rgN 6))
    (rSeq (rAsg (rLc (rjSq (RefE.b (rOp foAdd (RefE.b (rSl (rRd 2) rNoPart (rPart (rVar 5)))) (RefE.b (rSl (rRd 2) (rPart (rOp foAdd (rRd 5) (RefE.b (rInt 1)))) rNoPart))))) (rcN 8 (by decide)) rYes (rCall (fun _ _ _ h => h) (rCons (rVar 8) (rCons (rVar 6) (rCons (rVar 4) rNil))))) (rgN 7))
    (rSeq (rAsg (rLc (rjSq (rRd 7)) (rcN 8 (by decide)) (rB (rCB fcAny (rConsX (RefE.b (rCB fcList (rConsX (rRd 8) rNilX))) rNilX))) (rVar 8)) (rgN 2))
    (rAsg (rOp foAdd (RefE.b (rLc (rjSq (rRd 3)) (rcN 8 (by decide)) rYes (rCall (fun _ _ _ h => h) (rCons (rVar 8) (rCons (rVar 6) (rCons (rVar 4) rNil)))))) (RefE.b (rLst (rCons (rVar 6) rNil)))) (rgN 3))))) rNext)))
    (rRet (rLc (rjSq (rRd 3)) (rcN 8 (by decide)) rYes (rCB fcTuple (rConsX (rRd 8) rNilX)))))))
theorem any_row (r : List Int) : (r.any fun n => n != 0) = nz r := rfl
/-- each row's own -/
theorem rws_map {dg : DG} {de : DE} {ρ : Ro} {Q : List Dt → Prop} {xs : List Dt} {M : List (List Int)} (f : List Int → List Int) (h : Rws xs M) (hs : ∀ x r (R : Dt → Prop), isRow x r → r ∈ M → (∀ y, isRow y (f r) → R y) → dg x ρ fun ρ' => de ρ' R) (hd : ∀ ys, Rws ys (M.map f) → Q ys) : dLcGo dg dYes de ρ Q xs [] := by
  refine lc_inv (fun i acc => Rws acc ((M.take i).map f)) rws_nil (fun i x acc R hx p hP => ?_) fun acc p => ?_
  · obtain ⟨r, hr, rx⟩ := h.2 i x hx
    exact hs x r (fun d => R (acc ++ [d])) rx (List.mem_of_getElem? hr) fun y hy => hP _ (by rw [take_succ_get hr, List.map_append]; exact rws_app p (rws_one hy))
  · rw [h.1, List.take_length] at p
    exact hd acc p
/-- the rows that are not zero, each row's own -/
theorem rws_nz {dg : DG} {dt : DT} {de : DE} {ρ : Ro} {Q : List Dt → Prop} {xs : List Dt} {M : List (List Int)} (f : List Int → List Int) (h : Rws xs M) (hs : ∀ x r (R : Prop) (R' : Dt → Prop), isRow x r → r ∈ M → (nz r = true → ∀ y, isRow y (f r) → R' y) → (nz r = false → R) → dg x ρ fun ρ' => dt ρ' fun b => if2 b (de ρ' R') R) (hd : ∀ ys, Rws ys ((M.filter nz).map f) → Q ys) : dLcGo dg dt de ρ Q xs [] := by
  refine lc_inv (fun i acc => Rws acc (((M.take i).filter nz).map f)) rws_nil (fun i x acc R hx p hP => ?_) fun acc p => ?_
  · obtain ⟨r, hr, rx⟩ := h.2 i x hx
    refine hs x r (R acc) (fun d => R (acc ++ [d])) rx (List.mem_of_getElem? hr) (fun c y hy => hP _ ?_) fun c => hP _ ?_
    · rw [filter_take_succ hr, if_pos c, List.map_append]
      exact rws_app p (rws_one hy)
    · rw [filter_take_succ hr, if_neg (by rw [c]; exact Bool.false_ne_true)]
      exact p
  · rw [h.1, List.take_length] at p
    exact hd acc p
theorem cut_to {β : Type} {l : List β} {k : Nat} (h : k ≤ l.length) : cutG l none (some (k : Int)) = l.take k := by
  unfold cutG
  rw [HT.sIx_none, HT.sIx_nat, List.drop_zero, Nat.min_eq_left h, Nat.sub_zero]
theorem cut_from {β : Type} {l : List β} {k : Nat} (h : k ≤ l.length) : cutG l (some (k : Int)) none = l.drop k := by
  unfold cutG
  rw [HT.sIx_none, HT.sIx_nat, Nat.min_eq_left h, List.take_of_length_le (by simp)]
theorem pd_echelon (ds : List Dt) (Qd : Dt → Prop) (h : sd_echelon ds Qd) : ds.length ≤ N_echelon.length ∧ a_echelon ⟨fun _ => Qd .non, Qd, fun _ => False, fun _ => False⟩ (vals ds ++ List.replicate (N_echelon.length - ds.length) .no) := by
  obtain ⟨x, M, d, rfl, hx, ok, q⟩ := h
  have nzc : ∀ (ns : List Int), (ns.any fun n => n != 0) = nz ns := fun _ => rfl
  refine ⟨Nat.le_of_ble_eq_true rfl, ?_⟩
  walk_at "dl"
  refine ⟨rfl, ?_⟩
  refine mat_seq hx fun xs hxs => ⟨by rw [hxs.1]; exact Nat.le_trans ok.len (by decide), ?_⟩
  refine rws_nz prim hxs (fun y r R R' hy hr h1 h2 => ?_) fun ys hys => ?_
  · walk_at "dl"
    refine row_seq hy (.inr ⟨r, rfl, ?_⟩)
    rw [nzc]
    cases c : nz r with
    | true => exact ⟨y, r, rfl, hy, ⟨by rw [(ok.rows r hr).1]; exact Nat.le_trans ok.dle (by decide), (ok.rows r hr).2⟩, h1 c⟩
    | false => exact h2 c
  walk_at "dl"
  refine ⟨Nat.zero_le _, ?_⟩
  have dle := ok.dle
  have mle := ok.len
  walk_at "dl"
  refine ⟨⟨by omega, by omega⟩, ?_⟩
  rw [Int.toNat_natCast]
  refine for_rng (lo := 0) (n := d) (fun p ρ => ∃ L T z4 z5 z6 z7, (z4.owned = false ∧ z5.owned = false ∧ z6.owned = false ∧ z7.owned = false) ∧ ρ = [.val (.int (d : Int)), .val x, .val (.lst L), .val (.lst T), z4, z5, z6, z7, .no] ∧ Rws L (est M p).2 ∧ Rws T (est M p).1) ⟨_, _, _, _, _, _, ⟨rfl, rfl, rfl, rfl⟩, rfl, hys, rws_nil⟩ ?_ ?_
  · rintro p ρ P hp ⟨L, T, z4, z5, z6, z7, ho, rfl, hL, hT⟩ hP
    rw [Int.zero_add]
    have oT := ok.told p hp
    have oL := ok.left p hp
    have nT := est_len1 M p
    have nL := est_len2 M p
    walk_at "dl"
    refine ⟨_, _, p, d, rfl, ⟨L, .inl rfl, hL⟩, ⟨hp, fun r hr => (oL r hr).1⟩, ?_⟩
    cases hk : lead? (est M p).2 p with
    | none =>
      have he : est M (p + 1) = est M p := by
        rw [est_succ]
        unfold estep
        rw [hk]
      walk_at "dl"
      refine ⟨fun c => absurd c (by decide), fun _ => hP _ ⟨L, T, _, _, z6, z7, ⟨rfl, rfl, ho.2.2⟩, rfl, by rw [he]; exact hL, by rw [he]; exact hT⟩⟩
    | some k =>
      obtain ⟨r, hr, hne, _⟩ := lead_some hk
      have okr := oL r (List.mem_of_getElem? hr)
      have kl := (List.getElem?_eq_some_iff.mp hr).1
      have hg : (est M p).2.getD k [] = r := by
        rw [List.getD_eq_getElem?_getD, hr]
        rfl
      have he : est M (p + 1) = ((est M p).1.map (strk · (led r p) p) ++ [led r p], (((est M p).2.take k ++ (est M p).2.drop (k + 1)).map (strk · (led r p) p)).filter nz) := by
        rw [est_succ]
        unfold estep
        rw [hk]
        dsimp only
        rw [hg]
      have okl : (led r p).length = d ∧ Bd 6449 (led r p) := ⟨by rw [led_len]; exact okr.1, led_bd okr.2⟩
      walk_at "dl"
      refine ⟨fun _ => ?_, fun c => absurd c (by simp)⟩
      walk_at "dl"
      refine mat_ix (M := (est M p).2) (k := k) ⟨L, .inl rfl, hL⟩ hr fun y hy => ?_
      refine ⟨y, r, p, rfl, hy, ⟨by rw [okr.1]; exact hp, by rw [okr.1]; omega⟩, fun w hw => ?_⟩
      walk_at "dl"
      refine ⟨rfl, ?_⟩
      walk_at "dl"
      have hlk : k < L.length := by rw [hL.1]; exact kl
      rw [show (k : Int) + 1 = ((k + 1 : Nat) : Int) by omega, cut_to (by omega), cut_from (by omega)]
      have rO : Rws (L.take k ++ L.drop (k + 1)) ((est M p).2.take k ++ (est M p).2.drop (k + 1)) := rws_app (rws_take hL) (rws_drop hL)
      have oO : Okr d 6449 ((est M p).2.take k ++ (est M p).2.drop (k + 1)) := okr_sub oL fun r hr => by
        rcases List.mem_append.mp hr with h | h
        · exact List.mem_of_mem_take h
        · exact List.mem_of_mem_drop h
      have nO : (L.take k ++ L.drop (k + 1)).length ≤ L.length := by simp; omega
      rw [hL.1] at nO
      refine ⟨by rw [List.length_append] at nO; omega, by omega, ?_⟩
      have strks : ∀ (N : List (List Int)) (x : Dt) (r' : List Int) (R : Dt → Prop), Okr d 6449 N → isRow x r' → r' ∈ N → (∀ y, isRow y (strk r' (led r p) p) → R y) → sd_struck [x, w, .int (p : Int)] R := fun N x r' R oN hx hr' h => ⟨x, w, r', led r p, p, 6449, rfl, hx, hw, ⟨by rw [(oN r' hr').1]; exact hp, by rw [(oN r' hr').1, okl.1], by rw [(oN r' hr').1]; omega⟩, ⟨(oN r' hr').2, okl.2, Nat.le_refl _⟩, h⟩
      refine rws_map (strk · (led r p) p) rO (fun y r' R hy hr' h => ?_) fun O hO => ?_
      · walk_at "dl"
        exact strks _ y r' R oO hy hr' h
      walk_at "dl"
      refine ⟨rfl, by rw [hO.1, List.length_map, ← rO.1]; omega, ?_⟩
      refine rws_nz id hO (fun y r' R R' hy hr' h1 h2 => ?_) fun L' hL' => ?_
      · walk_at "dl"
        refine row_seq hy (.inr ⟨r', rfl, ?_⟩)
        rw [nzc]
        cases c : nz r' with
        | true => exact h1 c y hy
        | false => exact h2 c
      rw [List.map_id] at hL'
      walk_at "dl"
      refine ⟨rfl, by rw [hT.1]; omega, ?_⟩
      refine rws_map (strk · (led r p) p) hT (fun y r' R hy hr' h => ?_) fun T' hT' => ?_
      · walk_at "dl"
        exact strks _ y r' R oT hy hr' h
      walk_at "dl"
      refine ⟨Nat.le_of_ble_eq_true rfl, ?_⟩
      have nT' := hT'.1
      rw [List.length_map] at nT'
      walk_at "dl"
      refine ⟨by show T'.length + 1 ≤ _; omega, ?_⟩
      exact hP _ ⟨L', T' ++ [w], _, _, _, _, ⟨rfl, rfl, rfl, rfl⟩, rfl, by rw [he]; exact hL', by rw [he]; exact rws_app hT' (rws_one hw)⟩
  · rintro ρ ⟨L, T, z4, z5, z6, z7, ho, rfl, hL, hT⟩
    walk_at "dl"
    have nT := est_len1 M d
    refine ⟨rfl, by rw [hT.1]; omega, ?_⟩
    refine lc_inv (fun i acc => acc = mD ((ech d M).take i)) rfl (fun i y acc R hy e hR => ?_) fun acc e => ?_
    · obtain ⟨r, hr, ry⟩ := hT.2 i y hy
      walk_at "dl"
      refine row_seq ry (hR _ ?_)
      have g : (ech d M)[i]? = some r := hr
      rw [e, take_succ_get g]
      unfold mD
      rw [List.map_append]
      rfl
    · subst e
      rw [hT.1]
      have e : (ech d M).take (est M d).1.length = ech d M := List.take_length
      rw [e]
      exact q
abbrev sp_echelon (K : PySem.W.Frag) : Sp := spD K sd_echelon
theorem pure_echelon {K : PySem.W.Frag} (vs : List V) (H : Hp) (Q : VK) (E : XK) (h : sp_echelon K vs H Q E) : t_echelon K { nx := fun _ H' => Q .non H', rt := Q } (L2.start N_echelon vs) H := fnD (Jx := fun _ _ _ _ => False) (r_echelon) h pd_echelon

end
section

/-! ### dicts over data -/
def valD (kvs : List (Key × Dt)) (k : Key) : Option Dt := (kvs.find? fun kv => decide (kv.1 = k)).map (·.2)
def putD (kvs : List (Key × Dt)) (k : Key) (v : Dt) : List (Key × Dt) := if (kvs.any fun kv => decide (kv.1 = k)) = true then kvs.map (fun kv => if kv.1 = k then (kv.1, v) else kv) else kvs ++ [(k, v)]
def keyD : Dt → Option Key
  | .int i => some (.inl i)
  | .str s => some (.inr s)
  | _ => none
section
variable {K : PySem.W.Frag} {W : Wd} {A : Hp}
theorem DvK.len : ∀ {vs : List (Key × V)} {ds : List (Key × Dt)}, DvK K W A vs ds → vs.length = ds.length
  | _, _, .nil => rfl
  | _, _, .cons _ r => by rw [List.length_cons, List.length_cons, DvK.len r]
theorem DvK.any {k : Key} : ∀ {vs : List (Key × V)} {ds : List (Key × Dt)}, DvK K W A vs ds → (vs.any fun kv => decide (kv.1 = k)) = ds.any fun kv => decide (kv.1 = k)
  | _, _, .nil => rfl
  | _, _, .cons _ r => by rw [List.any_cons, List.any_cons, DvK.any r]
theorem DvK.mapset {k : Key} {v : V} {d : Dt} (h : Dv K W A v d) : ∀ {vs : List (Key × V)} {ds : List (Key × Dt)}, DvK K W A vs ds → DvK K W A (vs.map fun kv => if kv.1 = k then (kv.1, v) else kv) (ds.map fun kv => if kv.1 = k then (kv.1, d) else kv)
  | _, _, .nil => .nil
  | _, _, .cons (k := k') h' r => by
    rw [List.map_cons, List.map_cons]
    by_cases e : k' = k
    · rw [if_pos e, if_pos e]
      exact .cons h (DvK.mapset h r)
    · rw [if_neg e, if_neg e]
      exact .cons h' (DvK.mapset h r)
theorem DvK.app : ∀ {vs us : List (Key × V)} {ds es : List (Key × Dt)}, DvK K W A vs ds → DvK K W A us es → DvK K W A (vs ++ us) (ds ++ es)
  | _, _, _, _, .nil, k => k
  | _, _, _, _, .cons h r, k => .cons h (DvK.app r k)
theorem DvK.put {k : Key} {v : V} {d : Dt} {vs : List (Key × V)} {ds : List (Key × Dt)} (h : DvK K W A vs ds) (hv : Dv K W A v d) : DvK K W A (putK vs k v) (putD ds k d) := by
  unfold putK putD
  rw [h.any]
  split
  · exact h.mapset hv
  · exact h.app (.cons hv .nil)
theorem DvK.val {k : Key} : ∀ {vs : List (Key × V)} {ds : List (Key × Dt)}, DvK K W A vs ds → (valV vs k = none ∧ valD ds k = none) ∨ ∃ v d, valV vs k = some v ∧ valD ds k = some d ∧ Dv K W A v d
  | _, _, .nil => .inl ⟨rfl, rfl⟩
  | _, _, .cons (k := k') h r => by
    unfold valV valD
    rw [List.find?_cons, List.find?_cons]
    by_cases e : k' = k
    · simp only [e, decide_true]
      exact .inr ⟨_, _, rfl, rfl, h⟩
    · simp only [e, decide_false]
      exact DvK.val r
theorem key_v {v : V} {d : Dt} {k : Key} (h : Dv K W A v d) (e : keyD d = some k) : v = kV k := by
  cases h with
  | int i => cases e; rfl
  | str s => cases e; rfl
  | _ => cases e
end
def dDGet (da db : DE) : DE := fun ρ Q => da ρ fun x => db ρ fun y => match x with
  | .dk kvs => match keyD y with
    | some k => match valD kvs k with
      | some d => Q d
      | none => False
    | none => False
  | _ => False
def dDIn (dy dx : DE) : DE := fun ρ Q => dy ρ fun y => dx ρ fun x => match x with
  | .dk kvs => match keyD y with
    | some k => Q (.bl (valD kvs k).isSome)
    | none => False
  | _ => False
def dDNin (dy dx : DE) : DE := fun ρ Q => dy ρ fun y => dx ρ fun x => match x with
  | .dk kvs => match keyD y with
    | some k => Q (.bl (!(valD kvs k).isSome))
    | none => False
  | _ => False
def dDcGo (dg : DG) (dt : DT) (dk dv : DE) (ρ : Ro) (Q : List (Key × Dt) → Prop) : List Dt → List (Key × Dt) → Prop
  | [], acc => Q acc
  | x :: xs, acc => dg x ρ fun ρ' => dt ρ' fun b => if2 b (dk ρ' fun y => dv ρ' fun z => match keyD y with
    | some k => dDcGo dg dt dk dv ρ Q xs (putD acc k z)
    | none => False) (dDcGo dg dt dk dv ρ Q xs acc)
def dDc (di : DI) (dg : DG) (dt : DT) (dk dv : DE) (ws : List Nat) : DE := fun ρ Q => (ws.all fun i => !(gt ρ i).owned) = true ∧ di ρ fun items => items.length ≤ 1000000 ∧ dDcGo dg dt dk dv (wp ρ ws) (fun l => Q (.dk l)) items []
section
variable {K : PySem.W.Frag} {Jx : WX} {Xd : XD} {tx ty : TE} {dx dy : DE}
theorem rDGet (a : RefE K Jx Xd tx dx) (b : RefE K Jx Xd ty dy) : RefE K Jx Xd (tDGet tx ty) (dDGet dx dy) := fun W S0 H0 α H σ ρ Qd Q I c h =>
  a W S0 H0 α H σ ρ _ _ I (fun d v H1 q g hv => b W S0 H0 α H1 σ ρ _ _ (I.grow g) (fun e u H2 q2 g2 hu => by
    have hv2 := hv.same (g2.hd I.hms)
    cases hv2 with
    | dk h1 h2 =>
      dsimp only at q2
      split at q2
      · rename_i k ek
        split at q2
        · rename_i d' ed
          rcases h2.val (k := k) with ⟨_, n⟩ | ⟨v', d'', e1, e2, e3⟩
          · rw [n] at ed; cases ed
          · rw [e2] at ed
            cases ed
            rw [key_v hu ek]
            exact ⟨_, v', rfl, by rw [← e1]; exact DGet.k (hd_get h1).2, c _ _ H2 q2 (g.trans g2) e3⟩
        · exact q2.elim
      · exact q2.elim
    | _ => exact q2.elim) q) h
theorem rDIn (b : RefE K Jx Xd ty dy) (a : RefE K Jx Xd tx dx) : RefE K Jx Xd (tDIn ty tx) (dDIn dy dx) := fun W S0 H0 α H σ ρ Qd Q I c h =>
  b W S0 H0 α H σ ρ _ _ I (fun d v H1 q g hv => a W S0 H0 α H1 σ ρ _ _ (I.grow g) (fun e u H2 q2 g2 hu => by
    have hv2 := hv.same (g2.hd I.hms)
    cases hu with
    | dk h1 h2 =>
      dsimp only at q2
      split at q2
      · rename_i k ek
        rw [key_v hv2 ek]
        refine ⟨_, _, rfl, DGet.k (hd_get h1).2, ?_⟩
        rcases h2.val (k := k) with ⟨n1, n2⟩ | ⟨v', d'', e1, e2, e3⟩
        · rw [n1]; rw [n2] at q2; exact c _ _ H2 q2 (g.trans g2) (.bl _)
        · rw [e1]; rw [e2] at q2; exact c _ _ H2 q2 (g.trans g2) (.bl _)
      · exact q2.elim
    | _ => exact q2.elim) q) h
theorem rDNin (b : RefE K Jx Xd ty dy) (a : RefE K Jx Xd tx dx) : RefE K Jx Xd (tDNotIn ty tx) (dDNin dy dx) := fun W S0 H0 α H σ ρ Qd Q I c h =>
  b W S0 H0 α H σ ρ _ _ I (fun d v H1 q g hv => a W S0 H0 α H1 σ ρ _ _ (I.grow g) (fun e u H2 q2 g2 hu => by
    have hv2 := hv.same (g2.hd I.hms)
    cases hu with
    | dk h1 h2 =>
      dsimp only at q2
      split at q2
      · rename_i k ek
        rw [key_v hv2 ek]
        refine ⟨_, _, rfl, DGet.k (hd_get h1).2, ?_⟩
        rcases h2.val (k := k) with ⟨n1, n2⟩ | ⟨v', d'', e1, e2, e3⟩
        · rw [n1]; rw [n2] at q2; exact c _ _ H2 q2 (g.trans g2) (.bl _)
        · rw [e1]; rw [e2] at q2; exact c _ _ H2 q2 (g.trans g2) (.bl _)
      · exact q2.elim
    | _ => exact q2.elim) q) h
theorem rDc {wi : TI} {di : DI} {g : TG} {dg : DG} {tt : TT} {dt : DT} {tk tv : TE} {dk dv : DE} {ws : List Nat} (a : RefJ K Jx Xd wi di) (b : RefGc K Jx Xd ws g dg) (c : RefT K Jx Xd tt dt) (ek : RefE K Jx Xd tk dk) (ev : RefE K Jx Xd tv dv) : RefE K Jx Xd (tDc wi g tt tk tv ws) (dDc di dg dt dk dv ws) := fun W S0 H0 α H σ ρ Qd Q I r ⟨hc, h⟩ =>
  a W S0 H0 α H σ ρ _ _ I (fun items J H' q gw w D hD0 => by
    have cl : clr ρ ws := fun i hi => by
      have := List.all_eq_true.mp hc i hi
      simpa using this
    have I1 := I.grow gw
    obtain ⟨n, G, Y, en, wk, hG, hY⟩ := w.ex
    refine ⟨fun i m H1 => m = n - i ∧ i ≤ n ∧ H1 D ≠ none ∧ Gw K W H' H1 ∧ ∃ vs acc, H1 D = some (.dK vs) ∧ vs.length ≤ i ∧ DvK K W (hd (hid (fun a => S0 a ∨ a = D) α ρ) H1) vs acc ∧ dDcGo dg dt dk dv (wp ρ ws) (fun l => Qd (.dk l)) (items.drop i) acc, ⟨n, by simp, Nat.zero_le _, (by rw [upd_same]; exact fun z => nomatch z), Gw.new I1.gw.bag hD0, [], [], upd_same, Nat.le_refl _, .nil, q.2⟩, ?_⟩
    rintro i m H1 ⟨rfl, hle, hD1, g1, vs, acc, e1, e2, e3, go⟩
    have nD : ¬mt W D := I1.noMt hD0
    have gd := hG (hid S0 α ρ) H1 ⟨g1.hd I1.hms, fun a o e => g1.keep a o (hd_get e).1 (hd_get e).2⟩
    obtain ⟨Ih, _⟩ := I1.hide g1 hD0 hD1 nD
    by_cases hi : i < n
    · refine .inr ⟨wk.goes i H1 hi gd, fun H4 => Gw K W H' H4 ∧ H4 D ≠ none ∧ ∃ vs acc, H4 D = some (.dK vs) ∧ vs.length ≤ i + 1 ∧ DvK K W (hd (hid (fun a => S0 a ∨ a = D) α ρ) H4) vs acc ∧ dDcGo dg dt dk dv (wp ρ ws) (fun l => Qd (.dk l)) (items.drop (i + 1)) acc, fun H4 ⟨g4, n4, vs4, acc4, p1, p2, p3, p4⟩ => ⟨n - (i + 1), by omega, rfl, hi, n4, g4, vs4, acc4, p1, p2, p3, p4⟩, fun x H2 y0 => ?_⟩
      have y := wk.yields i H1 x H2 hi gd y0
      have sMh : Same (hd (hid S0 α ρ) H') (hd (hid (fun a => S0 a ∨ a = D) α ρ) H1) := fun a o e => by
        obtain ⟨h1, h2⟩ := hd_get e
        refine hd_at (g1.keep a o (fun z => h1 (I1.hms a z)) h2) fun z => ?_
        rcases z with (z | z) | z
        · exact h1 (.inl z)
        · exact ne_of_none h2 hD0 z
        · exact h1 (.inr z)
      obtain ⟨⟨d, hd1, hd2⟩, tn⟩ := hY (hid (fun a => S0 a ∨ a = D) α ρ) i H1 x H2 hi ⟨sMh, fun a o e => g1.keep a o (hd_get e).1 (hd_get e).2⟩ Ih.hkn y
      have g2 := gw_turn Ih.gw.bag tn
      obtain ⟨Iw, hw⟩ := (Ih.grow g2).wipe cl
      have il : i < items.length := by omega
      have ed : items.drop i = d :: items.drop (i + 1) := by
        rw [List.drop_eq_getElem_cons il]
        rw [List.getElem?_eq_getElem il] at hd1
        rw [Option.some.inj hd1]
      rw [ed] at go
      have stay : ∀ {H4 : Hp}, Gw K W H2 H4 → H4 D = some (.dK vs) := fun g4 => (g2.trans g4).keep _ _ nD e1
      have cw : clr (wp ρ ws) ws := fun i hi => by
        rcases wp_or (ρ := ρ) (ws := ws) (i := i) with h | ⟨_, h⟩
        · rw [h]; rfl
        · exact absurd hi h
      refine b W _ H0 α H2 _ (wp ρ ws) d x _ _ Iw cw (by rw [hw]; exact hd2) (fun σ3 ρ3 go3 I3 cl3 h3 w3 => ⟨by rw [w3, wipe_wipe'], ?_⟩) go
      have I3 := Iw.next I3 (by rw [h3]; exact Same.refl _)
      refine c W _ H0 α H2 σ3 ρ3 _ _ I3 (fun kk H3 q3 g3 => ?_) go3
      cases kk with
      | true =>
        refine (if_pos rfl).mpr (ek W _ H0 α H3 σ3 ρ3 _ _ (I3.grow g3) (fun dy y4 H4 q4 g4 hy => ev W _ H0 α H4 σ3 ρ3 _ _ (I3.grow (g3.trans g4)) (fun dz z5 H5 q5 g5 hz => ?_) q4) q3)
        have g35 := (g3.trans g4).trans g5
        have eD := stay g35
        split at q5
        · rename_i k ekk
          have smU := hd_set (S := hid (fun a => S0 a ∨ a = D) α ρ) (H := H5) (o := .dK (putK vs k z5)) (a := D) (.inl (.inr rfl))
          rw [h3, hw] at hz
          exact ⟨vs, k, key_v hy ekk, eD, by rw [sizeLine_eq]; exact Nat.lt_of_le_of_lt e2 (Nat.lt_of_lt_of_le hi (by rw [en]; exact Nat.le_trans q.1 (by decide))), .put I1.gw.bag (g1.trans (g2.trans g35)) hD0, (by rw [upd_same]; exact fun z => nomatch z), _, putD acc k dz, upd_same,
            (by have := length_putK vs k z5; omega), DvK.put ((e3.same ((g2.trans g35).hd Ih.hms)).same smU) (hz.same smU), q5⟩
        · exact q5.elim
      | false =>
        refine (if_neg Bool.false_ne_true).mpr ?_
        exact ⟨g1.trans (g2.trans g3), (g2.trans g3).ne D hD1, vs, acc, stay g3, by omega, e3.same ((g2.trans g3).hd Ih.hms), q3⟩
    · have ei : i = n := by omega
      subst ei
      refine .inl ⟨wk.stops H1 gd, ?_⟩
      rw [en, List.drop_length] at go
      have gg := gw.trans g1
      exact r _ _ H1 go gg (.dk (hd_at e1 ((I.ok.grow gw).out hD0)) (e3.same (hd_sub fun a z => z.elim (fun y => .inl (.inl y)) .inr)))) h
end

end
section

/-! ### comprehensions of two clauses over data -/
section
variable {K : PySem.W.Frag} {Jx : WX} {Xd : XD} {W : Wd} {S0 : Addr → Prop} {H0 H H' : Hp} {α : Nat → Addr} {σ : L2.St} {ρ : Ro}
/-- changes among what is hidden -/
theorem EnvX.move (I : EnvX K Jx Xd W S0 H0 α H σ ρ) (k : ∀ a o, ¬S0 a → H a = some o → H' a = some o) (g : Gw K W H0 H') (n : ∀ a, S0 a → H' a ≠ none) : EnvX K Jx Xd W S0 H0 α H' σ ρ ∧ Same (hd (hid S0 α ρ) H) (hd (hid S0 α ρ) H') := by
  have sm : Same (hd (hid S0 α ρ) H) (hd (hid S0 α ρ) H') := fun a o e => by
    obtain ⟨h1, h2⟩ := hd_get e
    exact hd_at (k a o (fun z => h1 (.inl z)) h2) h1
  refine ⟨I.next ⟨I.len, I.bag0, g, n, I.ms, I.new, I.inj, fun i => (I.sl i).ex sm fun o => ?_⟩ sm, sm⟩
  obtain ⟨u, hu⟩ := (I.sl i).some o
  rw [hu]
  exact k _ _ (I.new i o).2 hu
end
def dLc2Go (dg : DG) (dt : DT) (di1 : DI) (dg1 : DG) (dt1 : DT) (de : DE) (ws1 : List Nat) (ρ : Ro) (Q : List Dt → Prop) : List Dt → List Dt → Prop
  | [], acc => Q acc
  | x :: xs, acc => dg x ρ fun ρ' => dt ρ' fun b => if2 b ((ws1.all fun i => !(gt ρ' i).owned) = true ∧ di1 ρ' fun items1 => items1.length ≤ 1000 ∧ dLcGo dg1 dt1 de (wp ρ' ws1) (fun acc' => dLc2Go dg dt di1 dg1 dt1 de ws1 ρ Q xs acc') items1 acc) (dLc2Go dg dt di1 dg1 dt1 de ws1 ρ Q xs acc)
def fLc2 (di : DI) (dg : DG) (dt : DT) (di1 : DI) (dg1 : DG) (dt1 : DT) (de : DE) (ws ws1 : List Nat) : DF := fun ρ Q => (ws.all fun i => !(gt ρ i).owned) = true ∧ di ρ fun items => items.length ≤ 1000 ∧ dLc2Go dg dt di1 dg1 dt1 de ws1 (wp ρ ws) Q items []
def dLc2 (di : DI) (dg : DG) (dt : DT) (di1 : DI) (dg1 : DG) (dt1 : DT) (de : DE) (ws ws1 : List Nat) : DE := fun ρ Q => fLc2 di dg dt di1 dg1 dt1 de ws ws1 ρ fun l => Q (.lst l)
theorem all_clr {ρ : Ro} {ws : List Nat} (h : (ws.all fun i => !(gt ρ i).owned) = true) : clr ρ ws := fun i hi => by
  have := List.all_eq_true.mp h i hi
  simpa using this
theorem drop_at {β : Type} {items : List β} {i : Nat} {d : β} (h : items[i]? = some d) : items.drop i = d :: items.drop (i + 1) := by
  have il := (List.getElem?_eq_some_iff.mp h).1
  rw [List.drop_eq_getElem_cons il]
  rw [List.getElem?_eq_getElem il] at h
  rw [Option.some.inj h]
theorem clr_wp {ρ : Ro} {ws : List Nat} : clr (wp ρ ws) ws := fun i hi => by
  rcases wp_or (ρ := ρ) (ws := ws) (i := i) with h | ⟨_, h⟩
  · rw [h]; rfl
  · exact absurd hi h
theorem rfLc2 {K : PySem.W.Frag} {Jx : WX} {Xd : XD} {wi wi1 : TI} {di di1 : DI} {g g1 : TG} {dg dg1 : DG} {tt tt1 : TT} {dt dt1 : DT} {te : TE} {de : DE} {ws ws1 : List Nat} (a : RefJ K Jx Xd wi di) (b : RefGc K Jx Xd ws g dg) (c : RefT K Jx Xd tt dt) (a1 : RefI K Jx Xd wi1 di1) (b1 : RefGc K Jx Xd ws1 g1 dg1) (c1 : RefT K Jx Xd tt1 dt1) (e : RefE K Jx Xd te de) :
    RefF K Jx Xd (tLc2 wi g tt wi1 g1 tt1 te ws ws1) (fLc2 di dg dt di1 dg1 dt1 de ws ws1) := fun W S0 H0 α H σ ρ Qd Q I r ⟨hc, h⟩ =>
  a W S0 H0 α H σ ρ _ _ I (fun items J H' q gw w D hD => by
    have cl := all_clr hc
    have I1 := I.grow gw
    obtain ⟨n, G, Y, en, wk, hG, hY⟩ := w.ex
    have nD : ¬mt W D := I1.noMt hD
    have hDH : H D = none := gw.none hD
    refine ⟨fun i m H1 => m = n - i ∧ i ≤ n ∧ H1 D ≠ none ∧ Gw K W H' H1 ∧ ∃ vs acc, H1 D = some (.lst vs) ∧ vs.length ≤ i * 1000 ∧ DvA K W (hd (hid (fun a => S0 a ∨ a = D) α ρ) H1) vs acc ∧ dLc2Go dg dt di1 dg1 dt1 de ws1 (wp ρ ws) Qd (items.drop i) acc, ⟨n, by simp, Nat.zero_le _, (by rw [upd_same]; exact fun z => nomatch z), Gw.new I1.gw.bag hD, [], [], upd_same, Nat.zero_le _, .nil, q.2⟩, ?_⟩
    rintro i m H1 ⟨rfl, hle, hD1, g1', vs, acc, e1, e2, e3, go⟩
    have gd := hG (hid S0 α ρ) H1 ⟨g1'.hd I1.hms, fun a o e => g1'.keep a o (hd_get e).1 (hd_get e).2⟩
    obtain ⟨Ih, _⟩ := I1.hide g1' hD hD1 nD
    by_cases hi : i < n
    · refine .inr ⟨wk.goes i H1 hi gd, fun H4 => Gw K W H' H4 ∧ H4 D ≠ none ∧ ∃ vs acc, H4 D = some (.lst vs) ∧ vs.length ≤ (i + 1) * 1000 ∧ DvA K W (hd (hid (fun a => S0 a ∨ a = D) α ρ) H4) vs acc ∧ dLc2Go dg dt di1 dg1 dt1 de ws1 (wp ρ ws) Qd (items.drop (i + 1)) acc, fun H4 ⟨g4, n4, vs4, acc4, p1, p2, p3, p4⟩ => ⟨n - (i + 1), by omega, rfl, hi, n4, g4, vs4, acc4, p1, p2, p3, p4⟩, fun x H2 y0 => ?_⟩
      have y := wk.yields i H1 x H2 hi gd y0
      have sMh : Same (hd (hid S0 α ρ) H') (hd (hid (fun a => S0 a ∨ a = D) α ρ) H1) := fun a o e => by
        obtain ⟨h1, h2⟩ := hd_get e
        refine hd_at (g1'.keep a o (fun z => h1 (I1.hms a z)) h2) fun z => ?_
        rcases z with (z | z) | z
        · exact h1 (.inl z)
        · exact ne_of_none h2 hD z
        · exact h1 (.inr z)
      obtain ⟨⟨d, hd1, hd2⟩, tn⟩ := hY (hid (fun a => S0 a ∨ a = D) α ρ) i H1 x H2 hi ⟨sMh, fun a o e => g1'.keep a o (hd_get e).1 (hd_get e).2⟩ Ih.hkn y
      have g2 := gw_turn Ih.gw.bag tn
      obtain ⟨Iw, hw⟩ := (Ih.grow g2).wipe cl
      rw [drop_at hd1] at go
      have stay : ∀ {H4 : Hp}, Gw K W H2 H4 → H4 D = some (.lst vs) := fun g4 => (g2.trans g4).keep _ _ nD e1
      refine b W _ H0 α H2 _ (wp ρ ws) d x _ _ Iw clr_wp (by rw [hw]; exact hd2) (fun σ3 ρ3 go3 I3 cl3 h3 w3 => ⟨by rw [w3, wipe_wipe'], ?_⟩) go
      have I3 := Iw.next I3 (by rw [h3]; exact Same.refl _)
      have h03 : hid (fun a => S0 a ∨ a = D) α ρ3 = hid (fun a => S0 a ∨ a = D) α ρ := h3.trans hw
      refine c W _ H0 α H2 σ3 ρ3 _ _ I3 (fun kk H3 q3 g3 => ?_) go3
      cases kk with
      | true =>
        refine (if_pos rfl).mpr (a1 W _ H0 α H3 σ3 ρ3 _ _ (I3.grow g3) (fun items1 J1 H4 q4 g4 w1 => ?_) q3.2)
        have cl4 := all_clr q3.1
        have I4 := (I3.grow g3).grow g4
        have g34 := g3.trans g4
        obtain ⟨n1, G1, Y1, en1, wk1, hG1, hY1⟩ := w1.ex
        refine ⟨fun j k H5 => k = n1 - j ∧ j ≤ n1 ∧ Gw K W H' H5 ∧ (∀ a o, ¬(S0 a ∨ a = D) → H4 a = some o → H5 a = some o) ∧ (∀ a, H4 a ≠ none → H5 a ≠ none) ∧ ∃ vs acc, H5 D = some (.lst vs) ∧ vs.length ≤ i * 1000 + j ∧ DvA K W (hd (hid (fun a => S0 a ∨ a = D) α ρ) H5) vs acc ∧ dLcGo dg1 dt1 de (wp ρ3 ws1) (fun acc' => dLc2Go dg dt di1 dg1 dt1 de ws1 (wp ρ ws) Qd (items.drop (i + 1)) acc') (items1.drop j) acc,
          ⟨n1, by simp, Nat.zero_le _, g1'.trans (g2.trans g34), fun _ _ _ h => h, fun _ h => h, vs, acc, stay g34, e2, e3.same ((g2.trans g34).hd Ih.hms), q4.2⟩, ?_⟩
        rintro j k H5 ⟨rfl, hle1, g5, kp5, ne5, us, bcc, f1, f2, f3, go5⟩
        obtain ⟨I5, s5⟩ := I4.move (H' := H5) kp5 ((I1.gw).trans g5) fun a z => ne5 a (I4.kn a z)
        have gd1 := hG1 (hid (fun a => S0 a ∨ a = D) α ρ3) H5 s5
        by_cases hj : j < n1
        · refine .inr ⟨wk1.goes j H5 hj gd1, fun H6 => Gw K W H' H6 ∧ (∀ a o, ¬(S0 a ∨ a = D) → H4 a = some o → H6 a = some o) ∧ (∀ a, H4 a ≠ none → H6 a ≠ none) ∧ ∃ vs acc, H6 D = some (.lst vs) ∧ vs.length ≤ i * 1000 + (j + 1) ∧ DvA K W (hd (hid (fun a => S0 a ∨ a = D) α ρ) H6) vs acc ∧ dLcGo dg1 dt1 de (wp ρ3 ws1) (fun acc' => dLc2Go dg dt di1 dg1 dt1 de ws1 (wp ρ ws) Qd (items.drop (i + 1)) acc') (items1.drop (j + 1)) acc,
            fun H6 ⟨p1, p2, p3, vs6, acc6, p4, p5, p6, p7⟩ => ⟨n1 - (j + 1), by omega, rfl, hj, p1, p2, p3, vs6, acc6, p4, p5, p6, p7⟩, fun x1 H6 y1 => ?_⟩
          have y1 := wk1.yields j H5 x1 H6 hj gd1 y1
          obtain ⟨⟨d1, hd3, hd4⟩, tn1⟩ := hY1 (hid (fun a => S0 a ∨ a = D) α ρ3) j H5 x1 H6 hj s5 I5.hkn y1
          have g6 := gw_turn I5.gw.bag tn1
          obtain ⟨Iw6, hw6⟩ := (I5.grow g6).wipe cl4
          rw [drop_at hd3] at go5
          have stay1 : ∀ {H8 : Hp}, Gw K W H6 H8 → H8 D = some (.lst us) := fun g8 => (g6.trans g8).keep _ _ nD f1
          have kp8 : ∀ {H8 : Hp}, Gw K W H6 H8 → ∀ a o, ¬(S0 a ∨ a = D) → H4 a = some o → H8 a = some o := fun g8 a o na h => (g6.trans g8).keep a o (fun z => na (.inl (I1.ms a z))) (kp5 a o na h)
          refine b1 W _ H0 α H6 _ (wp ρ3 ws1) d1 x1 _ _ Iw6 clr_wp (by rw [hw6]; exact hd4) (fun σ7 ρ7 go7 I7 cl7 h7 w7 => ⟨by rw [w7, wipe_wipe'], ?_⟩) go5
          have I7 := Iw6.next I7 (by rw [h7]; exact Same.refl _)
          have h07 : hid (fun a => S0 a ∨ a = D) α ρ7 = hid (fun a => S0 a ∨ a = D) α ρ := (h7.trans hw6).trans h03
          refine c1 W _ H0 α H6 σ7 ρ7 _ _ I7 (fun kk H7 q7 g7 => ?_) go7
          have fz : DvA K W (hd (hid (fun a => S0 a ∨ a = D) α ρ) H7) us bcc := by
            rw [← h03] at f3 ⊢
            exact f3.same ((g6.trans g7).hd I5.hms)
          cases kk with
          | true =>
            refine (if_pos rfl).mpr (e W _ H0 α H7 σ7 ρ7 _ _ (I7.grow g7) (fun dy y4 H8 q8 g8 hy => ?_) q7)
            have g78 := g7.trans g8
            have eD := stay1 g78
            have smU := hd_set (S := hid (fun a => S0 a ∨ a = D) α ρ) (H := H8) (o := .lst (us ++ [y4])) (a := D) (.inl (.inr rfl))
            rw [h07] at hy
            have f8 : DvA K W (hd (hid (fun a => S0 a ∨ a = D) α ρ) H8) us bcc := by
              rw [← h03] at fz ⊢
              exact fz.same (g8.hd I5.hms)
            exact ⟨us, eD, by
              rw [sizeLine_eq]
              have : i * 1000 + j < 1000 * 1000 := by
                have := q.1; have := q4.1
                have : i * 1000 + 1000 ≤ n * 1000 := by omega
                omega
              omega, .put I1.gw.bag (g5.trans (g6.trans g78)) hD, fun a o na h => by rw [upd_ne fun z => na (.inr z)]; exact kp8 g78 a o na h, fun a na => by
                by_cases z : a = D
                · rw [z, upd_same]; exact fun q => nomatch q
                · rw [upd_ne z]; exact (g6.trans g78).ne a (ne5 a na), _, bcc ++ [dy], upd_same, (by simp; omega), (f8.same smU).app (.one (hy.same smU)), q8⟩
          | false =>
            refine (if_neg Bool.false_ne_true).mpr ?_
            exact ⟨g5.trans (g6.trans g7), kp8 g7, fun a na => (g6.trans g7).ne a (ne5 a na), us, bcc, stay1 g7, by omega, fz, q7⟩
        · have ej : j = n1 := by omega
          subst ej
          refine .inl ⟨wk1.stops H5 gd1, ?_⟩
          rw [en1, List.drop_length] at go5
          have := q4.1
          exact ⟨g5, (by rw [f1]; exact fun z => nomatch z), us, bcc, f1, by omega, f3, go5⟩
      | false =>
        refine (if_neg Bool.false_ne_true).mpr ?_
        exact ⟨g1'.trans (g2.trans g3), (g2.trans g3).ne D hD1, vs, acc, stay g3, by omega, e3.same ((g2.trans g3).hd Ih.hms), q3⟩
    · have ei : i = n := by omega
      subst ei
      refine .inl ⟨wk.stops H1 gd, ?_⟩
      rw [en, List.drop_length] at go
      exact r acc D vs H1 go (gw.trans g1') hDH e1 e3) h
theorem rLc2 {K : PySem.W.Frag} {Jx : WX} {Xd : XD} {wi wi1 : TI} {di di1 : DI} {g g1 : TG} {dg dg1 : DG} {tt tt1 : TT} {dt dt1 : DT} {te : TE} {de : DE} {ws ws1 : List Nat} (a : RefJ K Jx Xd wi di) (b : RefGc K Jx Xd ws g dg) (c : RefT K Jx Xd tt dt) (a1 : RefI K Jx Xd wi1 di1) (b1 : RefGc K Jx Xd ws1 g1 dg1) (c1 : RefT K Jx Xd tt1 dt1) (e : RefE K Jx Xd te de) :
    RefE K Jx Xd (tLc2 wi g tt wi1 g1 tt1 te ws ws1) (dLc2 di dg dt di1 dg1 dt1 de ws ws1) := (rfLc2 a b c a1 b1 c1 e).e
/-! divmod, texts -/
def rDivmod : List V → Hp → VK → Prop := fun xs H Q => ∃ i j, xs = [.int i, .int j] ∧ CDivP i j ∧ ∀ p, H p = none → Q (.ref p) (upd H p (.tup [.int (i / j), .int (i % j)]))
theorem c_divmod {X : Cx} : CallR X (.builtin "divmod") rDivmod := call_divmodW
def cDivmod : DC := fun ds Q => match ds with
  | [.int i, .int j] => (0 < j ∧ (j.natAbs.log2 < 9000 ∨ i.natAbs.log2 < 13000)) ∧ Q (.tup [.int (i / j), .int (i % j)])
  | _ => False
theorem fcDivmod {K : PySem.W.Frag} : RefC K rDivmod cDivmod := fc2 (fun W S H x y d e Qd Q O hx hy c h => by
  match d, e, h, hx, hy with
  | .int i, .int j, h, hx, hy =>
    rw [shInt hx, shInt hy]
    exact ⟨i, j, rfl, ⟨h.1.1, h.1.2.elim (fun z => PyProof.noPylong_of_log2 z) noPy_top⟩, fun p hp => c.new O hp h.2 (dv_newT O hp (.cons (.int _) (.cons (.int _) .nil)))⟩) fun ds Q h => by
  unfold cDivmod at h
  split at h
  · rfl
  · exact h.elim
/-- a method of a text with one argument -/
def dM1 (o : DOp) (da db : DE) : DE := fun ρ Q => da ρ fun x => match x with
  | .str z => db ρ fun y => o (.str z) y Q
  | _ => False
theorem rM1 {K : PySem.W.Frag} {Jx : WX} {Xd : XD} {r : V → List V → Hp → VK → Prop} {o : DOp} {ta tb : TE} {da db : DE} (ro : RefOp K (fun x y => r x [y]) o) (a : RefE K Jx Xd ta da) (b : RefB K Jx Xd tb db) : RefE K Jx Xd (tM1 r ta tb) (dM1 o da db) := fun W S0 H0 α H σ ρ Qd Q I c h =>
  v_m1 (a W S0 H0 α H σ ρ _ _ I (fun d v H1 q g hv => by
    cases hv with
    | str z => exact ⟨⟨z, rfl⟩, b W S0 H0 α H1 σ ρ _ _ (I.grow g) (fun e u H2 q2 g2 hu => ro W _ H2 (.str z) u (.str z) e Qd Q (I.ok.grow (g.trans g2)) (.str z) hu (c.grow (g.trans g2)) q2) q⟩
    | _ => exact q.elim) h)
def rZfill : V → List V → Hp → VK → Prop := fun x xs H Q => ∃ (a : Str) (i : Int), x = .str a ∧ xs = [.int i] ∧ PadOk i = true ∧ Q (.str (Txt.zfill a i)) H
def oZfill : DOp := fun x y Q => match x, y with
  | .str a, .int i => PadOk i = true ∧ Q (.str (Txt.zfill a i))
  | _, _ => False
theorem foZfill {K : PySem.W.Frag} : RefOp K (fun x y => rZfill x [y]) oZfill := fun W S H x y d e Qd Q O hx hy c h => by
  match d, e, h, hx, hy with
  | .str a, .int i, h, hx, hy =>
    rw [shStr hx, shInt hy]
    exact ⟨a, i, rfl, rfl, h.1, c.now O h.2 (.str _)⟩

end
section

/-! ### equality of rows; solutions over data -/
theorem pyAll_rw : ∀ (a : List Int), pyAll (rwD a) = a.map PyData.int
  | [] => rfl
  | n :: a => by
    show pyD (.int n) :: pyAll (rwD a) = _
    rw [pyAll_rw a]
    rfl
theorem pyAll_mD : ∀ (M : List (List Int)), pyAll (mD M) = M.map fun r => .tuple (r.map PyData.int)
  | [] => rfl
  | r :: M => by
    show PyData.tuple (pyAll (rwD r)) :: pyAll (mD M) = _
    rw [pyAll_mD M, pyAll_rw]
    rfl
theorem lay_rw : ∀ (a : List Int), PyData.canLayAll0 (a.map PyData.int) = true ∧ PyData.depthAll (a.map PyData.int) = 0
  | [] => ⟨by simp [PyData.canLayAll0], by simp [PyData.depthAll]⟩
  | n :: a => ⟨by simp [PyData.canLayAll0, PyData.canLay0, (lay_rw a).1], by simp [PyData.depthAll, PyData.depth, (lay_rw a).2]⟩
theorem lay_mD : ∀ (M : List (List Int)), PyData.canLayAll0 (M.map fun r => .tuple (r.map PyData.int)) = true ∧ PyData.depthAll (M.map fun r => .tuple (r.map PyData.int)) ≤ 1
  | [] => ⟨by simp [PyData.canLayAll0], by simp [PyData.depthAll]⟩
  | r :: M => ⟨by simp [PyData.canLayAll0, PyData.canLay0, (lay_mD M).1, (lay_rw r).1], by
    have h1 := (lay_mD M).2
    have h2 := (lay_rw r).2
    simp only [List.map_cons, PyData.depthAll, PyData.depth]
    omega⟩
theorem eqv_rw : ∀ (a b : List Int), PyData.eqvAll (a.map PyData.int) (b.map PyData.int) = decide (a = b)
  | [], [] => by simp [PyData.eqvAll]
  | [], _ :: _ => by simp [PyData.eqvAll]
  | _ :: _, [] => by simp [PyData.eqvAll]
  | n :: a, m :: b => by simp [PyData.eqvAll, PyData.eqv, eqv_rw a b, Bool.decide_and]; rfl
theorem eqv_mD : ∀ (M N : List (List Int)), PyData.eqvAll (M.map fun r => .tuple (r.map PyData.int)) (N.map fun r => .tuple (r.map PyData.int)) = decide (M = N)
  | [], [] => by simp [PyData.eqvAll]
  | [], _ :: _ => by simp [PyData.eqvAll]
  | _ :: _, [] => by simp [PyData.eqvAll]
  | n :: a, m :: b => by simp [PyData.eqvAll, PyData.eqv, eqv_mD a b, eqv_rw, Bool.decide_and]
theorem plain_rw : ∀ (a : List Int), plainAll (rwD a) = true
  | [] => rfl
  | n :: a => by
    show (true && plainAll (rwD a)) = true
    rw [plain_rw a]
    rfl
theorem plain_mD : ∀ (M : List (List Int)), plainAll (mD M) = true
  | [] => rfl
  | r :: M => by
    show (plainAll (rwD r) && plainAll (mD M)) = true
    rw [plain_mD M, plain_rw]
    rfl
theorem shaped_rw (a : List Int) : SeqAt.shaped (pyD (.lst (rwD a))) = true := by
  show SeqAt.shaped (.list (pyAll (rwD a))) = true
  rw [pyAll_rw]
  unfold SeqAt.shaped
  simp [PyData.canLay0, PyData.depth, (lay_rw a).1, (lay_rw a).2]
theorem shaped_mD (M : List (List Int)) : SeqAt.shaped (pyD (.lst (mD M))) = true := by
  show SeqAt.shaped (.list (pyAll (mD M))) = true
  rw [pyAll_mD]
  have h2 := (lay_mD M).2
  unfold SeqAt.shaped
  simp [PyData.canLay0, PyData.depth, (lay_mD M).1]
  omega
theorem eq_row {a b : List Int} {Q : Bool → Prop} (q : Q (decide (a = b))) : eqQ (.lst (rwD a)) (.lst (rwD b)) Q := ⟨plain_rw a, plain_rw b, shaped_rw a, shaped_rw b, by
  show Q (PyData.eqv (.list (pyAll (rwD a))) (.list (pyAll (rwD b))))
  rw [pyAll_rw, pyAll_rw]
  simp only [PyData.eqv]
  rw [eqv_rw]
  exact q⟩
theorem eq_mD {a b : List (List Int)} {Q : Bool → Prop} (q : Q (decide (a = b))) : eqQ (.lst (mD a)) (.lst (mD b)) Q := ⟨plain_mD a, plain_mD b, shaped_mD a, shaped_mD b, by
  show Q (PyData.eqv (.list (pyAll (mD a))) (.list (pyAll (mD b))))
  rw [pyAll_mD, pyAll_mD]
  simp only [PyData.eqv]
  rw [eqv_mD]
  exact q⟩
/-! leads -/
def leadp (r : List Int) : Nat := r.findIdx fun n => n != 0
def sd_lead_place : DSp := fun ds Q => ∃ x r, ds = [x] ∧ isRow x r ∧ Q (.int ((leadp r : Nat) : Int))
abbrev N_lead_place : List Str := ["row", "place", "number"]
def t_lead_place (K : PySem.W.Frag) : TS :=
  (tSeq (tFor (iEnumU K (tCons (tVar 0) tNil)) (gTup K 2 (gCons (gName 1) (gCons (gName 2) gNil)))
    (tIfS (tTest (tOp (rNeU K) (tVar 2) (tC (.int 0)))) (tRet (tVar 1)) tNext))
    (tRet (tCB (rLenU K) (tCons (tVar 0) tNil))))
def a_lead_place : DS :=
  (dSeq (dFor (jEnum (dCons (dVar 0) dNil)) (gT 2 (gsCons (gN 1) (gsCons (gN 2) gsNil)))
    (dIfS (dTest (dOp oNe (dRd 2) (dC (.int 0)))) (dRet (dVar 1)) dNext))
    (dRet (dCB (c1 uLen) (dCons (dRd 0) dNil))))
theorem r_lead_place {K : PySem.W.Frag} {Jx : WX} {Xd : XD} : RefS K Jx Xd (t_lead_place K) a_lead_place :=
  (rSeq (rFor (riEnum (rCons (rVar 0) rNil)) (rgT 2 (rgsCons (rgN 1) (rgsCons (rgN 2) rgsNil)))
    (rIfS (rTest (rOp foNe (rRd 2) (RefE.b (rInt 0)))) (rRet (rVar 1)) rNext))
    (rRet (rCB fcLen (rConsX (rRd 0) rNilX))))
theorem leadp_at {r : List Int} {i : Nat} {n : Int} (h : r[i]? = some n) (hz : ∀ m, m ∈ r.take i → m = 0) (hn : n ≠ 0) : leadp r = i := by
  have il := (List.getElem?_eq_some_iff.mp h).1
  refine (List.findIdx_eq il).mpr ⟨by rw [(List.getElem?_eq_some_iff.mp h).2]; simpa using hn, fun j hj => ?_⟩
  have := hz r[j] (List.mem_of_getElem? (i := j) (by rw [List.getElem?_take_of_lt hj, List.getElem?_eq_getElem (by omega)]))
  simpa using this
theorem leadp_no {r : List Int} (hz : ∀ m, m ∈ r → m = 0) : leadp r = r.length := List.findIdx_eq_length.mpr fun m hm => by simpa using hz m hm
theorem row_len {x : Dt} {r : List Int} {Q : Dt → Prop} (h : isRow x r) (q : Q (.int (r.length : Nat))) : uLen x Q := by
  rcases h with rfl | rfl
  · show Q (.int ((rwD r).length : Nat))
    rw [rwD_len]
    exact q
  · show Q (.int ((rwD r).length : Nat))
    rw [rwD_len]
    exact q
theorem rw_at {r : List Int} {i : Nat} {y : Dt} (h : (rwD r)[i]? = some y) : ∃ n, r[i]? = some n ∧ y = .int n := by
  unfold rwD at h
  rw [List.getElem?_map] at h
  cases e : r[i]? with
  | none => rw [e] at h; cases h
  | some n => rw [e] at h; exact ⟨n, rfl, (Option.some.inj h).symm⟩
theorem pd_lead_place (ds : List Dt) (Qd : Dt → Prop) (h : sd_lead_place ds Qd) : ds.length ≤ N_lead_place.length ∧ a_lead_place ⟨fun _ => Qd .non, Qd, fun _ => False, fun _ => False⟩ (vals ds ++ List.replicate (N_lead_place.length - ds.length) .no) := by
  obtain ⟨x, r, rfl, hx, q⟩ := h
  refine ⟨Nat.le_of_ble_eq_true rfl, ?_⟩
  walk_at "dl"
  refine row_seq hx ?_
  refine for_enumd (fun i ρ => (∀ m, m ∈ r.take i → m = 0) ∧ ∃ z w, (z.owned = false ∧ w.owned = false) ∧ ρ = [.val x, z, w]) ⟨by simp, _, _, ⟨rfl, rfl⟩, rfl⟩ ?_ ?_
  · rintro i y ρ P hy ⟨hz, z, w, ho, rfl⟩ hP
    obtain ⟨n, hn, rfl⟩ := rw_at hy
    walk_at "dl"
    refine ⟨rfl, fun c => ?_, fun c => ?_⟩
    · walk_at "dl"
      rw [leadp_at hn hz (by simpa using c)] at q
      exact q
    · walk_at "dl"
      refine hP _ ⟨fun m hm => ?_, _, _, ⟨rfl, rfl⟩, rfl⟩
      rw [take_succ_get hn] at hm
      rcases List.mem_append.mp hm with e | e
      · exact hz m e
      · rw [List.mem_singleton.mp e]
        simpa using c
  · rintro ρ ⟨hz, z, w, ho, rfl⟩
    rw [rwD_len, List.take_length] at hz
    walk_at "dl"
    refine row_len hx ?_
    rw [← leadp_no hz]
    exact q
abbrev sp_lead_place (K : PySem.W.Frag) : Sp := spD K sd_lead_place
theorem pure_lead_place {K : PySem.W.Frag} (vs : List V) (H : Hp) (Q : VK) (E : XK) (h : sp_lead_place K vs H Q E) : t_lead_place K { nx := fun _ H' => Q .non H', rt := Q } (L2.start N_lead_place vs) H := fnD (Jx := fun _ _ _ _ => False) (r_lead_place) h pd_lead_place
/-- the least common multiple of the leads -/
def lmul (T : List (List Int)) : Nat := T.foldl (fun s r => Nat.lcm s (r.getD (leadp r) 0).natAbs) 1
theorem lmul_snoc (T : List (List Int)) (r : List Int) : lmul (T ++ [r]) = Nat.lcm (lmul T) (r.getD (leadp r) 0).natAbs := by
  unfold lmul
  rw [List.foldl_append]
  rfl
/-- rows that have a lead, below 2 ^ 8999 -/
def Ldd (T : List (List Int)) : Prop := ∀ r, r ∈ T → leadp r < r.length ∧ r.length ≤ 1000 ∧ Bd 8999 r
theorem leadp_ne {r : List Int} (h : leadp r < r.length) : r.getD (leadp r) 0 ≠ 0 := by
  have q : (r[leadp r] != 0) = true := List.findIdx_getElem (w := h)
  rw [List.getD_eq_getElem?_getD, List.getElem?_eq_getElem h]
  exact bne_iff_ne.mp q
theorem lmul_pos : ∀ (T : List (List Int)), (∀ r, r ∈ T → leadp r < r.length) → ∀ i, i ≤ T.length → 0 < lmul (T.take i) ∧ lmul (T.take i) ∣ lmul T := by
  intro T h
  have key : ∀ (N : List (List Int)) (s : Nat), 0 < s → (∀ r, r ∈ N → leadp r < r.length) → 0 < N.foldl (fun s r => Nat.lcm s (r.getD (leadp r) 0).natAbs) s ∧ s ∣ N.foldl (fun s r => Nat.lcm s (r.getD (leadp r) 0).natAbs) s := by
    intro N
    induction N with
    | nil => exact fun s hs _ => ⟨hs, Nat.dvd_refl _⟩
    | cons r N ih =>
      intro s hs hN
      have hr := leadp_ne (hN r (List.mem_cons_self ..))
      obtain ⟨a, b⟩ := ih (Nat.lcm s (r.getD (leadp r) 0).natAbs) (Nat.lcm_pos hs (by omega)) fun r hr => hN r (List.mem_cons_of_mem _ hr)
      exact ⟨a, Nat.dvd_trans (Nat.dvd_lcm_left _ _) b⟩
  intro i hi
  refine ⟨(key (T.take i) 1 (by decide) fun r hr => h r (List.mem_of_mem_take hr)).1, ?_⟩
  have e : lmul T = (T.drop i).foldl (fun s r => Nat.lcm s (r.getD (leadp r) 0).natAbs) (lmul (T.take i)) := by
    unfold lmul
    rw [← List.foldl_append, List.take_append_drop]
  rw [e]
  exact (key (T.drop i) _ (key (T.take i) 1 (by decide) fun r hr => h r (List.mem_of_mem_take hr)).1 fun r hr => h r (List.mem_of_mem_drop hr)).2
theorem lmul_dvd {T : List (List Int)} {r : List Int} (h : ∀ r, r ∈ T → leadp r < r.length) (hr : r ∈ T) : (r.getD (leadp r) 0).natAbs ∣ lmul T := by
  obtain ⟨i, hi⟩ := List.getElem?_of_mem hr
  have il := (List.getElem?_eq_some_iff.mp hi).1
  refine Nat.dvd_trans ?_ (lmul_pos T h (i + 1) il).2
  rw [take_succ_get hi, lmul_snoc]
  exact Nat.dvd_lcm_right _ _
def sd_lead_multiple : DSp := fun ds Q => ∃ T, ds = [.lst (mD T)] ∧ Ldd T ∧ lmul T < 2 ^ 12999 ∧ Q (.int ((lmul T : Nat) : Int))
abbrev N_lead_multiple : List Str := ["told", "shared", "row"]
def t_lead_multiple (K : PySem.W.Frag) : TS :=
  (tSeq (tAsg (tC (.int 1)) (gName 1))
    (tSeq (tFor (iSq K (tVar 0)) (gName 2)
    (tAsg (tCB rLcm (tCons (tVar 1) (tCons (tOp (rIx K) (tVar 2) (tCall (sp_lead_place K) [] E0 (tCons (tVar 2) tNil))) tNil))) (gName 1)))
    (tRet (tVar 1))))
def a_lead_multiple : DS :=
  (dSeq (dAsg (dC (.int 1)) (gN 1))
    (dSeq (dFor (jSq (dVar 0)) (gN 2)
    (dAsg (dCB cLcm (dCons (dRd 1) (dCons (dOp oIx (dRd 2) (dCall sd_lead_place (dCons (dVar 2) dNil))) dNil))) (gN 1)))
    (dRet (dVar 1))))
theorem r_lead_multiple {K : PySem.W.Frag} {Jx : WX} {Xd : XD} : RefS K Jx Xd (t_lead_multiple K) a_lead_multiple :=
  (rSeq (rAsg (rInt 1) (rgN 1))
    (rSeq (rFor (riSq (rVar 0)) (rgN 2)
    (rAsg (rCB fcLcm (rConsX (rRd 1) (rConsX (RefE.b (rOp foIx (rRd 2) (RefE.b (rCall (fun _ _ _ h => h) (rCons (rVar 2) rNil))))) rNilX))) (rgN 1)))
    (rRet (rVar 1))))
theorem mD_at {T : List (List Int)} {i : Nat} {y : Dt} (h : (mD T)[i]? = some y) : ∃ r, T[i]? = some r ∧ y = .tup (rwD r) := by
  unfold mD at h
  rw [List.getElem?_map] at h
  cases e : T[i]? with
  | none => rw [e] at h; cases h
  | some n => rw [e] at h; exact ⟨n, rfl, (Option.some.inj h).symm⟩
theorem pd_lead_multiple (ds : List Dt) (Qd : Dt → Prop) (h : sd_lead_multiple ds Qd) : ds.length ≤ N_lead_multiple.length ∧ a_lead_multiple ⟨fun _ => Qd .non, Qd, fun _ => False, fun _ => False⟩ (vals ds ++ List.replicate (N_lead_multiple.length - ds.length) .no) := by
  obtain ⟨T, rfl, hT, hl, q⟩ := h
  refine ⟨Nat.le_of_ble_eq_true rfl, ?_⟩
  walk_at "dl"
  have hll : ∀ r, r ∈ T → leadp r < r.length := fun r hr => (hT r hr).1
  refine for_map (xs := T) (enc := fun r => .tup (rwD r)) (fun i ρ => ∃ z, z.owned = false ∧ ρ = [.val (.lst (mD T)), .val (.int ((lmul (T.take i) : Nat) : Int)), z]) ⟨_, rfl, rfl⟩ ?_ ?_
  · rintro i r ρ P hr ⟨z, ho, rfl⟩ hP
    have il := (List.getElem?_eq_some_iff.mp hr).1
    obtain ⟨a1, a2, a3⟩ := hT r (List.mem_of_getElem? hr)
    walk_at "dl"
    refine ⟨_, r, rfl, .inr rfl, ?_⟩
    refine row_ix (.inr rfl) a1 ?_
    walk_at "dl"
    have p1 := lmul_pos T hll i (by omega)
    have p2 := lmul_pos T hll T.length (Nat.le_refl _)
    rw [List.take_length] at p2
    have le1 : lmul (T.take i) ≤ lmul T := Nat.le_of_dvd p2.1 p1.2
    have b1 : (r.getD (leadp r) 0).natAbs < 2 ^ 8999 := getD_bd a3
    refine ⟨⟨?_, ?_⟩, hP _ ⟨_, rfl, by rw [take_succ_get hr, lmul_snoc]; rfl⟩⟩
    · rw [Int.natAbs_natCast]
      exact Nat.lt_of_le_of_lt le1 (Nat.lt_of_lt_of_le hl (Nat.pow_le_pow_right (by decide) (by decide)))
    · exact Nat.lt_of_lt_of_le b1 (Nat.pow_le_pow_right (by decide) (by decide))
  · rintro ρ ⟨z, ho, rfl⟩
    rw [List.take_length]
    walk_at "dl"
    exact q
abbrev sp_lead_multiple (K : PySem.W.Frag) : Sp := spD K sd_lead_multiple
theorem pure_lead_multiple {K : PySem.W.Frag} (vs : List V) (H : Hp) (Q : VK) (E : XK) (h : sp_lead_multiple K vs H Q E) : t_lead_multiple K { nx := fun _ H' => Q .non H', rt := Q } (L2.start N_lead_multiple vs) H := fnD (Jx := fun _ _ _ _ => False) (r_lead_multiple) h pd_lead_multiple

/-! which rows lie in told rows -/
def lieTot (T : List (List Int)) (r : List Int) (i : Nat) : List Int := (T.take i).foldl (fun t l => List.zipWith (fun n o => n + r.getD (leadp l) 0 * ((lmul T : Nat) : Int).fdiv (l.getD (leadp l) 0) * o) t l) (List.replicate r.length 0)
def lies (T : List (List Int)) (r : List Int) : Bool := decide (lieTot T r T.length = r.map fun n => ((lmul T : Nat) : Int) * n)
def sd_lies_in : DSp := fun ds Q => ∃ T x r, ds = [.lst (mD T), x] ∧ isRow x r ∧ (Ldd T ∧ lmul T < 2 ^ 12999) ∧ (r.length ≤ 1000 ∧ Bd 12999 r ∧ ∀ l, l ∈ T → l.length = r.length) ∧ Q (.bl (lies T r))
abbrev N_lies_in : List Str := ["told", "row", "shared", "total", "lead", "place", "times", "number", "other"]
def t_lies_in (K : PySem.W.Frag) : TS :=
  (tSeq (tAsg (tCall (sp_lead_multiple K) [] E0 (tCons (tVar 0) tNil)) (gName 2))
    (tSeq (tAsg (tOp rMulU (tLst (tCons (tC (.int 0)) tNil)) (tCB (rLenU K) (tCons (tVar 1) tNil))) (gName 3))
    (tSeq (tFor (iSq K (tVar 0)) (gName 4)
    (tSeq (tAsg (tCall (sp_lead_place K) [] E0 (tCons (tVar 4) tNil)) (gName 5))
    (tSeq (tAsg (tOp rMulU (tOp (rIx K) (tVar 1) (tVar 5)) (tOp rDivV (tVar 2) (tOp (rIx K) (tVar 4) (tVar 5)))) (gName 6))
    (tAsg (tLc (iZipU K (tCons (tVar 3) (tCons (tVar 4) tNil))) (gTup K 2 (gCons (gName 7) (gCons (gName 8) gNil))) tYes (tOp (rAddU K) (tVar 7) (tOp rMulU (tVar 6) (tVar 8))) [7, 8]) (gName 3)))))
    (tRet (tOp (rEqU K) (tVar 3) (tLc (iSq K (tVar 1)) (gName 7) tYes (tOp rMulU (tVar 2) (tVar 7)) [7]))))))
def a_lies_in : DS :=
  (dSeq (dAsg (dCall sd_lead_multiple (dCons (dVar 0) dNil)) (gN 2))
    (dSeq (dAsg (dOp oMul (dLst (dCons (dC (.int 0)) dNil)) (dCB (c1 uLen) (dCons (dRd 1) dNil))) (gN 3))
    (dSeq (dFor (jSq (dVar 0)) (gN 4)
    (dSeq (dAsg (dCall sd_lead_place (dCons (dVar 4) dNil)) (gN 5))
    (dSeq (dAsg (dOp oMul (dOp oIx (dRd 1) (dRd 5)) (dOp oDivv (dRd 2) (dOp oIx (dRd 4) (dRd 5)))) (gN 6))
    (dAsg (dLc (jZip (dCons (dRd 3) (dCons (dRd 4) dNil))) (gT 2 (gsCons (gN 7) (gsCons (gN 8) gsNil))) dYes (dOp oAdd (dRd 7) (dOp oMul (dRd 6) (dRd 8))) [7, 8]) (gN 3)))))
    (dRet (dOp oEq (dRd 3) (dLc (jSq (dRd 1)) (gN 7) dYes (dOp oMul (dRd 2) (dRd 7)) [7]))))))
theorem r_lies_in {K : PySem.W.Frag} {Jx : WX} {Xd : XD} : RefS K Jx Xd (t_lies_in K) a_lies_in :=
  (rSeq (rAsg (rCall (fun _ _ _ h => h) (rCons (rVar 0) rNil)) (rgN 2))
    (rSeq (rAsg (rOp foMul (RefE.b (rLst (rCons (rInt 0) rNil))) (RefE.b (rCB fcLen (rConsX (rRd 1) rNilX)))) (rgN 3))
    (rSeq (rFor (riSq (rVar 0)) (rgN 4)
    (rSeq (rAsg (rCall (fun _ _ _ h => h) (rCons (rVar 4) rNil)) (rgN 5))
    (rSeq (rAsg (rOp foMul (RefE.b (rOp foIx (rRd 1) (rRd 5))) (RefE.b (rOp foDivv (rRd 2) (RefE.b (rOp foIx (rRd 4) (rRd 5)))))) (rgN 6))
    (rAsg (rLc (rjZip (rConsX (rRd 3) (rConsX (rRd 4) rNilX))) (rcT 2 (rcsCons (rcN 7 (by decide)) (rcsCons (rcN 8 (by decide)) rcsNil))) rYes (rOp foAdd (rRd 7) (RefE.b (rOp foMul (rRd 6) (rRd 8))))) (rgN 3)))))
    (rRet (rOp foEq (rRd 3) (RefE.b (rLc (rjSq (rRd 1)) (rcN 7 (by decide)) rYes (rOp foMul (rRd 2) (rRd 7)))))))))
theorem fdiv_bd {a : Nat} {c : Int} {b : Nat} (h : a < 2 ^ b) : ((a : Int).fdiv c).natAbs < 2 ^ b := Nat.lt_of_le_of_lt (Int.natAbs_fdiv_le_natAbs (a : Int) c) (by rw [Int.natAbs_natCast]; exact h)
theorem rep_flat {α : Type} (n : Nat) (x : α) : (List.replicate n [x]).flatten = List.replicate n x := by
  induction n with
  | zero => rfl
  | succ n ih =>
    rw [List.replicate_succ, List.flatten_cons, ih]
    rfl
theorem rwD_rep (n : Nat) : rwD (List.replicate n 0) = List.replicate n (.int 0) := List.map_replicate ..
theorem lieTot_len {T : List (List Int)} {r : List Int} (h : ∀ l, l ∈ T → l.length = r.length) (i : Nat) : (lieTot T r i).length = r.length := by
  unfold lieTot
  have key : ∀ (N : List (List Int)) (t : List Int), (∀ l, l ∈ N → l.length = r.length) → t.length = r.length → (N.foldl (fun t l => List.zipWith (fun n o => n + r.getD (leadp l) 0 * ((lmul T : Nat) : Int).fdiv (l.getD (leadp l) 0) * o) t l) t).length = r.length := by
    intro N
    induction N with
    | nil => exact fun t _ h => h
    | cons l N ih => exact fun t hN ht => ih _ (fun l hl => hN l (List.mem_cons_of_mem _ hl)) (by rw [List.length_zipWith, hN l (List.mem_cons_self ..), ht, Nat.min_self])
  exact key _ _ (fun l hl => h l (List.mem_of_mem_take hl)) (by rw [List.length_replicate])
theorem pd_lies_in (ds : List Dt) (Qd : Dt → Prop) (h : sd_lies_in ds Qd) : ds.length ≤ N_lies_in.length ∧ a_lies_in ⟨fun _ => Qd .non, Qd, fun _ => False, fun _ => False⟩ (vals ds ++ List.replicate (N_lies_in.length - ds.length) .no) := by
  obtain ⟨T, x, r, rfl, hx, ⟨hT, hl⟩, ⟨hr, hb, hlen⟩, q⟩ := h
  refine ⟨Nat.le_of_ble_eq_true rfl, ?_⟩
  walk_at "dl"
  refine ⟨T, rfl, hT, hl, ?_⟩
  walk_at "dl"
  refine ⟨Nat.le_of_ble_eq_true rfl, ?_⟩
  refine row_len (Q := fun d => oMul (.lst [.int 0]) d _) hx ?_
  walk_at "dl"
  refine ⟨⟨by omega, by omega, ?_⟩, ?_⟩
  · show 1 * (r.length : Int).toNat ≤ 16777216
    omega
  rw [rep_flat, Int.toNat_natCast, ← rwD_rep]
  walk_at "dl"
  refine for_map (xs := T) (enc := fun r => .tup (rwD r)) (fun i ρ => ∃ z4 z5 z6, (z4.owned = false ∧ z5.owned = false ∧ z6.owned = false) ∧ ρ = [.val (.lst (mD T)), .val x, .val (.int ((lmul T : Nat) : Int)), .val (.lst (rwD (lieTot T r i))), z4, z5, z6, .no, .no]) ⟨_, _, _, ⟨rfl, rfl, rfl⟩, rfl⟩ ?_ ?_
  · rintro i l ρ P hi ⟨z4, z5, z6, ho, rfl⟩ hP
    have lm := List.mem_of_getElem? hi
    obtain ⟨a1, a2, a3⟩ := hT l lm
    have ll := hlen l lm
    walk_at "dl"
    refine ⟨_, l, rfl, .inr rfl, ?_⟩
    walk_at "dl"
    refine row_ix hx (by omega) ?_
    walk_at "dl"
    refine row_ix (.inr rfl) a1 ?_
    walk_at "dl"
    have b1 : (l.getD (leadp l) 0).natAbs < 2 ^ 8999 := getD_bd a3
    have b2 : (r.getD (leadp l) 0).natAbs < 2 ^ 12999 := getD_bd hb
    have b3 := fdiv_bd (c := l.getD (leadp l) 0) hl
    refine ⟨⟨leadp_ne a1, .inl (log2_bd b1 (Nat.le_refl _))⟩, ?_⟩
    walk_at "dl"
    refine ⟨cmul_bd b2 b3 (by omega) (by omega), ?_⟩
    walk_at "dl"
    refine ⟨rfl, ?_⟩
    walk_at "dl"
    have tl := lieTot_len hlen i
    refine row_zip (Q := fun items => items.length ≤ 1000000 ∧ dLcGo _ _ _ _ _ items []) (.inl rfl) (.inr rfl) (by rw [tl, ll]) ⟨by rw [zipD_len, rwD_len, rwD_len]; omega, ?_⟩
    refine lc_zip (fun n o => n + r.getD (leadp l) 0 * ((lmul T : Nat) : Int).fdiv (l.getD (leadp l) 0) * o) (fun j n o R hn ho2 hR => ?_) ?_
    · walk_at "dl"
      refine ⟨rfl, cmul_bd (wide_lt b2 b3) (a3 o (List.mem_of_getElem? ho2)) (by omega) (by omega), ?_⟩
      exact hR
    · have e : lieTot T r (i + 1) = List.zipWith (fun n o => n + r.getD (leadp l) 0 * ((lmul T : Nat) : Int).fdiv (l.getD (leadp l) 0) * o) (lieTot T r i) l := by
        unfold lieTot
        rw [take_succ_get hi, List.foldl_append]
        rfl
      rw [← e]
      exact hP _ ⟨_, _, _, ⟨rfl, rfl, rfl⟩, rfl⟩
  · rintro ρ ⟨z4, z5, z6, ho, rfl⟩
    walk_at "dl"
    refine ⟨rfl, row_seq hx ⟨by rw [rwD_len]; omega, ?_⟩⟩
    refine lc_map (f := fun n => .int (((lmul T : Nat) : Int) * n)) (fun i n R hn hR => ?_) ?_
    · walk_at "dl"
      refine ⟨cmul_bd (a := 12999) (by rw [Int.natAbs_natCast]; exact hl) (hb n (List.mem_of_getElem? hn)) (by omega) (by omega), hR⟩
    · have e : r.map (fun n => Dt.int (((lmul T : Nat) : Int) * n)) = rwD (r.map fun n => ((lmul T : Nat) : Int) * n) := by
        unfold rwD
        rw [List.map_map]
        rfl
      rw [e]
      refine eq_row ?_
      exact q
abbrev sp_lies_in (K : PySem.W.Frag) : Sp := spD K sd_lies_in
theorem pure_lies_in {K : PySem.W.Frag} (vs : List V) (H : Hp) (Q : VK) (E : XK) (h : sp_lies_in K vs H Q E) : t_lies_in K { nx := fun _ H' => Q .non H', rt := Q } (L2.start N_lies_in vs) H := fnD (Jx := fun _ _ _ _ => False) (r_lies_in) h pd_lies_in

end
section

/-! ### reduced rows -/
theorem leadp_of {r : List Int} {p : Nat} (hp : r.getD p 0 ≠ 0) (hz : ∀ j, j < p → r.getD j 0 = 0) : leadp r = p := by
  have hl : p < r.length := Classical.byContradiction fun q => hp (getD_out (by omega))
  refine leadp_at (getD_of hl) (fun m hm => ?_) hp
  obtain ⟨j, hj⟩ := List.getElem?_of_mem hm
  have jl : j < p := by
    have := (List.getElem?_eq_some_iff.mp hj).1
    simp at this
    omega
  rw [List.getElem?_take_of_lt jl] at hj
  have := hz j jl
  rw [List.getD_eq_getElem?_getD, hj] at this
  exact this
theorem leadp_zero {r : List Int} {j : Nat} (h : j < leadp r) : r.getD j 0 = 0 := by
  by_cases c : j < r.length
  · have q : ¬(r[j] != 0) = true := by
      have := List.not_of_lt_findIdx (p := fun n => n != 0) (xs := r) (i := j) h
      simpa using this
    rw [List.getD_eq_getElem?_getD, List.getElem?_eq_getElem c]
    simpa using q
  · exact getD_out (by omega)
theorem pos_of_mul {g x : Int} (hg : 0 ≤ g) (h : 0 < g * x) : 0 < x := Classical.byContradiction fun q => by
  have := Int.mul_le_mul_of_nonneg_left (show x ≤ 0 by omega) hg
  rw [Int.mul_zero] at this
  omega
structure Es (d p : Nat) (M T L : List Vec) : Prop where
  tl : ∀ t, t ∈ T → t.length = d ∧ gall t = 1
  ld : ∀ t, t ∈ T → leadp t < p ∧ 0 < t.getD (leadp t) 0
  clr : ∀ (i j : Nat) t u, T[i]? = some t → T[j]? = some u → i ≠ j → t.getD (leadp u) 0 = 0
  inc : ∀ (i j : Nat) t u, T[i]? = some t → T[j]? = some u → i < j → leadp t < leadp u
  ll : ∀ r, r ∈ L → r.length = d ∧ gall r = 1 ∧ ∀ j, j < p → r.getD j 0 = 0
  sp : Eqs d (T ++ L) M
theorem spn_strk {d p : Nat} {N : List Vec} {r l : Vec} (hl : l.length = d) (hr : r.length = d) (lp : 0 < l.getD p 0) (sr : Spn d N r) (sl : Spn d N l) : Spn d N (strk r l p) := by
  obtain ⟨g, h, o, hg, hh, e, z⟩ := strk_getD (p := p) (show r.length = l.length by omega) lp
  exact .lin h (-o) g (by omega) sr sl (by rw [strk_len (by omega)]; exact hr) fun i => by rw [e i, Int.neg_mul]; omega
theorem spn_back {d p : Nat} {N : List Vec} {r l : Vec} (hl : l.length = d) (hr : r.length = d) (lp : 0 < l.getD p 0) (sr : Spn d N (strk r l p)) (sl : Spn d N l) : Spn d N r := by
  obtain ⟨g, h, o, hg, hh, e, z⟩ := strk_getD (p := p) (show r.length = l.length by omega) lp
  exact .lin g o h (by omega) sr sl hr fun i => by have := e i; omega
theorem es_step {d p : Nat} {M T L : List Vec} (E : Es d p M T L) (hp : p < d) : Es d (p + 1) M (estep (T, L) p).1 (estep (T, L) p).2 := by
  cases hk : lead? L p with
  | none =>
    have e : estep (T, L) p = (T, L) := by
      unfold estep
      dsimp only
      rw [hk]
    rw [e]
    have z := lead_none hk
    refine ⟨E.tl, fun t ht => ⟨Nat.lt_succ_of_lt (E.ld t ht).1, (E.ld t ht).2⟩, E.clr, E.inc, fun r hr => ⟨(E.ll r hr).1, (E.ll r hr).2.1, fun j hj => ?_⟩, E.sp⟩
    by_cases q : j = p
    · rw [q]
      exact z r hr
    · exact (E.ll r hr).2.2 j (by omega)
  | some k =>
    obtain ⟨r, hr, hne, _⟩ := lead_some hk
    have rm := List.mem_of_getElem? hr
    obtain ⟨rl, rg, rz⟩ := E.ll r rm
    have kl := (List.getElem?_eq_some_iff.mp hr).1
    have hg : L.getD k [] = r := by
      rw [List.getD_eq_getElem?_getD, hr]
      rfl
    have sp0 : L = L.take k ++ r :: L.drop (k + 1) := by
      have := List.drop_eq_getElem_cons kl
      rw [(List.getElem?_eq_some_iff.mp hr).2] at this
      rw [← this, List.take_append_drop]
    generalize hl : led r p = l
    have ll : l.length = d := by rw [← hl, led_len, rl]
    have lg : gall l = 1 := by rw [← hl, gall_led, rg]
    have le : ∀ j, l.getD j 0 = (if 0 < r.getD p 0 then 1 else -1) * r.getD j 0 := fun j => by rw [← hl]; exact led_getD r p j
    have lz : ∀ j, j < p → l.getD j 0 = 0 := fun j hj => by rw [le, rz j hj]; simp
    have lp : 0 < l.getD p 0 := by
      rw [le]
      split <;> omega
    have lpl : leadp l = p := leadp_of (by omega) lz
    have e : estep (T, L) p = (T.map (strk · l p) ++ [l], ((L.take k ++ L.drop (k + 1)).map (strk · l p)).filter nz) := by
      unfold estep
      dsimp only
      rw [hk]
      dsimp only
      rw [hg, hl]
    rw [e]
    generalize hO : L.take k ++ L.drop (k + 1) = O
    have om : ∀ x, x ∈ O → x ∈ L := fun x hx => by
      rw [← hO] at hx
      rcases List.mem_append.mp hx with h | h
      · exact List.mem_of_mem_take h
      · exact List.mem_of_mem_drop h
    -- a told row, struck
    have st : ∀ t, t ∈ T → (strk t l p).length = d ∧ gall (strk t l p) = 1 ∧ leadp (strk t l p) = leadp t ∧ 0 < (strk t l p).getD (leadp t) 0 ∧ (strk t l p).getD p 0 = 0 ∧ ∀ j, j < p → t.getD j 0 = 0 → (strk t l p).getD j 0 = 0 := fun t ht => by
      obtain ⟨a1, a2⟩ := E.tl t ht
      obtain ⟨b1, b2⟩ := E.ld t ht
      have el : t.length = l.length := by omega
      obtain ⟨g, h, o, hg, hh, e, z⟩ := strk_getD (p := p) el lp
      have e0 : ∀ j, j < p → g * (strk t l p).getD j 0 = h * t.getD j 0 := fun j hj => by rw [e, lz j hj]; omega
      have zz : ∀ j, j < p → t.getD j 0 = 0 → (strk t l p).getD j 0 = 0 := fun j hj q => by
        have := e0 j hj
        rw [q, Int.mul_zero] at this
        exact (Int.mul_eq_zero.mp this).resolve_left (by omega)
      have pos : 0 < (strk t l p).getD (leadp t) 0 := by
        have q := e0 _ b1
        have : 0 < h * t.getD (leadp t) 0 := Int.mul_pos hh b2
        rw [← q] at this
        exact pos_of_mul (by omega) this
      refine ⟨by rw [strk_len el]; exact a1, gall_strk el lp a2 (j := leadp t) (by omega), leadp_of (by omega) fun j hj => zz j (by omega) (leadp_zero hj), pos, ?_, zz⟩
      have q := e p
      rw [z] at q
      exact (Int.mul_eq_zero.mp (show g * (strk t l p).getD p 0 = 0 by omega)).resolve_left (by omega)
    have at' : ∀ {i : Nat} {t' : Vec}, (T.map (strk · l p) ++ [l])[i]? = some t' → (∃ t, T[i]? = some t ∧ t' = strk t l p ∧ i < T.length) ∨ (i = T.length ∧ t' = l) := fun {i t'} h => by
      rw [List.getElem?_append] at h
      split at h
      · rename_i q
        rw [List.getElem?_map] at h
        rw [List.length_map] at q
        cases e : T[i]? with
        | none => rw [e] at h; cases h
        | some t => rw [e] at h; exact .inl ⟨t, rfl, (Option.some.inj h).symm, q⟩
      · rename_i q
        rw [List.length_map] at q h
        have il : i - T.length = 0 := by
          have := (List.getElem?_eq_some_iff.mp h).1
          simp at this
          omega
        rw [il] at h
        exact .inr ⟨by omega, (Option.some.inj h).symm⟩
    have ml : l ∈ T.map (strk · l p) ++ [l] := List.mem_append_right _ (List.mem_singleton.mpr rfl)
    refine ⟨fun t' ht' => ?_, fun t' ht' => ?_, fun i j t' u' hi hj ne => ?_, fun i j t' u' hi hj lt => ?_, fun r' hr' => ?_, ?_⟩
    · rcases List.mem_append.mp ht' with h | h
      · obtain ⟨t, ht, rfl⟩ := List.mem_map.mp h
        exact ⟨(st t ht).1, (st t ht).2.1⟩
      · rw [List.mem_singleton.mp h]
        exact ⟨ll, lg⟩
    · rcases List.mem_append.mp ht' with h | h
      · obtain ⟨t, ht, rfl⟩ := List.mem_map.mp h
        rw [(st t ht).2.2.1]
        exact ⟨Nat.lt_succ_of_lt (E.ld t ht).1, (st t ht).2.2.2.1⟩
      · rw [List.mem_singleton.mp h, lpl]
        exact ⟨Nat.lt_succ_self p, lp⟩
    · rcases at' hi with ⟨t, h1, rfl, l1⟩ | ⟨h1, rfl⟩
      · have tm := List.mem_of_getElem? h1
        rcases at' hj with ⟨u, h2, rfl, l2⟩ | ⟨h2, rfl⟩
        · have um := List.mem_of_getElem? h2
          rw [(st u um).2.2.1]
          exact (st t tm).2.2.2.2.2 _ (E.ld u um).1 (E.clr i j t u h1 h2 ne)
        · rw [lpl]
          exact (st t tm).2.2.2.2.1
      · rcases at' hj with ⟨u, h2, rfl, l2⟩ | ⟨h2, rfl⟩
        · have um := List.mem_of_getElem? h2
          rw [(st u um).2.2.1]
          exact lz _ (E.ld u um).1
        · omega
    · rcases at' hi with ⟨t, h1, rfl, l1⟩ | ⟨h1, rfl⟩
      · have tm := List.mem_of_getElem? h1
        rw [(st t tm).2.2.1]
        rcases at' hj with ⟨u, h2, rfl, l2⟩ | ⟨h2, rfl⟩
        · have um := List.mem_of_getElem? h2
          rw [(st u um).2.2.1]
          exact E.inc i j t u h1 h2 lt
        · rw [lpl]
          exact (E.ld t tm).1
      · rcases at' hj with ⟨u, h2, rfl, l2⟩ | ⟨h2, rfl⟩ <;> omega
    · obtain ⟨h, hn⟩ := List.mem_filter.mp hr'
      obtain ⟨x, hx, rfl⟩ := List.mem_map.mp h
      obtain ⟨a1, a2, a3⟩ := E.ll x (om x hx)
      have el : x.length = l.length := by omega
      obtain ⟨j0, hj0⟩ := nz_ne hn
      obtain ⟨g, h, o, hg, hh, e, z⟩ := strk_getD (p := p) el lp
      refine ⟨by rw [strk_len el]; exact a1, gall_strk el lp a2 hj0, fun j hj => ?_⟩
      have q := e j
      by_cases c : j = p
      · rw [c] at q ⊢
        exact (Int.mul_eq_zero.mp (show g * (strk x l p).getD p 0 = 0 by omega)).resolve_left (by omega)
      · rw [a3 j (by omega), lz j (by omega)] at q
        exact (Int.mul_eq_zero.mp (show g * (strk x l p).getD j 0 = 0 by omega)).resolve_left (by omega)
    · refine Eqs.trans (eqs_of (fun x hx xl => ?_) fun x hx xl => ?_) E.sp
      · have sr : Spn d (T ++ L) r := .mem (List.mem_append_right _ rm) rl
        have sl : Spn d (T ++ L) l := .smul (if 0 < r.getD p 0 then 1 else -1) 1 (by decide) sr ll fun i => by rw [Int.one_mul]; exact le i
        rcases List.mem_append.mp hx with h | h
        · rcases List.mem_append.mp h with h | h
          · obtain ⟨t, ht, rfl⟩ := List.mem_map.mp h
            exact spn_strk ll (E.tl t ht).1 lp (.mem (List.mem_append_left _ ht) (E.tl t ht).1) sl
          · rw [List.mem_singleton.mp h]
            exact sl
        · obtain ⟨y, hy, rfl⟩ := List.mem_map.mp (List.mem_filter.mp h).1
          exact spn_strk ll (E.ll y (om y hy)).1 lp (.mem (List.mem_append_right _ (om y hy)) (E.ll y (om y hy)).1) sl
      · have sl : Spn d (T.map (strk · l p) ++ [l] ++ (O.map (strk · l p)).filter nz) l := .mem (List.mem_append_left _ ml) ll
        rcases List.mem_append.mp hx with h | h
        · exact spn_back ll (E.tl x h).1 lp (.mem (List.mem_append_left _ (List.mem_append_left _ (List.mem_map.mpr ⟨x, h, rfl⟩))) (st x h).1) sl
        · by_cases c : x ∈ O
          · have xl' : (strk x l p).length = d := by rw [strk_len (by omega)]; exact xl
            refine spn_back ll xl lp ?_ sl
            by_cases n : nz (strk x l p) = true
            · exact .mem (List.mem_append_right _ (List.mem_filter.mpr ⟨List.mem_map.mpr ⟨x, c, rfl⟩, n⟩)) xl'
            · have e : strk x l p = List.replicate d 0 := vec_ext (by rw [xl', List.length_replicate]) fun i => by rw [nz_false n, getD_rep]
              rw [e]
              exact .zero
          · have xr : x = r := by
              rw [sp0] at h
              rcases List.mem_append.mp h with h | h
              · exact absurd (by rw [← hO]; exact List.mem_append_left _ h) c
              · rcases List.mem_cons.mp h with h | h
                · exact h
                · exact absurd (by rw [← hO]; exact List.mem_append_right _ h) c
            rw [xr]
            exact .smul (if 0 < r.getD p 0 then 1 else -1) 1 (by decide) sl rl fun i => by rw [Int.one_mul, le]; split <;> omega

end
section

/-! ### reduced rows are told by their span -/
structure Rf (d : Nat) (T : List Vec) : Prop where
  tl : ∀ t, t ∈ T → t.length = d ∧ gall t = 1
  ld : ∀ t, t ∈ T → leadp t < d ∧ 0 < t.getD (leadp t) 0
  clr : ∀ (i j : Nat) t u, T[i]? = some t → T[j]? = some u → i ≠ j → t.getD (leadp u) 0 = 0
  inc : ∀ (i j : Nat) t u, T[i]? = some t → T[j]? = some u → i < j → leadp t < leadp u
theorem es_start {d : Nat} {M : List Vec} (hM : ∀ r, r ∈ M → r.length = d) : Es d 0 M [] (eleft M) := by
  refine ⟨fun t h => by simp at h, fun t h => by simp at h, fun i j t u h => by simp at h, fun i j t u h => by simp at h, fun r hr => ?_, ?_⟩
  · obtain ⟨x, hx, rfl⟩ := List.mem_map.mp hr
    obtain ⟨h1, h2⟩ := List.mem_filter.mp hx
    obtain ⟨j, hj⟩ := nz_ne h2
    exact ⟨by rw [prim_len]; exact hM x h1, gall_prim (gall_ne hj), fun j hj => absurd hj (Nat.not_lt_zero _)⟩
  · rw [List.nil_append]
    refine eqs_of (fun r hr rl => ?_) fun r hr rl => ?_
    · obtain ⟨x, hx, rfl⟩ := List.mem_map.mp hr
      have h1 := (List.mem_filter.mp hx).1
      exact .smul 1 (if gall x ≤ 1 then (1 : Int) else (gall x : Int)) (Int.ne_of_gt (gfac_pos x)) (.mem h1 (hM x h1)) rl fun i => by rw [Int.one_mul]; exact (prim_getD x i).symm
    · by_cases c : nz r = true
      · exact .smul _ 1 (by decide) (.mem (List.mem_map.mpr ⟨r, List.mem_filter.mpr ⟨hr, c⟩, rfl⟩) (by rw [prim_len]; exact rl)) rl fun i => by rw [Int.one_mul]; exact prim_getD r i
      · have e : r = List.replicate d 0 := vec_ext (by rw [rl, List.length_replicate]) fun i => by rw [nz_false c, getD_rep]
        rw [e]
        exact .zero
theorem es_all {d : Nat} {M : List Vec} (hM : ∀ r, r ∈ M → r.length = d) : ∀ p, p ≤ d → Es d p M (est M p).1 (est M p).2
  | 0, _ => es_start hM
  | p + 1, h => by
    rw [est_succ]
    exact es_step (es_all hM p (by omega)) (by omega)
theorem zero_row {d : Nat} {r : Vec} (hl : r.length = d) (hz : ∀ j, j < d → r.getD j 0 = 0) : gall r = 0 := gall_zero fun x hx => by
  obtain ⟨j, hj⟩ := List.getElem?_of_mem hx
  have := hz j (by rw [← hl]; exact (List.getElem?_eq_some_iff.mp hj).1)
  rw [List.getD_eq_getElem?_getD, hj] at this
  exact this
theorem ech_rf {d : Nat} {M : List Vec} (hM : ∀ r, r ∈ M → r.length = d) : Rf d (ech d M) ∧ Eqs d (ech d M) M := by
  have E := es_all hM d (Nat.le_refl _)
  have L0 : (est M d).2 = [] := by
    cases e : (est M d).2 with
    | nil => rfl
    | cons r L =>
      obtain ⟨h1, h2, h3⟩ := E.ll r (by rw [e]; exact List.mem_cons_self ..)
      rw [zero_row h1 h3] at h2
      cases h2
  have sp := E.sp
  rw [L0, List.append_nil] at sp
  exact ⟨⟨E.tl, E.ld, E.clr, E.inc⟩, sp⟩
abbrev tk (T : List Vec) (k : Nat) : Vec := T.getD k []
abbrev lk (T : List Vec) (k : Nat) : Nat := leadp (tk T k)
abbrev hk (T : List Vec) (k : Nat) : Int := (tk T k).getD (lk T k) 0
theorem tk_at {T : List Vec} {k : Nat} (h : k < T.length) : T[k]? = some (tk T k) := by
  unfold tk
  rw [List.getD_eq_getElem?_getD, List.getElem?_eq_getElem h]
  rfl
theorem tk_mem {T : List Vec} {k : Nat} (h : k < T.length) : tk T k ∈ T := List.mem_of_getElem? (tk_at h)
theorem tk_of {T : List Vec} {k : Nat} {t : Vec} (h : T[k]? = some t) : tk T k = t := by
  unfold tk
  rw [List.getD_eq_getElem?_getD, h]
  rfl
section
variable {d : Nat} {T U : List Vec} {v : Vec}
theorem Rf.clk (R : Rf d T) {i j : Nat} (hi : i < T.length) (hj : j < T.length) (ne : i ≠ j) : (tk T i).getD (lk T j) 0 = 0 := R.clr i j _ _ (tk_at hi) (tk_at hj) ne
theorem Rf.pos (R : Rf d T) {i : Nat} (hi : i < T.length) : 0 < hk T i := (R.ld _ (tk_mem hi)).2
theorem Rf.lt (R : Rf d T) {i : Nat} (hi : i < T.length) : lk T i < d := (R.ld _ (tk_mem hi)).1
theorem Rf.dif (R : Rf d T) {i j : Nat} (hi : i < T.length) (hj : j < T.length) (e : lk T i = lk T j) : i = j := by
  rcases Nat.lt_trichotomy i j with h | h | h
  · have := R.inc i j _ _ (tk_at hi) (tk_at hj) h
    exact absurd e (by show ¬leadp (tk T i) = leadp (tk T j); omega)
  · exact h
  · have := R.inc j i _ _ (tk_at hj) (tk_at hi) h
    exact absurd e (by show ¬leadp (tk T i) = leadp (tk T j); omega)
/-- what lies in the span by its numbers at the leads -/
theorem Rf.exp (R : Rf d T) {D : Int} (hD : ∀ k, k < T.length → hk T k ∣ D) (s : Spn d T v) : ∀ i, D * v.getD i 0 = sg T.length fun k => D / hk T k * v.getD (lk T k) 0 * (tk T k).getD i 0 := by
  refine Spn.ind (P := fun f => ∀ i, D * f i = sg T.length fun k => D / hk T k * f (lk T k) * (tk T k).getD i 0) (fun i => ?_) (fun f g h a b c hc hf hg e i => ?_) (fun r hr rl i => ?_) s
  · rw [Int.mul_zero]
    exact (sg_z fun k _ => by rw [Int.mul_zero, Int.zero_mul]).symm
  · refine Int.eq_of_mul_eq_mul_left hc ?_
    rw [← sg_mul]
    have e1 : sg T.length (fun k => c * (D / hk T k * h (lk T k) * (tk T k).getD i 0)) = a * (D * f i) + b * (D * g i) := by
      rw [hf i, hg i, ← sg_mul, ← sg_mul, ← sg_add]
      refine sg_congr fun k _ => ?_
      have q := e (lk T k)
      have : c * (D / hk T k * h (lk T k) * (tk T k).getD i 0) = D / hk T k * (c * h (lk T k)) * (tk T k).getD i 0 := by simp only [Int.mul_comm, Int.mul_left_comm, Int.mul_assoc]
      rw [this, q]
      simp only [Int.mul_add, Int.add_mul, Int.mul_comm, Int.mul_left_comm, Int.mul_assoc]
    rw [e1]
    have q := e i
    have : c * (D * h i) = D * (c * h i) := by simp only [Int.mul_comm, Int.mul_left_comm, Int.mul_assoc]
    rw [this, q]
    simp only [Int.mul_add, Int.mul_comm, Int.mul_left_comm, Int.mul_assoc]
  · obtain ⟨j, hj⟩ := List.getElem?_of_mem hr
    have jl := (List.getElem?_eq_some_iff.mp hj).1
    have e := tk_of hj
    rw [sg_one jl fun k hk' ne => ?_]
    · rw [e]
      have h1 : hk T j = r.getD (leadp r) 0 := by
        show (tk T j).getD (leadp (tk T j)) 0 = _
        rw [e]
      have h2 : lk T j = leadp r := by
        show leadp (tk T j) = _
        rw [e]
      have dv := hD j jl
      show D * r.getD i 0 = D / hk T j * r.getD (lk T j) 0 * r.getD i 0
      rw [h2, ← h1, Int.ediv_mul_cancel dv]
    · have z := R.clk (i := j) jl hk' (fun q => ne q.symm)
      rw [e] at z
      show D / hk T k * r.getD (lk T k) 0 * (tk T k).getD i 0 = 0
      rw [z, Int.mul_zero, Int.zero_mul]
theorem Rf.dvd (R : Rf d T) : ∀ k, k < T.length → hk T k ∣ ((lmul T : Nat) : Int) := fun k hk' => by
  have h : ∀ r, r ∈ T → leadp r < r.length := fun r hr => by rw [(R.tl r hr).1]; exact (R.ld r hr).1
  exact Int.ofNat_dvd_right.mpr (lmul_dvd h (tk_mem hk'))
theorem Rf.mpos (R : Rf d T) : 0 < ((lmul T : Nat) : Int) := by
  have h : ∀ r, r ∈ T → leadp r < r.length := fun r hr => by rw [(R.tl r hr).1]; exact (R.ld r hr).1
  have := (lmul_pos T h T.length (Nat.le_refl _)).1
  rw [List.take_length] at this
  omega
/-- zero at all leads: zero -/
theorem Rf.zero (R : Rf d T) (s : Spn d T v) (h : ∀ k, k < T.length → v.getD (lk T k) 0 = 0) : ∀ i, v.getD i 0 = 0 := fun i => by
  have e := R.exp R.dvd s i
  rw [sg_z fun k hk' => by rw [h k hk', Int.mul_zero, Int.zero_mul]] at e
  exact (Int.mul_eq_zero.mp e).resolve_left (by have := R.mpos; omega)
theorem Rf.lead (R : Rf d T) (s : Spn d T v) (h : leadp v < v.length) : ∃ k, k < T.length ∧ lk T k = leadp v := Classical.byContradiction fun c => by
  have e := R.exp R.dvd s (leadp v)
  rw [sg_z fun k hk' => ?_] at e
  · exact leadp_ne h ((Int.mul_eq_zero.mp e).resolve_left (by have := R.mpos; omega))
  · rcases Nat.lt_trichotomy (lk T k) (leadp v) with q | q | q
    · rw [leadp_zero q, Int.mul_zero, Int.zero_mul]
    · exact absurd ⟨k, hk', q⟩ c
    · rw [leadp_zero q, Int.mul_zero]
end
theorem inc_ext : ∀ (l m : List Nat), l.Pairwise (· < ·) → m.Pairwise (· < ·) → (∀ x, x ∈ l ↔ x ∈ m) → l = m
  | [], [], _, _, _ => rfl
  | [], y :: m, _, _, h => absurd ((h y).mpr (List.mem_cons_self ..)) (by simp)
  | x :: l, [], _, _, h => absurd ((h x).mp (List.mem_cons_self ..)) (by simp)
  | x :: l, y :: m, hl, hm, h => by
    obtain ⟨l1, l2⟩ := List.pairwise_cons.mp hl
    obtain ⟨m1, m2⟩ := List.pairwise_cons.mp hm
    have xy : x = y := by
      rcases List.mem_cons.mp ((h x).mp (List.mem_cons_self ..)) with e | e
      · exact e
      · rcases List.mem_cons.mp ((h y).mpr (List.mem_cons_self ..)) with q | q
        · exact q.symm
        · have a := m1 x e
          have b := l1 y q
          omega
    subst xy
    rw [inc_ext l m l2 m2 fun z => ⟨fun hz => ?_, fun hz => ?_⟩]
    · rcases List.mem_cons.mp ((h z).mp (List.mem_cons_of_mem _ hz)) with e | e
      · have := l1 z hz
        omega
      · exact e
    · rcases List.mem_cons.mp ((h z).mpr (List.mem_cons_of_mem _ hz)) with e | e
      · have := m1 z hz
        omega
      · exact e

end
section

/-! ### one span, one reduced list -/
section
variable {d : Nat} {T U : List Vec}
theorem Rf.pw (R : Rf d T) : (T.map leadp).Pairwise (· < ·) := by
  rw [List.pairwise_map]
  refine List.pairwise_iff_getElem.mpr fun i j hi hj lt => ?_
  exact R.inc i j _ _ (List.getElem?_eq_getElem hi) (List.getElem?_eq_getElem hj) lt
theorem Rf.sub (R : Rf d T) (S : Rf d U) (h : Eqs d T U) : ∀ x, x ∈ U.map leadp → x ∈ T.map leadp := fun x hx => by
  obtain ⟨u, hu, rfl⟩ := List.mem_map.mp hx
  have ul := (S.tl u hu).1
  obtain ⟨k, hk', e⟩ := R.lead ((h u).mpr (.mem hu ul)) (by rw [ul]; exact (S.ld u hu).1)
  exact List.mem_map.mpr ⟨tk T k, tk_mem hk', e⟩
theorem Rf.leads (R : Rf d T) (S : Rf d U) (h : Eqs d T U) : T.map leadp = U.map leadp := inc_ext _ _ R.pw S.pw fun x => ⟨S.sub R h.symm x, R.sub S h x⟩
theorem prim_one {r : Vec} (h : gall r = 1) : prim r = r := if_pos (by omega)
/-- multiples of one another, both without a divisor, both above 0 -/
theorem prop_eq {u t : Vec} {a b : Int} (ha : 0 < a) (hb : 0 < b) (hu : gall u = 1) (ht : gall t = 1) (l : u.length = t.length) (e : ∀ i, a * u.getD i 0 = b * t.getD i 0) : u = t := by
  have e1 : prim (u.map (a * ·)) = prim u := prim_scale ha (fun j => getD_map (by simp)) (by rw [List.length_map])
  have e2 : prim (t.map (b * ·)) = prim t := prim_scale hb (fun j => getD_map (by simp)) (by rw [List.length_map])
  have e3 : u.map (a * ·) = t.map (b * ·) := vec_ext (by rw [List.length_map, List.length_map, l]) fun i => by
    rw [getD_map (f := (a * ·)) (by simp), getD_map (f := (b * ·)) (by simp)]
    exact e i
  rw [e3, e2] at e1
  rw [← prim_one hu, ← prim_one ht, e1]
theorem Rf.eq (R : Rf d T) (S : Rf d U) (h : Eqs d T U) : T = U := by
  have le := R.leads S h
  have ll : T.length = U.length := by
    have := congrArg List.length le
    rw [List.length_map, List.length_map] at this
    exact this
  have lu : ∀ k, k < T.length → lk T k = lk U k := fun k hk' => by
    have a : (T.map leadp)[k]? = some (lk T k) := by rw [List.getElem?_map, tk_at hk']; rfl
    have b : (U.map leadp)[k]? = some (lk U k) := by rw [List.getElem?_map, tk_at (by omega)]; rfl
    rw [le, b] at a
    exact (Option.some.inj a).symm
  refine List.ext_getElem? fun i => ?_
  by_cases c : i < T.length
  · have c' : i < U.length := by omega
    rw [tk_at c, tk_at c']
    congr 1
    obtain ⟨t1, t2⟩ := R.tl _ (tk_mem c)
    obtain ⟨u1, u2⟩ := S.tl _ (tk_mem c')
    have D0 := R.mpos
    have ex := R.exp R.dvd ((h (tk U i)).mpr (.mem (tk_mem c') u1))
    have hp := R.pos c
    have up := S.pos c'
    have q0 : 0 < ((lmul T : Nat) : Int) / hk T i := by
      have := Int.ediv_mul_cancel (R.dvd i c)
      rw [← this] at D0
      rw [Int.mul_comm] at D0
      exact pos_of_mul (by omega) D0
    have ui : (tk U i).getD (lk T i) 0 = hk U i := by rw [lu i c]
    refine (prop_eq (a := ((lmul T : Nat) : Int)) (b := ((lmul T : Nat) : Int) / hk T i * hk U i) D0 (Int.mul_pos q0 up) u2 t2 (by omega) fun j => ?_).symm
    rw [ex j, sg_one c fun k hk' ne => ?_]
    · rw [ui]
    · rw [lu k hk', S.clk c' (by omega) (fun q => ne q.symm), Int.mul_zero, Int.zero_mul]
  · rw [List.getElem?_eq_none (by omega), List.getElem?_eq_none (by omega)]
end
/-- rows of one length -/
def Len (d : Nat) (M : List Vec) : Prop := ∀ r, r ∈ M → r.length = d
theorem ech_eq {d : Nat} {M N : List Vec} (hM : Len d M) (hN : Len d N) (h : Eqs d M N) : ech d M = ech d N := by
  obtain ⟨R, a⟩ := ech_rf hM
  obtain ⟨S, b⟩ := ech_rf hN
  exact R.eq S ((a.trans h).trans b.symm)
theorem Rf.len {d : Nat} {T : List Vec} (R : Rf d T) : Len d T := fun t ht => (R.tl t ht).1
theorem ech_id {d : Nat} {T : List Vec} (R : Rf d T) : ech d T = T := by
  obtain ⟨S, a⟩ := ech_rf R.len
  exact S.eq R a
theorem ech_len' {d : Nat} {M : List Vec} (hM : Len d M) : Len d (ech d M) := (ech_rf hM).1.len
theorem len_app {d : Nat} {M N : List Vec} (a : Len d M) (b : Len d N) : Len d (M ++ N) := fun r hr => (List.mem_append.mp hr).elim (a r) (b r)

end
section

/-! ### solutions over data -/
theorem dc_inv {dg : DG} {dt : DT} {dk dv : DE} {ρ : Ro} {Q : List (Key × Dt) → Prop} {items : List Dt} (P : Nat → List (Key × Dt) → Prop) (h0 : P 0 []) (hs : ∀ i x acc (R : List (Key × Dt) → Prop), items[i]? = some x → P i acc → (∀ acc', P (i + 1) acc' → R acc') → dg x ρ fun ρ' => dt ρ' fun b => if2 b (dk ρ' fun y => dv ρ' fun z => match keyD y with
    | some k => R (putD acc k z)
    | none => False) (R acc)) (hd : ∀ acc, P items.length acc → Q acc) : dDcGo dg dt dk dv ρ Q items [] := by
  have key : ∀ (rest : List Dt) (i : Nat) (acc : List (Key × Dt)), items.drop i = rest → i + rest.length = items.length → P i acc → dDcGo dg dt dk dv ρ Q rest acc := by
    intro rest
    induction rest with
    | nil =>
      intro i acc e l p
      have : i = items.length := by simpa using l
      subst this
      exact hd acc p
    | cons x rest ih =>
      intro i acc e l p
      have hx : items[i]? = some x := by rw [← List.head?_drop, e]; rfl
      exact hs i x acc _ hx p fun acc' p' => ih (i + 1) acc' (by rw [← List.drop_drop, e]; rfl) (by simp at l; omega) p'
  exact key items 0 [] rfl (by simp) h0
theorem lc_inv0 {dg : DG} {dt : DT} {de : DE} {ρ : Ro} {Q : List Dt → Prop} {items : List Dt} {acc0 : List Dt} (P : Nat → List Dt → Prop) (h0 : P 0 acc0) (hs : ∀ i x acc (R : List Dt → Prop), items[i]? = some x → P i acc → (∀ acc', P (i + 1) acc' → R acc') → dg x ρ fun ρ' => dt ρ' fun b => if2 b (de ρ' fun y => R (acc ++ [y])) (R acc)) (hd : ∀ acc, P items.length acc → Q acc) : dLcGo dg dt de ρ Q items acc0 := by
  have key : ∀ (rest : List Dt) (i : Nat) (acc : List Dt), items.drop i = rest → i + rest.length = items.length → P i acc → dLcGo dg dt de ρ Q rest acc := by
    intro rest
    induction rest with
    | nil =>
      intro i acc e l p
      have : i = items.length := by simpa using l
      subst this
      exact hd acc p
    | cons x rest ih =>
      intro i acc e l p
      have hx : items[i]? = some x := by rw [← List.head?_drop, e]; rfl
      exact hs i x acc _ hx p fun acc' p' => ih (i + 1) acc' (by rw [← List.drop_drop, e]; rfl) (by simp at l; omega) p'
  exact key items 0 acc0 rfl (by simp) h0
theorem lc2_inv {dg : DG} {dt : DT} {di1 : DI} {dg1 : DG} {dt1 : DT} {de : DE} {ws1 : List Nat} {ρ : Ro} {Q : List Dt → Prop} {items : List Dt} (P : Nat → List Dt → Prop) (h0 : P 0 []) (hs : ∀ i x acc (R : List Dt → Prop), items[i]? = some x → P i acc → (∀ acc', P (i + 1) acc' → R acc') → dg x ρ fun ρ' => dt ρ' fun b => if2 b ((ws1.all fun i => !(gt ρ' i).owned) = true ∧ di1 ρ' fun items1 => items1.length ≤ 1000 ∧ dLcGo dg1 dt1 de (wp ρ' ws1) R items1 acc) (R acc)) (hd : ∀ acc, P items.length acc → Q acc) : dLc2Go dg dt di1 dg1 dt1 de ws1 ρ Q items [] := by
  have key : ∀ (rest : List Dt) (i : Nat) (acc : List Dt), items.drop i = rest → i + rest.length = items.length → P i acc → dLc2Go dg dt di1 dg1 dt1 de ws1 ρ Q rest acc := by
    intro rest
    induction rest with
    | nil =>
      intro i acc e l p
      have : i = items.length := by simpa using l
      subst this
      exact hd acc p
    | cons x rest ih =>
      intro i acc e l p
      have hx : items[i]? = some x := by rw [← List.head?_drop, e]; rfl
      exact hs i x acc _ hx p fun acc' p' => ih (i + 1) acc' (by rw [← List.drop_drop, e]; rfl) (by simp at l; omega) p'
  exact key items 0 [] rfl (by simp) h0
def oent (T : List (List Int)) (f p : Nat) : Int := if p = f then ((lmul T : Nat) : Int) else match T.find? fun l => decide (leadp l = p) with
  | some e => -(e.getD f 0) * ((lmul T : Nat) : Int).fdiv (e.getD p 0)
  | none => 0
def onesol (d : Nat) (T : List (List Int)) (f : Nat) : List Int := (List.range d).map (oent T f)
/-- told rows that can be solved: leads, all different -/
structure SolOk (d : Nat) (T : List (List Int)) : Prop where
  dle : d ≤ 1000
  tle : T.length ≤ 1000
  ldd : Ldd T
  len : ∀ l, l ∈ T → l.length = d
  mul : lmul T < 2 ^ 12999
  dif : ∀ (i j : Nat) l l', T[i]? = some l → T[j]? = some l' → leadp l = leadp l' → i = j
abbrev hdD (T : List (List Int)) : List (Key × Dt) := T.map fun l => (.inl ((leadp l : Nat) : Int), .tup (rwD l))
theorem hdD_val (p : Nat) : ∀ (T : List (List Int)), valD (hdD T) (.inl ((p : Nat) : Int)) = (T.find? fun l => decide (leadp l = p)).map fun l => .tup (rwD l)
  | [] => rfl
  | l :: T => by
    have ih := hdD_val p T
    unfold valD at ih ⊢
    unfold hdD at ih ⊢
    rw [List.map_cons, List.find?_cons, List.find?_cons]
    by_cases e : leadp l = p
    · subst e
      simp
    · have e1 : decide ((Sum.inl ((leadp l : Nat) : Int) : Key) = .inl ((p : Nat) : Int)) = false := by
        refine decide_eq_false fun z => e ?_
        have := Sum.inl.inj z
        omega
      have e2 : decide (leadp l = p) = false := decide_eq_false e
      simp only [e1, e2]
      exact ih
def sd_one_solution : DSp := fun ds Q => ∃ d T f, ds = [.int ((d : Nat) : Int), .lst (mD T), .int ((f : Nat) : Int)] ∧ SolOk d T ∧ f < d ∧ Q (.lst (rwD (onesol d T f)))
abbrev N_one_solution : List Str := ["deep", "told", "free", "shared", "heads", "row", "place", "equation"]
def t_one_solution (K : PySem.W.Frag) : TS :=
  (tSeq (tAsg (tCall (sp_lead_multiple K) [] E0 (tCons (tVar 1) tNil)) (gName 3))
    (tSeq (tAsg (tDc (iSq K (tVar 1)) (gName 7) tYes (tCall (sp_lead_place K) [] E0 (tCons (tVar 7) tNil)) (tVar 7) [7]) (gName 4))
    (tSeq (tAsg (tLst tNil) (gName 5))
    (tSeq (tFor (iRng1 (tCons (tVar 0) tNil)) (gName 6)
    (tIfS (tTest (tOp (rEqU K) (tVar 6) (tVar 2))) (tDrop (tBM K "list" rAppend (tVar 5) (tCons (tVar 3) tNil))) (tIfS (tB (tDIn (tVar 6) (tVar 4))) (tSeq (tAsg (tDGet (tVar 4) (tVar 6)) (gName 7))
    (tDrop (tBM K "list" rAppend (tVar 5) (tCons (tOp rMulU (tUn rNegI (tOp (rIx K) (tVar 7) (tVar 2))) (tOp rDivV (tVar 3) (tOp (rIx K) (tVar 7) (tVar 6)))) tNil)))) (tDrop (tBM K "list" rAppend (tVar 5) (tCons (tC (.int 0)) tNil))))))
    (tRet (tVar 5))))))
def a_one_solution : DS :=
  (dSeq (dAsg (dCall sd_lead_multiple (dCons (dVar 1) dNil)) (gN 3))
    (dSeq (dAsg (dDc (jSq (dRd 1)) (gN 7) dYes (dCall sd_lead_place (dCons (dVar 7) dNil)) (dVar 7) [7]) (gN 4))
    (dSeq (dOwn 5 (fLst dNil))
    (dSeq (dFor (jRng1 (dCons (dRd 0) dNil)) (gN 6)
    (dIfS (dTest (dOp oEq (dRd 6) (dRd 2))) (dAppend 5 (dVar 3)) (dIfS (dTest (dDIn (dVar 6) (dVar 4))) (dSeq (dAsg (dDGet (dVar 4) (dVar 6)) (gN 7))
    (dAppend 5 (dOp oMul (dUn uNeg (dOp oIx (dRd 7) (dRd 2))) (dOp oDivv (dRd 3) (dOp oIx (dRd 7) (dRd 6)))))) (dAppend 5 (dC (.int 0))))))
    (dFrz 5 (dRet (dVar 5)))))))
theorem r_one_solution {K : PySem.W.Frag} {Jx : WX} {Xd : XD} : RefS K Jx Xd (t_one_solution K) a_one_solution :=
  (rSeq (rAsg (rCall (fun _ _ _ h => h) (rCons (rVar 1) rNil)) (rgN 3))
    (rSeq (rAsg (rDc (rjSq (rRd 1)) (rcN 7 (by decide)) rYes (rCall (fun _ _ _ h => h) (rCons (rVar 7) rNil)) (rVar 7)) (rgN 4))
    (rSeq (rOwn 5 (rfLst rNil))
    (rSeq (rFor (riRng1 (rConsX (rRd 0) rNilX)) (rgN 6)
    (rIfS (rTest (rOp foEq (rRd 6) (rRd 2))) (rAppend' 5 (rVar 3)) (rIfS (rB (rDIn (rVar 6) (rVar 4))) (rSeq (rAsg (rDGet (rVar 4) (rVar 6)) (rgN 7))
    (rAppend' 5 (rOp foMul (RefE.b (rUn fuNeg (RefE.b (rOp foIx (rRd 7) (rRd 2))))) (RefE.b (rOp foDivv (rRd 3) (RefE.b (rOp foIx (rRd 7) (rRd 6)))))))) (rAppend' 5 (rInt 0)))))
    (rFrz 5 (rRet (rVar 5)))))))
theorem pd_one_solution (ds : List Dt) (Qd : Dt → Prop) (h : sd_one_solution ds Qd) : ds.length ≤ N_one_solution.length ∧ a_one_solution ⟨fun _ => Qd .non, Qd, fun _ => False, fun _ => False⟩ (vals ds ++ List.replicate (N_one_solution.length - ds.length) .no) := by
  obtain ⟨d, T, f, rfl, ok, hf, q⟩ := h
  refine ⟨Nat.le_of_ble_eq_true rfl, ?_⟩
  have dle := ok.dle
  have tle := ok.tle
  walk_at "dl"
  refine ⟨T, rfl, ok.ldd, ok.mul, ?_⟩
  walk_at "dl"
  refine ⟨rfl, ?_⟩
  refine ⟨by rw [List.length_map]; omega, ?_⟩
  refine dc_inv (fun i acc => acc = hdD (T.take i)) rfl (fun i x acc R hx p hP => ?_) fun acc p => ?_
  · obtain ⟨l, hl, rfl⟩ := mD_at hx
    subst p
    walk_at "dl"
    refine ⟨_, l, rfl, .inr rfl, ?_⟩
    walk_at "dl"
    have e : putD (hdD (T.take i)) (.inl ((leadp l : Nat) : Int)) (.tup (rwD l)) = hdD (T.take (i + 1)) := by
      unfold putD
      rw [if_neg, take_succ_get hl]
      · unfold hdD
        rw [List.map_append]
        rfl
      · intro z
        obtain ⟨kv, hk, e⟩ := List.any_eq_true.mp z
        obtain ⟨l', hl', rfl⟩ := List.mem_map.mp hk
        obtain ⟨j, hj⟩ := List.getElem?_of_mem hl'
        have jl : j < i := by
          have := (List.getElem?_eq_some_iff.mp hj).1
          simp at this
          omega
        rw [List.getElem?_take_of_lt jl] at hj
        have e3 := of_decide_eq_true e
        have e2 := Sum.inl.inj e3
        have := ok.dif j i l' l hj hl (by omega)
        omega
    exact hP _ e
  subst p
  rw [List.length_map, List.take_length]
  walk_at "dl"
  refine ⟨Nat.zero_le _, ?_⟩
  walk_at "dl"
  refine ⟨⟨by omega, by omega⟩, ?_⟩
  rw [Int.toNat_natCast]
  refine for_rng (lo := 0) (n := d) (fun p ρ => ∃ z6 z7, (z6.owned = false ∧ z7.owned = false) ∧ ρ = [.val (.int (d : Int)), .val (.lst (mD T)), .val (.int (f : Int)), .val (.int ((lmul T : Nat) : Int)), .val (.dk (hdD T)), .own (rwD ((List.range p).map (oent T f))), z6, z7]) ⟨_, _, ⟨rfl, rfl⟩, rfl⟩ ?_ ?_
  · rintro p ρ P hp ⟨z6, z7, ho, rfl⟩ hP
    rw [Int.zero_add]
    have step : ∀ v, oent T f p = v → rwD ((List.range p).map (oent T f)) ++ [.int v] = rwD ((List.range (p + 1)).map (oent T f)) := fun v e => by
      subst e
      rw [List.range_succ, List.map_append]
      unfold rwD
      rw [List.map_append]
      rfl
    have ln : (rwD ((List.range p).map (oent T f))).length < 16777216 := by rw [rwD_len, List.length_map, List.length_range]; omega
    walk_at "dl"
    refine ⟨fun c => ?_, fun c => ?_⟩
    · walk_at "dl"
      refine ⟨ln, ?_⟩
      rw [step _ (by unfold oent; rw [if_pos (by have := of_decide_eq_true c; omega)])]
      exact hP _ ⟨_, _, ⟨rfl, ho.2⟩, rfl⟩
    · have cf : p ≠ f := fun z => of_decide_eq_false c (by rw [z])
      walk_at "dl"
      refine ⟨fun c2 => ?_, fun c2 => ?_⟩
      · rw [hdD_val, Option.isSome_map] at c2
        obtain ⟨e, he⟩ := Option.isSome_iff_exists.mp c2
        have hv := hdD_val p T
        rw [he] at hv
        have em := List.mem_of_find?_eq_some he
        have el : leadp e = p := of_decide_eq_true (List.find?_some (p := fun l => decide (leadp l = p)) he)
        obtain ⟨a1, a2, a3⟩ := ok.ldd e em
        have ln2 := ok.len e em
        have key : ∀ (Q : Dt → Prop), Q (.tup (rwD e)) → (match valD (hdD T) (.inl ((p : Nat) : Int)) with | some d => Q d | none => False) := fun Q q => by
          rw [hv]
          exact q
        refine key _ ?_
        walk_at "dl"
        refine row_ix (.inr rfl) (by omega) ?_
        walk_at "dl"
        refine row_ix (.inr rfl) (by omega) ?_
        walk_at "dl"
        have b1 : (e.getD p 0).natAbs < 2 ^ 8999 := getD_bd a3
        have b2 : (-e.getD f 0).natAbs < 2 ^ 8999 := by rw [Int.natAbs_neg]; exact getD_bd a3
        have b3 := fdiv_bd (c := e.getD p 0) ok.mul
        refine ⟨⟨by rw [← el]; exact leadp_ne a1, .inl (log2_bd b1 (Nat.le_refl _))⟩, ?_⟩
        walk_at "dl"
        refine ⟨cmul_bd b2 b3 (by omega) (by omega), ?_⟩
        refine ⟨ln, ?_⟩
        rw [step _ (by unfold oent; rw [if_neg cf, he])]
        exact hP _ ⟨_, _, ⟨rfl, rfl⟩, rfl⟩
      · rw [hdD_val, Option.isSome_map] at c2
        have he : (T.find? fun l => decide (leadp l = p)) = none := by
          cases e : T.find? fun l => decide (leadp l = p) with
          | none => rfl
          | some l => rw [e] at c2; cases c2
        walk_at "dl"
        refine ⟨ln, ?_⟩
        rw [step _ (by unfold oent; rw [if_neg cf, he])]
        exact hP _ ⟨_, _, ⟨rfl, ho.2⟩, rfl⟩
  · rintro ρ ⟨z6, z7, ho, rfl⟩
    walk_at "dl"
    exact q
abbrev sp_one_solution (K : PySem.W.Frag) : Sp := spD K sd_one_solution
theorem pure_one_solution {K : PySem.W.Frag} (vs : List V) (H : Hp) (Q : VK) (E : XK) (h : sp_one_solution K vs H Q E) : t_one_solution K { nx := fun _ H' => Q .non H', rt := Q } (L2.start N_one_solution vs) H := fnD (Jx := fun _ _ _ _ => False) (r_one_solution) h pd_one_solution
def frees (d : Nat) (T : List (List Int)) : List Nat := (List.range d).filter fun p => !(T.any fun l => decide (leadp l = p))
def sols (d : Nat) (T : List (List Int)) : List (List Int) := (frees d T).map (onesol d T)
def sd_solved : DSp := fun ds Q => ∃ d T, ds = [.int ((d : Nat) : Int), .lst (mD T)] ∧ SolOk d T ∧ EchOk d (sols d T) ∧ Q (.lst (mD (ech d (sols d T))))
abbrev N_solved : List Str := ["deep", "told", "leads", "places", "row", "place", "free"]
def t_solved (K : PySem.W.Frag) : TS :=
  (tSeq (tAsg (tLc (iSq K (tVar 1)) (gName 4) tYes (tCall (sp_lead_place K) [] E0 (tCons (tVar 4) tNil)) [4]) (gName 2))
    (tSeq (tAsg (tLc (iRng1 (tCons (tVar 0) tNil)) (gName 5) (tTest (tOp (rNInU K) (tVar 5) (tVar 2))) (tVar 5) [5]) (gName 3))
    (tRet (tCall (sp_echelon K) [] E0 (tCons (tVar 0) (tCons (tLc (iSq K (tVar 3)) (gName 6) tYes (tCall (sp_one_solution K) [] E0 (tCons (tVar 0) (tCons (tVar 1) (tCons (tVar 6) tNil)))) [6]) tNil))))))
def a_solved : DS :=
  (dSeq (dAsg (dLc (jSq (dRd 1)) (gN 4) dYes (dCall sd_lead_place (dCons (dVar 4) dNil)) [4]) (gN 2))
    (dSeq (dAsg (dLc (jRng1 (dCons (dRd 0) dNil)) (gN 5) (dTest (dOp oNin (dRd 5) (dRd 2))) (dVar 5) [5]) (gN 3))
    (dRet (dCall sd_echelon (dCons (dVar 0) (dCons (dLc (jSq (dRd 3)) (gN 6) dYes (dCall sd_one_solution (dCons (dVar 0) (dCons (dVar 1) (dCons (dVar 6) dNil)))) [6]) dNil))))))
theorem r_solved {K : PySem.W.Frag} {Jx : WX} {Xd : XD} : RefS K Jx Xd (t_solved K) a_solved :=
  (rSeq (rAsg (rLc (rjSq (rRd 1)) (rcN 4 (by decide)) rYes (rCall (fun _ _ _ h => h) (rCons (rVar 4) rNil))) (rgN 2))
    (rSeq (rAsg (rLc (RefI.j (riRng1 (rConsX (rRd 0) rNilX))) (rcN 5 (by decide)) (rTest (rOp foNin (rRd 5) (rRd 2))) (rVar 5)) (rgN 3))
    (rRet (rCall (fun _ _ _ h => h) (rCons (rVar 0) (rCons (rLc (rjSq (rRd 3)) (rcN 6 (by decide)) rYes (rCall (fun _ _ _ h => h) (rCons (rVar 0) (rCons (rVar 1) (rCons (rVar 6) rNil))))) rNil))))))
theorem in_ints {p : Nat} {l : List Int} {Q : Bool → Prop} (q : Q (l.any fun n => decide (n = ((p : Nat) : Int)))) : inQ (.int ((p : Nat) : Int)) (.lst (rwD l)) Q := ⟨rfl, plain_rw l, by unfold SeqAt.shaped; simp [pyD, PyData.canLay0, PyData.depth], shaped_rw l, by
  rw [pyAll_rw, List.any_map]
  have e : ((fun z => PyData.eqv z (pyD (.int ((p : Nat) : Int)))) ∘ PyData.int) = fun n => decide (n = ((p : Nat) : Int)) := by
    funext n
    simp [pyD, PyData.eqv]
    rfl
  rw [e]
  exact q⟩
theorem pd_solved (ds : List Dt) (Qd : Dt → Prop) (h : sd_solved ds Qd) : ds.length ≤ N_solved.length ∧ a_solved ⟨fun _ => Qd .non, Qd, fun _ => False, fun _ => False⟩ (vals ds ++ List.replicate (N_solved.length - ds.length) .no) := by
  obtain ⟨d, T, rfl, ok, ek, q⟩ := h
  refine ⟨Nat.le_of_ble_eq_true rfl, ?_⟩
  have dle := ok.dle
  have tle := ok.tle
  walk_at "dl"
  refine ⟨rfl, by rw [List.length_map]; omega, ?_⟩
  refine lc_map (f := fun l => .int ((leadp l : Nat) : Int)) (fun i l R hl hR => ?_) ?_
  · walk_at "dl"
    exact ⟨_, l, rfl, .inr rfl, hR⟩
  have el : T.map (fun l => Dt.int ((leadp l : Nat) : Int)) = rwD (T.map fun l => ((leadp l : Nat) : Int)) := by
    unfold rwD
    rw [List.map_map]
    rfl
  rw [el]
  walk_at "dl"
  refine ⟨rfl, ?_⟩
  walk_at "dl"
  refine ⟨⟨by omega, by omega⟩, by unfold rngD; rw [List.length_map, List.length_range]; omega, ?_⟩
  unfold rngD
  refine lc_keep (f := fun (i : Nat) => .int (0 + (i : Int))) (p := fun p => !(T.any fun l => decide (leadp l = p))) (fun i p R R' hp h1 h2 => ?_) ?_
  · walk_at "dl"
    rw [Int.zero_add]
    refine in_ints (Q := fun b => if2 (!b) _ _) ?_
    have e : ((T.map fun l => ((leadp l : Nat) : Int)).any fun n => decide (n = ((p : Nat) : Int))) = T.any fun l => decide (leadp l = p) := by
      rw [List.any_map]
      congr 1
      funext l
      show decide (((leadp l : Nat) : Int) = ((p : Nat) : Int)) = decide (leadp l = p)
      rw [decide_eq_decide]
      omega
    rw [e]
    cases c : T.any fun l => decide (leadp l = p) with
    | true => exact h2 (by rw [c]; rfl)
    | false => 
      have := h1 (by rw [c]; rfl)
      rw [Int.zero_add] at this
      exact this
  rw [Int.toNat_natCast]
  have ef : (List.filter (fun p => !T.any fun l => decide (leadp l = p)) (List.range d)).map (fun (i : Nat) => Dt.int (0 + (i : Int))) = (frees d T).map fun (i : Nat) => Dt.int (i : Int) := by
    unfold frees
    refine List.map_congr_left fun i _ => ?_
    rw [Int.zero_add]
  rw [ef]
  have fl : (frees d T).length ≤ d := by
    have := List.length_filter_le (fun p => !(T.any fun l => decide (leadp l = p))) (List.range d)
    rw [List.length_range] at this
    exact this
  walk_at "dl"
  refine ⟨rfl, by rw [List.length_map]; omega, ?_⟩
  refine lc_map (f := fun f => .lst (rwD (onesol d T f))) (fun i f R hf hR => ?_) ?_
  · walk_at "dl"
    have := List.mem_range.mp (List.mem_filter.mp (List.mem_of_getElem? hf)).1
    exact ⟨d, T, f, rfl, ok, this, hR⟩
  walk_at "dl"
  refine ⟨_, sols d T, d, rfl, ⟨_, .inl rfl, ?_⟩, ek, q⟩
  refine ⟨by unfold sols; rw [List.length_map, List.length_map], fun i x hx => ?_⟩
  rw [List.getElem?_map] at hx
  unfold sols
  rw [List.getElem?_map]
  cases e : (frees d T)[i]? with
  | none => rw [e] at hx; cases hx
  | some f => rw [e] at hx; exact ⟨_, rfl, .inl (Option.some.inj hx).symm⟩
abbrev sp_solved (K : PySem.W.Frag) : Sp := spD K sd_solved
theorem pure_solved {K : PySem.W.Frag} (vs : List V) (H : Hp) (Q : VK) (E : XK) (h : sp_solved K vs H Q E) : t_solved K { nx := fun _ H' => Q .non H', rt := Q } (L2.start N_solved vs) H := fnD (Jx := fun _ _ _ _ => False) (r_solved) h pd_solved
def sd_solutions : DSp := fun ds Q => ∃ d x M, ds = [.int ((d : Nat) : Int), x] ∧ isMat x M ∧ EchOk d M ∧ SolOk d (ech d M) ∧ EchOk d (sols d (ech d M)) ∧ Q (.lst (mD (ech d (sols d (ech d M)))))
abbrev N_solutions : List Str := ["deep", "equations"]
def t_solutions (K : PySem.W.Frag) : TS :=
  (tRet (tCall (sp_solved K) [] E0 (tCons (tVar 0) (tCons (tCall (sp_echelon K) [] E0 (tCons (tVar 0) (tCons (tVar 1) tNil))) tNil))))
def a_solutions : DS :=
  (dRet (dCall sd_solved (dCons (dVar 0) (dCons (dCall sd_echelon (dCons (dVar 0) (dCons (dVar 1) dNil))) dNil))))
theorem r_solutions {K : PySem.W.Frag} {Jx : WX} {Xd : XD} : RefS K Jx Xd (t_solutions K) a_solutions :=
  (rRet (rCall (fun _ _ _ h => h) (rCons (rVar 0) (rCons (rCall (fun _ _ _ h => h) (rCons (rVar 0) (rCons (rVar 1) rNil))) rNil))))
theorem pd_solutions (ds : List Dt) (Qd : Dt → Prop) (h : sd_solutions ds Qd) : ds.length ≤ N_solutions.length ∧ a_solutions ⟨fun _ => Qd .non, Qd, fun _ => False, fun _ => False⟩ (vals ds ++ List.replicate (N_solutions.length - ds.length) .no) := by
  obtain ⟨d, x, M, rfl, hx, h1, h2, h3, q⟩ := h
  refine ⟨Nat.le_of_ble_eq_true rfl, ?_⟩
  walk_at "dl"
  refine ⟨x, M, d, rfl, hx, h1, ?_⟩
  exact ⟨d, _, rfl, h2, h3, q⟩
abbrev sp_solutions (K : PySem.W.Frag) : Sp := spD K sd_solutions
theorem pure_solutions {K : PySem.W.Frag} (vs : List V) (H : Hp) (Q : VK) (E : XK) (h : sp_solutions K vs H Q E) : t_solutions K { nx := fun _ H' => Q .non H', rt := Q } (L2.start N_solutions vs) H := fnD (Jx := fun _ _ _ _ => False) (r_solutions) h pd_solutions
def meetM (d : Nat) (Ps : List (List (List Int))) : List (List Int) := Ps.flatMap fun T => ech d (sols d T)
def sd_meet_rows : DSp := fun ds Q => ∃ (d : Nat) (Ps : List (List (List Int))), ds = [.int (d : Int), .lst (Ps.map fun T => .lst (mD T))] ∧ Ps.length ≤ 1000 ∧ (∀ T, T ∈ Ps → SolOk d T ∧ EchOk d (sols d T)) ∧ (EchOk d (meetM d Ps) ∧ SolOk d (ech d (meetM d Ps)) ∧ EchOk d (sols d (ech d (meetM d Ps)))) ∧ Q (.lst (mD (ech d (sols d (ech d (meetM d Ps))))))
abbrev N_meet_rows : List Str := ["deep", "parts", "told", "row"]
def t_meet_rows (K : PySem.W.Frag) : TS :=
  (tRet (tCall (sp_solutions K) [] E0 (tCons (tVar 0) (tCons (tLc2 (iSq K (tVar 1)) (gName 2) tYes (iSq K (tCall (sp_solved K) [] E0 (tCons (tVar 0) (tCons (tVar 2) tNil)))) (gName 3) tYes (tVar 3) [2, 3] [3]) tNil))))
def a_meet_rows : DS :=
  (dRet (dCall sd_solutions (dCons (dVar 0) (dCons (dLc2 (jSq (dRd 1)) (gN 2) dYes (jSq (dCall sd_solved (dCons (dVar 0) (dCons (dVar 2) dNil)))) (gN 3) dYes (dVar 3) [2, 3] [3]) dNil))))
theorem r_meet_rows {K : PySem.W.Frag} {Jx : WX} {Xd : XD} : RefS K Jx Xd (t_meet_rows K) a_meet_rows :=
  (rRet (rCall (fun _ _ _ h => h) (rCons (rVar 0) (rCons (rLc2 (rjSq (rRd 1)) (rcN 2 (by decide)) rYes (riSq (rCall (fun _ _ _ h => h) (rCons (rVar 0) (rCons (rVar 2) rNil)))) (rcN 3 (by decide)) rYes (rVar 3)) rNil))))
theorem ech_len (d : Nat) (M : List (List Int)) : (ech d M).length ≤ d := est_len1 M d
theorem pd_meet_rows (ds : List Dt) (Qd : Dt → Prop) (h : sd_meet_rows ds Qd) : ds.length ≤ N_meet_rows.length ∧ a_meet_rows ⟨fun _ => Qd .non, Qd, fun _ => False, fun _ => False⟩ (vals ds ++ List.replicate (N_meet_rows.length - ds.length) .no) := by
  obtain ⟨d, Ps, rfl, pl, hP, ⟨h1, h2, h3⟩, q⟩ := h
  refine ⟨Nat.le_of_ble_eq_true rfl, ?_⟩
  walk_at "dl"
  refine ⟨rfl, ?_⟩
  walk_at "dl"
  refine ⟨by rw [List.length_map]; exact pl, ?_⟩
  refine lc2_inv (fun i acc => Rws acc (meetM d (Ps.take i))) rws_nil (fun i x acc R hx p hR => ?_) fun acc p => ?_
  · rw [List.getElem?_map] at hx
    cases e : Ps[i]? with
    | none => rw [e] at hx; cases hx
    | some T =>
      rw [e] at hx
      cases hx
      obtain ⟨a1, a2⟩ := hP T (List.mem_of_getElem? e)
      have dle := a1.dle
      walk_at "dl"
      refine ⟨rfl, ?_⟩
      walk_at "dl"
      refine ⟨d, T, rfl, a1, a2, ?_⟩
      have el := ech_len d (sols d T)
      refine ⟨by rw [List.length_map]; omega, ?_⟩
      refine lc_inv0 (fun j acc => Rws acc (meetM d (Ps.take i) ++ (ech d (sols d T)).take j)) (by rw [List.take_zero, List.append_nil]; exact p) (fun j y acc R' hy p' hR' => ?_) fun acc p' => hR _ ?_
      · obtain ⟨r, hr, rfl⟩ := mD_at hy
        walk_at "dl"
        exact hR' _ (by rw [take_succ_get hr, ← List.append_assoc]; exact rws_app p' (rws_one (.inr rfl)))
      · rw [List.length_map, List.take_length] at p'
        rw [take_succ_get e]
        unfold meetM at p' ⊢
        rw [List.flatMap_append]
        simpa using p'
  · rw [List.length_map, List.take_length] at p
    exact ⟨d, _, _, rfl, ⟨acc, .inl rfl, p⟩, h1, h2, h3, q⟩
abbrev sp_meet_rows (K : PySem.W.Frag) : Sp := spD K sd_meet_rows
theorem pure_meet_rows {K : PySem.W.Frag} (vs : List V) (H : Hp) (Q : VK) (E : XK) (h : sp_meet_rows K vs H Q E) : t_meet_rows K { nx := fun _ H' => Q .non H', rt := Q } (L2.start N_meet_rows vs) H := fnD (Jx := fun _ _ _ _ => False) (r_meet_rows) h pd_meet_rows

end
section

/-! ### solutions, plain -/
theorem spn_sum {d : Nat} {M : List Vec} {c : Int} (hc : c ≠ 0) : ∀ {n : Nat} {a : Nat → Int} {w : Nat → Vec} {v : Vec}, v.length = d → (∀ k, k < n → a k = 0 ∨ Spn d M (w k)) → (∀ i, c * v.getD i 0 = sg n fun k => a k * (w k).getD i 0) → Spn d M v := by
  intro n
  induction n generalizing c with
  | zero =>
    intro a w v hl hw e
    have : v = List.replicate d 0 := vec_ext (by rw [hl, List.length_replicate]) fun i => by
      rw [getD_rep]
      exact (Int.mul_eq_zero.mp (e i)).resolve_left hc
    rw [this]
    exact .zero
  | succ n ih =>
    intro a w v hl hw e
    have mk : (k : Nat) → (List.range d).map (fun i => sg n fun k => a k * (w k).getD i 0) = (List.range d).map (fun i => sg n fun k => a k * (w k).getD i 0) := fun _ => rfl
    have long : ∀ k, k < n + 1 → ∀ i, d ≤ i → a k * (w k).getD i 0 = 0 := fun k hk' i hi => by
      rcases hw k hk' with h | h
      · rw [h, Int.zero_mul]
      · rw [getD_out (by rw [h.len]; exact hi), Int.mul_zero]
    let u : Vec := (List.range d).map fun i => sg n fun k => a k * (w k).getD i 0
    have ul : u.length = d := by
      show ((List.range d).map _).length = d
      rw [List.length_map, List.length_range]
    have ue : ∀ i, 1 * u.getD i 0 = sg n fun k => a k * (w k).getD i 0 := fun i => by
      rw [Int.one_mul]
      by_cases q : i < d
      · show ((List.range d).map _).getD i 0 = _
        rw [List.getD_eq_getElem?_getD, List.getElem?_map, List.getElem?_range q]
        rfl
      · rw [getD_out (by rw [ul]; omega)]
        exact (sg_z fun k hk' => long k (by omega) i (by omega)).symm
    have su : Spn d M u := ih (c := 1) (by decide) ul (fun k hk' => hw k (by omega)) ue
    rcases hw n (by omega) with h | h
    · refine .smul 1 c hc su hl fun i => ?_
      rw [e i]
      show sg n _ + a n * (w n).getD i 0 = _
      rw [h, Int.zero_mul, ← ue i]
      omega
    · refine .lin 1 (a n) c hc su h hl fun i => ?_
      rw [e i]
      show sg n _ + a n * (w n).getD i 0 = _
      rw [← ue i]
/-- orthogonal: to the rows, to all of their span -/
theorem perp_spn {d : Nat} {M : List Vec} {x : Nat → Int} (h : ∀ r, r ∈ M → r.length = d → dt r x d = 0) {v : Vec} (s : Spn d M v) : dt v x d = 0 := by
  rw [dt_sg]
  refine Spn.ind (P := fun f => sg d (fun k => f k * x k) = 0) (sg_z fun k _ => Int.zero_mul _) (fun f g h a b c hc hf hg e => ?_) (fun r hr rl => ?_) s
  · refine (Int.mul_eq_zero.mp (?_ : c * sg d (fun k => h k * x k) = 0)).resolve_left hc
    rw [← sg_mul]
    have : sg d (fun k => c * (h k * x k)) = a * sg d (fun k => f k * x k) + b * sg d (fun k => g k * x k) := by
      rw [← sg_mul, ← sg_mul, ← sg_add]
      refine sg_congr fun k _ => ?_
      rw [← Int.mul_assoc, e k, Int.add_mul, Int.mul_assoc, Int.mul_assoc]
    rw [this, hf, hg]
    omega
  · rw [← dt_sg]
    exact h r hr rl
theorem perp_eqs {d : Nat} {M N : List Vec} {x : Nat → Int} (hN : Len d N) (h : Eqs d M N) (k : ∀ r, r ∈ M → r.length = d → dt r x d = 0) : ∀ r, r ∈ N → dt r x d = 0 := fun r hr => perp_spn k ((h r).mpr (.mem hr (hN r hr)))

end
section

/-! ### the solutions of reduced rows -/
theorem dt_comm (r s : Vec) (d : Nat) : dt r (fun j => s.getD j 0) d = dt s (fun j => r.getD j 0) d := by
  rw [dt_sg, dt_sg]
  exact sg_congr fun k _ => Int.mul_comm _ _
section
variable {d f : Nat} {T : List Vec}
abbrev mT (T : List Vec) : Int := ((lmul T : Nat) : Int)
def Free (T : List Vec) (f : Nat) : Prop := ∀ k, k < T.length → lk T k ≠ f
theorem free_iff : (!(T.any fun l => decide (leadp l = f))) = true ↔ Free T f := by
  rw [Bool.not_eq_true']
  constructor
  · intro h k hk' e
    have : T.any (fun l => decide (leadp l = f)) = true := List.any_eq_true.mpr ⟨tk T k, tk_mem hk', decide_eq_true e⟩
    rw [h] at this
    cases this
  · intro h
    refine Bool.eq_false_iff.mpr fun q => ?_
    obtain ⟨l, hl, e⟩ := List.any_eq_true.mp q
    obtain ⟨k, hk'⟩ := List.getElem?_of_mem hl
    refine h k (List.getElem?_eq_some_iff.mp hk').1 ?_
    show leadp (tk T k) = f
    rw [tk_of hk']
    exact of_decide_eq_true e
theorem oent_eq (R : Rf d T) (hf : Free T f) (j : Nat) : oent T f j = (if j = f then mT T else 0) - sg T.length fun k => if lk T k = j then (tk T k).getD f 0 * (mT T / hk T k) else 0 := by
  unfold oent
  by_cases c : j = f
  · subst c
    rw [if_pos rfl, if_pos rfl, sg_z fun k hk' => if_neg (hf k hk')]
    exact (Int.sub_zero _).symm
  · rw [if_neg c, if_neg c]
    cases e : T.find? fun l => decide (leadp l = j) with
    | none =>
      have z := List.find?_eq_none.mp e
      rw [sg_z fun k hk' => if_neg fun q => ?_]
      · rfl
      · have := z _ (tk_mem hk')
        simp at this
        exact this q
    | some l =>
      have lm := List.mem_of_find?_eq_some e
      have le : leadp l = j := of_decide_eq_true (List.find?_some (p := fun l => decide (leadp l = j)) e)
      obtain ⟨k, hk'⟩ := List.getElem?_of_mem lm
      have kl := (List.getElem?_eq_some_iff.mp hk').1
      have kt := tk_of hk'
      have lkk : lk T k = j := by
        show leadp (tk T k) = j
        rw [kt, le]
      rw [sg_one kl fun i hi ne => if_neg fun q => ne (R.dif hi kl (by rw [q, lkk])), if_pos lkk]
      have hp := R.pos kl
      have hh : hk T k = l.getD j 0 := by
        show (tk T k).getD (lk T k) 0 = _
        rw [lkk, kt]
      show -(l.getD f 0) * (mT T).fdiv (l.getD j 0) = _
      rw [← hh, Int.fdiv_eq_ediv_of_nonneg _ (by omega), kt, Int.neg_mul]
      omega
theorem onesol_getD (j : Nat) (hj : j < d) : (onesol d T f).getD j 0 = oent T f j := by
  unfold onesol
  rw [List.getD_eq_getElem?_getD, List.getElem?_map, List.getElem?_range hj]
  rfl
theorem onesol_len : (onesol d T f).length = d := by
  unfold onesol
  rw [List.length_map, List.length_range]
theorem onesol_dt (R : Rf d T) (hf : Free T f) (hd : f < d) (x : Nat → Int) : dt (onesol d T f) x d = mT T * x f - sg T.length fun k => (tk T k).getD f 0 * (mT T / hk T k) * x (lk T k) := by
  rw [dt_sg]
  have e1 : sg d (fun j => (onesol d T f).getD j 0 * x j) = sg d (fun j => (if j = f then mT T else 0) * x j) - sg d fun j => sg T.length fun k => (if lk T k = j then (tk T k).getD f 0 * (mT T / hk T k) else 0) * x j := by
    rw [← sg_sub]
    refine sg_congr fun j hj => ?_
    rw [onesol_getD j hj, oent_eq R hf, Int.sub_mul, Int.mul_comm (sg _ _), ← sg_mul]
    congr 1
    exact sg_congr fun k _ => Int.mul_comm _ _
  rw [e1, sg_one hd fun j _ ne => by rw [if_neg ne, Int.zero_mul], if_pos rfl, sg_swap]
  congr 1
  refine sg_congr fun k hk' => ?_
  rw [sg_one (R.lt hk') fun j _ ne => by rw [if_neg fun q => ne q.symm, Int.zero_mul], if_pos rfl]
theorem sols_mem {s : Vec} (h : s ∈ sols d T) : ∃ f, f < d ∧ Free T f ∧ s = onesol d T f := by
  obtain ⟨f, hf, rfl⟩ := List.mem_map.mp h
  obtain ⟨h1, h2⟩ := List.mem_filter.mp hf
  exact ⟨f, List.mem_range.mp h1, free_iff.mp h2, rfl⟩
theorem sols_of (h : f < d) (hf : Free T f) : onesol d T f ∈ sols d T := List.mem_map.mpr ⟨f, List.mem_filter.mpr ⟨List.mem_range.mpr h, free_iff.mpr hf⟩, rfl⟩
theorem sols_len : Len d (sols d T) := fun s hs => by
  obtain ⟨f, _, _, rfl⟩ := sols_mem hs
  exact onesol_len
theorem dvm (R : Rf d T) {k : Nat} (hk' : k < T.length) : mT T / hk T k * hk T k = mT T := Int.ediv_mul_cancel (R.dvd k hk')
/-- a solution is orthogonal to each row -/
theorem sol_perp (R : Rf d T) (hf : Free T f) (hd : f < d) {t : Vec} (ht : t ∈ T) : dt (onesol d T f) (fun j => t.getD j 0) d = 0 := by
  obtain ⟨k, hk'⟩ := List.getElem?_of_mem ht
  have kl := (List.getElem?_eq_some_iff.mp hk').1
  have kt := tk_of hk'
  rw [onesol_dt R hf hd, sg_one kl fun i hi ne => ?_]
  · rw [kt, show t.getD (lk T k) 0 = hk T k by show _ = (tk T k).getD (lk T k) 0; rw [kt], Int.mul_assoc, dvm R kl, Int.mul_comm]
    omega
  · have := R.clk kl hi (fun q => ne q.symm)
    rw [kt] at this
    rw [this, Int.mul_zero]
theorem spn_perp (R : Rf d T) {v s : Vec} (sv : Spn d T v) (hs : s ∈ sols d T) : dt s (fun j => v.getD j 0) d = 0 := by
  obtain ⟨f, h1, h2, rfl⟩ := sols_mem hs
  rw [dt_comm]
  refine perp_spn (fun t ht _ => ?_) sv
  rw [dt_comm]
  exact sol_perp R h2 h1 ht
theorem sols_perp (R : Rf d T) {v t : Vec} (sv : Spn d (sols d T) v) (ht : t ∈ T) : dt t (fun j => v.getD j 0) d = 0 := by
  rw [dt_comm]
  refine perp_spn (fun s hs _ => ?_) sv
  obtain ⟨f, h1, h2, rfl⟩ := sols_mem hs
  exact sol_perp R h2 h1 ht
/-- what is orthogonal to all solutions lies in the span -/
theorem perp_in (R : Rf d T) {v : Vec} (hv : v.length = d) (h : ∀ s, s ∈ sols d T → dt s (fun j => v.getD j 0) d = 0) : Spn d T v := by
  refine spn_sum (c := mT T) (n := T.length) (a := fun k => mT T / hk T k * v.getD (lk T k) 0) (w := fun k => tk T k) (Int.ne_of_gt R.mpos) hv (fun k hk' => .inr (.mem (tk_mem hk') (R.len _ (tk_mem hk')))) fun i => ?_
  by_cases c : i < d
  · by_cases q : Free T i
    · have e := h _ (sols_of c q)
      rw [onesol_dt R q c] at e
      have : sg T.length (fun k => mT T / hk T k * v.getD (lk T k) 0 * (tk T k).getD i 0) = sg T.length fun k => (tk T k).getD i 0 * (mT T / hk T k) * v.getD (lk T k) 0 := sg_congr fun k _ => by simp only [Int.mul_comm, Int.mul_left_comm, Int.mul_assoc]
      rw [this]
      omega
    · have : ∃ k, k < T.length ∧ lk T k = i := Classical.byContradiction fun z => q fun k hk' e => z ⟨k, hk', e⟩
      obtain ⟨k, kl, rfl⟩ := this
      rw [sg_one kl fun j hj ne => by rw [R.clk hj kl ne, Int.mul_zero]]
      show mT T * v.getD (lk T k) 0 = mT T / hk T k * v.getD (lk T k) 0 * hk T k
      have := dvm R kl
      rw [Int.mul_assoc, Int.mul_comm (v.getD _ 0), ← Int.mul_assoc, this]
  · rw [getD_out (by omega), Int.mul_zero]
    exact (sg_z fun k hk' => by
      have z : (tk T k).getD i 0 = 0 := getD_out (by rw [R.len _ (tk_mem hk')]; omega)
      rw [z, Int.mul_zero]).symm
open Classical in
/-- what is orthogonal to all rows is made of solutions -/
theorem perp_sols (R : Rf d T) {v : Vec} (hv : v.length = d) (h : ∀ t, t ∈ T → dt t (fun j => v.getD j 0) d = 0) : Spn d (sols d T) v := by
  let a : Nat → Int := fun f => if Free T f then v.getD f 0 else 0
  refine spn_sum (c := mT T) (n := d) (a := a) (w := fun f => onesol d T f) (Int.ne_of_gt R.mpos) hv (fun f hf => ?_) fun i => ?_
  · by_cases q : Free T f
    · exact .inr (.mem (sols_of hf q) onesol_len)
    · exact .inl (if_neg q)
  · by_cases c : i < d
    · have e1 : sg d (fun f => a f * (onesol d T f).getD i 0) = a i * mT T - sg T.length fun k => (if lk T k = i then mT T / hk T k else 0) * sg d fun f => a f * (tk T k).getD f 0 := by
        have e2 : sg d (fun f => a f * (onesol d T f).getD i 0) = sg d (fun f => a f * (if i = f then mT T else 0)) - sg d fun f => sg T.length fun k => (if lk T k = i then mT T / hk T k else 0) * (a f * (tk T k).getD f 0) := by
          rw [← sg_sub]
          refine sg_congr fun f hf => ?_
          by_cases q : Free T f
          · rw [onesol_getD i c, oent_eq R q, Int.mul_sub, ← sg_mul]
            congr 1
            refine sg_congr fun k _ => ?_
            split
            · simp only [Int.mul_comm, Int.mul_left_comm, Int.mul_assoc]
            · rw [Int.mul_zero, Int.zero_mul]
          · have z : a f = 0 := if_neg q
            rw [z, Int.zero_mul, Int.zero_mul, sg_z fun k _ => by rw [Int.zero_mul, Int.mul_zero]]
            rfl
        rw [e2, sg_one c fun f _ ne => by rw [if_neg fun q => ne q.symm, Int.mul_zero], if_pos rfl, sg_swap]
        congr 1
        exact sg_congr fun k _ => sg_mul _ _ _
      rw [e1]
      by_cases q : Free T i
      · have ai : a i = v.getD i 0 := if_pos q
        rw [ai, sg_z fun k hk' => by rw [if_neg (q k hk'), Int.zero_mul], Int.mul_comm]
        omega
      · have : ∃ k, k < T.length ∧ lk T k = i := Classical.byContradiction fun z => q fun k hk' e => z ⟨k, hk', e⟩
        obtain ⟨k, kl, rfl⟩ := this
        have ai : a (lk T k) = 0 := if_neg q
        rw [ai, sg_one kl fun j hj ne => by rw [if_neg fun q => ne (R.dif hj kl q), Int.zero_mul], if_pos rfl]
        have e := h _ (tk_mem kl)
        rw [dt_sg] at e
        have e3 : sg d (fun j => (tk T k).getD j 0 * v.getD j 0) = sg d (fun f => a f * (tk T k).getD f 0) + hk T k * v.getD (lk T k) 0 := by
          have e4 : sg d (fun j => (tk T k).getD j 0 * v.getD j 0) = sg d (fun f => a f * (tk T k).getD f 0) + sg d fun f => (tk T k).getD f 0 * (v.getD f 0 - a f) := by
            rw [← sg_add]
            refine sg_congr fun j _ => ?_
            rw [Int.mul_sub, Int.mul_comm (a j)]
            omega
          have e6 : sg d (fun f => (tk T k).getD f 0 * (v.getD f 0 - a f)) = hk T k * v.getD (lk T k) 0 := by
            rw [sg_one (R.lt kl) fun j _ ne => ?_]
            · rw [ai, Int.sub_zero]
            · by_cases w : Free T j
              · have aj : a j = v.getD j 0 := if_pos w
                rw [aj]
                simp
              · have : ∃ k, k < T.length ∧ lk T k = j := Classical.byContradiction fun z => w fun k hk' e => z ⟨k, hk', e⟩
                obtain ⟨k2, kl2, rfl⟩ := this
                rw [R.clk kl kl2 (fun z => ne (by rw [z])), Int.zero_mul]
          rw [e4, e6]
        rw [e3] at e
        have dv := dvm R kl
        have e5 : sg d (fun f => a f * (tk T k).getD f 0) = -(hk T k * v.getD (lk T k) 0) := by omega
        rw [e5, Int.mul_neg, ← Int.mul_assoc, dv]
        omega
    · rw [getD_out (by omega), Int.mul_zero]
      exact (sg_z fun k hk' => by
      have z : (onesol d T k).getD i 0 = 0 := getD_out (by rw [onesol_len]; omega)
      rw [z, Int.mul_zero]).symm
end

end
section

/-! ### signs of numbers: plain -/
section
open TL
/-- the last k signs of m -/
def padL : Nat → Nat → List Nat
  | 0, _ => []
  | k + 1, m => padL k (m / 10) ++ [48 + m % 10]
theorem padL_len : ∀ (k m : Nat), (padL k m).length = k
  | 0, _ => rfl
  | k + 1, m => by
    show (padL k (m / 10) ++ [48 + m % 10]).length = k + 1
    rw [List.length_append, padL_len k]
    rfl
theorem numL_pad : ∀ (k n : Nat), 10 ^ k ≤ n → numL n = numL (n / 10 ^ k) ++ padL k (n % 10 ^ k)
  | 0, n, _ => by
    show numL n = numL (n / 1) ++ []
    rw [Nat.div_one, List.append_nil]
  | k + 1, n, h => by
    have p : 10 ^ (k + 1) = 10 * 10 ^ k := by rw [Nat.pow_succ, Nat.mul_comm]
    have kp : 0 < 10 ^ k := Nat.pow_pos (by decide)
    have h10 : 10 ≤ n := by omega
    have hk : 10 ^ k ≤ n / 10 := by omega
    rw [numL_step h10, numL_pad k (n / 10) hk]
    show _ = numL (n / 10 ^ (k + 1)) ++ (padL k (n % 10 ^ (k + 1) / 10) ++ [48 + n % 10 ^ (k + 1) % 10])
    have e1 : n / 10 / 10 ^ k = n / 10 ^ (k + 1) := by rw [Nat.div_div_eq_div_mul, p]
    have e2 : n % 10 ^ (k + 1) / 10 = n / 10 % 10 ^ k := by rw [p, Nat.mod_mul_right_div_self]
    have e3 : n % 10 ^ (k + 1) % 10 = n % 10 := by rw [p, Nat.mod_mul_right_mod]
    rw [e1, e2, e3, List.append_assoc]
theorem padL_zero : ∀ k, padL k 0 = List.replicate k 48
  | 0 => rfl
  | k + 1 => by
    show padL k (0 / 10) ++ [48 + 0 % 10] = _
    rw [Nat.zero_div, padL_zero k, List.replicate_succ']
theorem padL_num : ∀ (k m : Nat), m < 10 ^ (k + 1) → padL (k + 1) m = List.replicate (k + 1 - (numL m).length) 48 ++ numL m
  | k, m, h => by
    by_cases c : m < 10
    · rw [numL_lt c]
      show padL k (m / 10) ++ [48 + m % 10] = List.replicate (k + 1 - 1) 48 ++ [48 + m]
      rw [Nat.div_eq_of_lt c, Nat.mod_eq_of_lt c, padL_zero]
      rfl
    · cases k with
      | zero => exact absurd h (by simpa using c)
      | succ k =>
        have h' : m / 10 < 10 ^ (k + 1) := by
          rw [Nat.pow_succ] at h
          omega
        rw [numL_step (by omega)]
        show padL (k + 1) (m / 10) ++ [48 + m % 10] = _
        rw [padL_num k (m / 10) h', List.length_append, List.append_assoc]
        show List.replicate (k + 1 - (numL (m / 10)).length) 48 ++ (numL (m / 10) ++ [48 + m % 10]) = List.replicate (k + 1 + 1 - ((numL (m / 10)).length + 1)) 48 ++ _
        rw [Nat.add_sub_add_right]
theorem num_head {n c : Nat} (h : (numL n)[0]? = some c) : 48 ≤ c ∧ c ≤ 57 := numL_digits n c (List.mem_of_getElem? h)
theorem tl_zfill (n k : Nat) (h : n < 10 ^ (k + 1)) : tl (Txt.zfill (Str.ofString (toString ((n : Nat) : Int))) ((k + 1 : Nat) : Int)) = padL (k + 1) n := by
  have e := tl_num n
  have el : (Str.ofString (toString ((n : Nat) : Int))).length = (numL n).length := by rw [len_tl, e]
  rw [padL_num k n h]
  unfold Txt.zfill
  have ll := numL_len (n := n) (k := k + 1) (by omega) h
  by_cases c : ((k + 1 : Nat) : Int) ≤ ((Str.ofString (toString ((n : Nat) : Int))).length : Nat)
  · rw [if_pos c, e]
    rw [el] at c
    rw [show k + 1 - (numL n).length = 0 by omega]
    rfl
  · rw [if_neg c, el]
    unfold zfilled
    have hn : (Str.ofString (toString ((n : Nat) : Int))).cps[0]? = (numL n)[0]? := by rw [← e]; exact Array.getElem?_toList.symm
    have pd : tl (Builtin.Str.padded (Str.ofString (toString ((n : Nat) : Int))) (((k + 1 : Nat) : Int).toNat - (numL n).length) 0 48) = List.replicate (k + 1 - (numL n).length) 48 ++ numL n := by
      unfold Builtin.Str.padded
      show (_ ++ _ ++ _ : Array Nat).toList = _
      rw [Array.toList_append, Array.toList_append, Array.toList_replicate, Array.toList_replicate, Int.toNat_natCast, ← e]
      simp
    split
    · rename_i q
      rw [hn] at q
      have := num_head q
      omega
    · rename_i q
      rw [hn] at q
      have := num_head q
      omega
    · exact pd
theorem tl_int (i : Int) : tl (Str.ofString (toString i)) = if i < 0 then 45 :: numL i.natAbs else numL i.natAbs := by
  by_cases c : i < 0
  · rw [if_pos c, Int.toString_eq_repr, Int.repr_eq_if, if_neg (by omega)]
    have e := tl_num i.natAbs
    rw [Int.toString_eq_repr, Int.repr_eq_if, if_pos (by omega), Int.toNat_natCast] at e
    rw [show (-i).toNat = i.natAbs by omega]
    unfold tl at e ⊢
    rw [Str.ofString_eq_toList] at e ⊢
    rw [String.toList_append, List.map_append]
    simp only [List.toList_toArray] at e ⊢
    rw [e]
    rfl
  · rw [if_neg c, ← tl_num, show ((i.natAbs : Nat) : Int) = i by omega]
theorem joinL_flat : ∀ (l : List (List Nat)), joinL [] l = l.flatten
  | [] => rfl
  | [p] => by simp [joinL]
  | p :: q :: r => by
    show p ++ ([] ++ joinL [] (q :: r)) = _
    rw [joinL_flat (q :: r)]
    rfl
end

end
section

/-! ### texts of numbers, rows -/
section
open TL
theorem join_flat (ps : List Str) : tl (Txt.join "" ps) = (ps.map tl).flatten := by
  rw [join_eq, tl_join]
  exact joinL_flat _
theorem sum_len : ∀ (ps : List Str), (ps.map (·.length)).sum = ((ps.map tl).flatten).length
  | [] => rfl
  | p :: ps => by
    rw [List.map_cons, List.sum_cons, sum_len ps, List.map_cons, List.flatten_cons, List.length_append, len_tl]
theorem many_le : ∀ (ps : List Str), (∀ p, p ∈ ps → 1 ≤ p.length) → ps.length ≤ (ps.map (·.length)).sum
  | [], _ => Nat.le_refl _
  | p :: ps, h => by
    have a := h p (List.mem_cons_self ..)
    have b := many_le ps fun q hq => h q (List.mem_cons_of_mem _ hq)
    rw [List.map_cons, List.sum_cons, List.length_cons]
    omega
def sd_integer_text : DSp := fun ds Q => ∃ v : Int, ds = [.int v] ∧ v.natAbs.log2 < 1920 ∧ Q (.str (toString v))
abbrev N_integer_text : List Str := ["value", "left", "parts", "rest"]
def t_integer_text (K : PySem.W.Frag) : TS :=
  (tSeq (tIfS (tTest (tChain rLtI rLtI (tUn rNegI (tC (.int 1000000000000000000000000000000000000000000000000000000000000))) (tVar 0) (tC (.int 1000000000000000000000000000000000000000000000000000000000000)))) (tRet (tCB rStr (tCons (tVar 0) tNil))) tNext)
    (tSeq (tAsg (tCB rAbs (tCons (tVar 0) tNil)) (gName 1))
    (tSeq (tAsg (tLst tNil) (gName 2))
    (tSeq (tWhile (tTest (tOp rGeI (tVar 1) (tC (.int 1000000000000000000000000000000000000000000000000000000000000))))
    (tSeq (tAsg (tCB rDivmod (tCons (tVar 1) (tCons (tC (.int 1000000000000000000000000000000000000000000000000000000000000)) tNil))) (gTup K 2 (gCons (gName 1) (gCons (gName 3) gNil))))
    (tDrop (tBM K "list" rAppend (tVar 2) (tCons (tM1 rZfill (tCB rStr (tCons (tVar 3) tNil)) (tC (.int 60))) tNil)))))
    (tSeq (tDrop (tBM K "list" rAppend (tVar 2) (tCons (tCB rStr (tCons (tVar 1) tNil)) tNil)))
    (tMid (tIfS (tTest (tOp rLtI (tVar 0) (tC (.int 0)))) (tDrop (tBM K "list" rAppend (tVar 2) (tCons (tC (.str "-")) tNil))) tNext)
    (tRet (tM1 (rJoinL K) (tC (.str "")) (tRevL K (tVar 2))))))))))
def a_integer_text : DS :=
  (dSeq (dIfS (dTest (dChain oLt oLt (dUn uNeg (dC (.int 1000000000000000000000000000000000000000000000000000000000000))) (dRd 0) (dC (.int 1000000000000000000000000000000000000000000000000000000000000)))) (dRet (dCB (c1 uStr) (dCons (dRd 0) dNil))) dNext)
    (dSeq (dAsg (dCB (c1 uAbs) (dCons (dRd 0) dNil)) (gN 1))
    (dSeq (dOwn 2 (fLst dNil))
    (dSeq (dWhile (dTest (dOp oGe (dRd 1) (dC (.int 1000000000000000000000000000000000000000000000000000000000000))))
    (dSeq (dAsg (dCB cDivmod (dCons (dRd 1) (dCons (dC (.int 1000000000000000000000000000000000000000000000000000000000000)) dNil))) (gT 2 (gsCons (gN 1) (gsCons (gN 3) gsNil))))
    (dAppend 2 (dM1 oZfill (dCB (c1 uStr) (dCons (dRd 3) dNil)) (dC (.int 60))))))
    (dSeq (dAppend 2 (dCB (c1 uStr) (dCons (dRd 1) dNil)))
    (dMid (dIfS (dTest (dOp oLt (dRd 0) (dC (.int 0)))) (dAppend 2 (dC (.str "-"))) dNext)
    (dRet (dJoin (dC (.str "")) (dRev (dRd 2))))))))))
theorem r_integer_text {K : PySem.W.Frag} {Jx : WX} {Xd : XD} : RefS K Jx Xd (t_integer_text K) a_integer_text :=
  (rSeq (rIfS (rTest (rChain foLt foLt (RefE.b (rUn fuNeg (RefE.b (rInt 1000000000000000000000000000000000000000000000000000000000000)))) (rRd 0) (RefE.b (rInt 1000000000000000000000000000000000000000000000000000000000000)))) (rRet (rCB fcStr (rConsX (rRd 0) rNilX))) rNext)
    (rSeq (rAsg (rCB fcAbs (rConsX (rRd 0) rNilX)) (rgN 1))
    (rSeq (rOwn 2 (rfLst rNil))
    (rSeq (rWhile (rTest (rOp foGe (rRd 1) (RefE.b (rInt 1000000000000000000000000000000000000000000000000000000000000))))
    (rSeq (rAsg (rCB fcDivmod (rConsX (rRd 1) (rConsX (RefE.b (rInt 1000000000000000000000000000000000000000000000000000000000000)) rNilX))) (rgT 2 (rgsCons (rgN 1) (rgsCons (rgN 3) rgsNil))))
    (rAppend' 2 (rM1 foZfill (rCB fcStr (rConsX (rRd 3) rNilX)) (RefE.b (rInt 60))))))
    (rSeq (rAppend' 2 (rCB fcStr (rConsX (rRd 1) rNilX)))
    (rMid (rIfS (rTest (rOp foLt (rRd 0) (RefE.b (rInt 0)))) (rAppend' 2 (rStr' "-")) rNext)
    (rRet (rJoin (rStr' "") (RefE.b (rRev (rRd 2)))))))))))
theorem log2_mono {a b : Nat} (h : a ≤ b) : a.log2 ≤ b.log2 := by
  by_cases z : a = 0
  · subst z
    simp
  · exact (Nat.le_log2 (by omega)).mpr (Nat.le_trans (Nat.log2_self_le z) h)
theorem lim_log : (1000000000000000000000000000000000000000000000000000000000000 : Int).natAbs.log2 < 9000 := by
  rw [show (1000000000000000000000000000000000000000000000000000000000000 : Int).natAbs = 1000000000000000000000000000000000000000000000000000000000000 from rfl]
  exact PySem.Flt.log2_lt_of (by decide) (Nat.lt_of_lt_of_le (show 1000000000000000000000000000000000000000000000000000000000000 < 2 ^ 200 by decide) (Nat.pow_le_pow_right (by decide) (by decide)))
theorem num_len_of {v : Int} (h : v.natAbs.log2 < 1920) : (numL v.natAbs).length ≤ 1921 := by
  have a := int_text_len_1921 (i := ((v.natAbs : Nat) : Int)) (by rw [Int.natAbs_natCast]; exact h)
  rw [len_tl, tl_num] at a
  exact a
theorem pd_integer_text (ds : List Dt) (Qd : Dt → Prop) (h : sd_integer_text ds Qd) : ds.length ≤ N_integer_text.length ∧ a_integer_text ⟨fun _ => Qd .non, Qd, fun _ => False, fun _ => False⟩ (vals ds ++ List.replicate (N_integer_text.length - ds.length) .no) := by
  obtain ⟨v, rfl, hv, q⟩ := h
  refine ⟨Nat.le_of_ble_eq_true rfl, ?_⟩
  walk_at "dl"
  refine (fun r => ⟨fun c => ?_, fun c => ⟨fun e => (nomatch e), fun _ => r⟩⟩) ?_
  rotate_left
  · walk_at "dl"
    refine ⟨fun c2 => ?_, fun c2 => r⟩
    walk_at "dl"
    exact ⟨hv, q⟩
  walk_at "dl"
  have eabs : (if v < 0 then -v else v) = ((v.natAbs : Nat) : Int) := by split <;> omega
  rw [eabs]
  refine ⟨Nat.zero_le _, ?_⟩
  refine wh_inv (fun m ρ => ∃ (ps : List Str) (z : Sl), z.owned = false ∧ ρ = [.val (.int v), .val (.int ((m : Nat) : Int)), .own (ps.map Dt.str), z] ∧ numL v.natAbs = numL m ++ (ps.reverse.map tl).flatten ∧ m ≤ v.natAbs ∧ ∀ p, p ∈ ps → 1 ≤ p.length) v.natAbs ⟨[], _, rfl, rfl, by simp, Nat.le_refl _, by simp⟩ ?_
  rintro m ρ P ⟨ps, z, ho, rfl, hn, hm, hp⟩ hP
  have lv := num_len_of hv
  have ll : ((ps.map (·.length)).sum) + (numL m).length = (numL v.natAbs).length := by
    have e1 := sum_len ps.reverse
    rw [List.map_reverse, List.sum_reverse] at e1
    rw [hn, List.length_append, e1]
    omega
  have lp := many_le ps hp
  have lm : 1 ≤ (numL m).length := List.length_pos_iff.mpr (numL_ne m)
  have lg := log2_mono hm
  walk_at "dl"
  refine ⟨fun c => ?_, fun c => ?_⟩
  · have c' := of_decide_eq_true c
    walk_at "dl"
    refine ⟨⟨by decide, .inl lim_log⟩, ?_⟩
    have lim : (1000000000000000000000000000000000000000000000000000000000000 : Nat) = 10 ^ 60 := by decide
    have c1 : 10 ^ 60 ≤ m := by rw [← lim]; omega
    have sp := numL_pad 60 m c1
    have kp : 0 < 10 ^ 60 := by decide
    have d1 : ((m : Nat) : Int) / 1000000000000000000000000000000000000000000000000000000000000 = ((m / 10 ^ 60 : Nat) : Int) := by rw [← lim]; rfl
    have d2 : ((m : Nat) : Int) % 1000000000000000000000000000000000000000000000000000000000000 = ((m % 10 ^ 60 : Nat) : Int) := by rw [← lim]; rfl
    rw [d1, d2]
    have ml : m % 10 ^ 60 < 10 ^ 60 := Nat.mod_lt _ kp
    have ms : m / 10 ^ 60 < m := Nat.div_lt_self (by omega) (by decide)
    walk_at "dl"
    refine ⟨rfl, ?_⟩
    walk_at "dl"
    refine ⟨Nat.lt_of_le_of_lt (log2_mono (b := v.natAbs) (by rw [Int.natAbs_natCast]; omega)) hv, ?_⟩
    walk_at "dl"
    refine ⟨by decide, ?_⟩
    have tz := tl_zfill (m % 10 ^ 60) 59 ml
    refine ⟨by rw [List.length_map]; omega, ?_⟩
    refine hP (m / 10 ^ 60) _ ms ⟨ps ++ [Txt.zfill (toString ((m % 10 ^ 60 : Nat) : Int)) 60], _, rfl, by rw [List.map_append]; rfl, ?_, by omega, ?_⟩
    · rw [hn, sp, List.reverse_append]
      show _ = numL (m / 10 ^ 60) ++ (tl (Txt.zfill (toString ((m % 10 ^ 60 : Nat) : Int)) 60) ++ (ps.reverse.map tl).flatten)
      rw [show ((60 : Int)) = ((59 + 1 : Nat) : Int) from rfl, tz, List.append_assoc]
    · intro p hp'
      rcases List.mem_append.mp hp' with e | e
      · exact hp p e
      · rw [List.mem_singleton.mp e, len_tl, show ((60 : Int)) = ((59 + 1 : Nat) : Int) from rfl, tz, padL_len]
        decide
  · have c' := of_decide_eq_false c
    walk_at "dl"
    refine ⟨by rw [Int.natAbs_natCast]; omega, by rw [List.length_map]; omega, ?_⟩
    have hq : ((ps ++ [Str.ofString (toString ((m : Nat) : Int))]).reverse.map tl).flatten = numL v.natAbs := by
      rw [List.reverse_append]
      show tl (Str.ofString (toString ((m : Nat) : Int))) ++ (ps.reverse.map tl).flatten = _
      rw [tl_num, hn]
    have ti := tl_int v
    have tll := int_text_len_1921 (i := v) hv
    refine ⟨fun ρ => ∃ (qs : List Str) (z' : Sl), z'.owned = false ∧ ρ = [.val (.int v), .val (.int ((m : Nat) : Int)), .own (qs.map Dt.str), z'] ∧ (qs.reverse.map tl).flatten = tl (Str.ofString (toString v)), ?_, ?_⟩
    · walk_at "dl"
      refine ⟨fun c3 => ?_, fun c3 => ?_⟩
      · walk_at "dl"
        refine ⟨by rw [List.length_append, List.length_map, List.length_singleton]; omega, ps ++ [Str.ofString (toString ((m : Nat) : Int))] ++ [Str.ofString "-"], z, ho, by rw [List.map_append, List.map_append]; rfl, ?_⟩
        rw [ti, if_pos (of_decide_eq_true c3), List.reverse_append, List.map_append, List.flatten_append, hq]
        rfl
      · refine ⟨ps ++ [Str.ofString (toString ((m : Nat) : Int))], z, ho, by rw [List.map_append]; rfl, ?_⟩
        rw [ti, if_neg (of_decide_eq_false c3), hq]
    · rintro ρ ⟨qs, z', ho', rfl, e⟩
      walk_at "dl"
      refine ⟨qs.reverse, .inl (by rw [List.map_reverse]), ?_, ?_⟩
      · have e1 := sum_len qs.reverse
        rw [e1, e, ← len_tl]
        show _ + _ * 0 ≤ _
        omega
      · have e2 : Txt.join "" qs.reverse = Str.ofString (toString v) := ext_tl (by rw [join_flat, e])
        rw [e2]
        exact q
end
abbrev sp_integer_text (K : PySem.W.Frag) : Sp := spD K sd_integer_text
theorem pure_integer_text {K : PySem.W.Frag} (vs : List V) (H : Hp) (Q : VK) (E : XK) (h : sp_integer_text K vs H Q E) : t_integer_text K { nx := fun _ H' => Q .non H', rt := Q } (L2.start N_integer_text vs) H := fnD (Jx := fun _ _ _ _ => False) (r_integer_text) h pd_integer_text
/-- the text of a row, of rows -/
def rowTxt (r : List Int) : Str := Txt.join " " (r.map fun (n : Int) => Str.ofString (toString n))
def rowsTxt (M : List (List Int)) : Str := if M = [] then "none" else Txt.join " , " (M.map rowTxt)
def SayR (r : List Int) : Prop := r.length ≤ 1000 ∧ ∀ n, n ∈ r → n.natAbs.log2 < 1920
def sd_row_text : DSp := fun ds Q => ∃ x r, ds = [x] ∧ isRow x r ∧ SayR r ∧ Q (.str (rowTxt r))
abbrev N_row_text : List Str := ["row", "value"]
def t_row_text (K : PySem.W.Frag) : TS :=
  (tRet (tM1 (rJoinL K) (tC (.str " ")) (tLc (iSq K (tVar 0)) (gName 1) tYes (tCall (sp_integer_text K) [] E0 (tCons (tVar 1) tNil)) [1])))
def a_row_text : DS :=
  (dRet (dJoin (dC (.str " ")) (dLc (jSq (dRd 0)) (gN 1) dYes (dCall sd_integer_text (dCons (dVar 1) dNil)) [1])))
theorem r_row_text {K : PySem.W.Frag} {Jx : WX} {Xd : XD} : RefS K Jx Xd (t_row_text K) a_row_text :=
  (rRet (rJoin (rStr' " ") (RefE.b (rLc (rjSq (rRd 0)) (rcN 1 (by decide)) rYes (rCall (fun _ _ _ h => h) (rCons (rVar 1) rNil))))))
theorem sum_le {α : Type} (f : α → Nat) (b : Nat) : ∀ (l : List α), (∀ x, x ∈ l → f x ≤ b) → (l.map f).sum ≤ l.length * b
  | [], _ => Nat.zero_le _
  | x :: l, h => by
    have a := h x (List.mem_cons_self ..)
    have c := sum_le f b l fun y hy => h y (List.mem_cons_of_mem _ hy)
    rw [List.map_cons, List.sum_cons, List.length_cons, Nat.add_mul]
    omega
theorem row_sum {r : List Int} (h : SayR r) : ((r.map fun (n : Int) => Str.ofString (toString n)).map (·.length)).sum ≤ r.length * 1921 := by
  rw [List.map_map]
  exact sum_le _ 1921 r fun n hn => int_text_len_1921 (h.2 n hn)
theorem pd_row_text (ds : List Dt) (Qd : Dt → Prop) (h : sd_row_text ds Qd) : ds.length ≤ N_row_text.length ∧ a_row_text ⟨fun _ => Qd .non, Qd, fun _ => False, fun _ => False⟩ (vals ds ++ List.replicate (N_row_text.length - ds.length) .no) := by
  obtain ⟨x, r, rfl, hx, hr, q⟩ := h
  refine ⟨Nat.le_of_ble_eq_true rfl, ?_⟩
  have hl := hr.1
  walk_at "dl"
  refine ⟨rfl, row_seq hx ⟨by rw [rwD_len]; omega, ?_⟩⟩
  refine lc_map (f := fun (n : Int) => .str (Str.ofString (toString n))) (fun i n R hn hR => ?_) ?_
  · walk_at "dl"
    exact ⟨n, rfl, hr.2 n (List.mem_of_getElem? hn), hR⟩
  · refine ⟨r.map fun (n : Int) => Str.ofString (toString n), .inl (by rw [List.map_map]; rfl), ?_, q⟩
    have := row_sum hr
    rw [List.length_map]
    show _ + r.length * 1 ≤ _
    omega
abbrev sp_row_text (K : PySem.W.Frag) : Sp := spD K sd_row_text
theorem pure_row_text {K : PySem.W.Frag} (vs : List V) (H : Hp) (Q : VK) (E : XK) (h : sp_row_text K vs H Q E) : t_row_text K { nx := fun _ H' => Q .non H', rt := Q } (L2.start N_row_text vs) H := fnD (Jx := fun _ _ _ _ => False) (r_row_text) h pd_row_text
def sd_rows_text : DSp := fun ds Q => ∃ M, ds = [.lst (mD M)] ∧ (M.length ≤ 1000 ∧ (M.map fun r => (rowTxt r).length + 3).sum ≤ 16777216 ∧ ∀ r, r ∈ M → SayR r) ∧ Q (.str (rowsTxt M))
abbrev N_rows_text : List Str := ["rows", "row"]
def t_rows_text (K : PySem.W.Frag) : TS :=
  (tSeq (tIfS (tNot (tTruth K (tVar 0))) (tRet (tC (.str "none"))) tNext)
    (tRet (tM1 (rJoinL K) (tC (.str " , ")) (tLc (iSq K (tVar 0)) (gName 1) tYes (tCall (sp_row_text K) [] E0 (tCons (tVar 1) tNil)) [1]))))
def a_rows_text : DS :=
  (dSeq (dIfS (dNot (dTruth (dRd 0))) (dRet (dC (.str "none"))) dNext)
    (dRet (dJoin (dC (.str " , ")) (dLc (jSq (dRd 0)) (gN 1) dYes (dCall sd_row_text (dCons (dVar 1) dNil)) [1]))))
theorem r_rows_text {K : PySem.W.Frag} {Jx : WX} {Xd : XD} : RefS K Jx Xd (t_rows_text K) a_rows_text :=
  (rSeq (rIfS (rNot (rTruth (rRd 0))) (rRet (rStr' "none")) rNext)
    (rRet (rJoin (rStr' " , ") (RefE.b (rLc (rjSq (rRd 0)) (rcN 1 (by decide)) rYes (rCall (fun _ _ _ h => h) (rCons (rVar 1) rNil)))))))
theorem pd_rows_text (ds : List Dt) (Qd : Dt → Prop) (h : sd_rows_text ds Qd) : ds.length ≤ N_rows_text.length ∧ a_rows_text ⟨fun _ => Qd .non, Qd, fun _ => False, fun _ => False⟩ (vals ds ++ List.replicate (N_rows_text.length - ds.length) .no) := by
  obtain ⟨M, rfl, ⟨hl, hs, hM⟩, q⟩ := h
  refine ⟨Nat.le_of_ble_eq_true rfl, ?_⟩
  walk_at "dl"
  cases M with
  | nil =>
    refine ⟨fun _ => ?_, fun c => absurd c (by decide)⟩
    exact q
  | cons r0 M0 =>
    have e : rowsTxt (r0 :: M0) = Txt.join " , " ((r0 :: M0).map rowTxt) := if_neg (by simp)
    rw [e] at q
    refine ⟨fun c => absurd c Bool.false_ne_true, fun _ => ?_⟩
    generalize r0 :: M0 = M at hl hs hM q
    walk_at "dl"
    refine ⟨rfl, by rw [List.length_map]; omega, ?_⟩
    refine lc_map (f := fun r => .str (rowTxt r)) (fun i r R hr hR => ?_) ?_
    · walk_at "dl"
      exact ⟨_, r, rfl, .inr rfl, hM r (List.mem_of_getElem? hr), hR⟩
    · refine ⟨M.map rowTxt, .inl (by rw [List.map_map]; rfl), ?_, q⟩
      refine Nat.le_trans (Nat.le_of_eq ?_) hs
      rw [List.length_map, show (Str.ofString " , ").length = 3 from rfl, List.map_map]
      clear hl hs hM q
      induction M with
      | nil => rfl
      | cons r M ih =>
        rw [List.map_cons, List.sum_cons, List.map_cons, List.sum_cons, List.length_cons, ← ih]
        show (rowTxt r).length + _ + _ = _
        omega
abbrev sp_rows_text (K : PySem.W.Frag) : Sp := spD K sd_rows_text
theorem pure_rows_text {K : PySem.W.Frag} (vs : List V) (H : Hp) (Q : VK) (E : XK) (h : sp_rows_text K vs H Q E) : t_rows_text K { nx := fun _ H' => Q .non H', rt := Q } (L2.start N_rows_text vs) H := fnD (Jx := fun _ _ _ _ => False) (r_rows_text) h pd_rows_text

end
section

/-! ### the class Whole -/
def wD (d : Nat) (T : List (List Int)) : Dt := .obj "Whole" [("deep", .int (d : Int)), ("_told", .lst (mD T)), ("text", .str (rowsTxt T))]
def SayM (T : List (List Int)) : Prop := T.length ≤ 1000 ∧ (T.map fun r => (rowTxt r).length + 3).sum ≤ 16777216 ∧ ∀ r, r ∈ T → SayR r
structure WhOk (d : Nat) (M : List (List Int)) : Prop where
  ech : EchOk d M
  say : SayM (C.ech d M)
def sd_Whole_init : DSp := fun ds Q => ∃ d x M, ds = [.int ((d : Nat) : Int), x] ∧ isMat x M ∧ WhOk d M ∧ Q (wD d (ech d M))
abbrev N_Whole_init : List Str := ["self", "deep", "rows", "at", "row"]
def t_Whole_init (K : PySem.W.Frag) : TS :=
  (tSeq (tFor (iEnumU K (tCons (tVar 2) tNil)) (gTup K 2 (gCons (gName 3) (gCons (gName 4) gNil)))
    (tIfS (tTest (tOp (rNeU K) (tCB (rLenU K) (tCons (tVar 4) tNil)) (tVar 1))) tBotS tNext))
    (tSeq (sFld K (tVar 0) (tVar 1) "deep")
    (tSeq (sFld K (tVar 0) (tCall (sp_echelon K) [] E0 (tCons (tVar 1) (tCons (tVar 2) tNil))) "_told")
    (sFld K (tVar 0) (tCall (sp_rows_text K) [] E0 (tCons (tFld K (tVar 0) "_told") tNil)) "text"))))
def a_Whole_init : DS :=
  (dSeq (dFor (jEnum (dCons (dVar 2) dNil)) (gT 2 (gsCons (gN 3) (gsCons (gN 4) gsNil)))
    (dIfS (dTest (dOp oNe (dCB (c1 uLen) (dCons (dRd 4) dNil)) (dRd 1))) dBot dNext))
    (dSeq (dSetF CLw 0 (dVar 1) "deep")
    (dSeq (dSetF CLw 0 (dCall sd_echelon (dCons (dVar 1) (dCons (dVar 2) dNil))) "_told")
    (dSetF CLw 0 (dCall sd_rows_text (dCons (dFld CLw (dRd 0) "_told") dNil)) "text"))))
theorem r_Whole_init {K : PySem.W.Frag} {Jx : WX} {Xd : XD} (CF : ClsF CLw K) : RefS K Jx Xd (t_Whole_init K) a_Whole_init :=
  (rSeq (rFor (riEnum (rCons (rVar 2) rNil)) (rgT 2 (rgsCons (rgN 3) (rgsCons (rgN 4) rgsNil)))
    (rIfS (rTest (rOp foNe (RefE.b (rCB fcLen (rConsX (rRd 4) rNilX))) (rRd 1))) rBot rNext))
    (rSeq (rSetF CF 0 "deep" (rVar 1))
    (rSeq (rSetF CF 0 "_told" (rCall (fun _ _ _ h => h) (rCons (rVar 1) (rCons (rVar 2) rNil))))
    (rSetF CF 0 "text" (rCall (fun _ _ _ h => h) (rCons (rFld CF "_told" (rRd 0)) rNil))))))
theorem pd_Whole_init (ds : List Dt) (Qd : Dt → Prop) (h : sd_Whole_init ds Qd) : ds.length + 1 ≤ N_Whole_init.length ∧ ∀ x, a_Whole_init ⟨fun ρ => match gt ρ 0 with | .ins y D fs => y = x ∧ D = "Whole" ∧ Qd (.obj "Whole" fs) | _ => False, fun _ => False, fun _ => False, fun _ => False⟩ (.ins x "Whole" [] :: (vals ds ++ List.replicate (N_Whole_init.length - (ds.length + 1)) .no)) := by
  obtain ⟨d, x, M, rfl, hx, ok, q⟩ := h
  refine ⟨Nat.le_of_ble_eq_true rfl, fun a => ?_⟩
  walk_at "dl"
  refine mat_seq hx fun xs hxs => ?_
  refine for_enumd (fun i ρ => ∃ z w, (z.owned = false ∧ w.owned = false) ∧ ρ = [.ins a "Whole" [], .val (.int (d : Int)), .val x, z, w]) ⟨_, _, ⟨rfl, rfl⟩, rfl⟩ ?_ ?_
  · rintro i y ρ P hy ⟨z, w, ho, rfl⟩ hP
    obtain ⟨r, hr, ry⟩ := hxs.2 i y hy
    have lr := (ok.ech.rows r (List.mem_of_getElem? hr)).1
    have ne : (!decide ((((rwD r).length : Nat) : Int) = ((d : Nat) : Int))) = false := by
      rw [rwD_len, lr]
      simp
    rcases ry with rfl | rfl
    all_goals
      walk_at "dl"
      refine ⟨rfl, ?_⟩
      walk_at "dl"
      refine ⟨fun c => ?_, fun c => ?_⟩
      · exact absurd (ne.symm.trans c) Bool.false_ne_true
      · exact hP _ ⟨_, _, ⟨rfl, rfl⟩, rfl⟩
  · rintro ρ ⟨z, w, ho, rfl⟩
    walk_at "dl"
    refine ⟨⟨by decide, by decide, rfl⟩, ?_⟩
    walk_at "dl"
    refine ⟨x, M, d, rfl, hx, ok.ech, ?_⟩
    refine ⟨⟨by decide, Nat.le_of_ble_eq_true rfl, rfl⟩, ?_⟩
    walk_at "dl"
    refine ⟨by decide, ?_⟩
    walk_at "dl"
    refine ⟨_, rfl, ok.say, ?_⟩
    exact ⟨⟨by decide, Nat.le_of_ble_eq_true rfl, rfl⟩, rfl, rfl, q⟩
abbrev sp_Whole_init (K : PySem.W.Frag) : Sp := spN K "Whole" sd_Whole_init
theorem pure_Whole_init {K : PySem.W.Frag} (CF : ClsF CLw K) (vs : List V) (H : Hp) (Q : VK) (E : XK) (h : sp_Whole_init K vs H Q E) : t_Whole_init K { nx := fun _ H' => Q .non H', rt := Q } (L2.start N_Whole_init vs) H := fnN (Jx := fun _ _ _ _ => False) (r_Whole_init CF) h pd_Whole_init

def sd_Whole_told : DSp := fun ds Q => ∃ d T, ds = [wD d T] ∧ Q (.lst (mD T))
abbrev N_Whole_told : List Str := ["self"]
def t_Whole_told (K : PySem.W.Frag) : TS :=
  (tRet (tCB (rListOf K) (tCons (tFld K (tVar 0) "_told") tNil)))
def a_Whole_told : DS :=
  (dRet (dCB (c1 uList) (dCons (dFld CLw (dRd 0) "_told") dNil)))
theorem r_Whole_told {K : PySem.W.Frag} {Jx : WX} {Xd : XD} (CF : ClsF CLw K) : RefS K Jx Xd (t_Whole_told K) a_Whole_told :=
  (rRet (rCB fcList (rConsX (RefE.b (rFld CF "_told" (rRd 0))) rNilX)))
theorem pd_Whole_told (ds : List Dt) (Qd : Dt → Prop) (h : sd_Whole_told ds Qd) : ds.length ≤ N_Whole_told.length ∧ a_Whole_told ⟨fun _ => Qd .non, Qd, fun _ => False, fun _ => False⟩ (vals ds ++ List.replicate (N_Whole_told.length - ds.length) .no) := by
  obtain ⟨d, T, rfl, q⟩ := h
  refine ⟨Nat.le_of_ble_eq_true rfl, ?_⟩
  walk_at "dl"
  refine ⟨by decide, ?_⟩
  walk_at "dl"
  exact q
abbrev sp_Whole_told (K : PySem.W.Frag) : Sp := spD K sd_Whole_told
theorem pure_Whole_told {K : PySem.W.Frag} (CF : ClsF CLw K) (vs : List V) (H : Hp) (Q : VK) (E : XK) (h : sp_Whole_told K vs H Q E) : t_Whole_told K { nx := fun _ H' => Q .non H', rt := Q } (L2.start N_Whole_told vs) H := fnD (Jx := fun _ _ _ _ => False) (r_Whole_told CF) h pd_Whole_told
def sd_Whole_eq : DSp := fun ds Q => ∃ d e T U, ds = [wD d T, wD e U] ∧ Q (.bl (decide (d = e) && decide (T = U)))
abbrev N_Whole_eq : List Str := ["self", "other"]
def t_Whole_eq (K : PySem.W.Frag) : TS :=
  (tRet (tAndV (tCB (rIsiU K) (tCons (tVar 1) (tCons (tC (.ref (He.ga K "Whole"))) tNil))) (tAndV (tOp (rEqU K) (tFld K (tVar 0) "deep") (tFld K (tVar 1) "deep")) (tOp (rEqU K) (tFld K (tVar 0) "_told") (tFld K (tVar 1) "_told")))))
def a_Whole_eq : DS :=
  (dRet (dAndV (dCB (cIsi CLw) (dCons (dRd 1) (dCons (dC (.cls "Whole")) dNil))) (dAndV (dOp oEq (dFld CLw (dRd 0) "deep") (dFld CLw (dRd 1) "deep")) (dOp oEq (dFld CLw (dRd 0) "_told") (dFld CLw (dRd 1) "_told")))))
theorem r_Whole_eq {K : PySem.W.Frag} {Jx : WX} {Xd : XD} (CF : ClsF CLw K) : RefS K Jx Xd (t_Whole_eq K) a_Whole_eq :=
  (rRet (rAndV (rCB (fcIsi CF) (rConsX (rRd 1) (rConsX (RefE.b (rCls "Whole")) rNilX))) (rAndV (rOp foEq (RefE.b (rFld CF "deep" (rRd 0))) (RefE.b (rFld CF "deep" (rRd 1)))) (rOp foEq (RefE.b (rFld CF "_told" (rRd 0))) (RefE.b (rFld CF "_told" (rRd 1)))))))
theorem pd_Whole_eq (ds : List Dt) (Qd : Dt → Prop) (h : sd_Whole_eq ds Qd) : ds.length ≤ N_Whole_eq.length ∧ a_Whole_eq ⟨fun _ => Qd .non, Qd, fun _ => False, fun _ => False⟩ (vals ds ++ List.replicate (N_Whole_eq.length - ds.length) .no) := by
  obtain ⟨d, e, T, U, rfl, q⟩ := h
  refine ⟨Nat.le_of_ble_eq_true rfl, ?_⟩
  have fin : (decide (((d : Nat) : Int) = ((e : Nat) : Int))) = decide (d = e) := by
    rw [decide_eq_decide]
    omega
  walk_at "dl"
  refine ⟨by decide, ?_⟩
  refine ⟨by decide, fun _ => ?_, fun c => absurd c (by decide)⟩
  walk_at "dl"
  refine ⟨by decide, ?_⟩
  walk_at "dl"
  refine ⟨by decide, ?_⟩
  walk_at "dl"
  rw [fin]
  by_cases de : d = e
  · refine ⟨fun _ => ?_, fun c => absurd c (by rw [decide_eq_true de]; decide)⟩
    walk_at "dl"
    refine ⟨by decide, ?_⟩
    walk_at "dl"
    refine ⟨by decide, ?_⟩
    refine eq_mD (Q := fun b => Qd (.bl b)) ?_
    rw [decide_eq_true de, Bool.true_and] at q
    exact q
  · refine ⟨fun c => absurd (of_decide_eq_true c) de, fun _ => ?_⟩
    rw [decide_eq_false de, Bool.false_and] at q
    exact q
abbrev sp_Whole_eq (K : PySem.W.Frag) : Sp := spD K sd_Whole_eq
theorem pure_Whole_eq {K : PySem.W.Frag} (CF : ClsF CLw K) (vs : List V) (H : Hp) (Q : VK) (E : XK) (h : sp_Whole_eq K vs H Q E) : t_Whole_eq K { nx := fun _ H' => Q .non H', rt := Q } (L2.start N_Whole_eq vs) H := fnD (Jx := fun _ _ _ _ => False) (r_Whole_eq CF) h pd_Whole_eq
def sd_Whole_add : DSp := fun ds Q => ∃ d T U, ds = [wD d T, wD d U] ∧ T.length + U.length ≤ 1000 ∧ WhOk d (T ++ U) ∧ Q (wD d (ech d (T ++ U)))
abbrev N_Whole_add : List Str := ["self", "other"]
def t_Whole_add (K : PySem.W.Frag) : TS :=
  (tRet (tNd (He.ga K "Whole") (sp_Whole_init K) (tCons (tFld K (tVar 0) "deep") (tCons (tOp (rAddU K) (tFld K (tVar 0) "_told") (tFld K (tVar 1) "_told")) tNil))))
def a_Whole_add : DS :=
  (dRet (dNew sd_Whole_init (dCons (dFld CLw (dRd 0) "deep") (dCons (dOp oAdd (dFld CLw (dRd 0) "_told") (dFld CLw (dRd 1) "_told")) dNil))))
theorem r_Whole_add {K : PySem.W.Frag} {Jx : WX} {Xd : XD} (CF : ClsF CLw K) : RefS K Jx Xd (t_Whole_add K) a_Whole_add :=
  (rRet (rNew (fun _ _ _ h => h) (rCons (rFld CF "deep" (rRd 0)) (rCons (rOp foAdd (RefE.b (rFld CF "_told" (rRd 0))) (RefE.b (rFld CF "_told" (rRd 1)))) rNil))))
theorem pd_Whole_add (ds : List Dt) (Qd : Dt → Prop) (h : sd_Whole_add ds Qd) : ds.length ≤ N_Whole_add.length ∧ a_Whole_add ⟨fun _ => Qd .non, Qd, fun _ => False, fun _ => False⟩ (vals ds ++ List.replicate (N_Whole_add.length - ds.length) .no) := by
  obtain ⟨d, T, U, rfl, hl, ok, q⟩ := h
  refine ⟨Nat.le_of_ble_eq_true rfl, ?_⟩
  walk_at "dl"
  refine ⟨by decide, ?_⟩
  walk_at "dl"
  refine ⟨by decide, ?_⟩
  walk_at "dl"
  refine ⟨by decide, ?_⟩
  walk_at "dl"
  have l1 : (mD T).length = T.length := List.length_map ..
  have l2 : (mD U).length = U.length := List.length_map ..
  refine ⟨by omega, ?_⟩
  exact ⟨d, _, T ++ U, rfl, ⟨mD (T ++ U), .inl (by unfold mD; rw [List.map_append]), rws_tups⟩, ok, q⟩
abbrev sp_Whole_add (K : PySem.W.Frag) : Sp := spD K sd_Whole_add
theorem pure_Whole_add {K : PySem.W.Frag} (CF : ClsF CLw K) (vs : List V) (H : Hp) (Q : VK) (E : XK) (h : sp_Whole_add K vs H Q E) : t_Whole_add K { nx := fun _ H' => Q .non H', rt := Q } (L2.start N_Whole_add vs) H := fnD (Jx := fun _ _ _ _ => False) (r_Whole_add CF) h pd_Whole_add
/-- what a meet's numbers must keep to -/
structure MeetOk (d : Nat) (T U : List (List Int)) : Prop where
  one : SolOk d T
  two : SolOk d U
  sone : EchOk d (sols d T)
  stwo : EchOk d (sols d U)
  all : EchOk d (meetM d [T, U])
  sall : SolOk d (ech d (meetM d [T, U]))
  fin : EchOk d (sols d (ech d (meetM d [T, U])))
/-- the meet's rows -/
def meetD (d : Nat) (T U : List (List Int)) : List (List Int) := ech d (sols d (ech d (meetM d [T, U])))
def sd_Whole_and : DSp := fun ds Q => ∃ d T U, ds = [wD d T, wD d U] ∧ MeetOk d T U ∧ WhOk d (meetD d T U) ∧ Q (wD d (ech d (meetD d T U)))
abbrev N_Whole_and : List Str := ["self", "other"]
def t_Whole_and (K : PySem.W.Frag) : TS :=
  (tRet (tNd (He.ga K "Whole") (sp_Whole_init K) (tCons (tFld K (tVar 0) "deep") (tCons (tCall (sp_meet_rows K) [] E0 (tCons (tFld K (tVar 0) "deep") (tCons (tLst (tCons (tFld K (tVar 0) "_told") (tCons (tFld K (tVar 1) "_told") tNil))) tNil))) tNil))))
def a_Whole_and : DS :=
  (dRet (dNew sd_Whole_init (dCons (dFld CLw (dRd 0) "deep") (dCons (dCall sd_meet_rows (dCons (dFld CLw (dRd 0) "deep") (dCons (dLst (dCons (dFld CLw (dRd 0) "_told") (dCons (dFld CLw (dRd 1) "_told") dNil))) dNil))) dNil))))
theorem r_Whole_and {K : PySem.W.Frag} {Jx : WX} {Xd : XD} (CF : ClsF CLw K) : RefS K Jx Xd (t_Whole_and K) a_Whole_and :=
  (rRet (rNew (fun _ _ _ h => h) (rCons (rFld CF "deep" (rRd 0)) (rCons (rCall (fun _ _ _ h => h) (rCons (rFld CF "deep" (rRd 0)) (rCons (rLst (rCons (rFld CF "_told" (rRd 0)) (rCons (rFld CF "_told" (rRd 1)) rNil))) rNil))) rNil))))
theorem pd_Whole_and (ds : List Dt) (Qd : Dt → Prop) (h : sd_Whole_and ds Qd) : ds.length ≤ N_Whole_and.length ∧ a_Whole_and ⟨fun _ => Qd .non, Qd, fun _ => False, fun _ => False⟩ (vals ds ++ List.replicate (N_Whole_and.length - ds.length) .no) := by
  obtain ⟨d, T, U, rfl, mo, ok, q⟩ := h
  refine ⟨Nat.le_of_ble_eq_true rfl, ?_⟩
  walk_at "dl"
  refine ⟨by decide, ?_⟩
  walk_at "dl"
  refine ⟨by decide, ?_⟩
  walk_at "dl"
  refine ⟨by decide, ?_⟩
  walk_at "dl"
  refine ⟨by decide, ?_⟩
  walk_at "dl"
  refine ⟨Nat.le_of_ble_eq_true rfl, ?_⟩
  refine ⟨d, [T, U], rfl, by show 2 ≤ 1000; decide, fun X hX => ?_, ⟨mo.all, mo.sall, mo.fin⟩, ?_⟩
  · rcases List.mem_cons.mp hX with rfl | hX
    · exact ⟨mo.one, mo.sone⟩
    · rw [List.mem_singleton.mp hX]
      exact ⟨mo.two, mo.stwo⟩
  exact ⟨d, _, meetD d T U, rfl, mat_mD, ok, q⟩
abbrev sp_Whole_and (K : PySem.W.Frag) : Sp := spD K sd_Whole_and
theorem pure_Whole_and {K : PySem.W.Frag} (CF : ClsF CLw K) (vs : List V) (H : Hp) (Q : VK) (E : XK) (h : sp_Whole_and K vs H Q E) : t_Whole_and K { nx := fun _ H' => Q .non H', rt := Q } (L2.start N_Whole_and vs) H := fnD (Jx := fun _ _ _ _ => False) (r_Whole_and CF) h pd_Whole_and
/-- what lies_in's numbers must keep to -/
structure LieOk (d : Nat) (T U : List (List Int)) : Prop where
  dle : d ≤ 1000
  tle : T.length ≤ 1000
  ldd : Ldd U
  mul : lmul U < 2 ^ 12999
  lu : ∀ l, l ∈ U → l.length = d
  lt : ∀ l, l ∈ T → l.length = d
  bt : ∀ l, l ∈ T → Bd 12999 l
def sd_Whole_within : DSp := fun ds Q => ∃ d T U, ds = [wD d T, wD d U] ∧ LieOk d T U ∧ Q (.bl (T.all (lies U)))
abbrev N_Whole_within : List Str := ["self", "other", "row"]
def t_Whole_within (K : PySem.W.Frag) : TS :=
  (tRet (tAndV (tOp (rEqU K) (tFld K (tVar 0) "deep") (tFld K (tVar 1) "deep")) (tCB (rAll K) (tCons (tLc (iSq K (tFld K (tVar 0) "_told")) (gName 2) tYes (tCall (sp_lies_in K) [] E0 (tCons (tFld K (tVar 1) "_told") (tCons (tVar 2) tNil))) [2]) tNil))))
def a_Whole_within : DS :=
  (dRet (dAndV (dOp oEq (dFld CLw (dRd 0) "deep") (dFld CLw (dRd 1) "deep")) (dCB (c1 uAll) (dCons (dLc (jSq (dFld CLw (dRd 0) "_told")) (gN 2) dYes (dCall sd_lies_in (dCons (dFld CLw (dRd 1) "_told") (dCons (dVar 2) dNil))) [2]) dNil))))
theorem r_Whole_within {K : PySem.W.Frag} {Jx : WX} {Xd : XD} (CF : ClsF CLw K) : RefS K Jx Xd (t_Whole_within K) a_Whole_within :=
  (rRet (rAndV (rOp foEq (RefE.b (rFld CF "deep" (rRd 0))) (RefE.b (rFld CF "deep" (rRd 1)))) (rCB fcAll (rConsX (RefE.b (rLc (rjSq (RefE.b (rFld CF "_told" (rRd 0)))) (rcN 2 (by decide)) rYes (rCall (fun _ _ _ h => h) (rCons (rFld CF "_told" (rRd 1)) (rCons (rVar 2) rNil))))) rNilX))))
theorem pd_Whole_within (ds : List Dt) (Qd : Dt → Prop) (h : sd_Whole_within ds Qd) : ds.length ≤ N_Whole_within.length ∧ a_Whole_within ⟨fun _ => Qd .non, Qd, fun _ => False, fun _ => False⟩ (vals ds ++ List.replicate (N_Whole_within.length - ds.length) .no) := by
  obtain ⟨d, T, U, rfl, ok, q⟩ := h
  refine ⟨Nat.le_of_ble_eq_true rfl, ?_⟩
  have dle := ok.dle
  have tle := ok.tle
  walk_at "dl"
  refine ⟨by decide, ?_⟩
  walk_at "dl"
  refine ⟨by decide, ?_⟩
  walk_at "dl"
  refine ⟨fun _ => ?_, fun c => absurd c (by simp)⟩
  walk_at "dl"
  refine ⟨rfl, ?_⟩
  walk_at "dl"
  refine ⟨by decide, ?_⟩
  walk_at "dl"
  refine ⟨by rw [List.length_map]; omega, ?_⟩
  refine lc_map (f := fun r => .bl (lies U r)) (fun i r R hr hR => ?_) ?_
  · walk_at "dl"
    refine ⟨by decide, ?_⟩
    walk_at "dl"
    have rm := List.mem_of_getElem? hr
    have rl := ok.lt r rm
    exact ⟨U, _, r, rfl, .inr rfl, ⟨ok.ldd, ok.mul⟩, ⟨by omega, ok.bt r rm, fun l hl => by rw [ok.lu l hl, rl]⟩, hR⟩
  · refine ⟨T.map (lies U), by rw [List.map_map]; rfl, ?_⟩
    rw [List.all_map]
    exact q
abbrev sp_Whole_within (K : PySem.W.Frag) : Sp := spD K sd_Whole_within
theorem pure_Whole_within {K : PySem.W.Frag} (CF : ClsF CLw K) (vs : List V) (H : Hp) (Q : VK) (E : XK) (h : sp_Whole_within K vs H Q E) : t_Whole_within K { nx := fun _ H' => Q .non H', rt := Q } (L2.start N_Whole_within vs) H := fnD (Jx := fun _ _ _ _ => False) (r_Whole_within CF) h pd_Whole_within

end
section

/-! ### a pair's two parts stored: own lists among them -/
section
variable {K : PySem.W.Frag} {Jx : WX} {Xd : XD} {t : TA} {dp : DP}
theorem Cmp.grow {W : Wd} {S : Addr → Prop} {H H' : Hp} (e : Same H H') : ∀ {ps : List Addr} {vs : List V} {ss : List Sl}, Cmp K W S H ps vs ss → Cmp K W S H' ps vs ss
  | _, _, _, .nil => .nil
  | _, _, _, .val h r => .val (h.same (hd_mono e)) (Cmp.grow e r)
  | _, _, _, .own h1 h2 r => .own (e _ _ h1) (h2.same (hd_mono e)) (Cmp.grow e r)
theorem rParT2 {i j : Nat} (a : RefP K Jx Xd t dp) : RefS K Jx Xd (tAsg (tTup t) (gTup K 2 (gCons (gName i) (gCons (gName j) gNil)))) (dPar [i, j] dp) := fun W S0 H0 α H σ ρ D Dd I r h =>
  a W S0 H0 α H σ ρ _ _ I (fun ss vs H' ps q g nd hp cm => by
    have el : vs.length = 2 := by rw [cm.len]; exact q.1
    refine ⟨by rw [el, sizeLine_eq]; decide, fun T hT => ?_⟩
    have sT : Same H' (upd H' T (.tup vs)) := same_new hT
    have cm' := cm.grow sT
    have g' := g.trans (Gw.new (o := .tup vs) g.bag hT)
    obtain ⟨I2, s2⟩ := I.toEnv.hideP (P := fun a => a ∈ ps) g' fun p z => ⟨hp p z, cm'.ne p z⟩
    obtain ⟨α', I3, s3⟩ := Env.setAll (is := [i, j]) cm' I2 (fun p z => I.none0 (hp p z)) nd el.symm
    have fin := r.nx _ _ _ _ q.2 I3 (s2.trans s3)
    match vs, el, fin with
    | [v, w], _, fin => exact ⟨T, [v, w], rfl, sqt_of upd_same, rfl, v, [w], rfl, w, [], rfl, rfl, fin⟩) h
end
/-! t + u, also of an empty t -/
def oAddV : DOp := fun x y Q => match x, y with
  | .tup a, .tup b => a.length + b.length ≤ 16777216 ∧ Q (.tup (a ++ b))
  | x, y => oAdd x y Q
theorem foAddV {K : PySem.W.Frag} : RefOp K (rAddV K) oAddV := fun W S H x y d e Qd Q O hx hy c h => by
  unfold oAddV at h
  split at h
  · rename_i l m
    by_cases z : l = []
    · subst z
      cases (show Dv K W (hd S H) x (.tup []) from hx) with
      | @tup _ xs _ h1 h2 =>
        cases h2
        cases (show Dv K W (hd S H) y (.tup m) from hy) with
        | @tup _ ys _ k1 k2 => exact .inr ⟨_, _, ys, rfl, rfl, same_sqt hd_le h1, same_sqt hd_le k1, c.now O h.2 (.tup k1 k2)⟩
    · exact .inl (foAdd W S H x y _ _ Qd Q O hx hy c ⟨⟨z, h.1⟩, h.2⟩)
  · exact .inl (foAdd W S H x y _ _ Qd Q O hx hy c h)

end
section

/-! ### the law's own echelon -/
def sd_law_gcd : DSp := fun ds Q => ∃ a b : Int, ds = [.int a, .int b] ∧ Q (.int ((Nat.gcd a.natAbs b.natAbs : Nat) : Int))
abbrev N_law_gcd : List Str := ["a", "b"]
def t_law_gcd (K : PySem.W.Frag) : TS :=
  (tSeq (tPar 0 1 (tCons (tCB rAbs (tCons (tVar 0) tNil)) (tCons (tCB rAbs (tCons (tVar 1) tNil)) tNil)))
    (tSeq (tWhile (tTest (tOp rGtI (tVar 1) (tC (.int 0))))
    (tPar 0 1 (tCons (tVar 1) (tCons (tOp rModU (tCB rInt1 (tCons (tVar 0) tNil)) (tVar 1)) tNil))))
    (tRet (tVar 0))))
def a_law_gcd : DS :=
  (dSeq (dPar [0, 1] (pVal (dCB (c1 uAbs) (dCons (dRd 0) dNil)) (pVal (dCB (c1 uAbs) (dCons (dRd 1) dNil)) pNil)))
    (dSeq (dWhile (dTest (dOp oGt (dRd 1) (dC (.int 0))))
    (dPar [0, 1] (pVal (dVar 1) (pVal (dOp oMod (dCB (c1 uInt1) (dCons (dRd 0) dNil)) (dRd 1)) pNil))))
    (dRet (dVar 0))))
theorem r_law_gcd {K : PySem.W.Frag} {Jx : WX} {Xd : XD} : RefS K Jx Xd (t_law_gcd K) a_law_gcd :=
  (rSeq (rPar2 (rpVal (rCB fcAbs (rConsX (rRd 0) rNilX)) (rpVal (rCB fcAbs (rConsX (rRd 1) rNilX)) rpNil)))
    (rSeq (rWhile (rTest (rOp foGt (rRd 1) (RefE.b (rInt 0))))
    (rPar2 (rpVal (rVar 1) (rpVal (rOp foMod (RefE.b (rCB fcInt1 (rConsX (rRd 0) rNilX))) (rRd 1)) rpNil))))
    (rRet (rVar 0))))
theorem abs_nat (v : Int) : (if v < 0 then -v else v) = ((v.natAbs : Nat) : Int) := by split <;> omega
theorem pd_law_gcd (ds : List Dt) (Qd : Dt → Prop) (h : sd_law_gcd ds Qd) : ds.length ≤ N_law_gcd.length ∧ a_law_gcd ⟨fun _ => Qd .non, Qd, fun _ => False, fun _ => False⟩ (vals ds ++ List.replicate (N_law_gcd.length - ds.length) .no) := by
  obtain ⟨a, b, rfl, q⟩ := h
  refine ⟨Nat.le_of_ble_eq_true rfl, ?_⟩
  walk_at "dl"
  rw [abs_nat, abs_nat]
  refine ⟨rfl, ?_⟩
  refine wh_inv (fun m ρ => ∃ k : Nat, Nat.gcd k m = Nat.gcd a.natAbs b.natAbs ∧ ρ = [.val (.int ((k : Nat) : Int)), .val (.int ((m : Nat) : Int))]) b.natAbs ⟨_, rfl, rfl⟩ ?_
  rintro m ρ P ⟨k, hg, rfl⟩ hP
  walk_at "dl"
  refine ⟨fun c => ?_, fun c => ?_⟩
  · have c' : 0 < m := by
      have := of_decide_eq_true c
      omega
    walk_at "dl"
    refine ⟨by omega, ?_⟩
    refine ⟨rfl, ?_⟩
    have e : ((k : Nat) : Int).fmod ((m : Nat) : Int) = ((k % m : Nat) : Int) := by
      rw [Int.fmod_eq_emod_of_nonneg _ (by omega)]
      exact (Int.natCast_emod k m).symm
    rw [e]
    exact hP (k % m) _ (Nat.mod_lt _ c') ⟨m, by rw [Nat.gcd_comm, ← Nat.gcd_rec, Nat.gcd_comm]; exact hg, rfl⟩
  · have c' : m = 0 := by
      have := of_decide_eq_false c
      omega
    subst c'
    walk_at "dl"
    rw [← hg, Nat.gcd_zero_right] at q
    exact q
abbrev sp_law_gcd (K : PySem.W.Frag) : Sp := spD K sd_law_gcd
theorem pure_law_gcd {K : PySem.W.Frag} (vs : List V) (H : Hp) (Q : VK) (E : XK) (h : sp_law_gcd K vs H Q E) : t_law_gcd K { nx := fun _ H' => Q .non H', rt := Q } (L2.start N_law_gcd vs) H := fnD (Jx := fun _ _ _ _ => False) (r_law_gcd) h pd_law_gcd
def sd_law_thin : DSp := fun ds Q => ∃ x r, ds = [x] ∧ isRow x r ∧ (r.length ≤ 1000000 ∧ Bd 12900 r) ∧ Q (.lst (rwD (prim r)))
abbrev N_law_thin : List Str := ["row", "g", "x"]
def t_law_thin (K : PySem.W.Frag) : TS :=
  (tSeq (tAsg (tC (.int 0)) (gName 1))
    (tSeq (tFor (iSq K (tVar 0)) (gName 2)
    (tAsg (tCall (sp_law_gcd K) [] E0 (tCons (tVar 1) (tCons (tVar 2) tNil))) (gName 1)))
    (tRet (tIf (tTest (tOp rGtI (tVar 1) (tC (.int 1)))) (tLc (iSq K (tVar 0)) (gName 2) tYes (tOp rDivV (tVar 2) (tVar 1)) [2]) (tCB (rListOf K) (tCons (tVar 0) tNil))))))
def a_law_thin : DS :=
  (dSeq (dAsg (dC (.int 0)) (gN 1))
    (dSeq (dFor (jSq (dVar 0)) (gN 2)
    (dAsg (dCall sd_law_gcd (dCons (dVar 1) (dCons (dVar 2) dNil))) (gN 1)))
    (dRet (dIf (dTest (dOp oGt (dRd 1) (dC (.int 1)))) (dLc (jSq (dRd 0)) (gN 2) dYes (dOp oDivv (dRd 2) (dRd 1)) [2]) (dCB (c1 uList) (dCons (dRd 0) dNil))))))
theorem r_law_thin {K : PySem.W.Frag} {Jx : WX} {Xd : XD} : RefS K Jx Xd (t_law_thin K) a_law_thin :=
  (rSeq (rAsg (rInt 0) (rgN 1))
    (rSeq (rFor (riSq (rVar 0)) (rgN 2)
    (rAsg (rCall (fun _ _ _ h => h) (rCons (rVar 1) (rCons (rVar 2) rNil))) (rgN 1)))
    (rRet (rIf (rTest (rOp foGt (rRd 1) (RefE.b (rInt 1)))) (rLc (rjSq (rRd 0)) (rcN 2 (by decide)) rYes (rOp foDivv (rRd 2) (rRd 1))) (rCB fcList (rConsX (rRd 0) rNilX))))))
theorem pd_law_thin (ds : List Dt) (Qd : Dt → Prop) (h : sd_law_thin ds Qd) : ds.length ≤ N_law_thin.length ∧ a_law_thin ⟨fun _ => Qd .non, Qd, fun _ => False, fun _ => False⟩ (vals ds ++ List.replicate (N_law_thin.length - ds.length) .no) := by
  obtain ⟨x, r, rfl, hx, ⟨hl, hb⟩, q⟩ := h
  refine ⟨Nat.le_of_ble_eq_true rfl, ?_⟩
  walk_at "dl"
  refine row_seq hx ?_
  refine for_map (xs := r) (enc := Dt.int) (fun i ρ => ∃ z, z.owned = false ∧ ρ = [.val x, .val (.int (gall (r.take i))), z]) ⟨_, rfl, rfl⟩ ?_ ?_
  · rintro i n ρ P hn ⟨z, hz, rfl⟩ hP
    walk_at "dl"
    refine ⟨_, _, rfl, ?_⟩
    refine hP _ ⟨_, rfl, by rw [take_succ_get hn, gall_snoc]; rfl⟩
  · rintro ρ ⟨z, hz, rfl⟩
    rw [List.take_length]
    walk_at "dl"
    refine ⟨fun c => ?_, fun c => ?_⟩
    · walk_at "dl"
      refine ⟨by simp [gt, hz], row_seq hx ⟨by rw [List.length_map]; exact hl, ?_⟩⟩
      have g1 : 1 < gall r := by have := of_decide_eq_true c; omega
      refine lc_map (f := fun n => .int (n / (gall r : Int))) (fun i n R hn hR => ?_) ?_
      · walk_at "dl"
        refine ⟨⟨by omega, .inr ?_⟩, ?_⟩
        · exact log2_bd (k := 13000) (hb n (List.mem_of_getElem? hn)) (Nat.le_of_ble_eq_true rfl)
        · rw [Int.fdiv_eq_ediv_of_nonneg _ (by omega)]
          exact hR
      · have e : r.map (fun n => Dt.int (n / (gall r : Int))) = rwD (prim r) := by
          unfold prim
          rw [if_neg (by omega)]
          unfold rwD
          rw [List.map_map]
          rfl
        rw [e]
        exact q
    · have e : prim r = r := if_pos (by have := of_decide_eq_false c; omega)
      rw [e] at q
      walk_at "dl"
      exact row_seq hx q
abbrev sp_law_thin (K : PySem.W.Frag) : Sp := spD K sd_law_thin
theorem pure_law_thin {K : PySem.W.Frag} (vs : List V) (H : Hp) (Q : VK) (E : XK) (h : sp_law_thin K vs H Q E) : t_law_thin K { nx := fun _ H' => Q .non H', rt := Q } (L2.start N_law_thin vs) H := fnD (Jx := fun _ _ _ _ => False) (r_law_thin) h pd_law_thin
def sd_law_clear : DSp := fun ds Q => ∃ x u r l p b, ds = [x, u, .int ((p : Nat) : Int)] ∧ isRow x r ∧ isRow u l ∧ (p < r.length ∧ r.length = l.length ∧ r.length ≤ 1000000) ∧ (Bd b r ∧ Bd b l ∧ b ≤ 6449) ∧ ∀ y, isRow y (strk r l p) → Q y
abbrev N_law_clear : List Str := ["row", "by", "col", "x", "y"]
def t_law_clear (K : PySem.W.Frag) : TS :=
  (tSeq (tIfS (tTest (tOp (rEqU K) (tOp (rIx K) (tVar 0) (tVar 2)) (tC (.int 0)))) (tRet (tVar 0)) tNext)
    (tRet (tCall (sp_law_thin K) [] E0 (tCons (tLc (iZipU K (tCons (tVar 0) (tCons (tVar 1) tNil))) (gTup K 2 (gCons (gName 3) (gCons (gName 4) gNil))) tYes (tOp rSubI (tOp rMulU (tVar 3) (tOp (rIx K) (tVar 1) (tVar 2))) (tOp rMulU (tVar 4) (tOp (rIx K) (tVar 0) (tVar 2)))) [3, 4]) tNil))))
def a_law_clear : DS :=
  (dSeq (dIfS (dTest (dOp oEq (dOp oIx (dRd 0) (dRd 2)) (dC (.int 0)))) (dRet (dVar 0)) dNext)
    (dRet (dCall sd_law_thin (dCons (dLc (jZip (dCons (dRd 0) (dCons (dRd 1) dNil))) (gT 2 (gsCons (gN 3) (gsCons (gN 4) gsNil))) dYes (dOp oSub (dOp oMul (dRd 3) (dOp oIx (dRd 1) (dRd 2))) (dOp oMul (dRd 4) (dOp oIx (dRd 0) (dRd 2)))) [3, 4]) dNil))))
theorem r_law_clear {K : PySem.W.Frag} {Jx : WX} {Xd : XD} : RefS K Jx Xd (t_law_clear K) a_law_clear :=
  (rSeq (rIfS (rTest (rOp foEq (RefE.b (rOp foIx (rRd 0) (rRd 2))) (RefE.b (rInt 0)))) (rRet (rVar 0)) rNext)
    (rRet (rCall (fun _ _ _ h => h) (rCons (rLc (rjZip (rConsX (rRd 0) (rConsX (rRd 1) rNilX))) (rcT 2 (rcsCons (rcN 3 (by decide)) (rcsCons (rcN 4 (by decide)) rcsNil))) rYes (rOp foSub (RefE.b (rOp foMul (rRd 3) (RefE.b (rOp foIx (rRd 1) (rRd 2))))) (RefE.b (rOp foMul (rRd 4) (RefE.b (rOp foIx (rRd 0) (rRd 2))))))) rNil))))
theorem pd_law_clear (ds : List Dt) (Qd : Dt → Prop) (h : sd_law_clear ds Qd) : ds.length ≤ N_law_clear.length ∧ a_law_clear ⟨fun _ => Qd .non, Qd, fun _ => False, fun _ => False⟩ (vals ds ++ List.replicate (N_law_clear.length - ds.length) .no) := by
  obtain ⟨x, u, r, l, p, b, rfl, hx, hu, ⟨hp, hl, hm⟩, ⟨hr, hlb, hb⟩, q⟩ := h
  refine ⟨Nat.le_of_ble_eq_true rfl, ?_⟩
  walk_at "dl"
  refine row_ix hx hp ?_
  walk_at "dl"
  refine ⟨fun c => ?_, fun c => ?_⟩
  · walk_at "dl"
    refine q _ ?_
    unfold strk
    rw [if_pos (of_decide_eq_true c)]
    exact hx
  · walk_at "dl"
    refine ⟨rfl, ?_⟩
    walk_at "dl"
    refine row_zip (Q := fun items => items.length ≤ 1000000 ∧ dLcGo _ _ _ _ _ items []) hx hu hl ⟨by rw [zipD_len, rwD_len, rwD_len]; omega, ?_⟩
    refine lc_zip (fun n m => l.getD p 0 * n - r.getD p 0 * m) (fun i n m R hn hm hR => ?_) ?_
    · walk_at "dl"
      refine ⟨rfl, ?_⟩
      walk_at "dl"
      refine row_ix hu (by omega) ?_
      refine ⟨cmul_bd (a := b) (b := b) (hr n (List.mem_of_getElem? hn)) (getD_bd hlb) (by omega) (by omega), ?_⟩
      walk_at "dl"
      refine row_ix hx (by omega) ?_
      refine ⟨cmul_bd (a := b) (b := b) (hlb m (List.mem_of_getElem? hm)) (getD_bd hr) (by omega) (by omega), ?_⟩
      rw [Int.mul_comm n, Int.mul_comm m]
      exact hR
    · refine ⟨_, comb (l.getD p 0) (r.getD p 0) r l, rfl, .inl rfl, ⟨by rw [comb_len hl]; exact hm, (comb_bd (getD_bd hlb) (getD_bd hr) hr hlb).mono (by omega)⟩, q _ (.inl ?_)⟩
      unfold strk
      rw [if_neg (of_decide_eq_false c)]
abbrev sp_law_clear (K : PySem.W.Frag) : Sp := spD K sd_law_clear
theorem pure_law_clear {K : PySem.W.Frag} (vs : List V) (H : Hp) (Q : VK) (E : XK) (h : sp_law_clear K vs H Q E) : t_law_clear K { nx := fun _ H' => Q .non H', rt := Q } (L2.start N_law_clear vs) H := fnD (Jx := fun _ _ _ _ => False) (r_law_clear) h pd_law_clear

end
section

/-! ### the law's told rows -/
def sd_law_told : DSp := fun ds Q => ∃ d x M, ds = [x, .int ((d : Nat) : Int)] ∧ isMat x M ∧ (EchOk d M ∧ Okr d 6449 M) ∧ Q (.tup (mD (ech d M)))
abbrev N_law_told : List Str := ["base", "d", "left", "done", "col", "at", "by", "row", "k", "x"]
def t_law_told (K : PySem.W.Frag) : TS :=
  (tSeq (tAsg (tTup (tCons (tLc (iSq K (tVar 0)) (gName 7) tYes (tCB (rListOf K) (tCons (tVar 7) tNil)) [7]) (tCons (tLst tNil) tNil))) (gTup K 2 (gCons (gName 2) (gCons (gName 3) gNil))))
    (tSeq (tFor (iRng1 (tCons (tVar 1) tNil)) (gName 4)
    (tSeq (tAsg (tLc (iRng1 (tCons (tCB (rLenU K) (tCons (tVar 2) tNil)) tNil)) (gName 8) (tTest (tOp (rNeU K) (tOp (rIx K) (tOp (rIx K) (tVar 2) (tVar 8)) (tVar 4)) (tC (.int 0)))) (tVar 8) [8]) (gName 5))
    (tIfS (tTruth K (tVar 5)) (tSeq (tAsg (tCall (sp_law_thin K) [] E0 (tCons (tBM K "list" rPopAt (tVar 2) (tCons (tOp (rIx K) (tVar 5) (tC (.int 0))) tNil)) tNil)) (gName 6))
    (tMid (tIfS (tTest (tOp rLtI (tOp (rIx K) (tVar 6) (tVar 4)) (tC (.int 0)))) (tAsg (tLc (iSq K (tVar 6)) (gName 9) tYes (tOp rSubI (tC (.int 0)) (tVar 9)) [9]) (gName 6)) tNext)
    (tSeq (tAsg (tLc (iSq K (tVar 2)) (gName 7) tYes (tCall (sp_law_clear K) [] E0 (tCons (tVar 7) (tCons (tVar 6) (tCons (tVar 4) tNil)))) [7]) (gName 2))
    (tAsg (tOp (rAddU K) (tLc (iSq K (tVar 3)) (gName 7) tYes (tCall (sp_law_clear K) [] E0 (tCons (tVar 7) (tCons (tVar 6) (tCons (tVar 4) tNil)))) [7]) (tLst (tCons (tVar 6) tNil))) (gName 3))))) tNext)))
    (tRet (tCB (rTupOf K) (tCons (tLc (iSq K (tVar 3)) (gName 7) tYes (tCB (rTupOf K) (tCons (tVar 7) tNil)) [7]) tNil)))))
def a_law_told : DS :=
  (dSeq (dPar [2, 3] (pOwn (fLc (jSq (dRd 0)) (gN 7) dYes (dCB (c1 uList) (dCons (dRd 7) dNil)) [7]) (pVal (dLst dNil) pNil)))
    (dSeq (dFor (jRng1 (dCons (dRd 1) dNil)) (gN 4)
    (dSeq (dAsg (dLc (jRng1 (dCons (dCB (c1 uLen) (dCons (dRd 2) dNil)) dNil)) (gN 8) (dTest (dOp oNe (dOp oIx (dOp oIx (dRd 2) (dRd 8)) (dRd 4)) (dC (.int 0)))) (dVar 8) [8]) (gN 5))
    (dIfS (dTruth (dRd 5)) (dSeq (dAsgW (wCall sd_law_thin (wPop 2 (dOp oIx (dRd 5) (dC (.int 0))))) (gN 6))
    (dMid (dIfS (dTest (dOp oLt (dOp oIx (dRd 6) (dRd 4)) (dC (.int 0)))) (dAsg (dLc (jSq (dRd 6)) (gN 9) dYes (dOp oSub (dC (.int 0)) (dRd 9)) [9]) (gN 6)) dNext)
    (dSeq (dOwn 2 (fLc (jSq (dRd 2)) (gN 7) dYes (dCall sd_law_clear (dCons (dVar 7) (dCons (dVar 6) (dCons (dVar 4) dNil)))) [7]))
    (dAsg (dOp oAdd (dLc (jSq (dRd 3)) (gN 7) dYes (dCall sd_law_clear (dCons (dVar 7) (dCons (dVar 6) (dCons (dVar 4) dNil)))) [7]) (dLst (dCons (dVar 6) dNil))) (gN 3))))) dNext)))
    (dRet (dCB (c1 uTuple) (dCons (dLc (jSq (dRd 3)) (gN 7) dYes (dCB (c1 uTuple) (dCons (dRd 7) dNil)) [7]) dNil)))))
theorem r_law_told {K : PySem.W.Frag} {Jx : WX} {Xd : XD} : RefS K Jx Xd (t_law_told K) a_law_told :=
  (rSeq (rParT2 (rpOwn (rfLc (rjSq (rRd 0)) (rcN 7 (by decide)) rYes (rCB fcList (rConsX (rRd 7) rNilX))) (rpVal (rLst rNil) rpNil)))
    (rSeq (rFor (riRng1 (rConsX (rRd 1) rNilX)) (rgN 4)
    (rSeq (rAsg (rLc (RefI.j (riRng1 (rConsX (RefE.b (rCB fcLen (rConsX (rRd 2) rNilX))) rNilX))) (rcN 8 (by decide)) (rTest (rOp foNe (RefE.b (rOp foIx (RefE.b (rOp foIx (rRd 2) (rRd 8))) (rRd 4))) (RefE.b (rInt 0)))) (rVar 8)) (rgN 5))
    (rIfS (rTruth (rRd 5)) (rSeq (rAsgW (rwCall (fun _ _ _ h => h) (rwPop 2 (rOp foIx (rRd 5) (RefE.b (rInt 0))))) (rgN 6))
    (rMid (rIfS (rTest (rOp foLt (RefE.b (rOp foIx (rRd 6) (rRd 4))) (RefE.b (rInt 0)))) (rAsg (rLc (rjSq (rRd 6)) (rcN 9 (by decide)) rYes (rOp foSub (RefE.b (rInt 0)) (rRd 9))) (rgN 6)) rNext)
    (rSeq (rOwn 2 (rfLc (rjSq (rRd 2)) (rcN 7 (by decide)) rYes (rCall (fun _ _ _ h => h) (rCons (rVar 7) (rCons (rVar 6) (rCons (rVar 4) rNil))))))
    (rAsg (rOp foAdd (RefE.b (rLc (rjSq (rRd 3)) (rcN 7 (by decide)) rYes (rCall (fun _ _ _ h => h) (rCons (rVar 7) (rCons (rVar 6) (rCons (rVar 4) rNil)))))) (RefE.b (rLst (rCons (rVar 6) rNil)))) (rgN 3))))) rNext)))
    (rRet (rCB fcTuple (rConsX (RefE.b (rLc (rjSq (rRd 3)) (rcN 7 (by decide)) rYes (rCB fcTuple (rConsX (rRd 7) rNilX)))) rNilX)))))
theorem first_in (n : Nat) (q : Nat → Bool) : (List.range n).filter q = [] ∧ (∀ j, j < n → q j = false) ∨ ∃ k t, (List.range n).filter q = k :: t ∧ k < n ∧ q k = true ∧ ∀ j, j < k → q j = false := by
  cases e : (List.range n).filter q with
  | nil => exact .inl ⟨rfl, fun j hj => by
      have := List.filter_eq_nil_iff.mp e j (List.mem_range.mpr hj)
      simpa using this⟩
  | cons k t =>
    have hh : (List.range n).find? q = some k := by rw [← List.head?_filter, e]; rfl
    obtain ⟨h1, h2, h3⟩ := List.find?_range_eq_some.mp hh
    exact .inr ⟨k, t, rfl, List.mem_range.mp h2, h1, fun j hj => by simpa using h3 j hj⟩
theorem lead_fst {L : List (List Int)} {p k : Nat} (hk : k < L.length) (h : (L.getD k []).getD p 0 ≠ 0) (hz : ∀ j, j < k → (L.getD j []).getD p 0 = 0) : lead? L p = some k := by
  have gk : L[k]? = some (L.getD k []) := by rw [List.getD_eq_getElem?_getD, List.getElem?_eq_getElem hk]; rfl
  refine lead_at gk (fun r' hr' => ?_) h
  obtain ⟨j, hj⟩ := List.getElem?_of_mem hr'
  have jl : j < k := by
    have := (List.getElem?_eq_some_iff.mp hj).1
    simp at this
    omega
  rw [List.getElem?_take_of_lt jl] at hj
  have z := hz j jl
  have e : L.getD j [] = r' := by rw [List.getD_eq_getElem?_getD, hj]; rfl
  rw [e] at z
  exact z
theorem strk_or {d p b : Nat} {L : List (List Int)} {l : List Int} {E2 : List (List Int)} (hb : ∀ r, r ∈ L → r.length = d ∧ Bd b r) (ll : l.length = d) (he : eleft (L.map (strk · l p)) = E2) (hE : Okr d b E2) : ∀ r, r ∈ L.map (strk · l p) → r.length = d ∧ Bd b r := fun r' hr' => by
  have hm := hr'
  obtain ⟨r, hr, rfl⟩ := List.mem_map.mp hr'
  obtain ⟨h1, h2⟩ := hb r hr
  have hl : (strk r l p).length = d := by rw [strk_len (by omega)]; exact h1
  refine ⟨hl, ?_⟩
  by_cases c : nz (strk r l p) = true
  · have hp : prim (strk r l p) ∈ E2 := by
      rw [← he]
      exact List.mem_map.mpr ⟨_, List.mem_filter.mpr ⟨hm, c⟩, rfl⟩
    by_cases z : r.getD p 0 = 0
    · have e : strk r l p = r := if_pos z
      rw [e]
      exact h2
    · have e : prim (strk r l p) = strk r l p := by
        unfold strk
        rw [if_neg z, prim_prim]
      rw [e] at hp
      exact (hE _ hp).2
  · intro x hx
    obtain ⟨j, hj⟩ := List.getElem?_of_mem hx
    have := nz_false c j
    rw [List.getD_eq_getElem?_getD, hj] at this
    have : x = 0 := this
    rw [this]
    exact Nat.two_pow_pos b
theorem pd_law_told (ds : List Dt) (Qd : Dt → Prop) (h : sd_law_told ds Qd) : ds.length ≤ N_law_told.length ∧ a_law_told ⟨fun _ => Qd .non, Qd, fun _ => False, fun _ => False⟩ (vals ds ++ List.replicate (N_law_told.length - ds.length) .no) := by
  obtain ⟨d, x, M, rfl, hx, ⟨ok, okM⟩, q⟩ := h
  refine ⟨Nat.le_of_ble_eq_true rfl, ?_⟩
  have dle := ok.dle
  have mle := ok.len
  walk_at "dl"
  refine ⟨rfl, mat_seq hx fun xs hxs => ⟨by rw [hxs.1]; exact Nat.le_trans ok.len (by decide), ?_⟩⟩
  refine rws_map id hxs (fun y r R hy hr hR => ?_) fun L0 hL0 => ?_
  · walk_at "dl"
    exact row_seq hy (hR _ (.inl rfl))
  rw [List.map_id] at hL0
  walk_at "dl"
  refine ⟨Nat.zero_le _, rfl, ?_⟩
  walk_at "dl"
  refine ⟨⟨by omega, by omega⟩, ?_⟩
  rw [Int.toNat_natCast]
  refine for_rng (lo := 0) (n := d) (fun p ρ => ∃ L Ld Td z4 z5 z6, (z4.owned = false ∧ z5.owned = false ∧ z6.owned = false) ∧ ρ = [.val x, .val (.int (d : Int)), .own Ld, .val (.lst Td), z4, z5, z6, .no, .no, .no] ∧ Rws Ld L ∧ Rws Td (est M p).1 ∧ eleft L = (est M p).2 ∧ L.length ≤ M.length ∧ ∀ r, r ∈ L → r.length = d ∧ (p < d → Bd 6449 r)) ⟨M, L0, [], _, _, _, ⟨rfl, rfl, rfl⟩, rfl, hL0, rws_nil, rfl, Nat.le_refl _, fun r hr => ⟨(okM r hr).1, fun _ => (okM r hr).2⟩⟩ ?_ ?_
  · rintro p ρ P hp ⟨L, Ld, Td, z4, z5, z6, ho, rfl, hL, hT, hE, nL, hb⟩ hP
    rw [Int.zero_add]
    have oT := ok.told p hp
    have nT := est_len1 M p
    walk_at "dl"
    refine ⟨rfl, ⟨by have := hL.1; omega, by have := hL.1; omega⟩, ?_⟩
    unfold rngD
    refine ⟨by rw [List.length_map, List.length_range, hL.1]; omega, ?_⟩
    refine lc_keep (f := fun (i : Nat) => .int (0 + (i : Int))) (p := fun k => decide ((L.getD k []).getD p 0 ≠ 0)) (fun i k R R' hk h1 h2 => ?_) ?_
    · have kl : k < L.length := by
        have il := (List.getElem?_eq_some_iff.mp hk).1
        rw [List.length_range] at il
        rw [List.getElem?_range il] at hk
        cases hk
        have := hL.1
        omega
      have gk : L[k]? = some (L.getD k []) := by rw [List.getD_eq_getElem?_getD, List.getElem?_eq_getElem kl]; rfl
      walk_at "dl"
      rw [Int.zero_add]
      refine mat_ix (M := L) (k := k) ⟨Ld, .inl rfl, hL⟩ gk fun y hy => ?_
      walk_at "dl"
      refine row_ix hy (by rw [(hb _ (List.mem_of_getElem? gk)).1]; exact hp) ?_
      walk_at "dl"
      cases c : decide ((L.getD k []).getD p 0 = 0) with
      | true => exact h2 (by rw [decide_eq_false_iff_not]; exact fun z => z (of_decide_eq_true c))
      | false =>
        have := h1 (by rw [decide_eq_true_iff]; exact of_decide_eq_false c)
        rw [Int.zero_add] at this
        exact this
    rw [Int.toNat_natCast, hL.1]
    rcases first_in L.length fun k => decide ((L.getD k []).getD p 0 ≠ 0) with ⟨fe, fz⟩ | ⟨k, t, fe, kl, kq, kz⟩
    · rw [fe]
      have hk : lead? L p = none := lead_no fun r hr => by
        obtain ⟨j, hj⟩ := List.getElem?_of_mem hr
        have jl := (List.getElem?_eq_some_iff.mp hj).1
        have z := fz j jl
        have e : L.getD j [] = r := by rw [List.getD_eq_getElem?_getD, hj]; rfl
        rw [e] at z
        simpa using z
      have s1 := lsim (p := p) (d := d) (T := (est M p).1) rfl hE fun r hr => (hb r hr).1
      rw [← est_succ] at s1
      unfold lstep at s1
      dsimp only at s1
      rw [hk] at s1
      dsimp only at s1
      walk_at "dl"
      refine ⟨fun c => absurd c (by decide), fun _ => ?_⟩
      exact hP _ ⟨L, Ld, Td, _, _, z6, ⟨rfl, rfl, ho.2.2⟩, rfl, hL, by rw [← s1.1]; exact hT, s1.2, nL, fun r hr => ⟨(hb r hr).1, fun _ => (hb r hr).2 hp⟩⟩
    · rw [fe]
      have kne : (L.getD k []).getD p 0 ≠ 0 := of_decide_eq_true kq
      have hk : lead? L p = some k := lead_fst kl kne fun j hj => by simpa using kz j hj
      have gk : L[k]? = some (L.getD k []) := by rw [List.getD_eq_getElem?_getD, List.getElem?_eq_getElem kl]; rfl
      have s1 := lsim (p := p) (d := d) (T := (est M p).1) rfl hE fun r hr => (hb r hr).1
      rw [← est_succ] at s1
      unfold lstep at s1
      dsimp only at s1
      rw [hk] at s1
      dsimp only at s1
      generalize er : L.getD k [] = r at *
      obtain ⟨hr1, hr2⟩ := hb r (List.mem_of_getElem? gk)
      obtain ⟨y, hy, ry⟩ := rws_ex hL gk
      walk_at "dl"
      refine ⟨fun _ => ?_, fun c => absurd c (by simp)⟩
      walk_at "dl"
      have ldl : Ld.length = L.length := hL.1
      have e1 : atI ((k :: t).map fun (i : Nat) => Dt.int (0 + (i : Int))) 0 = some (.int ((k : Nat) : Int)) := by
        have := atI_at (xs := (k :: t).map fun (i : Nat) => Dt.int (0 + (i : Int))) (i := 0) (x := .int (0 + (k : Int))) rfl
        rw [Int.zero_add] at this
        exact this
      have e2 : seqIndex? ((k : Nat) : Int) Ld.length = some k := by rw [seqIndex_of (by omega) (by omega), Int.toNat_natCast]
      rw [e1]
      dsimp only
      rw [e2]
      dsimp only
      rw [hy]
      dsimp only
      refine ⟨⟨by omega, by omega⟩, ?_⟩
      refine ⟨y, r, rfl, ry, ⟨by omega, (hr2 hp).mono (by decide)⟩, ?_⟩
      have pb : (prim r).length = d ∧ Bd 6449 (prim r) := ⟨by rw [prim_len]; exact hr1, prim_bd (hr2 hp)⟩
      have okl : (led (prim r) p).length = d ∧ Bd 6449 (led (prim r) p) := ⟨by rw [led_len]; exact pb.1, led_bd pb.2⟩
      have pne : (prim r).getD p 0 ≠ 0 := fun z => kne (prim_zero.mp z)
      rw [List.eraseIdx_eq_take_drop_succ]
      have rO : Rws (Ld.take k ++ Ld.drop (k + 1)) (L.take k ++ L.drop (k + 1)) := rws_app (rws_take hL) (rws_drop hL)
      have bO : ∀ r, r ∈ L.take k ++ L.drop (k + 1) → r.length = d ∧ Bd 6449 r := fun x hx => by
        have xm : x ∈ L := by
          rcases List.mem_append.mp hx with h | h
          · exact List.mem_of_mem_take h
          · exact List.mem_of_mem_drop h
        exact ⟨(hb x xm).1, (hb x xm).2 hp⟩
      have nO : (L.take k ++ L.drop (k + 1)).length ≤ L.length := by simp; omega
      walk_at "dl"
      refine ⟨fun ρ => ∃ w z5, z5.owned = false ∧ isRow w (led (prim r) p) ∧ ρ = [.val x, .val (.int (d : Int)), .own (Ld.take k ++ Ld.drop (k + 1)), .val (.lst Td), .val (.int ((p : Nat) : Int)), z5, .val w, .no, .no, .no], ?_, ?_⟩
      · walk_at "dl"
        refine row_ix (x := .lst (rwD (prim r))) (.inl rfl) (by omega) ?_
        walk_at "dl"
        refine ⟨fun c => ?_, fun c => ?_⟩
        · walk_at "dl"
          refine ⟨rfl, by rw [rwD_len]; omega, ?_⟩
          refine lc_map (f := fun n => .int (0 - n)) (fun i n R hn hR => ?_) ?_
          · walk_at "dl"
            exact hR
          · have e : (prim r).map (fun n => Dt.int (0 - n)) = rwD (led (prim r) p) := by
              unfold led
              rw [if_neg (by have := of_decide_eq_true c; omega)]
              unfold rwD
              rw [List.map_map]
              refine List.map_congr_left fun n _ => ?_
              show Dt.int (0 - n) = Dt.int (-n)
              rw [Int.zero_sub]
            rw [e]
            exact ⟨_, _, rfl, .inl rfl, rfl⟩
        · have e : led (prim r) p = prim r := if_pos (by have := of_decide_eq_false c; omega)
          rw [e]
          exact ⟨_, _, rfl, .inl rfl, rfl⟩
      · rintro ρ ⟨w, z5, ho5, hw, rfl⟩
        have clears : ∀ (N : List (List Int)) (x : Dt) (r' : List Int) (R : Dt → Prop), (∀ r, r ∈ N → r.length = d ∧ Bd 6449 r) → isRow x r' → r' ∈ N → (∀ y, isRow y (strk r' (led (prim r) p) p) → R y) → sd_law_clear [x, w, .int (p : Int)] R := fun N x r' R oN hx hr' h => ⟨x, w, r', led (prim r) p, p, 6449, rfl, hx, hw, ⟨by rw [(oN r' hr').1]; exact hp, by rw [(oN r' hr').1, okl.1], by rw [(oN r' hr').1]; omega⟩, ⟨(oN r' hr').2, okl.2, Nat.le_refl _⟩, h⟩
        have nO' := rO.1
        walk_at "dl"
        refine ⟨rfl, by omega, ?_⟩
        refine rws_map (strk · (led (prim r) p) p) rO (fun y r' R hy hr' h => ?_) fun O hO => ?_
        · walk_at "dl"
          exact clears _ y r' R bO hy hr' h
        walk_at "dl"
        refine ⟨rfl, by rw [hT.1]; omega, ?_⟩
        refine rws_map (strk · (led (prim r) p) p) hT (fun y r' R hy hr' h => ?_) fun T' hT' => ?_
        · walk_at "dl"
          exact clears _ y r' R oT hy hr' h
        walk_at "dl"
        refine ⟨Nat.le_of_ble_eq_true rfl, ?_⟩
        have nT' := hT'.1
        rw [List.length_map] at nT'
        walk_at "dl"
        refine ⟨by show T'.length + 1 ≤ _; omega, ?_⟩
        refine hP _ ⟨_, O, T' ++ [w], _, _, _, ⟨rfl, ho5, rfl⟩, rfl, hO, by rw [← s1.1]; exact rws_app hT' (rws_one hw), s1.2, by rw [List.length_map]; omega, fun r' hr' => ?_⟩
        by_cases c : p + 1 < d
        · have := strk_or bO okl.1 s1.2 (ok.left (p + 1) c) r' hr'
          exact ⟨this.1, fun _ => this.2⟩
        · obtain ⟨x', hx', rfl⟩ := List.mem_map.mp hr'
          exact ⟨by rw [strk_len (by rw [(bO x' hx').1, okl.1])]; exact (bO x' hx').1, fun z => absurd z c⟩
  · rintro ρ ⟨L, Ld, Td, z4, z5, z6, ho, rfl, hL, hT, _⟩
    walk_at "dl"
    have nT := est_len1 M d
    refine ⟨rfl, by rw [hT.1]; omega, ?_⟩
    refine lc_inv (fun i acc => acc = mD ((ech d M).take i)) rfl (fun i y acc R hy e hR => ?_) fun acc e => ?_
    · obtain ⟨r, hr, ry⟩ := hT.2 i y hy
      walk_at "dl"
      refine row_seq ry (hR _ ?_)
      have g : (ech d M)[i]? = some r := hr
      rw [e, take_succ_get g]
      unfold mD
      rw [List.map_append]
      rfl
    · subst e
      rw [hT.1]
      have e : (ech d M).take (est M d).1.length = ech d M := List.take_length
      rw [e]
      exact q
abbrev sp_law_told (K : PySem.W.Frag) : Sp := spD K sd_law_told
theorem pure_law_told {K : PySem.W.Frag} (vs : List V) (H : Hp) (Q : VK) (E : XK) (h : sp_law_told K vs H Q E) : t_law_told K { nx := fun _ H' => Q .non H', rt := Q } (L2.start N_law_told vs) H := fnD (Jx := fun _ _ _ _ => False) (r_law_told) h pd_law_told

end
section

/-! ### the law's zeros, meets -/
def lprod (T : List (List Int)) : Int := T.foldl (fun s r => s * r.getD (leadp r) 0) 1
theorem lprod_snoc (T : List (List Int)) (r : List Int) : lprod (T ++ [r]) = lprod T * r.getD (leadp r) 0 := by
  unfold lprod
  rw [List.foldl_append]
  rfl
theorem lprod_bd {b : Nat} : ∀ (T : List (List Int)) (i : Nat), (∀ r, r ∈ T → Bd b r) → i ≤ T.length → (lprod (T.take i)).natAbs < 2 ^ (b * i + 1)
  | T, 0, _, _ => by
    rw [List.take_zero]
    show (1 : Int).natAbs < 2 ^ (b * 0 + 1)
    rw [Nat.mul_zero]
    decide
  | T, i + 1, h, hi => by
    have ih := lprod_bd T i h (by omega)
    have hr : T[i]? = some T[i] := List.getElem?_eq_getElem (by omega)
    rw [take_succ_get hr, lprod_snoc]
    have := wide_lt ih (getD_bd (p := leadp T[i]) (h T[i] (List.getElem_mem _)))
    rw [show b * (i + 1) + 1 = b * i + 1 + b by rw [Nat.mul_succ]; omega]
    exact this
/-- the law's row at a free place, the first k rows used -/
def zrow (d : Nat) (T : List (List Int)) (f : Nat) : Nat → List Int
  | 0 => (List.replicate d 0).set f (lprod T)
  | k + 1 => (zrow d T f k).set (leadp (T.getD k [])) (0 - (T.getD k []).getD f 0 * (lprod T).fdiv ((T.getD k []).getD (leadp (T.getD k [])) 0))
theorem zrow_len (d : Nat) (T : List (List Int)) (f : Nat) : ∀ k, (zrow d T f k).length = d
  | 0 => by
    show ((List.replicate d 0).set f (lprod T)).length = d
    rw [List.length_set, List.length_replicate]
  | k + 1 => by
    show ((zrow d T f k).set _ _).length = d
    rw [List.length_set, zrow_len d T f k]
def zeros (d : Nat) (T : List (List Int)) : List (List Int) := (frees d T).map fun f => zrow d T f T.length
structure ZerOk (d : Nat) (T : List (List Int)) : Prop where
  sol : SolOk d T
  few : T.length ≤ 10
  ech : EchOk d (zeros d T)
  raw : Okr d 6449 (zeros d T)
def sd_law_zeros : DSp := fun ds Q => ∃ d T, ds = [.tup (mD T), .int ((d : Nat) : Int)] ∧ ZerOk d T ∧ Q (.tup (mD (ech d (zeros d T))))
abbrev N_law_zeros : List Str := ["base", "d", "leads", "many", "found", "row", "col", "x", "k"]
def t_law_zeros (K : PySem.W.Frag) : TS :=
  (tSeq (tPar3 2 3 4 (tCons (tLst tNil) (tCons (tC (.int 1)) (tCons (tLst tNil) tNil))))
    (tSeq (tFor (iSq K (tVar 0)) (gName 5)
    (tSeq (tDrop (tBM K "list" rAppend (tVar 2) (tCons (tOp (rIx K) (tLc (iRng1 (tCons (tVar 1) tNil)) (gName 8) (tTest (tOp (rNeU K) (tOp (rIx K) (tVar 5) (tVar 8)) (tC (.int 0)))) (tVar 8) [8]) (tC (.int 0))) tNil)))
    (tAsg (tOp rMulU (tVar 3) (tOp (rIx K) (tVar 5) (tOp (rIx K) (tVar 2) (tUn rNegI (tC (.int 1)))))) (gName 3))))
    (tSeq (tFor (iRng1 (tCons (tVar 1) tNil)) (gName 6)
    (tIfS (tTest (tOp (rNInU K) (tVar 6) (tVar 2))) (tSeq (tAsg (tLc (iRng1 (tCons (tVar 1) tNil)) (gName 8) tYes (tC (.int 0)) [8]) (gName 7))
    (tSeq (tAsg (tVar 3) (gSub (tVar 7) (tVar 6) rSetL))
    (tSeq (tFor (iRng1 (tCons (tCB (rLenU K) (tCons (tVar 0) tNil)) tNil)) (gName 8)
    (tAsg (tOp rSubI (tC (.int 0)) (tOp rMulU (tOp (rIx K) (tOp (rIx K) (tVar 0) (tVar 8)) (tVar 6)) (tOp rDivV (tVar 3) (tOp (rIx K) (tOp (rIx K) (tVar 0) (tVar 8)) (tOp (rIx K) (tVar 2) (tVar 8)))))) (gSub (tVar 7) (tOp (rIx K) (tVar 2) (tVar 8)) rSetL)))
    (tDrop (tBM K "list" rAppend (tVar 4) (tCons (tVar 7) tNil)))))) tNext))
    (tRet (tCall (sp_law_told K) [] E0 (tCons (tVar 4) (tCons (tVar 1) tNil)))))))
def a_law_zeros : DS :=
  (dSeq (dPar [2, 3, 4] (pOwn (fLst dNil) (pVal (dC (.int 1)) (pOwn (fLst dNil) pNil))))
    (dSeq (dFor (jSq (dVar 0)) (gN 5)
    (dSeq (dAppend 2 (dOp oIx (dLc (jRng1 (dCons (dRd 1) dNil)) (gN 8) (dTest (dOp oNe (dOp oIx (dRd 5) (dRd 8)) (dC (.int 0)))) (dVar 8) [8]) (dC (.int 0))))
    (dAsg (dOp oMul (dRd 3) (dOp oIx (dRd 5) (dOp oIx (dRd 2) (dUn uNeg (dC (.int 1)))))) (gN 3))))
    (dSeq (dFor (jRng1 (dCons (dRd 1) dNil)) (gN 6)
    (dIfS (dTest (dOp oNin (dRd 6) (dRd 2))) (dSeq (dOwn 7 (fLc (jRng1 (dCons (dRd 1) dNil)) (gN 8) dYes (dC (.int 0)) [8]))
    (dSeq (dAsg (dVar 3) (gSet 7 (dVar 6)))
    (dSeq (dFor (jRng1 (dCons (dCB (c1 uLen) (dCons (dRd 0) dNil)) dNil)) (gN 8)
    (dAsg (dOp oSub (dC (.int 0)) (dOp oMul (dOp oIx (dOp oIx (dRd 0) (dRd 8)) (dRd 6)) (dOp oDivv (dRd 3) (dOp oIx (dOp oIx (dRd 0) (dRd 8)) (dOp oIx (dRd 2) (dRd 8)))))) (gSet 7 (dOp oIx (dRd 2) (dRd 8)))))
    (dFrz 7 (dAppend 4 (dVar 7)))))) dNext))
    (dFrz 4 (dRet (dCall sd_law_told (dCons (dVar 4) (dCons (dVar 1) dNil))))))))
theorem r_law_zeros {K : PySem.W.Frag} {Jx : WX} {Xd : XD} : RefS K Jx Xd (t_law_zeros K) a_law_zeros :=
  (rSeq (rPar3 (rpOwn (rfLst rNil) (rpVal (rInt 1) (rpOwn (rfLst rNil) rpNil))))
    (rSeq (rFor (riSq (rVar 0)) (rgN 5)
    (rSeq (rAppend' 2 (rOp foIx (RefE.b (rLc (RefI.j (riRng1 (rConsX (rRd 1) rNilX))) (rcN 8 (by decide)) (rTest (rOp foNe (RefE.b (rOp foIx (rRd 5) (rRd 8))) (RefE.b (rInt 0)))) (rVar 8))) (RefE.b (rInt 0))))
    (rAsg (rOp foMul (rRd 3) (RefE.b (rOp foIx (rRd 5) (RefE.b (rOp foIx (rRd 2) (RefE.b (rUn fuNeg (RefE.b (rInt 1))))))))) (rgN 3))))
    (rSeq (rFor (riRng1 (rConsX (rRd 1) rNilX)) (rgN 6)
    (rIfS (rTest (rOp foNin (rRd 6) (rRd 2))) (rSeq (rOwn 7 (rfLc (RefI.j (riRng1 (rConsX (rRd 1) rNilX))) (rcN 8 (by decide)) rYes (rInt 0)))
    (rSeq (rAsg (rVar 3) (rgSet 7 (rVar 6)))
    (rSeq (rFor (riRng1 (rConsX (RefE.b (rCB fcLen (rConsX (rRd 0) rNilX))) rNilX)) (rgN 8)
    (rAsg (rOp foSub (RefE.b (rInt 0)) (RefE.b (rOp foMul (RefE.b (rOp foIx (RefE.b (rOp foIx (rRd 0) (rRd 8))) (rRd 6))) (RefE.b (rOp foDivv (rRd 3) (RefE.b (rOp foIx (RefE.b (rOp foIx (rRd 0) (rRd 8))) (RefE.b (rOp foIx (rRd 2) (rRd 8)))))))))) (rgSet 7 (rOp foIx (rRd 2) (rRd 8)))))
    (rFrz 7 (rAppend' 4 (rVar 7)))))) rNext))
    (rFrz 4 (rRet (rCall (fun _ _ _ h => h) (rCons (rVar 4) (rCons (rVar 1) rNil))))))))
theorem atI_last {α : Type} {l : List α} {x : α} : atI (l ++ [x]) (-1) = some x := by
  unfold atI ixN
  rw [if_neg (by omega), if_pos (by rw [List.length_append]; show -((l.length + 1 : Nat) : Int) ≤ -1; omega), Option.bind_some]
  have e : (-1 + (((l ++ [x]).length : Nat) : Int)).toNat = l.length := by
    rw [List.length_append]
    show (-1 + ((l.length + 1 : Nat) : Int)).toNat = l.length
    omega
  rw [e]
  simp
theorem fst_lead {r : List Int} (h : leadp r < r.length) : ∃ t, (List.range r.length).filter (fun k => decide (r.getD k 0 ≠ 0)) = leadp r :: t := by
  rcases first_in r.length fun k => decide (r.getD k 0 ≠ 0) with ⟨fe, fz⟩ | ⟨k, t, fe, kl, kq, kz⟩
  · have := fz _ h
    exact absurd (leadp_ne h) (by simpa using this)
  · have e : leadp r = k := leadp_at (getD_of kl) (fun m hm => by
      obtain ⟨j, hj⟩ := List.getElem?_of_mem hm
      have jl : j < k := by
        have := (List.getElem?_eq_some_iff.mp hj).1
        simp at this
        omega
      rw [List.getElem?_take_of_lt jl] at hj
      have z := kz j jl
      rw [List.getD_eq_getElem?_getD, hj] at z
      simpa using z) (of_decide_eq_true kq)
    exact ⟨t, by rw [e]; exact fe⟩
theorem set_rw {r : List Int} {i : Nat} {n : Int} : (rwD r).set i (.int n) = rwD (r.set i n) := (List.map_set ..).symm
theorem pd_law_zeros (ds : List Dt) (Qd : Dt → Prop) (h : sd_law_zeros ds Qd) : ds.length ≤ N_law_zeros.length ∧ a_law_zeros ⟨fun _ => Qd .non, Qd, fun _ => False, fun _ => False⟩ (vals ds ++ List.replicate (N_law_zeros.length - ds.length) .no) := by
  obtain ⟨d, T, rfl, ok, q⟩ := h
  refine ⟨Nat.le_of_ble_eq_true rfl, ?_⟩
  have dle := ok.sol.dle
  have few := ok.few
  have ll := ok.sol.len
  walk_at "dl"
  refine ⟨Nat.zero_le _, Nat.zero_le _, rfl, ?_⟩
  walk_at "dl"
  refine for_map (xs := T) (enc := fun r => .tup (rwD r)) (fun i ρ => ∃ z5, z5.owned = false ∧ ρ = [.val (.tup (mD T)), .val (.int (d : Int)), .own ((T.take i).map fun l => .int ((leadp l : Nat) : Int)), .val (.int (lprod (T.take i))), .own [], z5, .no, .no, .no]) ⟨_, rfl, rfl⟩ ?_ ?_
  · rintro i r ρ P hr ⟨z5, ho, rfl⟩ hP
    have rm := List.mem_of_getElem? hr
    obtain ⟨a1, a2, a3⟩ := ok.sol.ldd r rm
    have rl := ll r rm
    have il := (List.getElem?_eq_some_iff.mp hr).1
    walk_at "dl"
    refine ⟨rfl, ⟨by omega, by omega⟩, ?_⟩
    unfold rngD
    refine ⟨by rw [List.length_map, List.length_range]; omega, ?_⟩
    refine lc_keep (f := fun (i : Nat) => .int (0 + (i : Int))) (p := fun k => decide (r.getD k 0 ≠ 0)) (fun i k R R' hk h1 h2 => ?_) ?_
    · have kl : k < d := by
        have il := (List.getElem?_eq_some_iff.mp hk).1
        rw [List.length_range] at il
        rw [List.getElem?_range il] at hk
        cases hk
        omega
      walk_at "dl"
      rw [Int.zero_add]
      refine row_ix (.inr rfl) (by omega) ?_
      walk_at "dl"
      cases c : decide (r.getD k 0 = 0) with
      | true => exact h2 (by rw [decide_eq_false_iff_not]; exact fun z => z (of_decide_eq_true c))
      | false =>
        have := h1 (by rw [decide_eq_true_iff]; exact of_decide_eq_false c)
        rw [Int.zero_add] at this
        exact this
    rw [Int.toNat_natCast]
    obtain ⟨t, ht⟩ := fst_lead a1
    rw [rl] at ht
    rw [ht]
    have ln : ((T.take i).map fun l => Dt.int ((leadp l : Nat) : Int)).length < 16777216 := by
      rw [List.length_map, List.length_take]
      omega
    have e1 : atI ((leadp r :: t).map fun (i : Nat) => Dt.int (0 + (i : Int))) 0 = some (.int ((leadp r : Nat) : Int)) := by
      have := atI_at (xs := (leadp r :: t).map fun (i : Nat) => Dt.int (0 + (i : Int))) (i := 0) (x := .int (0 + ((leadp r : Nat) : Int))) rfl
      rw [Int.zero_add] at this
      exact this
    walk_at "dl"
    rw [e1]
    dsimp only
    refine ⟨ln, ?_⟩
    walk_at "dl"
    rw [atI_last]
    dsimp only
    refine row_ix (.inr rfl) a1 ?_
    have b1 := lprod_bd (b := 8999) T i (fun r hr => (ok.sol.ldd r hr).2.2) (by omega)
    have b2 : (r.getD (leadp r) 0).natAbs < 2 ^ 8999 := getD_bd a3
    have b3 : 8999 * i + 1 ≤ 100000 := by omega
    walk_at "dl"
    refine ⟨cmul_bd b1 b2 b3 (by omega), ?_⟩
    refine hP _ ⟨.val (.tup (rwD r)), rfl, ?_⟩
    rw [take_succ_get hr, lprod_snoc, List.map_append]
    rfl
  · rintro ρ ⟨z5, ho, rfl⟩
    rw [List.take_length]
    have el : T.map (fun l => Dt.int ((leadp l : Nat) : Int)) = rwD (T.map fun l => ((leadp l : Nat) : Int)) := by
      unfold rwD
      rw [List.map_map]
      rfl
    rw [el]
    walk_at "dl"
    refine ⟨⟨by omega, by omega⟩, ?_⟩
    rw [Int.toNat_natCast]
    refine for_rng (lo := 0) (n := d) (fun p ρ => ∃ z6 z7 z8, (z6.owned = false ∧ z7.owned = false ∧ z8.owned = false) ∧ ρ = [.val (.tup (mD T)), .val (.int (d : Int)), .own (rwD (T.map fun l => ((leadp l : Nat) : Int))), .val (.int (lprod T)), .own ((((List.range p).filter fun p => !(T.any fun l => decide (leadp l = p))).map fun f => Dt.lst (rwD (zrow d T f T.length)))), z5, z6, z7, z8]) ⟨_, _, _, ⟨rfl, rfl, rfl⟩, rfl⟩ ?_ ?_
    · rintro f ρ P hf ⟨z6, z7, z8, ho, rfl⟩ hP
      rw [Int.zero_add]
      have e : ((T.map fun l => ((leadp l : Nat) : Int)).any fun n => decide (n = ((f : Nat) : Int))) = T.any fun l => decide (leadp l = f) := by
        rw [List.any_map]
        congr 1
        funext l
        show decide (((leadp l : Nat) : Int) = ((f : Nat) : Int)) = decide (leadp l = f)
        rw [decide_eq_decide]
        omega
      walk_at "dl"
      refine in_ints (Q := fun b => ((!b) = true → _) ∧ ((!b) = false → _)) ?_
      rw [e]
      have fs : (List.range (f + 1)).filter (fun p => !(T.any fun l => decide (leadp l = p))) = (List.range f).filter (fun p => !(T.any fun l => decide (leadp l = p))) ++ if (!(T.any fun l => decide (leadp l = f))) = true then [f] else [] := by
        rw [List.range_succ, List.filter_append]
        congr 1
        rw [List.filter_cons, List.filter_nil]
      refine ⟨fun c => ?_, fun c => ?_⟩
      · rw [if_pos c] at fs
        walk_at "dl"
        refine ⟨by show (!z8.owned && true) = true; rw [ho.2.2]; rfl, ⟨by omega, by omega⟩, ?_⟩
        unfold rngD
        refine ⟨by rw [List.length_map, List.length_range]; omega, ?_⟩
        refine lc_map (f := fun (i : Nat) => .int 0) (fun i k R hk hR => ?_) ?_
        · walk_at "dl"
          exact hR
        rw [Int.toNat_natCast]
        have e0 : (List.range d).map (fun (i : Nat) => Dt.int 0) = rwD (List.replicate d 0) := by
          rw [rwD_rep]
          refine List.eq_replicate_iff.mpr ⟨by rw [List.length_map, List.length_range], fun b hb => ?_⟩
          obtain ⟨_, _, rfl⟩ := List.mem_map.mp hb
          rfl
        rw [e0]
        have ixn : ∀ {n k : Nat}, k < n → ixN n ((k : Nat) : Int) = some k := fun {n k} h => by
          unfold ixN
          rw [if_pos (by omega), if_pos (by omega), Int.toNat_natCast]
        have i1 : ixN (rwD (List.replicate d 0)).length ((f : Nat) : Int) = some f := ixn (by rw [rwD_len, List.length_replicate]; exact hf)
        walk_at "dl"
        rw [i1]
        dsimp only
        rw [set_rw]
        walk_at "dl"
        have ml : (mD T).length = T.length := List.length_map ..
        rw [ml]
        refine ⟨⟨by omega, by omega⟩, ?_⟩
        rw [Int.toNat_natCast]
        refine for_rng (lo := 0) (n := T.length) (fun k ρ => ∃ w8, w8.owned = false ∧ ρ = [.val (.tup (mD T)), .val (.int (d : Int)), .own (rwD (T.map fun l => ((leadp l : Nat) : Int))), .val (.int (lprod T)), .own ((((List.range f).filter fun p => !(T.any fun l => decide (leadp l = p))).map fun f => Dt.lst (rwD (zrow d T f T.length)))), z5, .val (.int ((f : Nat) : Int)), .own (rwD (zrow d T f k)), w8]) ⟨_, ho.2.2, rfl⟩ ?_ ?_
        · rintro k ρ P' hk ⟨w8, hw8, rfl⟩ hP'
          rw [Int.zero_add]
          have hr : T[k]? = some (T.getD k []) := by rw [List.getD_eq_getElem?_getD, List.getElem?_eq_getElem hk]; rfl
          generalize er : T.getD k [] = r at hr
          have rm := List.mem_of_getElem? hr
          obtain ⟨a1, a2, a3⟩ := ok.sol.ldd r rm
          have rl := ll r rm
          have lk : (T.map fun l => ((leadp l : Nat) : Int)).getD k 0 = ((leadp r : Nat) : Int) := by rw [List.getD_eq_getElem?_getD, List.getElem?_map, hr]; rfl
          walk_at "dl"
          refine mat_ix (M := T) (k := k) ⟨mD T, .inr rfl, rws_tups⟩ hr fun y hy => ?_
          walk_at "dl"
          refine row_ix hy (by omega) ?_
          walk_at "dl"
          refine mat_ix (M := T) (k := k) ⟨mD T, .inr rfl, rws_tups⟩ hr fun y2 hy2 => ?_
          walk_at "dl"
          refine row_ix (x := .lst (rwD (T.map fun l => ((leadp l : Nat) : Int)))) (r := T.map fun l => ((leadp l : Nat) : Int)) (.inl rfl) (by rw [List.length_map]; exact hk) ?_
          rw [lk]
          walk_at "dl"
          refine row_ix hy2 a1 ?_
          walk_at "dl"
          have b1 := lprod_bd (b := 8999) T T.length (fun r hr => (ok.sol.ldd r hr).2.2) (Nat.le_refl _)
          rw [List.take_length] at b1
          have b2 : (r.getD (leadp r) 0).natAbs < 2 ^ 8999 := getD_bd a3
          have b4 : (r.getD f 0).natAbs < 2 ^ 8999 := getD_bd a3
          have b3 : 8999 * T.length + 1 ≤ 100000 := by omega
          refine ⟨⟨leadp_ne a1, .inl (log2_bd b2 (Nat.le_refl _))⟩, ?_⟩
          walk_at "dl"
          refine ⟨cmul_bd b4 (Nat.lt_of_le_of_lt (Int.natAbs_fdiv_le_natAbs _ _) b1) (by omega) b3, ?_⟩
          walk_at "dl"
          refine row_ix (x := .lst (rwD (T.map fun l => ((leadp l : Nat) : Int)))) (r := T.map fun l => ((leadp l : Nat) : Int)) (.inl rfl) (by rw [List.length_map]; exact hk) ?_
          rw [lk]
          have i2 : ixN (rwD (zrow d T f k)).length ((leadp r : Nat) : Int) = some (leadp r) := ixn (by rw [rwD_len, zrow_len]; omega)
          walk_at "dl"
          rw [i2]
          dsimp only
          rw [set_rw]
          have ez : zrow d T f (k + 1) = (zrow d T f k).set (leadp r) (0 - r.getD f 0 * (lprod T).fdiv (r.getD (leadp r) 0)) := by
            show (zrow d T f k).set (leadp (T.getD k [])) _ = _
            rw [er]
          rw [← ez]
          exact hP' _ ⟨_, rfl, rfl⟩
        · rintro ρ ⟨w8, hw8, rfl⟩
          walk_at "dl"
          refine ⟨?_, ?_⟩
          · rw [List.length_map]
            have := List.length_filter_le (fun p => !(T.any fun l => decide (leadp l = p))) (List.range f)
            rw [List.length_range] at this
            omega
          have em : (((List.range (f + 1)).filter fun p => !(T.any fun l => decide (leadp l = p))).map fun f => Dt.lst (rwD (zrow d T f T.length))) = (((List.range f).filter fun p => !(T.any fun l => decide (leadp l = p))).map fun f => Dt.lst (rwD (zrow d T f T.length))) ++ [Dt.lst (rwD (zrow d T f T.length))] := by
            rw [fs, List.map_append]
            rfl
          rw [em] at hP
          exact hP _ ⟨_, _, _, ⟨rfl, rfl, hw8⟩, rfl⟩
      · rw [if_neg (by rw [c]; exact Bool.false_ne_true), List.append_nil] at fs
        rw [fs] at hP
        exact hP _ ⟨.val (.int ((f : Nat) : Int)), z7, z8, ⟨rfl, ho.2⟩, rfl⟩
    · rintro ρ ⟨z6, z7, z8, ho, rfl⟩
      walk_at "dl"
      refine ⟨d, _, zeros d T, rfl, ⟨_, .inl rfl, ?_⟩, ⟨ok.ech, ok.raw⟩, q⟩
      refine ⟨by unfold zeros frees; rw [List.length_map, List.length_map], fun i x hx => ?_⟩
      rw [List.getElem?_map] at hx
      unfold zeros frees
      rw [List.getElem?_map]
      cases e : ((List.range d).filter fun p => !(T.any fun l => decide (leadp l = p)))[i]? with
      | none => rw [e] at hx; cases hx
      | some f => rw [e] at hx; exact ⟨_, rfl, .inl (Option.some.inj hx).symm⟩
abbrev sp_law_zeros (K : PySem.W.Frag) : Sp := spD K sd_law_zeros
theorem pure_law_zeros {K : PySem.W.Frag} (vs : List V) (H : Hp) (Q : VK) (E : XK) (h : sp_law_zeros K vs H Q E) : t_law_zeros K { nx := fun _ H' => Q .non H', rt := Q } (L2.start N_law_zeros vs) H := fnD (Jx := fun _ _ _ _ => False) (r_law_zeros) h pd_law_zeros

end
section

/-! ### the law's meets, texts -/
def lmeet (d : Nat) (A B : List (List Int)) : List (List Int) := ech d (zeros d (ech d (ech d (zeros d A) ++ ech d (zeros d B))))
structure LMeetOk (d : Nat) (A B : List (List Int)) : Prop where
  one : ZerOk d A
  two : ZerOk d B
  all : EchOk d (ech d (zeros d A) ++ ech d (zeros d B))
  raw : Okr d 6449 (ech d (zeros d A) ++ ech d (zeros d B))
  fin : ZerOk d (ech d (ech d (zeros d A) ++ ech d (zeros d B)))
def sd_law_meet : DSp := fun ds Q => ∃ d A B, ds = [.tup (mD A), .tup (mD B), .int ((d : Nat) : Int)] ∧ LMeetOk d A B ∧ Q (.tup (mD (lmeet d A B)))
abbrev N_law_meet : List Str := ["one", "two", "d"]
def t_law_meet (K : PySem.W.Frag) : TS :=
  (tRet (tCall (sp_law_zeros K) [] E0 (tCons (tCall (sp_law_told K) [] E0 (tCons (tOp (rAddV K) (tCall (sp_law_zeros K) [] E0 (tCons (tVar 0) (tCons (tVar 2) tNil))) (tCall (sp_law_zeros K) [] E0 (tCons (tVar 1) (tCons (tVar 2) tNil)))) (tCons (tVar 2) tNil))) (tCons (tVar 2) tNil))))
def a_law_meet : DS :=
  (dRet (dCall sd_law_zeros (dCons (dCall sd_law_told (dCons (dOp oAddV (dCall sd_law_zeros (dCons (dVar 0) (dCons (dVar 2) dNil))) (dCall sd_law_zeros (dCons (dVar 1) (dCons (dVar 2) dNil)))) (dCons (dVar 2) dNil))) (dCons (dVar 2) dNil))))
theorem r_law_meet {K : PySem.W.Frag} {Jx : WX} {Xd : XD} : RefS K Jx Xd (t_law_meet K) a_law_meet :=
  (rRet (rCall (fun _ _ _ h => h) (rCons (rCall (fun _ _ _ h => h) (rCons (rOp foAddV (RefE.b (rCall (fun _ _ _ h => h) (rCons (rVar 0) (rCons (rVar 2) rNil)))) (RefE.b (rCall (fun _ _ _ h => h) (rCons (rVar 1) (rCons (rVar 2) rNil))))) (rCons (rVar 2) rNil))) (rCons (rVar 2) rNil))))
theorem mD_len (T : List (List Int)) : (mD T).length = T.length := List.length_map ..
theorem pd_law_meet (ds : List Dt) (Qd : Dt → Prop) (h : sd_law_meet ds Qd) : ds.length ≤ N_law_meet.length ∧ a_law_meet ⟨fun _ => Qd .non, Qd, fun _ => False, fun _ => False⟩ (vals ds ++ List.replicate (N_law_meet.length - ds.length) .no) := by
  obtain ⟨d, A, B, rfl, ok, q⟩ := h
  refine ⟨Nat.le_of_ble_eq_true rfl, ?_⟩
  walk_at "dl"
  refine ⟨d, A, rfl, ok.one, ?_⟩
  walk_at "dl"
  refine ⟨d, B, rfl, ok.two, ?_⟩
  have l1 := ech_len d (zeros d A)
  have l2 := ech_len d (zeros d B)
  have dle := ok.one.sol.dle
  walk_at "dl"
  refine ⟨by rw [mD_len, mD_len]; omega, ?_⟩
  walk_at "dl"
  refine ⟨d, _, ech d (zeros d A) ++ ech d (zeros d B), rfl, ⟨mD (ech d (zeros d A) ++ ech d (zeros d B)), .inr (by unfold mD; rw [List.map_append]), rws_tups⟩, ⟨ok.all, ok.raw⟩, ?_⟩
  exact ⟨d, _, rfl, ok.fin, q⟩
abbrev sp_law_meet (K : PySem.W.Frag) : Sp := spD K sd_law_meet
theorem pure_law_meet {K : PySem.W.Frag} (vs : List V) (H : Hp) (Q : VK) (E : XK) (h : sp_law_meet K vs H Q E) : t_law_meet K { nx := fun _ H' => Q .non H', rt := Q } (L2.start N_law_meet vs) H := fnD (Jx := fun _ _ _ _ => False) (r_law_meet) h pd_law_meet
def sd_law_rows_text : DSp := fun ds Q => ∃ T, ds = [.tup (mD T)] ∧ SayM T ∧ Q (.str (rowsTxt T))
abbrev N_law_rows_text : List Str := ["base", "row", "x"]
def t_law_rows_text (K : PySem.W.Frag) : TS :=
  (tRet (tIf (tTruth K (tVar 0)) (tM1 (rJoinL K) (tC (.str " , ")) (tLc (iSq K (tVar 0)) (gName 1) tYes (tM1 (rJoinL K) (tC (.str " ")) (tLc (iSq K (tVar 1)) (gName 2) tYes (tCB rStr (tCons (tVar 2) tNil)) [2])) [1])) (tC (.str "none"))))
def a_law_rows_text : DS :=
  (dRet (dIf (dTruth (dRd 0)) (dJoin (dC (.str " , ")) (dLc (jSq (dRd 0)) (gN 1) dYes (dJoin (dC (.str " ")) (dLc (jSq (dRd 1)) (gN 2) dYes (dCB (c1 uStr) (dCons (dRd 2) dNil)) [2])) [1])) (dC (.str "none"))))
theorem r_law_rows_text {K : PySem.W.Frag} {Jx : WX} {Xd : XD} : RefS K Jx Xd (t_law_rows_text K) a_law_rows_text :=
  (rRet (rIf (rTruth (rRd 0)) (rJoin (rStr' " , ") (RefE.b (rLc (rjSq (rRd 0)) (rcN 1 (by decide)) rYes (rJoin (rStr' " ") (RefE.b (rLc (rjSq (rRd 1)) (rcN 2 (by decide)) rYes (rCB fcStr (rConsX (rRd 2) rNilX)))))))) (rStr' "none")))
theorem pd_law_rows_text (ds : List Dt) (Qd : Dt → Prop) (h : sd_law_rows_text ds Qd) : ds.length ≤ N_law_rows_text.length ∧ a_law_rows_text ⟨fun _ => Qd .non, Qd, fun _ => False, fun _ => False⟩ (vals ds ++ List.replicate (N_law_rows_text.length - ds.length) .no) := by
  obtain ⟨M, rfl, ⟨hl, hs, hM⟩, q⟩ := h
  refine ⟨Nat.le_of_ble_eq_true rfl, ?_⟩
  walk_at "dl"
  cases M with
  | nil =>
    refine ⟨fun c => absurd c Bool.false_ne_true, fun _ => ?_⟩
    exact q
  | cons r0 M0 =>
    have e : rowsTxt (r0 :: M0) = Txt.join " , " ((r0 :: M0).map rowTxt) := if_neg (by simp)
    rw [e] at q
    refine ⟨fun _ => ?_, fun c => absurd c.symm Bool.false_ne_true⟩
    generalize r0 :: M0 = M at hl hs hM q
    walk_at "dl"
    refine ⟨rfl, by rw [List.length_map]; omega, ?_⟩
    refine lc_map (f := fun r => .str (rowTxt r)) (fun i r R hr hR => ?_) ?_
    · have hr' := hM r (List.mem_of_getElem? hr)
      have rl := hr'.1
      walk_at "dl"
      refine ⟨rfl, by rw [List.length_map]; omega, ?_⟩
      refine lc_map (f := fun (n : Int) => .str (Str.ofString (toString n))) (fun i n R hn hR => ?_) ?_
      · walk_at "dl"
        exact ⟨hr'.2 n (List.mem_of_getElem? hn), hR⟩
      · refine ⟨r.map fun (n : Int) => Str.ofString (toString n), .inl (by rw [List.map_map]; rfl), ?_, hR⟩
        have := row_sum hr'
        rw [List.length_map]
        show _ + r.length * 1 ≤ _
        omega
    · refine ⟨M.map rowTxt, .inl (by rw [List.map_map]; rfl), ?_, q⟩
      refine Nat.le_trans (Nat.le_of_eq ?_) hs
      rw [List.length_map, show (Str.ofString " , ").length = 3 from rfl, List.map_map]
      clear hl hs hM q
      induction M with
      | nil => rfl
      | cons r M ih =>
        rw [List.map_cons, List.sum_cons, List.map_cons, List.sum_cons, List.length_cons, ← ih]
        show (rowTxt r).length + _ + _ = _
        omega
abbrev sp_law_rows_text (K : PySem.W.Frag) : Sp := spD K sd_law_rows_text
theorem pure_law_rows_text {K : PySem.W.Frag} (vs : List V) (H : Hp) (Q : VK) (E : XK) (h : sp_law_rows_text K vs H Q E) : t_law_rows_text K { nx := fun _ H' => Q .non H', rt := Q } (L2.start N_law_rows_text vs) H := fnD (Jx := fun _ _ _ _ => False) (r_law_rows_text) h pd_law_rows_text
mutual
theorem free_pyD : ∀ d : Dt, dictFree (pyD d) = true
  | .non => rfl
  | .bl _ => rfl
  | .int _ => rfl
  | .str _ => rfl
  | .ty _ => rfl
  | .cls _ => rfl
  | .bag => rfl
  | .lst l => free_pyAll l
  | .tup l => free_pyAll l
  | .obj _ _ => rfl
  | .err _ _ => rfl
  | .dk _ => rfl
theorem free_pyAll : ∀ l : List Dt, dictFreeAll (pyAll l) = true
  | [] => rfl
  | d :: r => by
    show (dictFree (pyD d) && dictFreeAll (pyAll r)) = true
    rw [free_pyD d, free_pyAll r]
    rfl
end
theorem like_same {n : Nat} {x : Dt} {Qd : Dt → Prop} (p : plain x = true) (f : fit n (pyD x)) (q : Qd (.bl true)) : sd_law_like n [x, x] Qd := ⟨⟨p, p, f⟩, by
  have e : like (pyD x) (pyD x) = true := like_refl _ (fun kvs z => by cases x <;> cases z) (free_pyD x)
  rw [e]
  exact q⟩
def wholeL (d : Nat) (T : List (List Int)) : Dt := .lst [.int (d : Int), .lst (mD T), .str (rowsTxt T)]
theorem fit_whole {d : Nat} {T : List (List Int)} (hl : T.length ≤ 1000) (hr : ∀ r, r ∈ T → r.length ≤ 1000) : fit 12 (pyD (wholeL d T)) := by
  refine ⟨Nat.le_of_ble_eq_true rfl, fun x hx => ?_⟩
  have hx' : x ∈ [PyData.int (d : Int), .list (pyAll (mD T)), .str (rowsTxt T)] := hx
  simp only [List.mem_cons, List.not_mem_nil, or_false] at hx'
  rcases hx' with rfl | rfl | rfl
  · trivial
  · rw [pyAll_mD]
    refine ⟨by rw [List.length_map]; omega, fun y hy => ?_⟩
    obtain ⟨r, hm, rfl⟩ := List.mem_map.mp hy
    refine ⟨by rw [List.length_map]; have := hr r hm; omega, fun z hz => ?_⟩
    obtain ⟨n, _, rfl⟩ := List.mem_map.mp hz
    trivial
  · trivial
def sd_law_is_whole : DSp := fun ds Q => ∃ d T, ds = [wD d T, .int ((d : Nat) : Int), .tup (mD T)] ∧ SayM T ∧ Q (.bl true)
abbrev N_law_is_whole : List Str := ["told", "d", "base"]
def t_law_is_whole (K : PySem.W.Frag) : TS :=
  (tRet (tAndV (tCB (rIsiU K) (tCons (tVar 0) (tCons (tC (.ref (He.ga K "Whole"))) tNil))) (tCall (sp_law_like K 12) [] E0 (tCons (tLst (tCons (tFld K (tVar 0) "deep") (tCons (tMeth (He.ga K "Whole") "told" (sp_Whole_told K) [] E0 (tVar 0) tNil) (tCons (tFld K (tVar 0) "text") tNil)))) (tCons (tLst (tCons (tVar 1) (tCons (tCB (rListOf K) (tCons (tVar 2) tNil)) (tCons (tCall (sp_law_rows_text K) [] E0 (tCons (tVar 2) tNil)) tNil)))) tNil)))))
def a_law_is_whole : DS :=
  (dRet (dAndV (dCB (cIsi CLw) (dCons (dRd 0) (dCons (dC (.cls "Whole")) dNil))) (dCall (sd_law_like 12) (dCons (dLst (dCons (dFld CLw (dRd 0) "deep") (dCons (dMd "Whole" "told" sd_Whole_told (dVar 0) dNil) (dCons (dFld CLw (dRd 0) "text") dNil)))) (dCons (dLst (dCons (dVar 1) (dCons (dCB (c1 uList) (dCons (dRd 2) dNil)) (dCons (dCall sd_law_rows_text (dCons (dVar 2) dNil)) dNil)))) dNil)))))
theorem r_law_is_whole {K : PySem.W.Frag} {Jx : WX} {Xd : XD} (CF : ClsF CLw K) : RefS K Jx Xd (t_law_is_whole K) a_law_is_whole :=
  (rRet (rAndV (rCB (fcIsi CF) (rConsX (rRd 0) (rConsX (RefE.b (rCls "Whole")) rNilX))) (rCall hw_law_like (rCons (rLst (rCons (rFld CF "deep" (rRd 0)) (rCons (rMd0 (fun _ _ _ h => h) (rVar 0)) (rCons (rFld CF "text" (rRd 0)) rNil)))) (rCons (rLst (rCons (rVar 1) (rCons (rCB fcList (rConsX (rRd 2) rNilX)) (rCons (rCall (fun _ _ _ h => h) (rCons (rVar 2) rNil)) rNil)))) rNil)))))
theorem pd_law_is_whole (ds : List Dt) (Qd : Dt → Prop) (h : sd_law_is_whole ds Qd) : ds.length ≤ N_law_is_whole.length ∧ a_law_is_whole ⟨fun _ => Qd .non, Qd, fun _ => False, fun _ => False⟩ (vals ds ++ List.replicate (N_law_is_whole.length - ds.length) .no) := by
  obtain ⟨d, T, rfl, hs, q⟩ := h
  refine ⟨Nat.le_of_ble_eq_true rfl, ?_⟩
  walk_at "dl"
  refine ⟨by decide, ?_⟩
  refine ⟨by decide, fun _ => ?_, fun c => absurd c (by decide)⟩
  walk_at "dl"
  refine ⟨by decide, ?_⟩
  walk_at "dl"
  refine ⟨⟨rfl, rfl⟩, ?_⟩
  refine ⟨d, T, rfl, ?_⟩
  walk_at "dl"
  refine ⟨by decide, ?_⟩
  walk_at "dl"
  refine ⟨Nat.le_of_ble_eq_true rfl, ?_⟩
  walk_at "dl"
  refine ⟨T, rfl, hs, ?_⟩
  walk_at "dl"
  refine ⟨Nat.le_of_ble_eq_true rfl, ?_⟩
  refine like_same (x := wholeL d T) ?_ (fit_whole hs.1 fun r hr => (hs.2.2 r hr).1) q
  show (true && (plainAll (mD T) && (true && true))) = true
  rw [plain_mD]
  rfl
abbrev sp_law_is_whole (K : PySem.W.Frag) : Sp := spD K sd_law_is_whole
theorem pure_law_is_whole {K : PySem.W.Frag} (CF : ClsF CLw K) (vs : List V) (H : Hp) (Q : VK) (E : XK) (h : sp_law_is_whole K vs H Q E) : t_law_is_whole K { nx := fun _ H' => Q .non H', rt := Q } (L2.start N_law_is_whole vs) H := fnD (Jx := fun _ _ _ _ => False) (r_law_is_whole CF) h pd_law_is_whole

end
section

/-! ### the law's drawing from the frame's own list -/
def dOfOwn (b i : Nat) : DE := fun ρ Q => match gt ρ b with
  | .val .bag => match gt ρ i with
    | .own l => (0 < l.length ∧ l.length ≤ 16777216) ∧ ∀ d, d ∈ l → Q d
    | _ => False
  | _ => False
theorem rOfOwn {K : PySem.W.Frag} {Jx : WX} {Xd : XD} (b i : Nat) : RefE K Jx Xd (tCall (sp_law_of K) [] E0 (tCons (tVar b) (tCons (tVar i) tNil))) (dOfOwn b i) := fun W S0 H0 α H σ ρ Qd Q I c h => by
  unfold dOfOwn at h
  have sb := I.toEnv.sl b
  cases eb : gt ρ b with
  | val d =>
    rw [eb] at h sb
    cases d with
    | bag =>
      cases ei : gt ρ i with
      | own l =>
        rw [ei] at h
        have h' : (0 < l.length ∧ l.length ≤ 16777216) ∧ ∀ d, d ∈ l → Qd d := h
        obtain ⟨v, e1, hv⟩ := sb
        obtain ⟨x, g, e, rfl⟩ := sd_bag1 hv
        obtain ⟨o1, ⟨vs, o2, o3⟩, o4⟩ := at_owned I.toEnv ei
        have ne : α i ≠ x := fun z => (I.toEnv.new i o4).2 (by rw [z]; exact I.toEnv.ms _ ⟨g, e⟩)
        refine v_call (v_cons (v_var e1 (v_cons (v_var o1 (v_nil ?_)))))
        refine ⟨x, _, g, rfl, I.toEnv.gw.bag x g e, .inl ⟨α i, vs, rfl, .inl (SqL.of (wo_at o2 (by simp [ne]))), by rw [o3.len]; exact h'.1.1, by rw [o3.len, sizeLine_eq]; exact Nat.le_trans h'.1.2 (by decide), fun j y H' hy B k => ?_⟩⟩
        obtain ⟨d, d1, d2⟩ := o3.get hy
        have gg := gw_kp e B k
        exact c _ _ H' (h'.2 d (List.mem_of_getElem? d1)) gg (d2.same (gg.hd I.hms))
      | _ =>
        rw [ei] at h
        exact (show False from h).elim
    | _ => exact (show False from h).elim
  | _ =>
    rw [eb] at h
    exact (show False from h).elim

end
section

/-! ### what the law draws -/
def sd_law_deep : DSp := fun ds Q => ds = [.bag] ∧ ∀ d : Nat, 1 ≤ d → d ≤ 5 → Q (.int (d : Int))
abbrev N_law_deep : List Str := ["bag"]
def t_law_deep (K : PySem.W.Frag) : TS :=
  (tRet (tCall (sp_law_of K) [] E0 (tCons (tVar 0) (tCons (tLst (tCons (tC (.int 3)) (tCons (tC (.int 2)) (tCons (tC (.int 3)) (tCons (tC (.int 4)) (tCons (tC (.int 1)) (tCons (tC (.int 3)) (tCons (tC (.int 2)) (tCons (tC (.int 5)) (tCons (tC (.int 3)) (tCons (tC (.int 4)) tNil))))))))))) tNil))))
def a_law_deep : DS :=
  (dRet (dCall sd_law_of (dCons (dVar 0) (dCons (dLst (dCons (dC (.int 3)) (dCons (dC (.int 2)) (dCons (dC (.int 3)) (dCons (dC (.int 4)) (dCons (dC (.int 1)) (dCons (dC (.int 3)) (dCons (dC (.int 2)) (dCons (dC (.int 5)) (dCons (dC (.int 3)) (dCons (dC (.int 4)) dNil))))))))))) dNil))))
theorem r_law_deep {K : PySem.W.Frag} {Jx : WX} {Xd : XD} : RefS K Jx Xd (t_law_deep K) a_law_deep :=
  (rRet (rCall hw_law_of (rCons (rVar 0) (rCons (rLst (rCons (rInt 3) (rCons (rInt 2) (rCons (rInt 3) (rCons (rInt 4) (rCons (rInt 1) (rCons (rInt 3) (rCons (rInt 2) (rCons (rInt 5) (rCons (rInt 3) (rCons (rInt 4) rNil))))))))))) rNil))))
theorem pd_law_deep (ds : List Dt) (Qd : Dt → Prop) (h : sd_law_deep ds Qd) : ds.length ≤ N_law_deep.length ∧ a_law_deep ⟨fun _ => Qd .non, Qd, fun _ => False, fun _ => False⟩ (vals ds ++ List.replicate (N_law_deep.length - ds.length) .no) := by
  obtain ⟨rfl, q⟩ := h
  refine ⟨Nat.le_of_ble_eq_true rfl, ?_⟩
  walk_at "dl"
  refine ⟨Nat.le_of_ble_eq_true rfl, ?_⟩
  refine ⟨⟨Nat.le_of_ble_eq_true rfl, Nat.le_of_ble_eq_true rfl⟩, fun d hd => ?_⟩
  simp only [List.mem_cons, List.not_mem_nil, or_false] at hd
  rcases hd with rfl | rfl | rfl | rfl | rfl | rfl | rfl | rfl | rfl | rfl
  all_goals first | exact q 1 (by decide) (by decide) | exact q 2 (by decide) (by decide) | exact q 3 (by decide) (by decide) | exact q 4 (by decide) (by decide) | exact q 5 (by decide) (by decide)
abbrev sp_law_deep (K : PySem.W.Frag) : Sp := spD K sd_law_deep
theorem pure_law_deep {K : PySem.W.Frag} (vs : List V) (H : Hp) (Q : VK) (E : XK) (h : sp_law_deep K vs H Q E) : t_law_deep K { nx := fun _ H' => Q .non H', rt := Q } (L2.start N_law_deep vs) H := fnD (Jx := fun _ _ _ _ => False) (r_law_deep) h pd_law_deep
/-- a row made place by place -/
theorem lc_row {dg : DG} {de : DE} {ρ : Ro} {Q : List Dt → Prop} {d : Nat} (b : Nat) (hs : ∀ (i : Nat) (R : Dt → Prop), i < d → (∀ n : Int, n.natAbs < 2 ^ b → R (.int n)) → dg (.int (0 + (i : Int))) ρ fun ρ' => de ρ' R) (hd : ∀ r, r.length = d → Bd b r → Q (rwD r)) : dLcGo dg dYes de ρ Q (rngD 0 d) [] := by
  refine lc_inv (fun i acc => ∃ r, acc = rwD r ∧ r.length = i ∧ Bd b r) ⟨[], rfl, rfl, fun x h => by simp at h⟩ (fun i x acc R hx p hP => ?_) fun acc p => ?_
  · obtain ⟨r, rfl, hl, hb⟩ := p
    have il := (List.getElem?_eq_some_iff.mp hx).1
    unfold rngD at il hx
    rw [List.length_map, List.length_range] at il
    rw [List.getElem?_map, List.getElem?_range il] at hx
    cases hx
    refine hs i (fun d => R (rwD r ++ [d])) il fun n hn => hP _ ⟨r ++ [n], by unfold rwD; rw [List.map_append]; rfl, by rw [List.length_append, hl]; rfl, fun x hx => ?_⟩
    rcases List.mem_append.mp hx with h | h
    · exact hb x h
    · rw [List.mem_singleton.mp h]
      exact hn
  · obtain ⟨r, rfl, hl, hb⟩ := p
    unfold rngD at hl
    rw [List.length_map, List.length_range] at hl
    exact hd r hl hb
/-- rows that are drawn: the i-th below 8 ^ (i + 1) -/
def DrawnR (d : Nat) (M : List (List Int)) : Prop := ∀ (i : Nat) r, M[i]? = some r → r.length = d ∧ Bd (3 * (i + 1)) r
def sd_law_rows : DSp := fun ds Q => ∃ d n : Nat, ds = [.bag, .int (d : Int), .int (n : Int)] ∧ (1 ≤ d ∧ d ≤ 5 ∧ n ≤ 4) ∧ ∀ M, M.length = n → DrawnR d M → Q (.lst (mD M))
abbrev N_law_rows : List Str := ["bag", "d", "many", "found", "k", "pick", "one", "two", "a", "b", "spot", "x", "y", "j"]
def t_law_rows (K : PySem.W.Frag) : TS :=
  (tSeq (tAsg (tLst tNil) (gName 3))
    (tSeq (tFor (iRng1 (tCons (tVar 2) tNil)) (gName 4)
    (tSeq (tAsg (tCall (sp_law_draw K) [] E0 (tCons (tVar 0) (tCons (tC (.int 8)) tNil))) (gName 5))
    (tIfS (tAnd (tTest (tOp (rEqU K) (tVar 5) (tC (.int 0)))) (tTruth K (tVar 3))) (tSeq (tPar 6 7 (tCons (tCall (sp_law_of K) [] E0 (tCons (tVar 0) (tCons (tVar 3) tNil))) (tCons (tCall (sp_law_of K) [] E0 (tCons (tVar 0) (tCons (tVar 3) tNil))) tNil)))
    (tSeq (tAsg (tTup (tCons (tOp rSubI (tCall (sp_law_draw K) [] E0 (tCons (tVar 0) (tCons (tC (.int 7)) tNil))) (tC (.int 3))) (tCons (tOp rSubI (tCall (sp_law_draw K) [] E0 (tCons (tVar 0) (tCons (tC (.int 5)) tNil))) (tC (.int 2))) tNil))) (gTup K 2 (gCons (gName 8) (gCons (gName 9) gNil))))
    (tDrop (tBM K "list" rAppend (tVar 3) (tCons (tCB (rTupOf K) (tCons (tLc (iZipU K (tCons (tVar 6) (tCons (tVar 7) tNil))) (gTup K 2 (gCons (gName 11) (gCons (gName 12) gNil))) tYes (tOp (rAddU K) (tOp rMulU (tVar 8) (tVar 11)) (tOp rMulU (tVar 9) (tVar 12))) [11, 12]) tNil)) tNil))))) (tIfS (tTest (tOp (rEqU K) (tVar 5) (tC (.int 1)))) (tSeq (tAsg (tCall (sp_law_draw K) [] E0 (tCons (tVar 0) (tCons (tVar 1) tNil))) (gName 10))
    (tDrop (tBM K "list" rAppend (tVar 3) (tCons (tCB (rTupOf K) (tCons (tLc (iRng1 (tCons (tVar 1) tNil)) (gName 13) tYes (tOp rMulU (tCB rInt1 (tCons (tOp (rEqU K) (tVar 13) (tVar 10)) tNil)) (tCall (sp_law_of K) [] E0 (tCons (tVar 0) (tCons (tLst (tCons (tC (.int 1)) (tCons (tUn rNegI (tC (.int 1))) (tCons (tC (.int 2)) (tCons (tC (.int 6)) tNil))))) tNil)))) [13]) tNil)) tNil)))) (tIfS (tTest (tOp rLtI (tVar 5) (tC (.int 5)))) (tDrop (tBM K "list" rAppend (tVar 3) (tCons (tCB (rTupOf K) (tCons (tLc (iRng1 (tCons (tVar 1) tNil)) (gName 13) tYes (tCall (sp_law_of K) [] E0 (tCons (tVar 0) (tCons (tLst (tCons (tC (.int 0)) (tCons (tC (.int 1)) (tCons (tC (.int 0)) (tCons (tUn rNegI (tC (.int 1))) (tCons (tC (.int 2)) tNil)))))) tNil))) [13]) tNil)) tNil))) (tDrop (tBM K "list" rAppend (tVar 3) (tCons (tCB (rTupOf K) (tCons (tLc (iRng1 (tCons (tVar 1) tNil)) (gName 13) tYes (tOp rSubI (tCall (sp_law_draw K) [] E0 (tCons (tVar 0) (tCons (tC (.int 9)) tNil))) (tC (.int 4))) [13]) tNil)) tNil))))))))
    (tRet (tVar 3))))
def a_law_rows : DS :=
  (dSeq (dOwn 3 (fLst dNil))
    (dSeq (dFor (jRng1 (dCons (dRd 2) dNil)) (gN 4)
    (dSeq (dAsg (dCall sd_law_draw (dCons (dVar 0) (dCons (dC (.int 8)) dNil))) (gN 5))
    (dIfS (dAnd (dTest (dOp oEq (dRd 5) (dC (.int 0)))) (dTruth (dRd 3))) (dSeq (dPar [6, 7] (pVal (dOfOwn 0 3) (pVal (dOfOwn 0 3) pNil)))
    (dSeq (dAsg (dTup (dCons (dOp oSub (dCall sd_law_draw (dCons (dVar 0) (dCons (dC (.int 7)) dNil))) (dC (.int 3))) (dCons (dOp oSub (dCall sd_law_draw (dCons (dVar 0) (dCons (dC (.int 5)) dNil))) (dC (.int 2))) dNil))) (gT 2 (gsCons (gN 8) (gsCons (gN 9) gsNil))))
    (dAppend 3 (dCB (c1 uTuple) (dCons (dLc (jZip (dCons (dRd 6) (dCons (dRd 7) dNil))) (gT 2 (gsCons (gN 11) (gsCons (gN 12) gsNil))) dYes (dOp oAdd (dOp oMul (dRd 8) (dRd 11)) (dOp oMul (dRd 9) (dRd 12))) [11, 12]) dNil))))) (dIfS (dTest (dOp oEq (dRd 5) (dC (.int 1)))) (dSeq (dAsg (dCall sd_law_draw (dCons (dVar 0) (dCons (dVar 1) dNil))) (gN 10))
    (dAppend 3 (dCB (c1 uTuple) (dCons (dLc (jRng1 (dCons (dRd 1) dNil)) (gN 13) dYes (dOp oMul (dCB (c1 uInt1) (dCons (dOp oEq (dRd 13) (dRd 10)) dNil)) (dCall sd_law_of (dCons (dVar 0) (dCons (dLst (dCons (dC (.int 1)) (dCons (dUn uNeg (dC (.int 1))) (dCons (dC (.int 2)) (dCons (dC (.int 6)) dNil))))) dNil)))) [13]) dNil)))) (dIfS (dTest (dOp oLt (dRd 5) (dC (.int 5)))) (dAppend 3 (dCB (c1 uTuple) (dCons (dLc (jRng1 (dCons (dRd 1) dNil)) (gN 13) dYes (dCall sd_law_of (dCons (dVar 0) (dCons (dLst (dCons (dC (.int 0)) (dCons (dC (.int 1)) (dCons (dC (.int 0)) (dCons (dUn uNeg (dC (.int 1))) (dCons (dC (.int 2)) dNil)))))) dNil))) [13]) dNil))) (dAppend 3 (dCB (c1 uTuple) (dCons (dLc (jRng1 (dCons (dRd 1) dNil)) (gN 13) dYes (dOp oSub (dCall sd_law_draw (dCons (dVar 0) (dCons (dC (.int 9)) dNil))) (dC (.int 4))) [13]) dNil))))))))
    (dFrz 3 (dRet (dVar 3)))))
theorem r_law_rows {K : PySem.W.Frag} {Jx : WX} {Xd : XD} : RefS K Jx Xd (t_law_rows K) a_law_rows :=
  (rSeq (rOwn 3 (rfLst rNil))
    (rSeq (rFor (riRng1 (rConsX (rRd 2) rNilX)) (rgN 4)
    (rSeq (rAsg (rCall hw_law_draw (rCons (rVar 0) (rCons (rInt 8) rNil))) (rgN 5))
    (rIfS (rAnd (rTest (rOp foEq (rRd 5) (RefE.b (rInt 0)))) (rTruth (rRd 3))) (rSeq (rPar2 (rpVal (rOfOwn 0 3) (rpVal (rOfOwn 0 3) rpNil)))
    (rSeq (rAsg (rTup (rCons (rOp foSub (RefE.b (rCall hw_law_draw (rCons (rVar 0) (rCons (rInt 7) rNil)))) (RefE.b (rInt 3))) (rCons (rOp foSub (RefE.b (rCall hw_law_draw (rCons (rVar 0) (rCons (rInt 5) rNil)))) (RefE.b (rInt 2))) rNil))) (rgT 2 (rgsCons (rgN 8) (rgsCons (rgN 9) rgsNil))))
    (rAppend' 3 (rCB fcTuple (rConsX (RefE.b (rLc (rjZip (rConsX (rRd 6) (rConsX (rRd 7) rNilX))) (rcT 2 (rcsCons (rcN 11 (by decide)) (rcsCons (rcN 12 (by decide)) rcsNil))) rYes (rOp foAdd (RefE.b (rOp foMul (rRd 8) (rRd 11))) (RefE.b (rOp foMul (rRd 9) (rRd 12)))))) rNilX))))) (rIfS (rTest (rOp foEq (rRd 5) (RefE.b (rInt 1)))) (rSeq (rAsg (rCall hw_law_draw (rCons (rVar 0) (rCons (rVar 1) rNil))) (rgN 10))
    (rAppend' 3 (rCB fcTuple (rConsX (RefE.b (rLc (RefI.j (riRng1 (rConsX (rRd 1) rNilX))) (rcN 13 (by decide)) rYes (rOp foMul (RefE.b (rCB fcInt1 (rConsX (RefE.b (rOp foEq (rRd 13) (rRd 10))) rNilX))) (RefE.b (rCall hw_law_of (rCons (rVar 0) (rCons (rLst (rCons (rInt 1) (rCons (rUn fuNeg (RefE.b (rInt 1))) (rCons (rInt 2) (rCons (rInt 6) rNil))))) rNil))))))) rNilX)))) (rIfS (rTest (rOp foLt (rRd 5) (RefE.b (rInt 5)))) (rAppend' 3 (rCB fcTuple (rConsX (RefE.b (rLc (RefI.j (riRng1 (rConsX (rRd 1) rNilX))) (rcN 13 (by decide)) rYes (rCall hw_law_of (rCons (rVar 0) (rCons (rLst (rCons (rInt 0) (rCons (rInt 1) (rCons (rInt 0) (rCons (rUn fuNeg (RefE.b (rInt 1))) (rCons (rInt 2) rNil)))))) rNil))))) rNilX))) (rAppend' 3 (rCB fcTuple (rConsX (RefE.b (rLc (RefI.j (riRng1 (rConsX (rRd 1) rNilX))) (rcN 13 (by decide)) rYes (rOp foSub (RefE.b (rCall hw_law_draw (rCons (rVar 0) (rCons (rInt 9) rNil)))) (RefE.b (rInt 4))))) rNilX))))))))
    (rFrz 3 (rRet (rVar 3)))))
theorem pd_law_rows (ds : List Dt) (Qd : Dt → Prop) (h : sd_law_rows ds Qd) : ds.length ≤ N_law_rows.length ∧ a_law_rows ⟨fun _ => Qd .non, Qd, fun _ => False, fun _ => False⟩ (vals ds ++ List.replicate (N_law_rows.length - ds.length) .no) := by
  obtain ⟨d, n, rfl, ⟨d1, d5, n4⟩, q⟩ := h
  refine ⟨Nat.le_of_ble_eq_true rfl, ?_⟩
  walk_at "dl"
  refine ⟨Nat.zero_le _, ?_⟩
  walk_at "dl"
  refine ⟨⟨by omega, by omega⟩, ?_⟩
  rw [Int.toNat_natCast]
  refine for_rng (lo := 0) (n := n) (fun i ρ => ∃ M z4 z5 z6 z7 z8 z9 z10, (z4.owned = false ∧ z5.owned = false ∧ z6.owned = false ∧ z7.owned = false ∧ z8.owned = false ∧ z9.owned = false ∧ z10.owned = false) ∧ ρ = [.val .bag, .val (.int (d : Int)), .val (.int (n : Int)), .own (mD M), z4, z5, z6, z7, z8, z9, z10, .no, .no, .no] ∧ M.length = i ∧ DrawnR d M) ⟨[], _, _, _, _, _, _, _, ⟨rfl, rfl, rfl, rfl, rfl, rfl, rfl⟩, rfl, rfl, fun i r h => by simp at h⟩ ?_ ?_
  · rintro i ρ P hi ⟨M, z4, z5, z6, z7, z8, z9, z10, ho, rfl, hl, hM⟩ hP
    have snoc : ∀ r : List Int, r.length = d → Bd (3 * (i + 1)) r → DrawnR d (M ++ [r]) := fun r h1 h2 j r' hj => by
      rw [List.getElem?_append] at hj
      split at hj
      · exact hM j r' hj
      · rename_i hjl
        cases e : j - M.length with
        | zero =>
          rw [e] at hj
          have : r = r' := by simpa using hj
          subst this
          have : j = i := by omega
          subst this
          exact ⟨h1, h2⟩
        | succ k => rw [e] at hj; simp at hj
    have md : ∀ r : List Int, mD M ++ [.tup (rwD r)] = mD (M ++ [r]) := fun r => by
      unfold mD
      rw [List.map_append]
      rfl
    have fin : ∀ (r : List Int) (y4 y5 y6 y7 y8 y9 y10 : Sl), (y4.owned = false ∧ y5.owned = false ∧ y6.owned = false ∧ y7.owned = false ∧ y8.owned = false ∧ y9.owned = false ∧ y10.owned = false) → r.length = d → Bd (3 * (i + 1)) r → (mD M).length < 16777216 ∧ P [.val .bag, .val (.int (d : Int)), .val (.int (n : Int)), .own (mD M ++ [.tup (rwD r)]), y4, y5, y6, y7, y8, y9, y10, .no, .no, .no] := fun r y4 y5 y6 y7 y8 y9 y10 hy h1 h2 => ⟨by rw [mD_len]; omega, hP _ ⟨M ++ [r], _, _, _, _, _, _, _, hy, by rw [md], by rw [List.length_append, hl]; rfl, snoc r h1 h2⟩⟩
    walk_at "dl"
    refine ⟨by decide, fun t t0 t1 => ?_⟩
    walk_at "dl"
    refine (fun r => ⟨fun c => ⟨fun c2 => ?_, fun _ => r⟩, fun c => ⟨fun e => (nomatch e), fun _ => r⟩⟩) ?_
    · walk_at "dl"
      refine ⟨fun c => ?_, fun c => ?_⟩
      · walk_at "dl"
        refine ⟨by omega, fun s s0 s1 => ?_⟩
        walk_at "dl"
        refine ⟨rfl, ⟨by omega, by omega⟩, ?_⟩
        rw [Int.toNat_natCast]
        refine ⟨by unfold rngD; rw [List.length_map, List.length_range]; omega, ?_⟩
        refine lc_row 3 (fun j R hj hR => ?_) fun r h1 h2 => ?_
        · walk_at "dl"
          refine ⟨Nat.le_of_ble_eq_true rfl, ?_⟩
          refine ⟨⟨Nat.le_of_ble_eq_true rfl, Nat.le_of_ble_eq_true rfl⟩, fun v hv => ?_⟩
          simp only [List.mem_cons, List.not_mem_nil, or_false] at hv
          have sm : ∀ (k m : Int), (k = 0 ∨ k = 1) → (-1 ≤ m ∧ m ≤ 6) → cMul k m ∧ R (.int (k * m)) := fun k m hk hm => by
            have e : (k * m).natAbs < 2 ^ 3 := by
              rcases hk with rfl | rfl
              · rw [Int.zero_mul]
                decide
              · rw [Int.one_mul]
                show m.natAbs < 8
                omega
            exact ⟨.inl (.inl (by omega)), hR _ e⟩
          have k01 : ∀ bb : Bool, (if bb = true then (1 : Int) else 0) = 0 ∨ (if bb = true then (1 : Int) else 0) = 1 := fun bb => by cases bb <;> simp
          rcases hv with rfl | rfl | rfl | rfl
          all_goals exact sm _ _ (k01 _) (by omega)
        · walk_at "dl"
          refine fin r _ _ _ _ _ _ _ ?_ h1 (h2.mono (by omega))
          exact ⟨rfl, rfl, ho.2.2.1, ho.2.2.2.1, ho.2.2.2.2.1, ho.2.2.2.2.2.1, rfl⟩
      · walk_at "dl"
        refine ⟨fun c => ?_, fun c => ?_⟩
        · walk_at "dl"
          refine ⟨rfl, ⟨by omega, by omega⟩, ?_⟩
          rw [Int.toNat_natCast]
          refine ⟨by unfold rngD; rw [List.length_map, List.length_range]; omega, ?_⟩
          refine lc_row 3 (fun j R hj hR => ?_) fun r h1 h2 => ?_
          · walk_at "dl"
            refine ⟨Nat.le_of_ble_eq_true rfl, ?_⟩
            refine ⟨⟨Nat.le_of_ble_eq_true rfl, Nat.le_of_ble_eq_true rfl⟩, fun v hv => ?_⟩
            simp only [List.mem_cons, List.not_mem_nil, or_false] at hv
            rcases hv with rfl | rfl | rfl | rfl | rfl
            all_goals exact hR _ (by decide)
          · walk_at "dl"
            refine fin r _ _ _ _ _ _ _ ?_ h1 (h2.mono (by omega))
            exact ⟨rfl, rfl, ho.2.2⟩
        · walk_at "dl"
          refine ⟨rfl, ⟨by omega, by omega⟩, ?_⟩
          rw [Int.toNat_natCast]
          refine ⟨by unfold rngD; rw [List.length_map, List.length_range]; omega, ?_⟩
          refine lc_row 3 (fun j R hj hR => ?_) fun r h1 h2 => ?_
          · walk_at "dl"
            refine ⟨by decide, fun s s0 s1 => ?_⟩
            walk_at "dl"
            exact hR _ (by show (s - 4).natAbs < 8; omega)
          · walk_at "dl"
            refine fin r _ _ _ _ _ _ _ ?_ h1 (h2.mono (by omega))
            exact ⟨rfl, rfl, ho.2.2⟩
    · have Mne : M ≠ [] := fun z => by
        subst z
        exact absurd c2 (by decide)
      have Mpos : 0 < (mD M).length := by rw [mD_len]; exact List.length_pos_iff.mpr Mne
      have old : ∀ v, v ∈ mD M → ∃ r, v = .tup (rwD r) ∧ r.length = d ∧ Bd (3 * i) r := fun v hv => by
        obtain ⟨r, hr, rfl⟩ := List.mem_map.mp hv
        obtain ⟨j, hj⟩ := List.getElem?_of_mem hr
        have jl := (List.getElem?_eq_some_iff.mp hj).1
        obtain ⟨h1, h2⟩ := hM j r hj
        exact ⟨r, rfl, h1, h2.mono (by omega)⟩
      walk_at "dl"
      refine ⟨⟨Mpos, by rw [mD_len]; omega⟩, fun v hv => ?_⟩
      obtain ⟨r1, rfl, l1, b1⟩ := old v hv
      walk_at "dl"
      refine ⟨⟨Mpos, by rw [mD_len]; omega⟩, fun v hv => ?_⟩
      obtain ⟨r2, rfl, l2, b2⟩ := old v hv
      refine ⟨rfl, ?_⟩
      walk_at "dl"
      refine ⟨by decide, fun s s0 s1 => ?_⟩
      walk_at "dl"
      refine ⟨by decide, fun u u0 u1 => ?_⟩
      walk_at "dl"
      refine ⟨Nat.le_of_ble_eq_true rfl, ?_⟩
      walk_at "dl"
      refine ⟨rfl, ?_⟩
      walk_at "dl"
      refine ⟨rfl, ?_⟩
      walk_at "dl"
      refine row_zip (Q := fun items => items.length ≤ 1000000 ∧ dLcGo _ _ _ _ _ items []) (.inr rfl) (.inr rfl) (by omega) ⟨by rw [zipD_len, rwD_len, rwD_len]; omega, ?_⟩
      refine lc_zip (fun n m => (s - 3) * n + (u - 2) * m) (fun j n m R hn hm hR => ?_) ?_
      · walk_at "dl"
        refine ⟨rfl, .inl (.inl (by omega)), ?_⟩
        walk_at "dl"
        refine ⟨.inl (.inl (by omega)), ?_⟩
        exact hR
      · walk_at "dl"
        refine fin (List.zipWith (fun n m => (s - 3) * n + (u - 2) * m) r1 r2) _ _ _ _ _ _ _ ?_ (by rw [List.length_zipWith]; omega) ?_
        · exact ⟨rfl, rfl, rfl, rfl, rfl, rfl, ho.2.2.2.2.2.2⟩
        · intro x hx
          obtain ⟨j, hj⟩ := List.getElem?_of_mem hx
          rw [List.getElem?_zipWith] at hj
          cases e1 : r1[j]? with
          | none => rw [e1] at hj; cases hj
          | some n1 =>
            cases e2 : r2[j]? with
            | none => rw [e1, e2] at hj; cases hj
            | some n2 =>
              rw [e1, e2] at hj
              have ex : (s - 3) * n1 + (u - 2) * n2 = x := Option.some.inj hj
              have q1 := b1 n1 (List.mem_of_getElem? e1)
              have q2 := b2 n2 (List.mem_of_getElem? e2)
              have p1 : ((s - 3) * n1).natAbs ≤ 3 * n1.natAbs := by
                rw [Int.natAbs_mul]
                exact Nat.mul_le_mul_right _ (by omega)
              have p2 : ((u - 2) * n2).natAbs ≤ 2 * n2.natAbs := by
                rw [Int.natAbs_mul]
                exact Nat.mul_le_mul_right _ (by omega)
              have pw : 2 ^ (3 * (i + 1)) = 8 * 2 ^ (3 * i) := by rw [Nat.mul_succ, Nat.pow_add, Nat.mul_comm]
              rw [← ex, pw]
              have pa := Int.natAbs_add_le ((s - 3) * n1) ((u - 2) * n2)
              omega
  · rintro ρ ⟨M, z4, z5, z6, z7, z8, z9, z10, ho, rfl, hl, hM⟩
    walk_at "dl"
    exact q M hl hM
abbrev sp_law_rows (K : PySem.W.Frag) : Sp := spD K sd_law_rows
theorem pure_law_rows {K : PySem.W.Frag} (vs : List V) (H : Hp) (Q : VK) (E : XK) (h : sp_law_rows K vs H Q E) : t_law_rows K { nx := fun _ H' => Q .non H', rt := Q } (L2.start N_law_rows vs) H := fnD (Jx := fun _ _ _ _ => False) (r_law_rows) h pd_law_rows
/-- sums of rows that are drawn -/
def sd_law_parts : DSp := fun ds Q => ∃ d M, ds = [.bag, .lst (mD M), .int ((d : Nat) : Int)] ∧ (1 ≤ d ∧ d ≤ 5 ∧ M.length ≤ 4 ∧ DrawnR d M) ∧ ∀ N, N.length ≤ 3 → (∀ r, r ∈ N → r.length = d ∧ Bd 14 r ∧ Spn d M r) → Q (.lst (mD N))
abbrev N_law_parts : List Str := ["bag", "base", "d", "found", "k", "row", "x", "c", "j", "a", "b"]
def t_law_parts (K : PySem.W.Frag) : TS :=
  (tSeq (tAsg (tLst tNil) (gName 3))
    (tSeq (tFor (iRng1 (tCons (tCall (sp_law_of K) [] E0 (tCons (tVar 0) (tCons (tLst (tCons (tC (.int 1)) (tCons (tC (.int 2)) (tCons (tC (.int 0)) (tCons (tC (.int 1)) (tCons (tC (.int 3)) tNil)))))) tNil))) tNil)) (gName 4)
    (tSeq (tAsg (tLc (iRng1 (tCons (tVar 2) tNil)) (gName 8) tYes (tC (.int 0)) [8]) (gName 5))
    (tSeq (tFor (iSq K (tVar 1)) (gName 6)
    (tSeq (tAsg (tCall (sp_law_of K) [] E0 (tCons (tVar 0) (tCons (tLst (tCons (tC (.int 0)) (tCons (tC (.int 1)) (tCons (tUn rNegI (tC (.int 1))) (tCons (tC (.int 2)) (tCons (tC (.int 0)) (tCons (tC (.int 3)) tNil))))))) tNil))) (gName 7))
    (tAsg (tLc (iZipU K (tCons (tVar 5) (tCons (tVar 6) tNil))) (gTup K 2 (gCons (gName 9) (gCons (gName 10) gNil))) tYes (tOp (rAddU K) (tVar 9) (tOp rMulU (tVar 7) (tVar 10))) [9, 10]) (gName 5))))
    (tDrop (tBM K "list" rAppend (tVar 3) (tCons (tCB (rTupOf K) (tCons (tVar 5) tNil)) tNil))))))
    (tRet (tVar 3))))
def a_law_parts : DS :=
  (dSeq (dOwn 3 (fLst dNil))
    (dSeq (dFor (jRng1 (dCons (dCall sd_law_of (dCons (dVar 0) (dCons (dLst (dCons (dC (.int 1)) (dCons (dC (.int 2)) (dCons (dC (.int 0)) (dCons (dC (.int 1)) (dCons (dC (.int 3)) dNil)))))) dNil))) dNil)) (gN 4)
    (dSeq (dAsg (dLc (jRng1 (dCons (dRd 2) dNil)) (gN 8) dYes (dC (.int 0)) [8]) (gN 5))
    (dSeq (dFor (jSq (dVar 1)) (gN 6)
    (dSeq (dAsg (dCall sd_law_of (dCons (dVar 0) (dCons (dLst (dCons (dC (.int 0)) (dCons (dC (.int 1)) (dCons (dUn uNeg (dC (.int 1))) (dCons (dC (.int 2)) (dCons (dC (.int 0)) (dCons (dC (.int 3)) dNil))))))) dNil))) (gN 7))
    (dAsg (dLc (jZip (dCons (dRd 5) (dCons (dRd 6) dNil))) (gT 2 (gsCons (gN 9) (gsCons (gN 10) gsNil))) dYes (dOp oAdd (dRd 9) (dOp oMul (dRd 7) (dRd 10))) [9, 10]) (gN 5))))
    (dAppend 3 (dCB (c1 uTuple) (dCons (dRd 5) dNil))))))
    (dFrz 3 (dRet (dVar 3)))))
theorem r_law_parts {K : PySem.W.Frag} {Jx : WX} {Xd : XD} : RefS K Jx Xd (t_law_parts K) a_law_parts :=
  (rSeq (rOwn 3 (rfLst rNil))
    (rSeq (rFor (riRng1 (rConsX (RefE.b (rCall hw_law_of (rCons (rVar 0) (rCons (rLst (rCons (rInt 1) (rCons (rInt 2) (rCons (rInt 0) (rCons (rInt 1) (rCons (rInt 3) rNil)))))) rNil)))) rNilX)) (rgN 4)
    (rSeq (rAsg (rLc (RefI.j (riRng1 (rConsX (rRd 2) rNilX))) (rcN 8 (by decide)) rYes (rInt 0)) (rgN 5))
    (rSeq (rFor (riSq (rVar 1)) (rgN 6)
    (rSeq (rAsg (rCall hw_law_of (rCons (rVar 0) (rCons (rLst (rCons (rInt 0) (rCons (rInt 1) (rCons (rUn fuNeg (RefE.b (rInt 1))) (rCons (rInt 2) (rCons (rInt 0) (rCons (rInt 3) rNil))))))) rNil))) (rgN 7))
    (rAsg (rLc (rjZip (rConsX (rRd 5) (rConsX (rRd 6) rNilX))) (rcT 2 (rcsCons (rcN 9 (by decide)) (rcsCons (rcN 10 (by decide)) rcsNil))) rYes (rOp foAdd (rRd 9) (RefE.b (rOp foMul (rRd 7) (rRd 10))))) (rgN 5))))
    (rAppend' 3 (rCB fcTuple (rConsX (rRd 5) rNilX))))))
    (rFrz 3 (rRet (rVar 3)))))
theorem addm_getD {c : Int} {r l : List Int} (e : r.length = l.length) (j : Nat) : (List.zipWith (fun n m => n + c * m) r l).getD j 0 = r.getD j 0 + c * l.getD j 0 := by
  simp only [List.getD_eq_getElem?_getD, List.getElem?_zipWith]
  by_cases hj : j < r.length
  · rw [List.getElem?_eq_getElem hj, List.getElem?_eq_getElem (show j < l.length by omega)]
    rfl
  · rw [List.getElem?_eq_none (by omega), List.getElem?_eq_none (show l.length ≤ j by omega)]
    simp
theorem pd_law_parts (ds : List Dt) (Qd : Dt → Prop) (h : sd_law_parts ds Qd) : ds.length ≤ N_law_parts.length ∧ a_law_parts ⟨fun _ => Qd .non, Qd, fun _ => False, fun _ => False⟩ (vals ds ++ List.replicate (N_law_parts.length - ds.length) .no) := by
  obtain ⟨d, M, rfl, ⟨d1, d5, m4, hM⟩, q⟩ := h
  refine ⟨Nat.le_of_ble_eq_true rfl, ?_⟩
  walk_at "dl"
  refine ⟨Nat.zero_le _, ?_⟩
  walk_at "dl"
  refine ⟨Nat.le_of_ble_eq_true rfl, ?_⟩
  refine ⟨⟨Nat.le_of_ble_eq_true rfl, Nat.le_of_ble_eq_true rfl⟩, fun v hv => ?_⟩
  have hv' : ∃ n : Nat, v = .int (n : Int) ∧ n ≤ 3 := by
    simp only [List.mem_cons, List.not_mem_nil, or_false] at hv
    rcases hv with rfl | rfl | rfl | rfl | rfl
    · exact ⟨1, rfl, by decide⟩
    · exact ⟨2, rfl, by decide⟩
    · exact ⟨0, rfl, by decide⟩
    · exact ⟨1, rfl, by decide⟩
    · exact ⟨3, rfl, by decide⟩
  obtain ⟨n, rfl, hn⟩ := hv'
  walk_at "dl"
  refine ⟨⟨by omega, by omega⟩, ?_⟩
  rw [Int.toNat_natCast]
  refine for_rng (lo := 0) (n := n) (fun i ρ => ∃ N z4 z5 z6 z7, (z4.owned = false ∧ z5.owned = false ∧ z6.owned = false ∧ z7.owned = false) ∧ ρ = [.val .bag, .val (.lst (mD M)), .val (.int (d : Int)), .own (mD N), z4, z5, z6, z7, .no, .no, .no] ∧ N.length = i ∧ ∀ r, r ∈ N → r.length = d ∧ Bd 14 r ∧ Spn d M r) ⟨[], _, _, _, _, ⟨rfl, rfl, rfl, rfl⟩, rfl, rfl, fun r h => by simp at h⟩ ?_ ?_
  · rintro i ρ P hi ⟨N, z4, z5, z6, z7, ho, rfl, hl, hN⟩ hP
    walk_at "dl"
    refine ⟨rfl, ⟨by omega, by omega⟩, ?_⟩
    rw [Int.toNat_natCast]
    refine ⟨by unfold rngD; rw [List.length_map, List.length_range]; omega, ?_⟩
    unfold rngD
    refine lc_map (f := fun (i : Nat) => .int 0) (fun i k R hk hR => ?_) ?_
    · walk_at "dl"
      exact hR
    have e0 : (List.range d).map (fun (i : Nat) => Dt.int 0) = rwD (List.replicate d 0) := by
      rw [rwD_rep]
      refine List.eq_replicate_iff.mpr ⟨by rw [List.length_map, List.length_range], fun b hb => ?_⟩
      obtain ⟨_, _, rfl⟩ := List.mem_map.mp hb
      rfl
    rw [e0]
    walk_at "dl"
    refine for_map (xs := M) (enc := fun r => .tup (rwD r)) (fun j ρ => ∃ r y6 y7, (y6.owned = false ∧ y7.owned = false) ∧ ρ = [.val .bag, .val (.lst (mD M)), .val (.int (d : Int)), .own (mD N), .val (.int (0 + (i : Int))), .val (.lst (rwD r)), y6, y7, .no, .no, .no] ∧ r.length = d ∧ (∀ x, x ∈ r → x.natAbs < 4 * 8 ^ j) ∧ Spn d M r) ⟨_, _, _, ⟨ho.2.2.1, ho.2.2.2⟩, rfl, List.length_replicate .., fun x hx => ?_, .zero⟩ ?_ ?_
    · rw [List.eq_of_mem_replicate hx]
      decide
    · rintro j l ρ P' hj ⟨r, y6, y7, hy, rfl, rl, rb, rs⟩ hP'
      obtain ⟨ll, lb⟩ := hM j l hj
      have step : ∀ c : Int, c.natAbs ≤ 3 → P' [.val .bag, .val (.lst (mD M)), .val (.int (d : Int)), .own (mD N), .val (.int (0 + (i : Int))), .val (.lst (rwD (List.zipWith (fun n m => n + c * m) r l))), .val (.tup (rwD l)), .val (.int c), .no, .no, .no] := fun c hc => by
        refine hP' _ ⟨_, _, _, ⟨rfl, rfl⟩, rfl, by rw [List.length_zipWith]; omega, fun x hx => ?_, .lin 1 c 1 (by decide) rs (.mem (List.mem_of_getElem? hj) ll) (by rw [List.length_zipWith]; omega) fun k => by rw [addm_getD (by omega), Int.one_mul, Int.one_mul]⟩
        obtain ⟨k, hk⟩ := List.getElem?_of_mem hx
        rw [List.getElem?_zipWith] at hk
        cases e1 : r[k]? with
        | none => rw [e1] at hk; cases hk
        | some n1 =>
          cases e2 : l[k]? with
          | none => rw [e1, e2] at hk; cases hk
          | some n2 =>
            rw [e1, e2] at hk
            have ex : n1 + c * n2 = x := Option.some.inj hk
            have q1 := rb n1 (List.mem_of_getElem? e1)
            have q2 := lb n2 (List.mem_of_getElem? e2)
            have p1 : (c * n2).natAbs ≤ 3 * n2.natAbs := by
              rw [Int.natAbs_mul]
              exact Nat.mul_le_mul_right _ hc
            have pw : 2 ^ (3 * (j + 1)) = 8 ^ (j + 1) := by rw [Nat.pow_mul]
            rw [pw] at q2
            have p8 : 8 ^ (j + 1) = 8 * 8 ^ j := by rw [Nat.pow_succ, Nat.mul_comm]
            rw [p8] at q2 ⊢
            rw [← ex]
            have pa := Int.natAbs_add_le n1 (c * n2)
            omega
      walk_at "dl"
      refine ⟨Nat.le_of_ble_eq_true rfl, ?_⟩
      refine ⟨⟨Nat.le_of_ble_eq_true rfl, Nat.le_of_ble_eq_true rfl⟩, fun v hv => ?_⟩
      have hv' : ∃ c : Int, v = .int c ∧ c.natAbs ≤ 3 := by
        simp only [List.mem_cons, List.not_mem_nil, or_false] at hv
        rcases hv with rfl | rfl | rfl | rfl | rfl | rfl
        all_goals exact ⟨_, rfl, by decide⟩
      obtain ⟨c, rfl, hc⟩ := hv'
      walk_at "dl"
      refine ⟨rfl, ?_⟩
      walk_at "dl"
      refine row_zip (Q := fun items => items.length ≤ 1000000 ∧ dLcGo _ _ _ _ _ items []) (.inl rfl) (.inr rfl) (by omega) ⟨by rw [zipD_len, rwD_len, rwD_len]; omega, ?_⟩
      refine lc_zip (fun n m => n + c * m) (fun k n m R hn hm hR => ?_) ?_
      · walk_at "dl"
        refine ⟨rfl, .inl (.inl (by omega)), ?_⟩
        exact hR
      · exact step c hc
    · rintro ρ ⟨r, y6, y7, hy, rfl, rl, rb, rs⟩
      walk_at "dl"
      refine ⟨by rw [mD_len]; omega, ?_⟩
      refine hP _ ⟨N ++ [r], _, _, _, _, ⟨rfl, rfl, hy⟩, by unfold mD; rw [List.map_append]; rfl, by rw [List.length_append, hl]; rfl, fun r' hr' => ?_⟩
      rcases List.mem_append.mp hr' with h | h
      · exact hN r' h
      · rw [List.mem_singleton.mp h]
        refine ⟨rl, fun x hx => Nat.lt_of_lt_of_le (rb x hx) ?_, rs⟩
        have : 8 ^ M.length ≤ 8 ^ 4 := Nat.pow_le_pow_right (by decide) m4
        have e4 : (8 : Nat) ^ 4 = 4096 := by decide
        have e14 : (2 : Nat) ^ 14 = 16384 := by decide
        omega
  · rintro ρ ⟨N, z4, z5, z6, z7, ho, rfl, hl, hN⟩
    walk_at "dl"
    exact q N (by omega) hN
abbrev sp_law_parts (K : PySem.W.Frag) : Sp := spD K sd_law_parts
theorem pure_law_parts {K : PySem.W.Frag} (vs : List V) (H : Hp) (Q : VK) (E : XK) (h : sp_law_parts K vs H Q E) : t_law_parts K { nx := fun _ H' => Q .non H', rt := Q } (L2.start N_law_parts vs) H := fnD (Jx := fun _ _ _ _ => False) (r_law_parts) h pd_law_parts

end
section

/-! ### both sides of the law -/
abbrev sumE (d : Nat) (A B : List (List Int)) : List (List Int) := ech d (A ++ B)
abbrev meetE (d : Nat) (A B : List (List Int)) : List (List Int) := ech d (meetD d A B)
structure SumOk (d : Nat) (A B : List (List Int)) : Prop where
  len : A.length + B.length ≤ 1000
  who : WhOk d (A ++ B)
  raw : Okr d 6449 (A ++ B)
structure MtOk (d : Nat) (A B : List (List Int)) : Prop where
  meet : MeetOk d A B
  who : WhOk d (meetD d A B)
  law : LMeetOk d A B
  eq : lmeet d A B = meetE d A B
structure BothOk (d : Nat) (A B C : List (List Int)) : Prop where
  bc : MtOk d B C
  cb : MtOk d C B
  ab : SumOk d A B
  ba : SumOk d B A
  abc : SumOk d A (meetE d B C)
  cba : SumOk d (meetE d C B) A
  mab : MtOk d (sumE d A B) C
  mba : MtOk d C (sumE d B A)
  el : sumE d (meetE d C B) A = sumE d A (meetE d B C)
  er : meetE d C (sumE d B A) = meetE d (sumE d A B) C
def sd_law_both_so : DSp := fun ds Q => ∃ d A B C, ds = [wD d A, wD d B, wD d C, .tup (mD A), .tup (mD B), .tup (mD C), .int ((d : Nat) : Int)] ∧ BothOk d A B C ∧ Q (.bl true)
abbrev N_law_both_so : List Str := ["a", "b", "c", "one", "two", "three", "d", "left", "right"]
def t_law_both_so (K : PySem.W.Frag) : TS :=
  (tSeq (tAsg (tCall (sp_law_told K) [] E0 (tCons (tOp (rAddV K) (tVar 3) (tCall (sp_law_meet K) [] E0 (tCons (tVar 4) (tCons (tVar 5) (tCons (tVar 6) tNil))))) (tCons (tVar 6) tNil))) (gName 7))
    (tSeq (tAsg (tCall (sp_law_meet K) [] E0 (tCons (tCall (sp_law_told K) [] E0 (tCons (tOp (rAddV K) (tVar 3) (tVar 4)) (tCons (tVar 6) tNil))) (tCons (tVar 5) (tCons (tVar 6) tNil)))) (gName 8))
    (tSeq (tIfS (tOr (tNot (tB (tCall (sp_law_is_whole K) [] E0 (tCons (tOp (rSelf (He.ga K "Whole") (sp_Whole_add K)) (tVar 0) (tOp (rSelf (He.ga K "Whole") (sp_Whole_and K)) (tVar 1) (tVar 2))) (tCons (tVar 6) (tCons (tVar 7) tNil)))))) (tNot (tB (tCall (sp_law_is_whole K) [] E0 (tCons (tOp (rSelf (He.ga K "Whole") (sp_Whole_and K)) (tOp (rSelf (He.ga K "Whole") (sp_Whole_add K)) (tVar 0) (tVar 1)) (tVar 2)) (tCons (tVar 6) (tCons (tVar 8) tNil))))))) (tRet (tC (.bl false))) tNext)
    (tRet (tCall (sp_law_like K 12) [] E0 (tCons (tLst (tCons (tOp (rSelf (He.ga K "Whole") (sp_Whole_eq K)) (tOp (rSelf (He.ga K "Whole") (sp_Whole_add K)) (tVar 0) (tOp (rSelf (He.ga K "Whole") (sp_Whole_and K)) (tVar 1) (tVar 2))) (tOp (rSelf (He.ga K "Whole") (sp_Whole_and K)) (tOp (rSelf (He.ga K "Whole") (sp_Whole_add K)) (tVar 0) (tVar 1)) (tVar 2))) (tCons (tOp (rSelf (He.ga K "Whole") (sp_Whole_eq K)) (tOp (rSelf (He.ga K "Whole") (sp_Whole_add K)) (tOp (rSelf (He.ga K "Whole") (sp_Whole_and K)) (tVar 2) (tVar 1)) (tVar 0)) (tOp (rSelf (He.ga K "Whole") (sp_Whole_and K)) (tVar 2) (tOp (rSelf (He.ga K "Whole") (sp_Whole_add K)) (tVar 1) (tVar 0)))) tNil))) (tCons (tLst (tCons (tOp (rEqU K) (tVar 7) (tVar 8)) (tCons (tOp (rEqU K) (tVar 7) (tVar 8)) tNil))) tNil)))))))
def a_law_both_so : DS :=
  (dSeq (dAsg (dCall sd_law_told (dCons (dOp oAddV (dRd 3) (dCall sd_law_meet (dCons (dVar 4) (dCons (dVar 5) (dCons (dVar 6) dNil))))) (dCons (dVar 6) dNil))) (gN 7))
    (dSeq (dAsg (dCall sd_law_meet (dCons (dCall sd_law_told (dCons (dOp oAddV (dRd 3) (dRd 4)) (dCons (dVar 6) dNil))) (dCons (dVar 5) (dCons (dVar 6) dNil)))) (gN 8))
    (dSeq (dIfS (dOr (dNot (dTest (dCall sd_law_is_whole (dCons (dOp (oOwn "Whole" sd_Whole_add) (dVar 0) (dOp (oOwn "Whole" sd_Whole_and) (dVar 1) (dVar 2))) (dCons (dVar 6) (dCons (dVar 7) dNil)))))) (dNot (dTest (dCall sd_law_is_whole (dCons (dOp (oOwn "Whole" sd_Whole_and) (dOp (oOwn "Whole" sd_Whole_add) (dVar 0) (dVar 1)) (dVar 2)) (dCons (dVar 6) (dCons (dVar 8) dNil))))))) (dRet (dC (.bl false))) dNext)
    (dRet (dCall (sd_law_like 12) (dCons (dLst (dCons (dOp (oOwn "Whole" sd_Whole_eq) (dOp (oOwn "Whole" sd_Whole_add) (dVar 0) (dOp (oOwn "Whole" sd_Whole_and) (dVar 1) (dVar 2))) (dOp (oOwn "Whole" sd_Whole_and) (dOp (oOwn "Whole" sd_Whole_add) (dVar 0) (dVar 1)) (dVar 2))) (dCons (dOp (oOwn "Whole" sd_Whole_eq) (dOp (oOwn "Whole" sd_Whole_add) (dOp (oOwn "Whole" sd_Whole_and) (dVar 2) (dVar 1)) (dVar 0)) (dOp (oOwn "Whole" sd_Whole_and) (dVar 2) (dOp (oOwn "Whole" sd_Whole_add) (dVar 1) (dVar 0)))) dNil))) (dCons (dLst (dCons (dOp oEq (dRd 7) (dRd 8)) (dCons (dOp oEq (dRd 7) (dRd 8)) dNil))) dNil)))))))
theorem r_law_both_so {K : PySem.W.Frag} {Jx : WX} {Xd : XD} (CF : ClsF CLw K) : RefS K Jx Xd (t_law_both_so K) a_law_both_so :=
  (rSeq (rAsg (rCall (fun _ _ _ h => h) (rCons (rOp foAddV (rRd 3) (RefE.b (rCall (fun _ _ _ h => h) (rCons (rVar 4) (rCons (rVar 5) (rCons (rVar 6) rNil)))))) (rCons (rVar 6) rNil))) (rgN 7))
    (rSeq (rAsg (rCall (fun _ _ _ h => h) (rCons (rCall (fun _ _ _ h => h) (rCons (rOp foAddV (rRd 3) (rRd 4)) (rCons (rVar 6) rNil))) (rCons (rVar 5) (rCons (rVar 6) rNil)))) (rgN 8))
    (rSeq (rIfS (rOr (rNot (rB (rCall (fun _ _ _ h => h) (rCons (rOpE (foOwn fun _ _ _ h => h) (rVar 0) (rOpE (foOwn fun _ _ _ h => h) (rVar 1) (rVar 2))) (rCons (rVar 6) (rCons (rVar 7) rNil)))))) (rNot (rB (rCall (fun _ _ _ h => h) (rCons (rOpE (foOwn fun _ _ _ h => h) (rOpE (foOwn fun _ _ _ h => h) (rVar 0) (rVar 1)) (rVar 2)) (rCons (rVar 6) (rCons (rVar 8) rNil))))))) (rRet (rBl false)) rNext)
    (rRet (rCall hw_law_like (rCons (rLst (rCons (rOpE (foOwn fun _ _ _ h => h) (rOpE (foOwn fun _ _ _ h => h) (rVar 0) (rOpE (foOwn fun _ _ _ h => h) (rVar 1) (rVar 2))) (rOpE (foOwn fun _ _ _ h => h) (rOpE (foOwn fun _ _ _ h => h) (rVar 0) (rVar 1)) (rVar 2))) (rCons (rOpE (foOwn fun _ _ _ h => h) (rOpE (foOwn fun _ _ _ h => h) (rOpE (foOwn fun _ _ _ h => h) (rVar 2) (rVar 1)) (rVar 0)) (rOpE (foOwn fun _ _ _ h => h) (rVar 2) (rOpE (foOwn fun _ _ _ h => h) (rVar 1) (rVar 0)))) rNil))) (rCons (rLst (rCons (rOp foEq (rRd 7) (rRd 8)) (rCons (rOp foEq (rRd 7) (rRd 8)) rNil))) rNil)))))))
theorem own_add {d : Nat} {A B : List (List Int)} {Q : Dt → Prop} (h : SumOk d A B) (q : Q (wD d (sumE d A B))) : oOwn "Whole" sd_Whole_add (wD d A) (wD d B) Q := ⟨⟨rfl, rfl⟩, d, A, B, rfl, h.len, h.who, q⟩
theorem own_and {d : Nat} {A B : List (List Int)} {Q : Dt → Prop} (h : MtOk d A B) (q : Q (wD d (meetE d A B))) : oOwn "Whole" sd_Whole_and (wD d A) (wD d B) Q := ⟨⟨rfl, rfl⟩, d, A, B, rfl, h.meet, h.who, q⟩
theorem own_eq {d : Nat} {A B : List (List Int)} {Q : Dt → Prop} (q : Q (.bl (decide (A = B)))) : oOwn "Whole" sd_Whole_eq (wD d A) (wD d B) Q := ⟨⟨rfl, rfl⟩, d, d, A, B, rfl, by rw [decide_eq_true rfl, Bool.true_and]; exact q⟩
theorem eq_mDt {a b : List (List Int)} {Q : Bool → Prop} (q : Q (decide (a = b))) : eqQ (.tup (mD a)) (.tup (mD b)) Q := ⟨plain_mD a, plain_mD b, shaped_mD a, shaped_mD b, by
  show Q (PyData.eqv (.tuple (pyAll (mD a))) (.tuple (pyAll (mD b))))
  rw [pyAll_mD, pyAll_mD]
  simp only [PyData.eqv]
  rw [eqv_mD]
  exact q⟩
theorem pd_law_both_so (ds : List Dt) (Qd : Dt → Prop) (h : sd_law_both_so ds Qd) : ds.length ≤ N_law_both_so.length ∧ a_law_both_so ⟨fun _ => Qd .non, Qd, fun _ => False, fun _ => False⟩ (vals ds ++ List.replicate (N_law_both_so.length - ds.length) .no) := by
  obtain ⟨d, A, B, C, rfl, ok, q⟩ := h
  refine ⟨Nat.le_of_ble_eq_true rfl, ?_⟩
  have la : A.length + (meetE d B C).length ≤ 1000 := ok.abc.len
  have lb : A.length + B.length ≤ 1000 := ok.ab.len
  walk_at "dl"
  refine ⟨d, B, C, rfl, ok.bc.law, ?_⟩
  rw [ok.bc.eq]
  walk_at "dl"
  refine ⟨by rw [mD_len, mD_len]; omega, ?_⟩
  refine ⟨d, _, A ++ meetE d B C, rfl, ⟨mD (A ++ meetE d B C), .inr (by unfold mD; rw [List.map_append]), rws_tups⟩, ⟨ok.abc.who.ech, ok.abc.raw⟩, ?_⟩
  walk_at "dl"
  refine ⟨by rw [mD_len, mD_len]; omega, ?_⟩
  refine ⟨d, _, A ++ B, rfl, ⟨mD (A ++ B), .inr (by unfold mD; rw [List.map_append]), rws_tups⟩, ⟨ok.ab.who.ech, ok.ab.raw⟩, ?_⟩
  walk_at "dl"
  refine ⟨d, _, C, rfl, ok.mab.law, ?_⟩
  rw [ok.mab.eq]
  walk_at "dl"
  refine ⟨⟨rfl, rfl⟩, d, B, C, rfl, ok.bc.meet, ok.bc.who, ?_⟩
  refine own_add ok.abc ?_
  walk_at "dl"
  refine ⟨d, sumE d A (meetE d B C), rfl, ok.abc.who.say, ?_⟩
  refine ⟨fun c => absurd c (by decide), fun _ => ?_⟩
  walk_at "dl"
  refine ⟨⟨rfl, rfl⟩, d, A, B, rfl, ok.ab.len, ok.ab.who, ?_⟩
  refine own_and ok.mab ?_
  walk_at "dl"
  refine ⟨d, meetE d (sumE d A B) C, rfl, ok.mab.who.say, ?_⟩
  refine ⟨fun c => absurd c (by decide), fun _ => ?_⟩
  walk_at "dl"
  refine ⟨⟨rfl, rfl⟩, d, B, C, rfl, ok.bc.meet, ok.bc.who, ?_⟩
  refine own_add ok.abc ?_
  walk_at "dl"
  refine ⟨⟨rfl, rfl⟩, d, A, B, rfl, ok.ab.len, ok.ab.who, ?_⟩
  refine own_and ok.mab ?_
  refine own_eq ?_
  walk_at "dl"
  refine ⟨⟨rfl, rfl⟩, d, C, B, rfl, ok.cb.meet, ok.cb.who, ?_⟩
  refine own_add ok.cba ?_
  walk_at "dl"
  refine ⟨⟨rfl, rfl⟩, d, B, A, rfl, ok.ba.len, ok.ba.who, ?_⟩
  refine own_and ok.mba ?_
  refine own_eq ?_
  rw [ok.el, ok.er]
  walk_at "dl"
  refine ⟨Nat.le_of_ble_eq_true rfl, ?_⟩
  have ev : ∀ X Y : List (List Int), PyData.eqv (pyD (.tup (mD X))) (pyD (.tup (mD Y))) = decide (X = Y) := fun X Y => by
    show PyData.eqv (.tuple (pyAll (mD X))) (.tuple (pyAll (mD Y))) = _
    rw [pyAll_mD, pyAll_mD]
    simp only [PyData.eqv]
    rw [eqv_mD]
  walk_at "dl"
  refine ⟨plain_mD _, plain_mD _, shaped_mD _, shaped_mD _, ?_⟩
  rw [ev]
  walk_at "dl"
  refine ⟨plain_mD _, plain_mD _, shaped_mD _, shaped_mD _, ?_⟩
  rw [ev]
  refine ⟨Nat.le_of_ble_eq_true rfl, ?_⟩
  refine like_same ?_ ?_ q
  · rfl
  · refine ⟨Nat.le_of_ble_eq_true rfl, fun x hx => ?_⟩
    have hx' : x ∈ [PyData.bool (decide (sumE d A (meetE d B C) = meetE d (sumE d A B) C)), PyData.bool (decide (sumE d A (meetE d B C) = meetE d (sumE d A B) C))] := hx
    simp only [List.mem_cons, List.not_mem_nil, or_false, or_self] at hx'
    subst hx'
    trivial
abbrev sp_law_both_so (K : PySem.W.Frag) : Sp := spD K sd_law_both_so
theorem pure_law_both_so {K : PySem.W.Frag} (CF : ClsF CLw K) (vs : List V) (H : Hp) (Q : VK) (E : XK) (h : sp_law_both_so K vs H Q E) : t_law_both_so K { nx := fun _ H' => Q .non H', rt := Q } (L2.start N_law_both_so vs) H := fnD (Jx := fun _ _ _ _ => False) (r_law_both_so CF) h pd_law_both_so

/-! the law -/
structure DrawOk (d : Nat) (M : List (List Int)) : Prop where
  d1 : 1 ≤ d
  d5 : d ≤ 5
  few : M.length ≤ 4
  rows : Okr d 14 M

end
section

/-! ### sums and meets by their spans -/
section
variable {d : Nat} {A B C T U : List Vec} {v : Vec}
theorem meetM_two : meetM d [A, B] = ech d (sols d A) ++ ech d (sols d B) := by
  unfold meetM
  simp
theorem meetM_len : Len d (meetM d [A, B]) := by
  rw [meetM_two]
  exact len_app (ech_len' sols_len) (ech_len' sols_len)
theorem meetD_rf : Rf d (meetD d A B) := (ech_rf sols_len).1
theorem meet_iff (RA : Rf d A) (RB : Rf d B) : Spn d (meetD d A B) v ↔ Spn d A v ∧ Spn d B v := by
  obtain ⟨RN, eN⟩ := ech_rf (meetM_len (d := d) (A := A) (B := B))
  have eD := (ech_rf (sols_len (d := d) (T := ech d (meetM d [A, B])))).2
  have eA := (ech_rf (sols_len (d := d) (T := A))).2
  have eB := (ech_rf (sols_len (d := d) (T := B))).2
  constructor
  · intro s
    have hv := s.len
    have s1 := (eD v).mp s
    have p1 : ∀ r, r ∈ meetM d [A, B] → dt r (fun j => v.getD j 0) d = 0 := perp_eqs meetM_len eN fun r hr _ => sols_perp RN s1 hr
    rw [meetM_two] at p1
    exact ⟨perp_in RA hv (perp_eqs sols_len eA fun r hr _ => p1 r (List.mem_append_left _ hr)), perp_in RB hv (perp_eqs sols_len eB fun r hr _ => p1 r (List.mem_append_right _ hr))⟩
  · rintro ⟨sA, sB⟩
    have hv := sA.len
    have q1 := perp_eqs (ech_len' sols_len) eA.symm fun r hr _ => spn_perp RA sA hr
    have q2 := perp_eqs (ech_len' sols_len) eB.symm fun r hr _ => spn_perp RB sB hr
    have p1 : ∀ r, r ∈ meetM d [A, B] → r.length = d → dt r (fun j => v.getD j 0) d = 0 := fun r hr _ => by
      rw [meetM_two] at hr
      exact (List.mem_append.mp hr).elim (q1 r) (q2 r)
    exact (eD v).mpr (perp_sols RN hv (perp_eqs RN.len eN.symm p1))
theorem meetE_id : meetE d A B = meetD d A B := ech_id meetD_rf
theorem sum_rf (RA : Rf d A) (RB : Rf d B) : Rf d (sumE d A B) ∧ Eqs d (sumE d A B) (A ++ B) := ech_rf (len_app RA.len RB.len)
theorem app_comm : Eqs d (A ++ B) (B ++ A) := eqs_perm fun r => by rw [List.mem_append, List.mem_append]; exact Or.comm
theorem sum_comm (RA : Rf d A) (RB : Rf d B) : sumE d A B = sumE d B A := ech_eq (len_app RA.len RB.len) (len_app RB.len RA.len) app_comm
theorem meetE_rf : Rf d (meetE d A B) := by
  rw [meetE_id]
  exact meetD_rf
theorem meetE_iff (RA : Rf d A) (RB : Rf d B) : Spn d (meetE d A B) v ↔ Spn d A v ∧ Spn d B v := by
  rw [meetE_id]
  exact meet_iff RA RB
theorem meet_comm (RA : Rf d A) (RB : Rf d B) : meetE d A B = meetE d B A := meetE_rf.eq meetE_rf fun v => by
  rw [meetE_iff RA RB, meetE_iff RB RA]
  exact And.comm
/-- the modular law -/
theorem modular (RA : Rf d A) (RB : Rf d B) (RC : Rf d C) (h : ∀ v, Spn d A v → Spn d C v) : sumE d A (meetE d B C) = meetE d (sumE d A B) C := by
  obtain ⟨RS, eS⟩ := sum_rf RA RB
  obtain ⟨RL, eL⟩ := sum_rf (B := meetE d B C) RA meetE_rf
  refine RL.eq meetE_rf fun v => ?_
  rw [eL v, meetE_iff RS RC, eS v]
  constructor
  · intro s
    refine ⟨s.mono fun r hr rl => ?_, s.mono fun r hr rl => ?_⟩
    · rcases List.mem_append.mp hr with q | q
      · exact .mem (List.mem_append_left _ q) rl
      · exact ((meetE_iff RB RC).mp (.mem q rl)).1.sub fun x hx => List.mem_append_right _ hx
    · rcases List.mem_append.mp hr with q | q
      · exact h r (.mem q rl)
      · exact ((meetE_iff RB RC).mp (.mem q rl)).2
  · rintro ⟨s, sc⟩
    obtain ⟨c, a, b, hc, sa, sb, e⟩ := sp_app s
    have bc : Spn d C b := .lin c (-1) 1 (by decide) sc (h a sa) sb.len fun i => by
      have := e i
      omega
    have bm : Spn d (meetE d B C) b := (meetE_iff RB RC).mpr ⟨sb, bc⟩
    exact .lin 1 1 c hc (sa.sub fun x hx => List.mem_append_left _ hx) (bm.sub fun x hx => List.mem_append_right _ hx) s.len fun i => by rw [e i]; omega
/-! the law's zeros -/
theorem lprod_pos (R : Rf d T) : ∀ i, i ≤ T.length → 0 < lprod (T.take i) ∧ lmul (T.take i) ∣ (lprod (T.take i)).natAbs
  | 0, _ => by
    rw [List.take_zero]
    exact ⟨by decide, by decide⟩
  | i + 1, h => by
    obtain ⟨a, b⟩ := lprod_pos R i (by omega)
    have il : i < T.length := by omega
    rw [take_succ_get (tk_at il), lprod_snoc, lmul_snoc]
    refine ⟨Int.mul_pos a (R.pos il), ?_⟩
    rw [Int.natAbs_mul]
    exact Nat.lcm_dvd (Nat.dvd_trans b (Nat.dvd_mul_right _ _)) (Nat.dvd_mul_left _ _)
theorem set_getD {r : Vec} {p j : Nat} {x : Int} (hp : p < r.length) : (r.set p x).getD j 0 = if j = p then x else r.getD j 0 := by
  rw [List.getD_eq_getElem?_getD, List.getD_eq_getElem?_getD, List.getElem?_set]
  by_cases c : j = p
  · rw [if_pos c, if_pos c.symm, if_pos hp]
    rfl
  · rw [if_neg c, if_neg fun q => c q.symm]
theorem zrow_getD (R : Rf d T) {f : Nat} (hf : Free T f) (hd : f < d) (j : Nat) : ∀ k, k ≤ T.length → (zrow d T f k).getD j 0 = (if j = f then lprod T else 0) - sg k fun i => if lk T i = j then (tk T i).getD f 0 * (lprod T / hk T i) else 0
  | 0, _ => by
    show ((List.replicate d 0).set f (lprod T)).getD j 0 = _ - 0
    rw [set_getD (by rw [List.length_replicate]; exact hd), getD_rep]
    exact (Int.sub_zero _).symm
  | k + 1, h => by
    have kl : k < T.length := by omega
    have ih := zrow_getD R hf hd j k (by omega)
    show ((zrow d T f k).set (lk T k) (0 - (tk T k).getD f 0 * (lprod T).fdiv (hk T k))).getD j 0 = (if j = f then lprod T else 0) - (sg k (fun i => if lk T i = j then (tk T i).getD f 0 * (lprod T / hk T i) else 0) + if lk T k = j then (tk T k).getD f 0 * (lprod T / hk T k) else 0)
    rw [set_getD (by rw [zrow_len]; exact R.lt kl)]
    have hp := R.pos kl
    by_cases c : j = lk T k
    · rw [if_pos c, if_pos c.symm, if_neg fun q => hf k kl (by rw [← c, q]), sg_z fun i hi => if_neg fun q => ?_, Int.fdiv_eq_ediv_of_nonneg _ (by omega)]
      · omega
      · have := R.dif (by omega) kl (q.trans c)
        omega
    · have z : (if lk T k = j then (tk T k).getD f 0 * (lprod T / hk T k) else 0) = 0 := if_neg fun q => c q.symm
      rw [if_neg c, ih, z, Int.add_zero]
theorem zrow_sol (R : Rf d T) {f : Nat} (hf : Free T f) (hd : f < d) : ∃ g : Int, 0 < g ∧ ∀ j, (zrow d T f T.length).getD j 0 = g * (onesol d T f).getD j 0 := by
  obtain ⟨P0, dv⟩ := lprod_pos R T.length (Nat.le_refl _)
  rw [List.take_length] at P0 dv
  have D0 := R.mpos
  have dv' : mT T ∣ lprod T := Int.ofNat_dvd_left.mpr dv
  have eg : lprod T = lprod T / mT T * mT T := (Int.ediv_mul_cancel dv').symm
  generalize lprod T / mT T = g at eg
  have g0 : 0 < g := by
    rw [eg, Int.mul_comm] at P0
    exact pos_of_mul (Int.le_of_lt D0) P0
  refine ⟨g, g0, fun j => ?_⟩
  by_cases c : j < d
  · rw [zrow_getD R hf hd j _ (Nat.le_refl _), onesol_getD j c, oent_eq R hf, Int.mul_sub, ← sg_mul]
    congr 1
    · split
      · exact eg
      · rw [Int.mul_zero]
    · refine sg_congr fun k hk' => ?_
      split
      · rw [eg, Int.mul_ediv_assoc _ (R.dvd k hk')]
        simp only [Int.mul_comm, Int.mul_left_comm, Int.mul_assoc]
      · rw [Int.mul_zero]
  · rw [getD_out (by rw [zrow_len]; omega), getD_out (by rw [onesol_len]; omega), Int.mul_zero]
theorem eleft_zeros (R : Rf d T) : eleft (zeros d T) = eleft (sols d T) := by
  unfold zeros sols
  have key : ∀ L : List Nat, (∀ f, f ∈ L → f < d ∧ Free T f) → eleft (L.map fun f => zrow d T f T.length) = eleft (L.map (onesol d T)) := fun L => by
    induction L with
    | nil => exact fun _ => rfl
    | cons f L ih =>
      intro h
      have ih' := ih fun x hx => h x (List.mem_cons_of_mem _ hx)
      obtain ⟨h1, h2⟩ := h f (List.mem_cons_self ..)
      obtain ⟨g, g0, e⟩ := zrow_sol R h2 h1
      have nzz : nz (zrow d T f T.length) = nz (onesol d T f) := nz_scale (by omega) e
      have prz : prim (zrow d T f T.length) = prim (onesol d T f) := prim_scale g0 e (by rw [zrow_len, onesol_len])
      unfold eleft at ih' ⊢
      rw [List.map_cons, List.map_cons, List.filter_cons, List.filter_cons, nzz]
      split
      · rw [List.map_cons, List.map_cons, ih', prz]
      · exact ih'
  exact key (frees d T) fun f hf => by
    obtain ⟨h1, h2⟩ := List.mem_filter.mp hf
    exact ⟨List.mem_range.mp h1, free_iff.mp h2⟩
theorem ech_zeros (R : Rf d T) : ech d (zeros d T) = ech d (sols d T) := by
  unfold ech
  rw [eleft_zeros R]
theorem lmeet_eq (RA : Rf d A) (RB : Rf d B) : lmeet d A B = meetE d A B := by
  rw [meetE_id]
  unfold lmeet meetD
  rw [ech_zeros RA, ech_zeros RB, ← meetM_two, ech_zeros (ech_rf meetM_len).1]
/-! which rows lie in told rows -/
theorem lieTot_getD (R : Rf d T) {r : Vec} (hr : r.length = d) (j : Nat) (hj : j < d) : ∀ i, i ≤ T.length → (lieTot T r i).getD j 0 = sg i fun k => mT T / hk T k * r.getD (lk T k) 0 * (tk T k).getD j 0
  | 0, _ => by
    show (List.replicate r.length 0).getD j 0 = 0
    exact getD_rep
  | i + 1, h => by
    have il : i < T.length := by omega
    have ih := lieTot_getD R hr j hj i (by omega)
    have ll : (lieTot T r i).length = r.length := lieTot_len (fun l hl => by rw [(R.tl l hl).1, hr]) i
    have e : lieTot T r (i + 1) = List.zipWith (fun n o => n + r.getD (lk T i) 0 * (mT T).fdiv (hk T i) * o) (lieTot T r i) (tk T i) := by
      unfold lieTot
      rw [take_succ_get (tk_at il), List.foldl_append]
      rfl
    have tl := (R.tl _ (tk_mem il)).1
    rw [e, addm_getD (by rw [ll, hr, tl]), ih]
    show sg i _ + _ = sg i _ + _
    congr 1
    rw [Int.fdiv_eq_ediv_of_nonneg _ (by have := R.pos il; omega), Int.mul_comm (r.getD _ 0)]
theorem lies_of (R : Rf d T) {r : Vec} (s : Spn d T r) : lies T r = true := by
  refine decide_eq_true (vec_ext (by rw [lieTot_len (fun l hl => by rw [(R.tl l hl).1, s.len]), List.length_map]) fun j => ?_)
  have ll : (lieTot T r T.length).length = r.length := lieTot_len (fun l hl => by rw [(R.tl l hl).1, s.len]) _
  by_cases c : j < d
  · rw [lieTot_getD R s.len j c _ (Nat.le_refl _), getD_map (f := fun n => mT T * n) (by simp)]
    exact (R.exp R.dvd s j).symm
  · rw [getD_out (by rw [ll, s.len]; omega), getD_out (by rw [List.length_map, s.len]; omega)]
end

end
section

/-! ### how great the numbers of an echelon are -/
theorem bbits_mono {b : Nat} : ∀ {k m : Nat}, k ≤ m → bbits b k ≤ bbits b m
  | k, m, h => by
    have e1 := bbits_eq b k
    have e2 := bbits_eq b m
    have : (b + 1) * 2 ^ k ≤ (b + 1) * 2 ^ m := Nat.mul_le_mul_left _ (Nat.pow_le_pow_right (by decide) h)
    omega
theorem Okr.up {d a b : Nat} {M : List Vec} (h : Okr d a M) (e : a ≤ b) : Okr d b M := fun r hr => ⟨(h r hr).1, (h r hr).2.mono e⟩
theorem est_bd {d b : Nat} {M : List Vec} (hb : Okr d b (eleft M)) : ∀ p, Okr d (bbits b (est M p).1.length) (est M p).1 ∧ Okr d (bbits b (est M p).1.length) (est M p).2
  | 0 => ⟨fun r h => by simp [est] at h, hb⟩
  | p + 1 => by
    obtain ⟨h1, h2⟩ := est_bd hb p
    rw [est_succ]
    generalize est M p = s at h1 h2 ⊢
    unfold estep
    cases hk : lead? s.2 p with
    | none => exact ⟨h1, h2⟩
    | some k =>
      obtain ⟨r, hr, _, _⟩ := lead_some hk
      have hg : s.2.getD k [] = r := by
        rw [List.getD_eq_getElem?_getD, hr]
        rfl
      dsimp only
      rw [hg]
      obtain ⟨r1, r2⟩ := h2 r (List.mem_of_getElem? hr)
      have okl : (led r p).length = d ∧ Bd (bbits b s.1.length) (led r p) := ⟨by rw [led_len]; exact r1, led_bd r2⟩
      have en : (s.1.map (strk · (led r p) p) ++ [led r p]).length = s.1.length + 1 := by simp
      rw [en]
      have up : bbits b (s.1.length + 1) = 2 * bbits b s.1.length + 1 := rfl
      rw [up]
      refine ⟨fun x hx => ?_, fun x hx => ?_⟩
      · rcases List.mem_append.mp hx with h | h
        · exact okr_strk h1 okl x h
        · rw [List.mem_singleton.mp h]
          exact ⟨okl.1, okl.2.mono (by omega)⟩
      · refine okr_strk (okr_sub h2 fun y hy => ?_) okl x (List.mem_filter.mp hx).1
        rcases List.mem_append.mp hy with h | h
        · exact List.mem_of_mem_take h
        · exact List.mem_of_mem_drop h
theorem est_cnt (M : List Vec) : ∀ p, (est M p).1.length + (est M p).2.length ≤ M.length
  | 0 => by
    show 0 + (eleft M).length ≤ _
    unfold eleft
    rw [List.length_map, Nat.zero_add]
    exact List.length_filter_le ..
  | p + 1 => by
    have ih := est_cnt M p
    rw [est_succ]
    generalize est M p = s at ih ⊢
    unfold estep
    cases hk : lead? s.2 p with
    | none => exact ih
    | some k =>
      obtain ⟨r, hr, _, _⟩ := lead_some hk
      have kl := (List.getElem?_eq_some_iff.mp hr).1
      dsimp only
      have := List.length_filter_le nz ((s.2.take k ++ s.2.drop (k + 1)).map (strk · (led (s.2.getD k []) p) p))
      simp at this ⊢
      omega
/-- the echelon's numbers are within bounds -/
theorem echok {d b m : Nat} {M : List Vec} (d5 : d ≤ 5) (hr : Okr d 12900 M) (hl : M.length ≤ m) (m1 : m ≤ 100000) (hb : Okr d b (eleft M)) (hbb : bbits b (min 4 m) ≤ 6449) : EchOk d M := by
  have key : ∀ p, p < d → bbits b (est M p).1.length ≤ 6449 := fun p hp => by
    have a := est_len1 M p
    have c := est_cnt M p
    exact Nat.le_trans (bbits_mono (by omega)) hbb
  exact ⟨by omega, by omega, hr, fun p hp => (est_bd hb p).1.up (key p hp), fun p hp => (est_bd hb p).2.up (key p hp)⟩
theorem eleft_bd {d b : Nat} {M : List Vec} (h : Okr d b M) : Okr d b (eleft M) := fun r hr => by
  obtain ⟨x, hx, rfl⟩ := List.mem_map.mp hr
  obtain ⟨h1, h2⟩ := h x (List.mem_filter.mp hx).1
  exact ⟨by rw [prim_len]; exact h1, prim_bd h2⟩
/-! independent generators -/
theorem sup_nat (f : Nat → Nat) : ∀ n, ∃ b, ∀ i, i < n → f i ≤ b
  | 0 => ⟨0, fun i h => absurd h (Nat.not_lt_zero _)⟩
  | n + 1 => by
    obtain ⟨b, h⟩ := sup_nat f n
    refine ⟨b + f n, fun i hi => ?_⟩
    by_cases c : i = n
    · rw [c]
      omega
    · have := h i (by omega)
      omega
theorem sup_two (A : Nat → Nat → Int) (e n : Nat) : ∃ b, ∀ i, i < e → ∀ j, j < n → (A i j).natAbs < 2 ^ b := by
  have h1 : ∀ i, ∃ b, ∀ j, j < n → (A i j).natAbs ≤ b := fun i => sup_nat (fun j => (A i j).natAbs) n
  obtain ⟨b, hb⟩ := sup_nat (fun i => Classical.choose (h1 i)) e
  refine ⟨b, fun i hi j hj => ?_⟩
  have a := Classical.choose_spec (h1 i) j hj
  have c := hb i hi
  exact Nat.lt_of_le_of_lt (Nat.le_trans a c) Nat.lt_two_pow_self
/-- no relation among the rows -/
def Ind (G : List Vec) : Prop := ∀ c : Nat → Int, (∀ j, sg G.length (fun i => c i * (tk G i).getD j 0) = 0) → ∀ i, i < G.length → c i = 0
theorem drop_rel {d : Nat} {M : List Vec} (hM : Len d M) {c : Nat → Int} (h : ∀ j, sg M.length (fun i => c i * (tk M i).getD j 0) = 0) {i0 : Nat} (hi : i0 < M.length) (hc : c i0 ≠ 0) : Eqs d (M.eraseIdx i0) M := by
  have other : ∀ i, i < M.length → i ≠ i0 → tk M i ∈ M.eraseIdx i0 := fun i hi ne => List.mem_eraseIdx_iff_getElem?.mpr ⟨i, ne, tk_at hi⟩
  have own : Spn d (M.eraseIdx i0) (tk M i0) := by
    refine spn_sum (c := c i0) (n := M.length) (a := fun i => if i = i0 then 0 else -c i) (w := fun i => tk M i) hc (hM _ (tk_mem hi)) (fun k hk' => ?_) fun j => ?_
    · by_cases q : k = i0
      · exact .inl (if_pos q)
      · exact .inr (.mem (other k hk' q) (hM _ (tk_mem hk')))
    · have e : sg M.length (fun i => c i * (tk M i).getD j 0) = sg M.length (fun i => if i = i0 then c i0 * (tk M i0).getD j 0 else 0) - sg M.length (fun i => (if i = i0 then 0 else -c i) * (tk M i).getD j 0) := by
        rw [← sg_sub]
        refine sg_congr fun i _ => ?_
        by_cases q : i = i0
        · rw [if_pos q, if_pos q, q]
          omega
        · rw [if_neg q, if_neg q, Int.neg_mul]
          omega
      rw [h j, sg_one hi fun i _ ne => if_neg ne, if_pos rfl] at e
      omega
  refine eqs_of (fun r hr rl => .mem (List.mem_of_mem_eraseIdx hr) rl) fun r hr rl => ?_
  obtain ⟨i, hi'⟩ := List.getElem?_of_mem hr
  have il := (List.getElem?_eq_some_iff.mp hi').1
  have e := tk_of hi'
  by_cases q : i = i0
  · rw [← e, q]
    exact own
  · rw [← e]
    exact .mem (other i il q) (hM _ (tk_mem il))
theorem basis {d : Nat} : ∀ (n : Nat) (M : List Vec), M.length = n → Len d M → ∃ G, (∀ g, g ∈ G → g ∈ M) ∧ Eqs d G M ∧ Ind G
  | 0, M, hn, hM => ⟨M, fun _ h => h, .refl, fun c _ i hi => absurd hi (by omega)⟩
  | n + 1, M, hn, hM => by
    by_cases q : Ind M
    · exact ⟨M, fun _ h => h, .refl, q⟩
    · have : ∃ c : Nat → Int, (∀ j, sg M.length (fun i => c i * (tk M i).getD j 0) = 0) ∧ ∃ i, i < M.length ∧ c i ≠ 0 := Classical.byContradiction fun z => q fun c h i hi => Classical.byContradiction fun y => z ⟨c, h, i, hi, y⟩
      obtain ⟨c, h, i0, hi, hc⟩ := this
      obtain ⟨G, g1, g2, g3⟩ := basis n (M.eraseIdx i0) (by rw [List.length_eraseIdx_of_lt hi]; omega) fun r hr => hM r (List.mem_of_mem_eraseIdx hr)
      exact ⟨G, fun g hg => List.mem_of_mem_eraseIdx (g1 g hg), g2.trans (drop_rel hM h hi hc), g3⟩

end
section

/-! ### told rows by few generators: their numbers -/
theorem sg_cut {f : Nat → Int} {n : Nat} : ∀ {m : Nat}, n ≤ m → (∀ i, n ≤ i → i < m → f i = 0) → sg m f = sg n f
  | 0, h, _ => by rw [show n = 0 by omega]
  | m + 1, h, z => by
    by_cases c : n = m + 1
    · rw [c]
    · show sg m f + f m = sg n f
      rw [sg_cut (by omega) fun i h1 h2 => z i h1 (by omega), z m (by omega) (by omega), Int.add_zero]
theorem vec_lin {d : Nat} {G : List Vec} (hG : Len d G) (c : Nat → Int) : ∃ w : Vec, w.length = d ∧ Spn d G w ∧ ∀ j, w.getD j 0 = sg G.length fun i => c i * (tk G i).getD j 0 := by
  have we : ∀ j, ((List.range d).map fun j => sg G.length fun i => c i * (tk G i).getD j 0).getD j 0 = sg G.length fun i => c i * (tk G i).getD j 0 := fun j => by
    by_cases q : j < d
    · rw [List.getD_eq_getElem?_getD, List.getElem?_map, List.getElem?_range q]
      rfl
    · rw [getD_out (by rw [List.length_map, List.length_range]; omega)]
      exact (sg_z fun i hi => by
        have z : (tk G i).getD j 0 = 0 := getD_out (by rw [hG _ (tk_mem hi)]; omega)
        rw [z, Int.mul_zero]).symm
  have wl : ((List.range d).map fun j => sg G.length fun i => c i * (tk G i).getD j 0).length = d := by rw [List.length_map, List.length_range]
  exact ⟨_, wl, spn_sum (c := 1) (n := G.length) (a := c) (w := fun i => tk G i) (by decide) wl (fun k hk' => .inr (.mem (tk_mem hk') (hG _ (tk_mem hk')))) fun i => by rw [Int.one_mul, we i], we⟩
theorem spn_coef {d : Nat} {G : List Vec} {v : Vec} (s : Spn d G v) : ∃ (c : Int) (a : Nat → Int), c ≠ 0 ∧ ∀ j, c * v.getD j 0 = sg G.length fun i => a i * (tk G i).getD j 0 := by
  induction s with
  | zero => exact ⟨1, fun _ => 0, by decide, fun j => by rw [getD_rep, sg_z fun i _ => Int.zero_mul _]; rfl⟩
  | @mem r hr rl =>
    obtain ⟨k, hk'⟩ := List.getElem?_of_mem hr
    have kl := (List.getElem?_eq_some_iff.mp hk').1
    refine ⟨1, fun i => if i = k then 1 else 0, by decide, fun j => ?_⟩
    show 1 * r.getD j 0 = sg G.length fun i => (if i = k then 1 else 0) * (tk G i).getD j 0
    rw [sg_one kl fun i _ ne => by rw [if_neg ne, Int.zero_mul], if_pos rfl, tk_of hk']
  | @lin u w v a b c hc _ _ lv e iu iw =>
    obtain ⟨c1, a1, h1, e1⟩ := iu
    obtain ⟨c2, a2, h2, e2⟩ := iw
    refine ⟨c * c1 * c2, fun i => a * c2 * a1 i + b * c1 * a2 i, Int.mul_ne_zero (Int.mul_ne_zero hc h1) h2, fun j => ?_⟩
    have q : sg G.length (fun i => (a * c2 * a1 i + b * c1 * a2 i) * (tk G i).getD j 0) = a * c2 * (c1 * u.getD j 0) + b * c1 * (c2 * w.getD j 0) := by
      rw [e1 j, e2 j, ← sg_mul, ← sg_mul, ← sg_add]
      exact sg_congr fun i _ => by simp only [Int.add_mul, Int.mul_assoc]
    show c * c1 * c2 * v.getD j 0 = sg G.length fun i => (a * c2 * a1 i + b * c1 * a2 i) * (tk G i).getD j 0
    rw [q]
    have k := e j
    calc c * c1 * c2 * v.getD j 0 = c1 * c2 * (c * v.getD j 0) := by simp only [Int.mul_comm, Int.mul_left_comm, Int.mul_assoc]
      _ = _ := by rw [k, Int.mul_add]; simp only [Int.mul_comm, Int.mul_left_comm, Int.mul_assoc]
section
variable {d b : Nat} {T G : List Vec}
theorem ind_le (R : Rf d T) (hG : Len d G) (I : Ind G) (e : Eqs d G T) (hd : T.length ≤ 7) : G.length ≤ T.length := Classical.byContradiction fun q => by
  obtain ⟨b, hb⟩ := sup_two (fun i j => (tk G j).getD (lk T i) 0) T.length (T.length + 1)
  obtain ⟨x, ⟨j0, hj0, hx0⟩, hx, _⟩ := siegel (n := T.length + 1) (e := T.length) (fun i j => (tk G j).getD (lk T i) 0) (by omega) (by omega) hb
  have cut : ∀ j, sg G.length (fun i => (if i < T.length + 1 then x i else 0) * (tk G i).getD j 0) = sg (T.length + 1) fun i => (tk G i).getD j 0 * x i := fun j => by
    rw [sg_cut (n := T.length + 1) (by omega) fun i h1 _ => by rw [if_neg (by omega), Int.zero_mul]]
    exact sg_congr fun i hi => by rw [if_pos hi, Int.mul_comm]
  obtain ⟨w, wl, ws, we⟩ := vec_lin hG fun i => if i < T.length + 1 then x i else 0
  have wz := R.zero ((e w).mp ws) fun k hk' => by rw [we, cut]; exact hx k hk'
  have z := I (fun i => if i < T.length + 1 then x i else 0) (fun j => by rw [← we j]; exact wz j) j0 (by omega)
  rw [if_pos hj0] at z
  exact hx0 z
theorem ind_ge (R : Rf d T) (e : Eqs d G T) (hd : T.length ≤ 8) : T.length ≤ G.length := Classical.byContradiction fun q => by
  have co : ∀ k, ∃ (c : Int) (a : Nat → Int), k < T.length → c ≠ 0 ∧ ∀ j, c * (tk T k).getD j 0 = sg G.length fun i => a i * (tk G i).getD j 0 := fun k => by
    by_cases h : k < T.length
    · obtain ⟨c, a, h1, h2⟩ := spn_coef ((e _).mpr (.mem (tk_mem h) (R.len _ (tk_mem h))))
      exact ⟨c, a, fun _ => ⟨h1, h2⟩⟩
    · exact ⟨0, fun _ => 0, fun z => absurd z h⟩
  let c : Nat → Int := fun k => Classical.choose (co k)
  let a : Nat → Nat → Int := fun k => Classical.choose (Classical.choose_spec (co k))
  have ca : ∀ k, k < T.length → c k ≠ 0 ∧ ∀ j, c k * (tk T k).getD j 0 = sg G.length fun i => a k i * (tk G i).getD j 0 := fun k => Classical.choose_spec (Classical.choose_spec (co k))
  obtain ⟨b, hb⟩ := sup_two (fun i k => a k i) G.length T.length
  obtain ⟨x, ⟨k0, hk0, hx0⟩, hx, _⟩ := siegel (n := T.length) (e := G.length) (fun i k => a k i) hd (by omega) hb
  have z : sg T.length (fun k => x k * (c k * (tk T k).getD (lk T k0) 0)) = 0 := by
    have e1 : sg T.length (fun k => x k * (c k * (tk T k).getD (lk T k0) 0)) = sg T.length fun k => sg G.length fun i => a k i * x k * (tk G i).getD (lk T k0) 0 := sg_congr fun k hk' => by
      rw [(ca k hk').2, ← sg_mul]
      exact sg_congr fun i _ => by simp only [Int.mul_comm, Int.mul_left_comm, Int.mul_assoc]
    rw [e1, sg_swap]
    refine sg_z fun i hi => ?_
    have e2 : sg T.length (fun k => a k i * x k * (tk G i).getD (lk T k0) 0) = (tk G i).getD (lk T k0) 0 * sg T.length fun k => a k i * x k := by
      rw [← sg_mul]
      exact sg_congr fun k _ => Int.mul_comm _ _
    rw [e2, hx i hi, Int.mul_zero]
  rw [sg_one hk0 fun k hk' ne => by rw [R.clk hk' hk0 ne, Int.mul_zero, Int.mul_zero]] at z
  have := R.pos hk0
  exact Int.mul_ne_zero hx0 (Int.mul_ne_zero (ca k0 hk0).1 (show (tk T k0).getD (lk T k0) 0 ≠ 0 by show hk T k0 ≠ 0; omega)) z
/-- a multiple of what has no divisor -/
theorem mult_bd {w t : Vec} {a c : Int} (ha : a ≠ 0) (hc : c ≠ 0) (ht : gall t = 1) (e : ∀ j, a * w.getD j 0 = c * t.getD j 0) (j : Nat) : (t.getD j 0).natAbs ≤ (w.getD j 0).natAbs := by
  have g : gall (t.map (c * ·)) = c.natAbs := by rw [gall_mul, ht, Nat.mul_one]
  have dv : a.natAbs ∣ c.natAbs := by
    rw [← g]
    refine dvd_gall fun x hx => ?_
    obtain ⟨i, hi⟩ := List.getElem?_of_mem hx
    have xe : x = a * w.getD i 0 := by
      have h1 : (t.map (c * ·)).getD i 0 = x := by rw [List.getD_eq_getElem?_getD, hi]; rfl
      rw [← h1, getD_map (f := (c * ·)) (by simp), e i]
    rw [xe, Int.natAbs_mul]
    exact Nat.dvd_mul_right _ _
  obtain ⟨q, hq⟩ := dv
  have q0 : 0 < q := Nat.pos_of_ne_zero fun z => hc (by rw [z, Nat.mul_zero] at hq; omega)
  have e1 := congrArg Int.natAbs (e j)
  rw [Int.natAbs_mul, Int.natAbs_mul, hq, Nat.mul_assoc] at e1
  have e2 := Nat.eq_of_mul_eq_mul_left (by omega) e1
  rw [e2]
  exact Nat.le_mul_of_pos_left _ q0
theorem gen_bd (R : Rf d T) (hG : Okr d b G) (I : Ind G) (e : Eqs d G T) (hd : T.length ≤ 7) : Okr d (T.length * (b + 4)) T := fun t ht => by
  have lG : Len d G := fun r hr => (hG r hr).1
  have m1 := ind_le R lG I e hd
  have m2 := ind_ge R e (by omega)
  have ml : G.length = T.length := by omega
  obtain ⟨k0, hk0⟩ := List.getElem?_of_mem ht
  have kl := (List.getElem?_eq_some_iff.mp hk0).1
  have kt := tk_of hk0
  let ix : Nat → Nat := fun i => if i < k0 then i else i + 1
  obtain ⟨x, ⟨j0, hj0, hx0⟩, hx, hxb⟩ := siegel (n := T.length) (e := T.length - 1) (b := b) (fun i j => (tk G j).getD (lk T (ix i)) 0) (by omega) (by omega) fun i _ j hj => getD_bd (hG _ (tk_mem (by omega))).2
  obtain ⟨w, wl, ws, we⟩ := vec_lin lG x
  have sT := (e w).mp ws
  have wz : ∀ k, k < T.length → k ≠ k0 → w.getD (lk T k) 0 = 0 := fun k hk' ne => by
    have hi : ∃ i, i < T.length - 1 ∧ ix i = k := by
      by_cases c : k < k0
      · exact ⟨k, by omega, if_pos c⟩
      · refine ⟨k - 1, by omega, ?_⟩
        show (if k - 1 < k0 then k - 1 else k - 1 + 1) = k
        rw [if_neg (by omega)]
        omega
    obtain ⟨i, h1, rfl⟩ := hi
    have z := hx i h1
    rw [we, ml]
    refine Eq.trans (sg_congr fun j _ => Int.mul_comm _ _) z
  have w0 : w.getD (lk T k0) 0 ≠ 0 := fun z => hx0 (I x (fun j => by
    rw [← we j]
    refine R.zero sT (fun k hk' => ?_) j
    by_cases c : k = k0
    · rw [c]
      exact z
    · exact wz k hk' c) j0 (by omega))
  have ex := R.exp R.dvd sT
  have D0 := R.mpos
  have dvk := dvm R kl
  have q0 : mT T / hk T k0 ≠ 0 := fun z => by
    rw [z, Int.zero_mul] at dvk
    exact absurd dvk.symm (Int.ne_of_gt D0)
  have pr : ∀ j, mT T * w.getD j 0 = mT T / hk T k0 * w.getD (lk T k0) 0 * t.getD j 0 := fun j => by
    rw [ex j, sg_one kl fun k hk' ne => by rw [wz k hk' ne, Int.mul_zero, Int.zero_mul], kt]
  have tb := mult_bd (Int.ne_of_gt D0) (Int.mul_ne_zero q0 w0) (R.tl t ht).2 pr
  refine ⟨(R.tl t ht).1, fun y hy => ?_⟩
  obtain ⟨j, hj⟩ := List.getElem?_of_mem hy
  have yj : t.getD j 0 = y := by rw [List.getD_eq_getElem?_getD, hj]; rfl
  rw [← yj]
  refine Nat.lt_of_le_of_lt (tb j) ?_
  rw [we, ml]
  have c1 : ∀ i, i < T.length → (x i * (tk G i).getD j 0).natAbs ≤ 2 ^ ((T.length - 1) * (b + 4) + 1 + b) - 1 := fun i hi => by
    have := wide_lt (hxb i) (getD_bd (p := j) (hG _ (tk_mem (show i < G.length by omega))).2)
    omega
  have c2 := sg_le c1
  have pw : 2 ^ (T.length * (b + 4)) = 8 * 2 ^ ((T.length - 1) * (b + 4) + 1 + b) := by
    have : T.length * (b + 4) = 3 + ((T.length - 1) * (b + 4) + 1 + b) := by
      have : T.length = (T.length - 1) + 1 := by omega
      conv => lhs; rw [this, Nat.add_mul, Nat.one_mul]
      omega
    rw [this, Nat.pow_add]
  have c3 : T.length * (2 ^ ((T.length - 1) * (b + 4) + 1 + b) - 1) ≤ 8 * (2 ^ ((T.length - 1) * (b + 4) + 1 + b) - 1) := Nat.mul_le_mul_right _ (by omega)
  have pp := Nat.two_pow_pos ((T.length - 1) * (b + 4) + 1 + b)
  omega
end
/-- told rows of rows below 2 ^ b -/
theorem told_bd {d b : Nat} {M : List Vec} (d5 : d ≤ 5) (h : Okr d b M) : Okr d ((ech d M).length * (b + 4)) (ech d M) := by
  have lM : Len d M := fun r hr => (h r hr).1
  obtain ⟨R, e⟩ := ech_rf lM
  obtain ⟨G, g1, g2, g3⟩ := basis M.length M rfl lM
  have := ech_len d M
  exact gen_bd R (okr_sub h g1) g3 (g2.trans e.symm) (by omega)

end
section

/-! ### solutions' numbers -/
theorem frees_len {d : Nat} {T : List Vec} (R : Rf d T) : (frees d T).length + T.length = d := by
  have e1 : (List.range d).filter (fun p => T.any fun l => decide (leadp l = p)) = T.map leadp := by
    refine inc_ext _ _ (List.Pairwise.filter _ List.pairwise_lt_range) R.pw fun x => ?_
    rw [List.mem_filter, List.mem_range, List.mem_map, List.any_eq_true]
    constructor
    · rintro ⟨_, l, hl, e⟩
      exact ⟨l, hl, of_decide_eq_true e⟩
    · rintro ⟨l, hl, rfl⟩
      exact ⟨(R.ld l hl).1, l, hl, decide_eq_true rfl⟩
  have e2 := List.length_eq_countP_add_countP (fun p => T.any fun l => decide (leadp l = p)) (l := List.range d)
  rw [List.countP_eq_length_filter, List.countP_eq_length_filter, e1, List.length_range, List.length_map] at e2
  have e3 : (List.range d).filter (fun a => decide ¬(T.any fun l => decide (leadp l = a)) = true) = frees d T := by
    unfold frees
    refine List.filter_congr fun x _ => ?_
    cases T.any fun l => decide (leadp l = x) <;> rfl
  rw [e3] at e2
  omega
/-- few equations: a small solution at given places -/
theorem ps_core {d b n : Nat} {G : List Vec} (hG : Okr d b G) (pos : Nat → Nat) (pl : ∀ i, i < n → pos i < d) (pi : ∀ i j, i < n → j < n → pos i = pos j → i = j) (hn : n ≤ 8) (hm : G.length < n) :
    ∃ (z : Vec) (x : Nat → Int), z.length = d ∧ (∃ i, i < n ∧ x i ≠ 0) ∧ (∀ i, i < n → z.getD (pos i) 0 = x i) ∧ (∀ j, (∀ i, i < n → pos i ≠ j) → z.getD j 0 = 0) ∧ (∀ g : Vec, dt g (fun j => z.getD j 0) d = sg n fun i => g.getD (pos i) 0 * x i) ∧ (∀ g, g ∈ G → dt g (fun j => z.getD j 0) d = 0) ∧ ∀ j, (z.getD j 0).natAbs < 2 ^ (G.length * (b + 4) + 1) := by
  obtain ⟨x, x0, hx, xb⟩ := siegel (n := n) (e := G.length) (b := b) (fun i j => (tk G i).getD (pos j) 0) hn hm fun i hi j _ => getD_bd (hG _ (tk_mem hi)).2
  have ze : ∀ j, j < d → ((List.range d).map fun j => sg n fun i => if pos i = j then x i else 0).getD j 0 = sg n fun i => if pos i = j then x i else 0 := fun j hj => by
    rw [List.getD_eq_getElem?_getD, List.getElem?_map, List.getElem?_range hj]
    rfl
  have zl : ((List.range d).map fun j => sg n fun i => if pos i = j then x i else 0).length = d := by rw [List.length_map, List.length_range]
  generalize hz : ((List.range d).map fun j => sg n fun i => if pos i = j then x i else 0) = z at ze zl
  have zp : ∀ i, i < n → z.getD (pos i) 0 = x i := fun i hi => by
    rw [ze _ (pl i hi), sg_one hi fun k hk' ne => if_neg fun q => ne (pi k i hk' hi q), if_pos rfl]
  have zn : ∀ j, (∀ i, i < n → pos i ≠ j) → z.getD j 0 = 0 := fun j h => by
    by_cases c : j < d
    · rw [ze j c]
      exact sg_z fun i hi => if_neg (h i hi)
    · exact getD_out (by omega)
  have zd : ∀ g : Vec, dt g (fun j => z.getD j 0) d = sg n fun i => g.getD (pos i) 0 * x i := fun g => by
    rw [dt_sg]
    have e1 : sg d (fun j => g.getD j 0 * z.getD j 0) = sg d fun j => sg n fun i => if pos i = j then g.getD j 0 * x i else 0 := sg_congr fun j hj => by
      rw [ze j hj, ← sg_mul]
      refine sg_congr fun i _ => ?_
      split
      · rfl
      · exact Int.mul_zero _
    rw [e1, sg_swap]
    refine sg_congr fun i hi => ?_
    rw [sg_one (pl i hi) fun j _ ne => if_neg fun q => ne q.symm, if_pos rfl]
  refine ⟨z, x, zl, x0, zp, zn, zd, fun g hg => ?_, fun j => ?_⟩
  · obtain ⟨i, hi⟩ := List.getElem?_of_mem hg
    have il := (List.getElem?_eq_some_iff.mp hi).1
    rw [zd, ← tk_of hi]
    exact hx i il
  · by_cases c : ∃ i, i < n ∧ pos i = j
    · obtain ⟨i, hi, rfl⟩ := c
      rw [zp i hi]
      exact xb i
    · rw [zn j fun i hi e => c ⟨i, hi, e⟩]
      exact Nat.two_pow_pos _
section
variable {d b : Nat} {T G : List Vec}
theorem gall_sol (R : Rf d T) {f : Nat} (hf : Free T f) (hd : f < d) : gall (onesol d T f) ≠ 0 := gall_ne (j := f) (by
  rw [onesol_getD f hd]
  unfold oent
  rw [if_pos rfl]
  exact Int.ne_of_gt R.mpos)
/-- the solutions, thinned -/
theorem sol_bd (R : Rf d T) (hG : Okr d b G) (e : Eqs d G T) (gl : G.length ≤ T.length) (d5 : d ≤ 5) {f : Nat} (hf : Free T f) (hd : f < d) : Bd (T.length * (b + 4) + 1) (prim (onesol d T f)) := by
  have fl := frees_len R
  have fp : 0 < (frees d T).length := List.length_pos_of_mem (List.mem_filter.mpr ⟨List.mem_range.mpr hd, free_iff.mpr hf⟩)
  obtain ⟨z, x, zl, ⟨i0, hi0, hx0⟩, zp, zn, zd, zG, zb⟩ := ps_core (n := T.length + 1) hG (fun i => if i < T.length then lk T i else f) (fun i hi => by
    show (if i < T.length then lk T i else f) < d
    split
    · rename_i h
      exact R.lt h
    · exact hd) (fun i j hi hj q => by
    have q' : (if i < T.length then lk T i else f) = (if j < T.length then lk T j else f) := q
    split at q' <;> split at q'
    · rename_i h1 h2
      exact R.dif h1 h2 q'
    · rename_i h1 h2
      exact absurd q' (hf i h1)
    · rename_i h1 h2
      exact absurd q'.symm (hf j h2)
    · omega) (by omega) (by omega)
  have pf : (if T.length < T.length then lk T T.length else f) = f := if_neg (Nat.lt_irrefl _)
  have zf : z.getD f 0 = x T.length := by
    have := zp T.length (by omega)
    rw [pf] at this
    exact this
  have zT := perp_eqs R.len e fun g hg _ => zG g hg
  have rel : ∀ k, k < T.length → hk T k * x k + (tk T k).getD f 0 * x T.length = 0 := fun k hk' => by
    have := zT _ (tk_mem hk')
    rw [zd] at this
    have e1 : sg (T.length + 1) (fun i => (tk T k).getD (if i < T.length then lk T i else f) 0 * x i) = sg T.length (fun i => (tk T k).getD (if i < T.length then lk T i else f) 0 * x i) + (tk T k).getD (if T.length < T.length then lk T T.length else f) 0 * x T.length := rfl
    rw [e1, pf, sg_one hk' fun i hi ne => by rw [if_pos hi, R.clk hk' hi (fun q => ne q.symm), Int.zero_mul], if_pos hk'] at this
    exact this
  have xr : x T.length ≠ 0 := fun q => hx0 (by
    by_cases c : i0 = T.length
    · rw [c]
      exact q
    · have hi : i0 < T.length := by omega
      have := rel i0 hi
      rw [q, Int.mul_zero, Int.add_zero] at this
      exact (Int.mul_eq_zero.mp this).resolve_left (Int.ne_of_gt (R.pos hi)))
  have pr : ∀ j, mT T * z.getD j 0 = x T.length * (onesol d T f).getD j 0 := fun j => by
    by_cases c : j < d
    · rw [onesol_getD j c, oent_eq R hf]
      by_cases q : j = f
      · rw [q, if_pos rfl, zf, sg_z fun k hk' => if_neg (hf k hk'), Int.sub_zero, Int.mul_comm]
      · rw [if_neg q]
        by_cases w : Free T j
        · rw [zn j fun i hi => ?_, sg_z fun k hk' => if_neg (w k hk')]
          · simp
          · split
            · rename_i h
              exact w i h
            · exact fun y => q y.symm
        · have : ∃ k, k < T.length ∧ lk T k = j := Classical.byContradiction fun z => w fun k hk' e => z ⟨k, hk', e⟩
          obtain ⟨k, kl, rfl⟩ := this
          rw [sg_one kl fun i hi ne => if_neg fun y => ne (R.dif hi kl y), if_pos rfl]
          have zk := zp k (by omega)
          rw [if_pos kl] at zk
          rw [zk]
          have dv := dvm R kl
          have rl := rel k kl
          have : mT T * x k = mT T / hk T k * (hk T k * x k) := by rw [← Int.mul_assoc, dv]
          rw [this, show hk T k * x k = -((tk T k).getD f 0 * x T.length) by omega, Int.zero_sub, Int.mul_neg, Int.mul_neg]
          simp only [Int.mul_comm, Int.mul_left_comm, Int.mul_assoc]
    · rw [getD_out (by omega), getD_out (by rw [onesol_len]; omega), Int.mul_zero, Int.mul_zero]
  have gp := gall_prim (gall_sol R hf hd)
  have f0 := gfac_pos (onesol d T f)
  have tb := mult_bd (t := prim (onesol d T f)) (c := x T.length * (if gall (onesol d T f) ≤ 1 then 1 else (gall (onesol d T f) : Int))) (Int.ne_of_gt R.mpos) (Int.mul_ne_zero xr (Int.ne_of_gt f0)) gp fun j => by rw [pr j, prim_getD (onesol d T f) j, ← Int.mul_assoc]
  intro y hy
  obtain ⟨j, hj⟩ := List.getElem?_of_mem hy
  have yj : (prim (onesol d T f)).getD j 0 = y := by rw [List.getD_eq_getElem?_getD, hj]; rfl
  rw [← yj]
  refine Nat.lt_of_le_of_lt (tb j) (Nat.lt_of_lt_of_le (zb j) (Nat.pow_le_pow_right (by decide) ?_))
  have := Nat.mul_le_mul_right (b + 4) gl
  omega
end

end
section

/-! ### solved rows' numbers; the raw rows' -/
section
variable {d b : Nat} {T G : List Vec}
theorem solved_bd (R : Rf d T) (hG : Okr d b G) (e : Eqs d G T) (gl : G.length ≤ T.length) (d5 : d ≤ 5) : Okr d (T.length * (b + 4) + 1) (ech d (sols d T)) := fun u hu => by
  obtain ⟨RU, eU⟩ := ech_rf (sols_len (d := d) (T := T))
  have lU : (ech d (sols d T)).length ≤ (sols d T).length := by
    have := est_cnt (sols d T) d
    have : (est (sols d T) d).1.length ≤ (sols d T).length := by omega
    exact this
  generalize hU : ech d (sols d T) = U at hu RU eU lU
  have sl : (sols d T).length = (frees d T).length := by unfold sols; rw [List.length_map]
  have c1 := frees_len R
  have c2 := frees_len RU
  obtain ⟨k0, hk0⟩ := List.getElem?_of_mem hu
  have kl := (List.getElem?_eq_some_iff.mp hk0).1
  have kt := tk_of hk0
  have fr : ∀ i, i < (frees d U).length → (frees d U).getD i 0 < d ∧ Free U ((frees d U).getD i 0) := fun i hi => by
    have : (frees d U).getD i 0 ∈ frees d U := by
      rw [List.getD_eq_getElem?_getD, List.getElem?_eq_getElem hi]
      exact List.getElem_mem hi
    obtain ⟨h1, h2⟩ := List.mem_filter.mp this
    exact ⟨List.mem_range.mp h1, free_iff.mp h2⟩
  have fpw : (frees d U).Pairwise (· < ·) := List.Pairwise.filter _ List.pairwise_lt_range
  have fin : ∀ i j, i < (frees d U).length → j < (frees d U).length → (frees d U).getD i 0 = (frees d U).getD j 0 → i = j := fun i j hi hj q => by
    rw [List.getD_eq_getElem?_getD, List.getD_eq_getElem?_getD, List.getElem?_eq_getElem hi, List.getElem?_eq_getElem hj] at q
    have q' : (frees d U)[i] = (frees d U)[j] := q
    rcases Nat.lt_trichotomy i j with h | h | h
    · have := List.pairwise_iff_getElem.mp fpw i j hi hj h
      omega
    · exact h
    · have := List.pairwise_iff_getElem.mp fpw j i hj hi h
      omega
  obtain ⟨z, x, zl, ⟨i0, hi0, hx0⟩, zp, zn, zd, zG, zb⟩ := ps_core (n := (frees d U).length + 1) hG (fun i => if i < (frees d U).length then (frees d U).getD i 0 else lk U k0) (fun i hi => by
    show (if i < (frees d U).length then (frees d U).getD i 0 else lk U k0) < d
    split
    · rename_i h
      exact (fr i h).1
    · exact RU.lt kl) (fun i j hi hj q => by
    have q' : (if i < (frees d U).length then (frees d U).getD i 0 else lk U k0) = (if j < (frees d U).length then (frees d U).getD j 0 else lk U k0) := q
    split at q' <;> split at q'
    · rename_i h1 h2
      exact fin i j h1 h2 q'
    · rename_i h1 h2
      exact absurd q'.symm ((fr i h1).2 k0 kl)
    · rename_i h1 h2
      exact absurd q' ((fr j h2).2 k0 kl)
    · omega) (by omega) (by omega)
  have zT := perp_eqs R.len e fun g hg _ => zG g hg
  have sz : Spn d U z := (eU z).mpr (perp_sols R zl zT)
  have wz : ∀ k, k < U.length → k ≠ k0 → z.getD (lk U k) 0 = 0 := fun k hk' ne => zn _ fun i hi => by
    split
    · rename_i h
      exact fun y => (fr i h).2 k hk' y.symm
    · exact fun y => ne (RU.dif hk' kl y.symm)
  have w0 : z.getD (lk U k0) 0 ≠ 0 := fun q => hx0 (by
    rw [← zp i0 hi0]
    refine RU.zero sz (fun k hk' => ?_) _
    by_cases c : k = k0
    · rw [c]
      exact q
    · exact wz k hk' c)
  have ex := RU.exp RU.dvd sz
  have D0 := RU.mpos
  have dvk := dvm RU kl
  have q0 : mT U / hk U k0 ≠ 0 := fun y => by
    rw [y, Int.zero_mul] at dvk
    exact absurd dvk.symm (Int.ne_of_gt D0)
  have pr : ∀ j, mT U * z.getD j 0 = mT U / hk U k0 * z.getD (lk U k0) 0 * u.getD j 0 := fun j => by
    rw [ex j, sg_one kl fun k hk' ne => by rw [wz k hk' ne, Int.mul_zero, Int.zero_mul], kt]
  have tb := mult_bd (Int.ne_of_gt D0) (Int.mul_ne_zero q0 w0) (RU.tl u hu).2 pr
  refine ⟨(RU.tl u hu).1, fun y hy => ?_⟩
  obtain ⟨j, hj⟩ := List.getElem?_of_mem hy
  have yj : u.getD j 0 = y := by rw [List.getD_eq_getElem?_getD, hj]; rfl
  rw [← yj]
  refine Nat.lt_of_le_of_lt (tb j) (Nat.lt_of_lt_of_le (zb j) (Nat.pow_le_pow_right (by decide) ?_))
  have := Nat.mul_le_mul_right (b + 4) gl
  omega
/-- the product of the other leads -/
theorem others_bd {β : Nat} (R : Rf d T) (hT : Okr d β T) {k : Nat} : ∀ i, k < i → i ≤ T.length → (lprod (T.take i) / hk T k).natAbs < 2 ^ (β * (i - 1) + 1) ∧ hk T k ∣ lprod (T.take i)
  | 0, h, _ => absurd h (Nat.not_lt_zero _)
  | i + 1, h, hi => by
    have il : i < T.length := by omega
    rw [take_succ_get (tk_at il), lprod_snoc]
    by_cases c : k = i
    · subst c
      have := lprod_bd (b := β) T k (fun r hr => (hT r hr).2) (by omega)
      rw [Int.mul_ediv_cancel _ (Int.ne_of_gt (R.pos il)), Nat.add_sub_cancel]
      exact ⟨this, Int.dvd_mul_left _ _⟩
    · obtain ⟨h1, h2⟩ := others_bd (k := k) R hT i (by omega) (by omega)
      rw [Int.mul_comm, Int.mul_ediv_assoc _ h2, Int.mul_comm]
      refine ⟨?_, Int.dvd_mul_of_dvd_right h2 |> fun y => y⟩
      have := wide_lt h1 (getD_bd (p := lk T i) (hT _ (tk_mem il)).2)
      rw [show β * (i + 1 - 1) + 1 = β * (i - 1) + 1 + β by rw [show i + 1 - 1 = (i - 1) + 1 by omega, Nat.mul_succ]; omega]
      exact this
/-- the law's raw rows -/
theorem zeros_bd {β : Nat} (R : Rf d T) (hT : Okr d β T) : Okr d (β * T.length + 1) (zeros d T) := fun s hs => by
  obtain ⟨f, hf, rfl⟩ := List.mem_map.mp hs
  obtain ⟨h1, h2⟩ := List.mem_filter.mp hf
  have hd := List.mem_range.mp h1
  have hf' := free_iff.mp h2
  refine ⟨zrow_len .., fun y hy => ?_⟩
  obtain ⟨j, hj⟩ := List.getElem?_of_mem hy
  have yj : (zrow d T f T.length).getD j 0 = y := by rw [List.getD_eq_getElem?_getD, hj]; rfl
  have pb := lprod_bd (b := β) T T.length (fun r hr => (hT r hr).2) (Nat.le_refl _)
  rw [List.take_length] at pb
  rw [← yj, zrow_getD R hf' hd j _ (Nat.le_refl _)]
  by_cases q : j = f
  · rw [if_pos q, sg_z fun k hk' => if_neg (by rw [q]; exact hf' k hk'), Int.sub_zero]
    exact pb
  · rw [if_neg q]
    by_cases w : Free T j
    · rw [sg_z fun k hk' => if_neg (w k hk')]
      exact Nat.two_pow_pos _
    · have : ∃ k, k < T.length ∧ lk T k = j := Classical.byContradiction fun z => w fun k hk' e => z ⟨k, hk', e⟩
      obtain ⟨k, kl, rfl⟩ := this
      rw [sg_one kl fun i hi ne => if_neg fun y => ne (R.dif hi kl y), if_pos rfl, Int.zero_sub, Int.natAbs_neg]
      have ob := (others_bd R hT T.length kl (Nat.le_refl _)).1
      rw [List.take_length] at ob
      have := wide_lt (getD_bd (p := f) (hT _ (tk_mem kl)).2) ob
      have pe : β * T.length = β * (T.length - 1) + β := by
        have : T.length = (T.length - 1) + 1 := by omega
        conv => lhs; rw [this, Nat.mul_succ]
      rw [pe, show β * (T.length - 1) + β + 1 = β + (β * (T.length - 1) + 1) by omega]
      exact this
end

end
section

/-! ### a law from its bag on -/
theorem rep_no (n i : Nat) : gt (List.replicate n .no) i = .no := by
  induction n generalizing i with
  | zero => rfl
  | succ n ih =>
    cases i with
    | zero => rfl
    | succ i => exact ih i
theorem env_bag {K : PySem.W.Frag} {H : Hp} {σ : L2.St} {b : Addr} {g : Addr × List Int} {n : Nat} (B : Bag K H b g) (h1 : σ[1]? = some (some (.ref b))) (hl : σ.length = n + 2) : Env K (some (b, g)) (fun a => a = b) H (fun _ => 0) H σ (.no :: .val .bag :: List.replicate n .no) := by
  have bi : BagI K (some (b, g)) H := fun x g' e => by
    cases e
    exact B
  have cs : ∀ i, gt (.no :: .val .bag :: List.replicate n .no) i = .no ∨ i = 1 := fun i => by
    cases i with
    | zero => exact .inl rfl
    | succ i =>
      cases i with
      | zero => exact .inr rfl
      | succ i => exact .inl (rep_no n i)
  have ow : ∀ i, (gt (.no :: .val .bag :: List.replicate n .no) i).owned = false := fun i => by
    rcases cs i with e | e
    · rw [e]
      rfl
    · subst e
      rfl
  refine ⟨by simp [hl], bi, .refl bi, fun a z => by rw [z]; exact B.some, fun a z => ?_, fun i hi => ?_, fun i j hi _ _ => ?_, fun i => ?_⟩
  · obtain ⟨g', e⟩ := z
    cases e
    rfl
  · rw [ow] at hi
    cases hi
  · rw [ow] at hi
    cases hi
  · rcases cs i with e | e
    · rw [e]
      trivial
    · subst e
      exact ⟨_, h1, .bag rfl⟩
/-- the rest of a law, true at its end -/
theorem law_rest {K : PySem.W.Frag} {Jx : WX} {ts : TS} {a : DS} {n : Nat} {H : Hp} {σ : L2.St} {b : Addr} {g : Addr × List Int} {Q : VK} (r : RefS K Jx X0 ts a) (B : Bag K H b g) (h1 : σ[1]? = some (some (.ref b))) (hl : σ.length = n + 2)
    (h : a ⟨fun _ => False, fun d => d = .bl true, fun _ => False, fun _ => False⟩ (.no :: .val .bag :: List.replicate n .no)) (q : ∀ H', Q (.bl true) H') (nx : L2.St → Hp → Prop) : ts { nx := nx, rt := Q } σ H :=
  r (some (b, g)) (fun a => a = b) H (fun _ => 0) H σ _ { nx := nx, rt := Q } ⟨fun _ => False, fun d => d = .bl true, fun _ => False, fun _ => False⟩ ⟨env_bag B h1 hl, fun _ _ _ _ _ _ _ (z : False) => z.elim⟩
    ⟨fun _ _ _ _ (z : False) => z.elim, fun d v H' e _ hv => by
      subst e
      cases hv
      exact q H', fun _ _ _ _ (z : False) => z.elim, fun _ _ _ _ (z : False) => z.elim⟩ h

end
section
abbrev N_law_bag : List Str := ["script", "mix", "item"]
def t_law_bag (K : PySem.W.Frag) : TS :=
  (tSeq (tAsg (tC (.int 40961)) (gName 1))
    (tSeq (tFor (iList K (tSl (rSlU K) (tVar 0) tNoPart (tPart (tC (.int 63))))) (gName 2)
    (tAsg (tOp rModU (tCB rInt1 (tCons (tOp (rAddU K) (tOp (rAddU K) (tOp rMulU (tVar 1) (tC (.int 48119))) (tOp rModU (tCB rInt1 (tCons (tVar 2) tNil)) (tC (.int 2147483563)))) (tC (.int 17))) tNil)) (tC (.int 2147483549))) (gName 1)))
    (tRet (tLst (tCons (tCB (rListOf K) (tCons (tSl (rSlU K) (tVar 0) tNoPart (tPart (tC (.int 63)))) tNil)) (tCons (tC (.int 0)) (tCons (tC (.int 0)) (tCons (tVar 1) (tCons (tC (.int 0)) tNil)))))))))
theorem cutV_map {α : Type} (f : α → V) (xs : List α) (lo hi : Option Int) : ∃ ys : List α, cutV (xs.map f) lo hi = ys.map f ∧ ys.length ≤ xs.length := by
  unfold cutV
  rw [← List.map_drop, ← List.map_take]
  exact ⟨_, rfl, Nat.le_trans (List.length_take_le' _ _) (by rw [List.length_drop]; omega)⟩
def sp_law_bag (K : PySem.W.Frag) : Sp := fun vs H Q _ => ∃ (a : Addr) (ns : List Int), vs = [.ref a] ∧ SqL K H a (ns.map V.int) ∧ ∀ b H' g, H b = none → Bag K H' b g → Same H H' → Q (.ref b) H'
theorem pure_law_bag {K : PySem.W.Frag} (vs : List V) (H : Hp) (Q : VK) (E : XK) (h : sp_law_bag K vs H Q E) : t_law_bag K { nx := fun _ H' => Q .non H', rt := Q } (start N_law_bag vs) H := by
  obtain ⟨a, ns, rfl, hS, k⟩ := h
  show t_law_bag K _ [some (.ref a), none, none] H
  unfold t_law_bag
  walk_at "vc"
  intro p hp
  obtain ⟨ys, ey, ly⟩ := cutV_map V.int ns none (some 63)
  rw [ey]
  have hS1 : SqL K (upd H p (.lst (ys.map V.int))) a (ns.map V.int) := same_sql (same_new hp) hS
  walk_at "vc"
  refine for_l (xs := ys.map V.int) (fun i σ H' => ∃ m x, σ = [some (.ref a), some (.int m), x] ∧ 0 ≤ m ∧ m < 2147483647 ∧ H' = upd H p (.lst (ys.map V.int))) ⟨40961, none, rfl, by decide, by decide, rfl⟩ (fun i σ H' _ ⟨m, x, _, _, _, e⟩ => by subst e; exact SqL.of upd_same) ?_ ?_
  · rintro i y σ H' hy ⟨m, x, rfl, h0, h1, rfl⟩
    obtain ⟨z, hz, rfl⟩ : ∃ z, ys[i]? = some z ∧ y = V.int z := by
      rw [List.getElem?_map] at hy
      cases e : ys[i]? with
      | none => rw [e] at hy; cases hy
      | some z => rw [e] at hy; exact ⟨z, rfl, (Option.some.inj hy).symm⟩
    walk_at "vc"
    exact ⟨_, some (.int z), rfl, Int.emod_nonneg _ (by decide), Int.lt_trans (Int.emod_lt_of_pos _ (by decide)) (by decide), rfl⟩
  · rintro σ H' ⟨m, x, rfl, h0, h1, rfl⟩
    walk_at "vc"
    intro q hq
    rw [ey]
    have hS2 : SqL K (upd (upd H p (.lst (ys.map V.int))) q (.lst (ys.map V.int))) q (ys.map V.int) := SqL.of upd_same
    walk_at "vc"
    intro l hl
    walk_at "vc"
    refine ⟨by show 5 ≤ sizeLine; decide, fun b hb => ?_⟩
    have S3 := ((same_new (o := .lst (ys.map V.int)) hp).trans (same_new (o := .lst (ys.map V.int)) hq)).trans (same_new (o := .lst (ys.map V.int)) hl)
    refine k b _ (l, ys) (S3.free hb) ⟨0, 0, m, 0, upd_same, ?_, by decide, by decide, h0, h1⟩ (S3.trans (same_new hb))
    refine SqL.of ?_
    rw [wo_out (by simpa using (ne_new upd_same hb))]
    exact h_ne (ne_new upd_same hb) upd_same

end
section

/-! ### the law -/
structure LawOk (d : Nat) (A B C : List (List Int)) : Prop where
  wa : WhOk d A
  wb : WhOk d B
  wc : WhOk d C
  ra : Okr d 6449 A
  rb : Okr d 6449 B
  rc : Okr d 6449 C
  lie : LieOk d (ech d A) (ech d C)
  abc : BothOk d (ech d A) (ech d B) (ech d C)
  bac : BothOk d (ech d B) (ech d A) (ech d C)
  cba : BothOk d (ech d C) (ech d B) (ech d A)
  bca : BothOk d (ech d B) (ech d C) (ech d A)
def LawSo (d : Nat) (A B C : List (List Int)) : Prop := (ech d A).all (lies (ech d C)) = true ∧ sumE d (ech d A) (meetE d (ech d B) (ech d C)) = meetE d (sumE d (ech d A) (ech d B)) (ech d C)
/-- the plain law: rows that are drawn keep to it -/
def Law12 : Prop := ∀ d A B C, DrawOk d A → DrawOk d B → DrawOk d C → LawOk d A B C ∧ ((∀ r, r ∈ A → Spn d C r) → LawSo d A B C)
abbrev N_law : List Str := ["script", "bag", "k", "d", "high", "low", "side", "one", "two", "three", "a", "b", "c"]
def t_law (K : PySem.W.Frag) : TS :=
  (tSeq (tAsg (tCall (sp_law_bag K) [] E0 (tCons (tVar 0) tNil)) (gName 1))
    (tSeq (tFor (iRng1 (tCons (tC (.int 2)) tNil)) (gName 2)
    (tSeq (tAsg (tCall (sp_law_deep K) [] E0 (tCons (tVar 1) tNil)) (gName 3))
    (tSeq (tAsg (tCall (sp_law_rows K) [] E0 (tCons (tVar 1) (tCons (tVar 3) (tCons (tCall (sp_law_of K) [] E0 (tCons (tVar 1) (tCons (tLst (tCons (tC (.int 3)) (tCons (tC (.int 2)) (tCons (tC (.int 4)) (tCons (tC (.int 1)) (tCons (tC (.int 3)) tNil)))))) tNil))) tNil)))) (gName 4))
    (tSeq (tAsg (tCall (sp_law_parts K) [] E0 (tCons (tVar 1) (tCons (tVar 4) (tCons (tVar 3) tNil)))) (gName 5))
    (tSeq (tAsg (tCall (sp_law_rows K) [] E0 (tCons (tVar 1) (tCons (tVar 3) (tCons (tCall (sp_law_of K) [] E0 (tCons (tVar 1) (tCons (tLst (tCons (tC (.int 1)) (tCons (tC (.int 2)) (tCons (tC (.int 3)) (tCons (tC (.int 1)) (tCons (tC (.int 0)) tNil)))))) tNil))) tNil)))) (gName 6))
    (tMid (tIfS (tTest (tOp (rEqU K) (tCall (sp_law_draw K) [] E0 (tCons (tVar 1) (tCons (tC (.int 3)) tNil))) (tC (.int 0)))) (tAsg (tOp (rAddU K) (tCall (sp_law_rows K) [] E0 (tCons (tVar 1) (tCons (tVar 3) (tCons (tC (.int 1)) tNil)))) (tCall (sp_law_parts K) [] E0 (tCons (tVar 1) (tCons (tVar 4) (tCons (tVar 3) tNil))))) (gName 6)) tNext)
    (tSeq (tPar3 7 8 9 (tCons (tCall (sp_law_told K) [] E0 (tCons (tVar 5) (tCons (tVar 3) tNil))) (tCons (tCall (sp_law_told K) [] E0 (tCons (tVar 6) (tCons (tVar 3) tNil))) (tCons (tCall (sp_law_told K) [] E0 (tCons (tVar 4) (tCons (tVar 3) tNil))) tNil))))
    (tSeq (tPar3 10 11 12 (tCons (tNd (He.ga K "Whole") (sp_Whole_init K) (tCons (tVar 3) (tCons (tVar 5) tNil))) (tCons (tNd (He.ga K "Whole") (sp_Whole_init K) (tCons (tVar 3) (tCons (tVar 6) tNil))) (tCons (tNd (He.ga K "Whole") (sp_Whole_init K) (tCons (tVar 3) (tCons (tVar 4) tNil))) tNil))))
    (tSeq (tIfS (tOr (tNot (tB (tCall (sp_law_like K 12) [] E0 (tCons (tMd (He.ga K "Whole") "within" (sp_Whole_within K) (tVar 10) (tCons (tVar 12) tNil)) (tCons (tC (.bl true)) tNil))))) (tNot (tB (tCall (sp_law_like K 12) [] E0 (tCons (tOp (rSelf (He.ga K "Whole") (sp_Whole_eq K)) (tOp (rSelf (He.ga K "Whole") (sp_Whole_add K)) (tVar 10) (tOp (rSelf (He.ga K "Whole") (sp_Whole_and K)) (tVar 11) (tVar 12))) (tOp (rSelf (He.ga K "Whole") (sp_Whole_and K)) (tOp (rSelf (He.ga K "Whole") (sp_Whole_add K)) (tVar 10) (tVar 11)) (tVar 12))) (tCons (tC (.bl true)) tNil)))))) (tRet (tC (.bl false))) tNext)
    (tSeq (tIfS (tOr (tNot (tB (tCall (sp_law_both_so K) [] E0 (tCons (tVar 10) (tCons (tVar 11) (tCons (tVar 12) (tCons (tVar 7) (tCons (tVar 8) (tCons (tVar 9) (tCons (tVar 3) tNil)))))))))) (tNot (tB (tCall (sp_law_both_so K) [] E0 (tCons (tVar 11) (tCons (tVar 10) (tCons (tVar 12) (tCons (tVar 8) (tCons (tVar 7) (tCons (tVar 9) (tCons (tVar 3) tNil))))))))))) (tRet (tC (.bl false))) tNext)
    (tIfS (tOr (tNot (tB (tCall (sp_law_both_so K) [] E0 (tCons (tVar 12) (tCons (tVar 11) (tCons (tVar 10) (tCons (tVar 9) (tCons (tVar 8) (tCons (tVar 7) (tCons (tVar 3) tNil)))))))))) (tNot (tB (tCall (sp_law_both_so K) [] E0 (tCons (tVar 11) (tCons (tVar 12) (tCons (tVar 10) (tCons (tVar 8) (tCons (tVar 9) (tCons (tVar 7) (tCons (tVar 3) tNil))))))))))) (tRet (tC (.bl false))) tNext)))))))))))
    (tRet (tC (.bl true)))))
def tr_law (K : PySem.W.Frag) : TS :=
  (tSeq (tFor (iRng1 (tCons (tC (.int 2)) tNil)) (gName 2)
    (tSeq (tAsg (tCall (sp_law_deep K) [] E0 (tCons (tVar 1) tNil)) (gName 3))
    (tSeq (tAsg (tCall (sp_law_rows K) [] E0 (tCons (tVar 1) (tCons (tVar 3) (tCons (tCall (sp_law_of K) [] E0 (tCons (tVar 1) (tCons (tLst (tCons (tC (.int 3)) (tCons (tC (.int 2)) (tCons (tC (.int 4)) (tCons (tC (.int 1)) (tCons (tC (.int 3)) tNil)))))) tNil))) tNil)))) (gName 4))
    (tSeq (tAsg (tCall (sp_law_parts K) [] E0 (tCons (tVar 1) (tCons (tVar 4) (tCons (tVar 3) tNil)))) (gName 5))
    (tSeq (tAsg (tCall (sp_law_rows K) [] E0 (tCons (tVar 1) (tCons (tVar 3) (tCons (tCall (sp_law_of K) [] E0 (tCons (tVar 1) (tCons (tLst (tCons (tC (.int 1)) (tCons (tC (.int 2)) (tCons (tC (.int 3)) (tCons (tC (.int 1)) (tCons (tC (.int 0)) tNil)))))) tNil))) tNil)))) (gName 6))
    (tMid (tIfS (tTest (tOp (rEqU K) (tCall (sp_law_draw K) [] E0 (tCons (tVar 1) (tCons (tC (.int 3)) tNil))) (tC (.int 0)))) (tAsg (tOp (rAddU K) (tCall (sp_law_rows K) [] E0 (tCons (tVar 1) (tCons (tVar 3) (tCons (tC (.int 1)) tNil)))) (tCall (sp_law_parts K) [] E0 (tCons (tVar 1) (tCons (tVar 4) (tCons (tVar 3) tNil))))) (gName 6)) tNext)
    (tSeq (tPar3 7 8 9 (tCons (tCall (sp_law_told K) [] E0 (tCons (tVar 5) (tCons (tVar 3) tNil))) (tCons (tCall (sp_law_told K) [] E0 (tCons (tVar 6) (tCons (tVar 3) tNil))) (tCons (tCall (sp_law_told K) [] E0 (tCons (tVar 4) (tCons (tVar 3) tNil))) tNil))))
    (tSeq (tPar3 10 11 12 (tCons (tNd (He.ga K "Whole") (sp_Whole_init K) (tCons (tVar 3) (tCons (tVar 5) tNil))) (tCons (tNd (He.ga K "Whole") (sp_Whole_init K) (tCons (tVar 3) (tCons (tVar 6) tNil))) (tCons (tNd (He.ga K "Whole") (sp_Whole_init K) (tCons (tVar 3) (tCons (tVar 4) tNil))) tNil))))
    (tSeq (tIfS (tOr (tNot (tB (tCall (sp_law_like K 12) [] E0 (tCons (tMd (He.ga K "Whole") "within" (sp_Whole_within K) (tVar 10) (tCons (tVar 12) tNil)) (tCons (tC (.bl true)) tNil))))) (tNot (tB (tCall (sp_law_like K 12) [] E0 (tCons (tOp (rSelf (He.ga K "Whole") (sp_Whole_eq K)) (tOp (rSelf (He.ga K "Whole") (sp_Whole_add K)) (tVar 10) (tOp (rSelf (He.ga K "Whole") (sp_Whole_and K)) (tVar 11) (tVar 12))) (tOp (rSelf (He.ga K "Whole") (sp_Whole_and K)) (tOp (rSelf (He.ga K "Whole") (sp_Whole_add K)) (tVar 10) (tVar 11)) (tVar 12))) (tCons (tC (.bl true)) tNil)))))) (tRet (tC (.bl false))) tNext)
    (tSeq (tIfS (tOr (tNot (tB (tCall (sp_law_both_so K) [] E0 (tCons (tVar 10) (tCons (tVar 11) (tCons (tVar 12) (tCons (tVar 7) (tCons (tVar 8) (tCons (tVar 9) (tCons (tVar 3) tNil)))))))))) (tNot (tB (tCall (sp_law_both_so K) [] E0 (tCons (tVar 11) (tCons (tVar 10) (tCons (tVar 12) (tCons (tVar 8) (tCons (tVar 7) (tCons (tVar 9) (tCons (tVar 3) tNil))))))))))) (tRet (tC (.bl false))) tNext)
    (tIfS (tOr (tNot (tB (tCall (sp_law_both_so K) [] E0 (tCons (tVar 12) (tCons (tVar 11) (tCons (tVar 10) (tCons (tVar 9) (tCons (tVar 8) (tCons (tVar 7) (tCons (tVar 3) tNil)))))))))) (tNot (tB (tCall (sp_law_both_so K) [] E0 (tCons (tVar 11) (tCons (tVar 12) (tCons (tVar 10) (tCons (tVar 8) (tCons (tVar 9) (tCons (tVar 7) (tCons (tVar 3) tNil))))))))))) (tRet (tC (.bl false))) tNext)))))))))))
    (tRet (tC (.bl true))))
def a_law : DS :=
  (dSeq (dFor (jRng1 (dCons (dC (.int 2)) dNil)) (gN 2)
    (dSeq (dAsg (dCall sd_law_deep (dCons (dVar 1) dNil)) (gN 3))
    (dSeq (dAsg (dCall sd_law_rows (dCons (dVar 1) (dCons (dVar 3) (dCons (dCall sd_law_of (dCons (dVar 1) (dCons (dLst (dCons (dC (.int 3)) (dCons (dC (.int 2)) (dCons (dC (.int 4)) (dCons (dC (.int 1)) (dCons (dC (.int 3)) dNil)))))) dNil))) dNil)))) (gN 4))
    (dSeq (dAsg (dCall sd_law_parts (dCons (dVar 1) (dCons (dVar 4) (dCons (dVar 3) dNil)))) (gN 5))
    (dSeq (dAsg (dCall sd_law_rows (dCons (dVar 1) (dCons (dVar 3) (dCons (dCall sd_law_of (dCons (dVar 1) (dCons (dLst (dCons (dC (.int 1)) (dCons (dC (.int 2)) (dCons (dC (.int 3)) (dCons (dC (.int 1)) (dCons (dC (.int 0)) dNil)))))) dNil))) dNil)))) (gN 6))
    (dMid (dIfS (dTest (dOp oEq (dCall sd_law_draw (dCons (dVar 1) (dCons (dC (.int 3)) dNil))) (dC (.int 0)))) (dAsg (dOp oAdd (dCall sd_law_rows (dCons (dVar 1) (dCons (dVar 3) (dCons (dC (.int 1)) dNil)))) (dCall sd_law_parts (dCons (dVar 1) (dCons (dVar 4) (dCons (dVar 3) dNil))))) (gN 6)) dNext)
    (dSeq (dPar [7, 8, 9] (pVal (dCall sd_law_told (dCons (dVar 5) (dCons (dVar 3) dNil))) (pVal (dCall sd_law_told (dCons (dVar 6) (dCons (dVar 3) dNil))) (pVal (dCall sd_law_told (dCons (dVar 4) (dCons (dVar 3) dNil))) pNil))))
    (dSeq (dPar [10, 11, 12] (pVal (dNew sd_Whole_init (dCons (dVar 3) (dCons (dVar 5) dNil))) (pVal (dNew sd_Whole_init (dCons (dVar 3) (dCons (dVar 6) dNil))) (pVal (dNew sd_Whole_init (dCons (dVar 3) (dCons (dVar 4) dNil))) pNil))))
    (dSeq (dIfS (dOr (dNot (dTest (dCall (sd_law_like 12) (dCons (dMd "Whole" "within" sd_Whole_within (dVar 10) (dCons (dVar 12) dNil)) (dCons (dC (.bl true)) dNil))))) (dNot (dTest (dCall (sd_law_like 12) (dCons (dOp (oOwn "Whole" sd_Whole_eq) (dOp (oOwn "Whole" sd_Whole_add) (dVar 10) (dOp (oOwn "Whole" sd_Whole_and) (dVar 11) (dVar 12))) (dOp (oOwn "Whole" sd_Whole_and) (dOp (oOwn "Whole" sd_Whole_add) (dVar 10) (dVar 11)) (dVar 12))) (dCons (dC (.bl true)) dNil)))))) (dRet (dC (.bl false))) dNext)
    (dSeq (dIfS (dOr (dNot (dTest (dCall sd_law_both_so (dCons (dVar 10) (dCons (dVar 11) (dCons (dVar 12) (dCons (dVar 7) (dCons (dVar 8) (dCons (dVar 9) (dCons (dVar 3) dNil)))))))))) (dNot (dTest (dCall sd_law_both_so (dCons (dVar 11) (dCons (dVar 10) (dCons (dVar 12) (dCons (dVar 8) (dCons (dVar 7) (dCons (dVar 9) (dCons (dVar 3) dNil))))))))))) (dRet (dC (.bl false))) dNext)
    (dIfS (dOr (dNot (dTest (dCall sd_law_both_so (dCons (dVar 12) (dCons (dVar 11) (dCons (dVar 10) (dCons (dVar 9) (dCons (dVar 8) (dCons (dVar 7) (dCons (dVar 3) dNil)))))))))) (dNot (dTest (dCall sd_law_both_so (dCons (dVar 11) (dCons (dVar 12) (dCons (dVar 10) (dCons (dVar 8) (dCons (dVar 9) (dCons (dVar 7) (dCons (dVar 3) dNil))))))))))) (dRet (dC (.bl false))) dNext)))))))))))
    (dRet (dC (.bl true))))
theorem r_law {K : PySem.W.Frag} {Jx : WX} {Xd : XD} (CF : ClsF CLw K) : RefS K Jx Xd (tr_law K) a_law :=
  (rSeq (rFor (riRng1 (rConsX (RefE.b (rInt 2)) rNilX)) (rgN 2)
    (rSeq (rAsg (rCall (fun _ _ _ h => h) (rCons (rVar 1) rNil)) (rgN 3))
    (rSeq (rAsg (rCall (fun _ _ _ h => h) (rCons (rVar 1) (rCons (rVar 3) (rCons (rCall hw_law_of (rCons (rVar 1) (rCons (rLst (rCons (rInt 3) (rCons (rInt 2) (rCons (rInt 4) (rCons (rInt 1) (rCons (rInt 3) rNil)))))) rNil))) rNil)))) (rgN 4))
    (rSeq (rAsg (rCall (fun _ _ _ h => h) (rCons (rVar 1) (rCons (rVar 4) (rCons (rVar 3) rNil)))) (rgN 5))
    (rSeq (rAsg (rCall (fun _ _ _ h => h) (rCons (rVar 1) (rCons (rVar 3) (rCons (rCall hw_law_of (rCons (rVar 1) (rCons (rLst (rCons (rInt 1) (rCons (rInt 2) (rCons (rInt 3) (rCons (rInt 1) (rCons (rInt 0) rNil)))))) rNil))) rNil)))) (rgN 6))
    (rMid (rIfS (rTest (rOp foEq (RefE.b (rCall hw_law_draw (rCons (rVar 1) (rCons (rInt 3) rNil)))) (RefE.b (rInt 0)))) (rAsg (rOp foAdd (RefE.b (rCall (fun _ _ _ h => h) (rCons (rVar 1) (rCons (rVar 3) (rCons (rInt 1) rNil))))) (RefE.b (rCall (fun _ _ _ h => h) (rCons (rVar 1) (rCons (rVar 4) (rCons (rVar 3) rNil)))))) (rgN 6)) rNext)
    (rSeq (rPar3 (rpVal (rCall (fun _ _ _ h => h) (rCons (rVar 5) (rCons (rVar 3) rNil))) (rpVal (rCall (fun _ _ _ h => h) (rCons (rVar 6) (rCons (rVar 3) rNil))) (rpVal (rCall (fun _ _ _ h => h) (rCons (rVar 4) (rCons (rVar 3) rNil))) rpNil))))
    (rSeq (rPar3 (rpVal (rNew (fun _ _ _ h => h) (rCons (rVar 3) (rCons (rVar 5) rNil))) (rpVal (rNew (fun _ _ _ h => h) (rCons (rVar 3) (rCons (rVar 6) rNil))) (rpVal (rNew (fun _ _ _ h => h) (rCons (rVar 3) (rCons (rVar 4) rNil))) rpNil))))
    (rSeq (rIfS (rOr (rNot (rB (rCall hw_law_like (rCons (rMd (fun _ _ _ h => h) (rVar 10) (rCons (rVar 12) rNil)) (rCons (rBl true) rNil))))) (rNot (rB (rCall hw_law_like (rCons (rOpE (foOwn fun _ _ _ h => h) (rOpE (foOwn fun _ _ _ h => h) (rVar 10) (rOpE (foOwn fun _ _ _ h => h) (rVar 11) (rVar 12))) (rOpE (foOwn fun _ _ _ h => h) (rOpE (foOwn fun _ _ _ h => h) (rVar 10) (rVar 11)) (rVar 12))) (rCons (rBl true) rNil)))))) (rRet (rBl false)) rNext)
    (rSeq (rIfS (rOr (rNot (rB (rCall (fun _ _ _ h => h) (rCons (rVar 10) (rCons (rVar 11) (rCons (rVar 12) (rCons (rVar 7) (rCons (rVar 8) (rCons (rVar 9) (rCons (rVar 3) rNil)))))))))) (rNot (rB (rCall (fun _ _ _ h => h) (rCons (rVar 11) (rCons (rVar 10) (rCons (rVar 12) (rCons (rVar 8) (rCons (rVar 7) (rCons (rVar 9) (rCons (rVar 3) rNil))))))))))) (rRet (rBl false)) rNext)
    (rIfS (rOr (rNot (rB (rCall (fun _ _ _ h => h) (rCons (rVar 12) (rCons (rVar 11) (rCons (rVar 10) (rCons (rVar 9) (rCons (rVar 8) (rCons (rVar 7) (rCons (rVar 3) rNil)))))))))) (rNot (rB (rCall (fun _ _ _ h => h) (rCons (rVar 11) (rCons (rVar 12) (rCons (rVar 10) (rCons (rVar 8) (rCons (rVar 9) (rCons (rVar 7) (rCons (rVar 3) rNil))))))))))) (rRet (rBl false)) rNext)))))))))))
    (rRet (rBl true)))
theorem law_run (pl : Law12) : a_law ⟨fun _ => False, fun d => d = .bl true, fun _ => False, fun _ => False⟩ (.no :: .val .bag :: List.replicate (N_law.length - 2) .no) := by
  have few : ∀ {v : Dt} {l : List Dt}, v ∈ l → (∀ v, v ∈ l → ∃ n : Nat, v = .int (n : Int) ∧ n ≤ 4) → ∃ n : Nat, v = .int (n : Int) ∧ n ≤ 4 := fun h k => k _ h
  walk_at "dl"
  refine ⟨by decide, ?_⟩
  refine for_rng (lo := 0) (n := 2) (fun i ρ => ∃ z2 z3 z4 z5 z6 z7 z8 z9 z10 z11 z12, ρ = [.no, .val .bag, z2, z3, z4, z5, z6, z7, z8, z9, z10, z11, z12]) ⟨_, _, _, _, _, _, _, _, _, _, _, rfl⟩ ?_ ?_
  · rintro i ρ P hi ⟨z2, z3, z4, z5, z6, z7, z8, z9, z10, z11, z12, rfl⟩ hP
    walk_at "dl"
    refine ⟨rfl, fun d d1 d5 => ?_⟩
    walk_at "dl"
    refine ⟨Nat.le_of_ble_eq_true rfl, ?_⟩
    refine ⟨⟨Nat.le_of_ble_eq_true rfl, Nat.le_of_ble_eq_true rfl⟩, fun v hv => ?_⟩
    have hv' : ∃ n : Nat, v = .int (n : Int) ∧ n ≤ 4 := by
      simp only [List.mem_cons, List.not_mem_nil, or_false] at hv
      rcases hv with rfl | rfl | rfl | rfl | rfl
      · exact ⟨3, rfl, by decide⟩
      · exact ⟨2, rfl, by decide⟩
      · exact ⟨4, rfl, by decide⟩
      · exact ⟨1, rfl, by decide⟩
      · exact ⟨3, rfl, by decide⟩
    obtain ⟨n, rfl, hn⟩ := hv'
    refine ⟨d, n, rfl, ⟨d1, d5, hn⟩, fun hi_ hil hiD => ?_⟩
    have dr : ∀ M : List (List Int), M.length ≤ 4 → DrawnR d M → DrawOk d M := fun M l h => ⟨d1, d5, l, fun r hr => by
      obtain ⟨j, hj⟩ := List.getElem?_of_mem hr
      have jl := (List.getElem?_eq_some_iff.mp hj).1
      exact ⟨(h j r hj).1, (h j r hj).2.mono (by omega)⟩⟩
    have DH := dr hi_ (by omega) hiD
    walk_at "dl"
    refine ⟨d, hi_, rfl, ⟨d1, d5, by omega, hiD⟩, fun lo ll hlo => ?_⟩
    have DL : DrawOk d lo := ⟨d1, d5, by omega, fun r hr => ⟨(hlo r hr).1, (hlo r hr).2.1⟩⟩
    walk_at "dl"
    refine ⟨Nat.le_of_ble_eq_true rfl, ?_⟩
    refine ⟨⟨Nat.le_of_ble_eq_true rfl, Nat.le_of_ble_eq_true rfl⟩, fun v hv => ?_⟩
    have hv' : ∃ n : Nat, v = .int (n : Int) ∧ n ≤ 4 := by
      simp only [List.mem_cons, List.not_mem_nil, or_false] at hv
      rcases hv with rfl | rfl | rfl | rfl | rfl
      · exact ⟨1, rfl, by decide⟩
      · exact ⟨2, rfl, by decide⟩
      · exact ⟨3, rfl, by decide⟩
      · exact ⟨1, rfl, by decide⟩
      · exact ⟨0, rfl, by decide⟩
    obtain ⟨m, rfl, hm⟩ := hv'
    refine ⟨d, m, rfl, ⟨d1, d5, hm⟩, fun sd_ sdl sdD => ?_⟩
    have DS0 := dr sd_ (by omega) sdD
    walk_at "dl"
    refine ⟨fun ρ => ∃ S, DrawOk d S ∧ ρ = [.no, .val .bag, .val (.int (0 + (i : Int))), .val (.int (d : Int)), .val (.lst (mD hi_)), .val (.lst (mD lo)), .val (.lst (mD S)), z7, z8, z9, z10, z11, z12], ?_, ?_⟩
    · walk_at "dl"
      refine ⟨by decide, fun t t0 t1 => ?_⟩
      walk_at "dl"
      refine ⟨fun c => ?_, fun c => ⟨sd_, DS0, rfl⟩⟩
      walk_at "dl"
      refine ⟨d, 1, rfl, ⟨d1, d5, by decide⟩, fun s1 s1l s1D => ?_⟩
      have DS1 := dr s1 (by omega) s1D
      walk_at "dl"
      refine ⟨d, hi_, rfl, ⟨d1, d5, by omega, hiD⟩, fun s2 s2l hs2 => ?_⟩
      walk_at "dl"
      refine ⟨by rw [mD_len, mD_len]; omega, ?_⟩
      refine ⟨s1 ++ s2, ⟨d1, d5, by rw [List.length_append]; omega, fun r hr => ?_⟩, ?_⟩
      · rcases List.mem_append.mp hr with h | h
        · exact DS1.rows r h
        · exact ⟨(hs2 r h).1, (hs2 r h).2.1⟩
      · unfold mD
        rw [List.map_append]
        rfl
    · rintro ρ ⟨S, DS, rfl⟩
      obtain ⟨ok, so⟩ := pl d lo S hi_ DL DS DH
      obtain ⟨so1, so2⟩ := so fun r hr => (hlo r hr).2.2
      walk_at "dl"
      refine ⟨d, _, lo, rfl, mat_mD, ⟨ok.wa.ech, ok.ra⟩, ?_⟩
      walk_at "dl"
      refine ⟨d, _, S, rfl, mat_mD, ⟨ok.wb.ech, ok.rb⟩, ?_⟩
      walk_at "dl"
      refine ⟨d, _, hi_, rfl, mat_mD, ⟨ok.wc.ech, ok.rc⟩, ?_⟩
      refine ⟨rfl, ?_⟩
      walk_at "dl"
      refine ⟨d, _, lo, rfl, mat_mD, ok.wa, ?_⟩
      walk_at "dl"
      refine ⟨d, _, S, rfl, mat_mD, ok.wb, ?_⟩
      walk_at "dl"
      refine ⟨d, _, hi_, rfl, mat_mD, ok.wc, ?_⟩
      refine ⟨rfl, ?_⟩
      walk_at "dl"
      refine ⟨⟨rfl, rfl⟩, ?_⟩
      refine ⟨d, _, _, rfl, ok.lie, ?_⟩
      rw [so1]
      walk_at "dl"
      refine ⟨⟨rfl, rfl, trivial⟩, ?_⟩
      refine ⟨fun c => absurd c (by decide), fun _ => ?_⟩
      walk_at "dl"
      refine ⟨⟨rfl, rfl⟩, d, ech d S, ech d hi_, rfl, ok.abc.bc.meet, ok.abc.bc.who, ?_⟩
      refine own_add ok.abc.abc ?_
      walk_at "dl"
      refine ⟨⟨rfl, rfl⟩, d, ech d lo, ech d S, rfl, ok.abc.ab.len, ok.abc.ab.who, ?_⟩
      refine own_and ok.abc.mab ?_
      refine own_eq ?_
      rw [decide_eq_true so2]
      walk_at "dl"
      refine ⟨⟨rfl, rfl, trivial⟩, ?_⟩
      refine ⟨fun c => absurd c (by decide), fun _ => ?_⟩
      walk_at "dl"
      refine ⟨d, _, _, _, rfl, ok.abc, ?_⟩
      refine ⟨fun c => absurd c (by decide), fun _ => ?_⟩
      walk_at "dl"
      refine ⟨d, _, _, _, rfl, ok.bac, ?_⟩
      refine ⟨fun c => absurd c (by decide), fun _ => ?_⟩
      walk_at "dl"
      refine ⟨d, _, _, _, rfl, ok.cba, ?_⟩
      refine ⟨fun c => absurd c (by decide), fun _ => ?_⟩
      walk_at "dl"
      refine ⟨d, _, _, _, rfl, ok.bca, ?_⟩
      refine ⟨fun c => absurd c (by decide), fun _ => ?_⟩
      walk_at "dl"
      exact hP _ ⟨_, _, _, _, _, _, _, _, _, _, _, rfl⟩
  · rintro ρ ⟨z2, z3, z4, z5, z6, z7, z8, z9, z10, z11, z12, rfl⟩
    exact rfl
def sp_law12 (K : PySem.W.Frag) : Sp := fun vs H Q _ => ∃ (a : Addr) (ns : List Int), vs = [.ref a] ∧ SqL K H a (ns.map V.int) ∧ ∀ H', Q (.bl true) H'
theorem pure_law12 (pl : Law12) {K : PySem.W.Frag} (CF : ClsF CLw K) (vs : List V) (H : Hp) (Q : VK) (E : XK) (h : sp_law12 K vs H Q E) : t_law K { nx := fun _ H' => Q .non H', rt := Q } (start N_law vs) H := by
  obtain ⟨a, ns, rfl, ha, q⟩ := h
  show t_law K _ [some (.ref a), none, none, none, none, none, none, none, none, none, none, none, none] H
  unfold t_law
  walk_at "vc"
  refine ⟨a, ns, rfl, ha, fun b H' g hb B s => ?_⟩
  exact law_rest (n := 11) (r_law (Jx := fun _ _ _ _ => False) CF) B rfl rfl (law_run pl) q _

end
section

/-! ### k12: all numbers are within bounds -/
structure Gen (d b : Nat) (T : List Vec) : Prop where
  rf : Rf d T
  gen : ∃ G, Okr d b G ∧ G.length ≤ T.length ∧ Eqs d G T
  told : Okr d (T.length * (b + 4)) T
  le : T.length ≤ d
theorem gen_of {d b : Nat} {M : List Vec} (d5 : d ≤ 5) (h : Okr d b M) : Gen d b (ech d M) := by
  have lM : Len d M := fun r hr => (h r hr).1
  obtain ⟨R, e⟩ := ech_rf lM
  obtain ⟨G, g1, g2, g3⟩ := basis M.length M rfl lM
  have le := ech_len d M
  exact ⟨R, ⟨G, okr_sub h g1, ind_le R (fun r hr => lM r (g1 r hr)) g3 (g2.trans e.symm) (by omega), g2.trans e.symm⟩, told_bd d5 h, le⟩
theorem mul_le5 {r b : Nat} (hr : r ≤ 5) (hb : b ≤ 377) : r * (b + 4) ≤ 1905 := Nat.le_trans (Nat.mul_le_mul hr (show b + 4 ≤ 381 by omega)) (by decide)
theorem mul_le4 {r b c : Nat} (hr : r ≤ 4) (hb : b ≤ c) : r * (b + 4) ≤ 4 * (c + 4) := Nat.mul_le_mul hr (by omega)
theorem lmul_lt {d β : Nat} {T : List Vec} (R : Rf d T) (hT : Okr d β T) : lmul T < 2 ^ (β * T.length + 1) := by
  obtain ⟨P0, dv⟩ := lprod_pos R T.length (Nat.le_refl _)
  rw [List.take_length] at P0 dv
  have pb := lprod_bd (b := β) T T.length (fun r hr => (hT r hr).2) (Nat.le_refl _)
  rw [List.take_length] at pb
  exact Nat.lt_of_le_of_lt (Nat.le_of_dvd (by omega) dv) pb
theorem bb_fin : ∀ r, r ≤ 4 → bbits (r * 381 + 1) (min 4 (5 - r)) ≤ 6449 := by decide
theorem bb_up {a b : Nat} (h : a ≤ b) (k : Nat) : bbits a k ≤ bbits b k := by
  have e1 := bbits_eq a k
  have e2 := bbits_eq b k
  have : (a + 1) * 2 ^ k ≤ (b + 1) * 2 ^ k := Nat.mul_le_mul_right _ (by omega)
  omega
theorem gen_bb {d b r : Nat} (d5 : d ≤ 5) (hb : b ≤ 377) (hr : r ≤ 4) : bbits (r * (b + 4) + 1) (min 4 (d - r)) ≤ 6449 := by
  have h1 : r * (b + 4) + 1 ≤ r * 381 + 1 := Nat.succ_le_succ (Nat.mul_le_mul_left r (by omega))
  exact Nat.le_trans (bb_up h1 _) (Nat.le_trans (bbits_mono (by omega)) (bb_fin r hr))
section
variable {d b : Nat} {T : List Vec}
theorem Gen.four (g : Gen d b T) (d5 : d ≤ 5) {f : Nat} (hf : f ∈ frees d T) : T.length ≤ 4 := by
  have := frees_len g.rf
  have := List.length_pos_of_mem hf
  omega
theorem Gen.sol (g : Gen d b T) (d5 : d ≤ 5) (hb : b ≤ 377) : SolOk d T := by
  have t5 := g.le
  have m := mul_le5 (r := T.length) (by omega) hb
  refine ⟨by omega, by omega, fun r hr => ⟨by rw [(g.rf.tl r hr).1]; exact (g.rf.ld r hr).1, by rw [(g.rf.tl r hr).1]; omega, (g.told r hr).2.mono (by omega)⟩, fun l hl => (g.rf.tl l hl).1, Nat.lt_of_lt_of_le (lmul_lt g.rf g.told) (Nat.pow_le_pow_right (by decide) ?_), fun i j l l' hi hj e => ?_⟩
  · have : T.length * (b + 4) * T.length ≤ 1905 * 5 := Nat.mul_le_mul m (by omega)
    omega
  · have il := (List.getElem?_eq_some_iff.mp hi).1
    have jl := (List.getElem?_eq_some_iff.mp hj).1
    refine g.rf.dif il jl ?_
    show leadp (tk T i) = leadp (tk T j)
    rw [tk_of hi, tk_of hj, e]
theorem Gen.esol (g : Gen d b T) (d5 : d ≤ 5) (hb : b ≤ 377) : Okr d (T.length * (b + 4) + 1) (eleft (sols d T)) := fun r hr => by
  obtain ⟨x, hx, rfl⟩ := List.mem_map.mp hr
  obtain ⟨f, h1, h2, rfl⟩ := sols_mem (List.mem_filter.mp hx).1
  obtain ⟨G, g1, g2, g3⟩ := g.gen
  exact ⟨by rw [prim_len, onesol_len], sol_bd g.rf g1 g3 g2 d5 h2 h1⟩
theorem Gen.raw (g : Gen d b T) (d5 : d ≤ 5) (hb : b ≤ 377) : Okr d 6449 (zeros d T) := fun r hr => by
  obtain ⟨f, hf, _⟩ := List.mem_map.mp hr
  have r4 := g.four d5 hf
  have q := zeros_bd g.rf g.told r hr
  have : T.length * (b + 4) * T.length ≤ 4 * 381 * 4 := Nat.mul_le_mul (Nat.mul_le_mul r4 (by omega)) r4
  exact ⟨q.1, q.2.mono (by omega)⟩
theorem Gen.rsol (g : Gen d b T) (d5 : d ≤ 5) (hb : b ≤ 377) : Okr d 12900 (sols d T) := fun r hr => by
  obtain ⟨f, h1, h2, rfl⟩ := sols_mem hr
  obtain ⟨g', g0, e⟩ := zrow_sol g.rf h2 h1
  have zm : zrow d T f T.length ∈ zeros d T := List.mem_map.mpr ⟨f, List.mem_filter.mpr ⟨List.mem_range.mpr h1, free_iff.mpr h2⟩, rfl⟩
  have zb := (g.raw d5 hb _ zm).2
  refine ⟨onesol_len, fun y hy => ?_⟩
  obtain ⟨j, hj⟩ := List.getElem?_of_mem hy
  have yj : (onesol d T f).getD j 0 = y := by rw [List.getD_eq_getElem?_getD, hj]; rfl
  have q := getD_bd (p := j) zb
  rw [e j, Int.natAbs_mul, yj] at q
  refine Nat.lt_of_le_of_lt (Nat.le_mul_of_pos_left _ (show 0 < g'.natAbs by omega)) (Nat.lt_of_lt_of_le q (Nat.pow_le_pow_right (by decide) (by decide)))
theorem Gen.ech_sols (g : Gen d b T) (d5 : d ≤ 5) (hb : b ≤ 377) : EchOk d (sols d T) := by
  have fl := frees_len g.rf
  have sl : (sols d T).length = (frees d T).length := by unfold sols; rw [List.length_map]
  by_cases c : T.length ≤ 4
  · exact echok (m := d - T.length) d5 (g.rsol d5 hb) (by omega) (by omega) (g.esol d5 hb) (gen_bb d5 hb c)
  · have z : sols d T = [] := List.eq_nil_of_length_eq_zero (by have := g.le; omega)
    rw [z]
    exact echok (b := 0) (m := 0) d5 (fun r h => by simp at h) (Nat.le_refl _) (by omega) (fun r h => by simp [eleft] at h) (by decide)
theorem Gen.zer (g : Gen d b T) (d5 : d ≤ 5) (hb : b ≤ 377) : ZerOk d T := by
  have E := g.ech_sols d5 hb
  have ee := eleft_zeros g.rf
  have es : ∀ p, est (zeros d T) p = est (sols d T) p := fun p => by
    unfold est
    rw [ee]
  refine ⟨g.sol d5 hb, by have := g.le; omega, ⟨E.dle, ?_, (g.raw d5 hb).up (by decide), fun p hp => ?_, fun p hp => ?_⟩, g.raw d5 hb⟩
  · have := E.len
    have l1 : (zeros d T).length = (frees d T).length := by unfold zeros; rw [List.length_map]
    have l2 : (sols d T).length = (frees d T).length := by unfold sols; rw [List.length_map]
    omega
  · rw [es]
    exact E.told p hp
  · rw [es]
    exact E.left p hp
theorem Gen.solved (g : Gen d b T) (d5 : d ≤ 5) : Okr d (T.length * (b + 4) + 1) (ech d (sols d T)) := by
  obtain ⟨G, g1, g2, g3⟩ := g.gen
  exact solved_bd g.rf g1 g3 g2 d5
theorem Gen.solved4 (g : Gen d b T) (d5 : d ≤ 5) {c : Nat} (hc : 4 * (b + 4) + 1 ≤ c) : Okr d c (ech d (sols d T)) := by
  by_cases q : T.length ≤ 4
  · exact (g.solved d5).up (by have := mul_le4 q (Nat.le_refl b); omega)
  · have fl := frees_len g.rf
    have sl : (sols d T).length = (frees d T).length := by unfold sols; rw [List.length_map]
    have lU : (ech d (sols d T)).length ≤ (sols d T).length := by
      have := est_cnt (sols d T) d
      have : (est (sols d T) d).1.length ≤ (sols d T).length := by omega
      exact this
    have z : ech d (sols d T) = [] := List.eq_nil_of_length_eq_zero (by have := g.le; omega)
    rw [z]
    exact fun r h => by simp at h
end

end
section

/-! ### k12: the plain law -/
section
open TL
theorem joinL_len : ∀ (S : List Nat) (l : List (List Nat)), (joinL S l).length ≤ (l.map (·.length)).sum + l.length * S.length
  | S, [] => Nat.zero_le _
  | S, [p] => by simp [joinL]
  | S, p :: q :: r => by
    have ih := joinL_len S (q :: r)
    show (p ++ (S ++ joinL S (q :: r))).length ≤ _
    rw [List.length_append, List.length_append, List.map_cons, List.sum_cons, List.length_cons, Nat.add_mul]
    omega
theorem rowTxt_len {r : List Int} (h : SayR r) : (rowTxt r).length ≤ r.length * 1921 + r.length := by
  unfold rowTxt
  rw [len_tl, join_eq, tl_join]
  have a := joinL_len (tl (Str.ofString " ")) ((r.map fun (n : Int) => Str.ofString (toString n)).map tl)
  have b := row_sum h
  have e : (((r.map fun (n : Int) => Str.ofString (toString n)).map tl).map (·.length)).sum = ((r.map fun (n : Int) => Str.ofString (toString n)).map (·.length)).sum := by
    rw [List.map_map]
    congr 1
  have s1 : (tl (Str.ofString " ")).length = 1 := rfl
  rw [e, s1, List.length_map, List.length_map] at a
  omega
end
theorem say_ok {d : Nat} {T : List Vec} (d5 : d ≤ 5) (hl : T.length ≤ 5) (h : Okr d 1905 T) : SayM T := by
  have sr : ∀ r, r ∈ T → SayR r := fun r hr => ⟨by rw [(h r hr).1]; omega, fun n hn => log2_bd ((h r hr).2 n hn) (by decide)⟩
  refine ⟨by omega, ?_, sr⟩
  refine Nat.le_trans (sum_le (fun r => (rowTxt r).length + 3) 9613 T fun r hr => ?_) (by have : T.length * 9613 ≤ 5 * 9613 := Nat.mul_le_mul_right _ hl; omega)
  have a := rowTxt_len (sr r hr)
  have b := (h r hr).1
  have : r.length * 1921 ≤ 5 * 1921 := Nat.mul_le_mul_right _ (by omega)
  omega
section
variable {d : Nat} {A B C : List Vec}
theorem bb4 {b m : Nat} (hb : b ≤ 377) : bbits b (min 4 m) ≤ 6449 := Nat.le_trans (bb_up hb _) (Nat.le_trans (bbits_mono (show min 4 m ≤ 4 by omega)) (by decide))
theorem ech377 {M : List Vec} (d5 : d ≤ 5) (hl : M.length ≤ 100000) (h : Okr d 377 M) : EchOk d M := echok d5 (h.up (by decide)) hl (Nat.le_refl _) (eleft_bd h) (bb4 (Nat.le_refl _))
theorem who377 {M : List Vec} (d5 : d ≤ 5) (hl : M.length ≤ 100000) (h : Okr d 377 M) : WhOk d M := by
  have g := gen_of d5 h
  exact ⟨ech377 d5 hl h, say_ok d5 (by have := g.le; omega) (g.told.up (mul_le5 (by have := g.le; omega) (Nat.le_refl _)))⟩
theorem sum_ok (d5 : d ≤ 5) (hA : A.length ≤ 5) (hB : B.length ≤ 5) (h : Okr d 377 (A ++ B)) : SumOk d A B := ⟨by omega, who377 d5 (by rw [List.length_append]; omega) h, h.up (by decide)⟩
theorem okr_app {b : Nat} (h : Okr d b A) (k : Okr d b B) : Okr d b (A ++ B) := fun r hr => (List.mem_append.mp hr).elim (h r) (k r)
theorem mt_ok {b1 b2 : Nat} (d5 : d ≤ 5) (gA : Gen d b1 A) (gB : Gen d b2 B) (h1 : b1 ≤ 90) (h2 : b2 ≤ 90) : MtOk d A B := by
  have sA := gA.solved4 d5 (c := 377) (by omega)
  have sB := gB.solved4 d5 (c := 377) (by omega)
  have aA := ech_len d (sols d A)
  have aB := ech_len d (sols d B)
  have hM : Okr d 377 (meetM d [A, B]) := by
    rw [meetM_two]
    exact okr_app sA sB
  have lM : (meetM d [A, B]).length ≤ 10 := by
    rw [meetM_two, List.length_append]
    omega
  have gN := gen_of d5 hM
  have eM := ech377 d5 (by omega) hM
  have em : ech d (zeros d A) ++ ech d (zeros d B) = meetM d [A, B] := by rw [ech_zeros gA.rf, ech_zeros gB.rf, meetM_two]
  have fl := frees_len gN.rf
  have sD : Okr d 1525 (meetD d A B) := gN.solved4 d5 (by decide)
  have lD : (meetD d A B).length ≤ d := ech_len d _
  refine ⟨⟨gA.sol d5 (by omega), gB.sol d5 (by omega), gA.ech_sols d5 (by omega), gB.ech_sols d5 (by omega), eM, gN.sol d5 (Nat.le_refl _), gN.ech_sols d5 (Nat.le_refl _)⟩, ⟨?_, ?_⟩, ⟨gA.zer d5 (by omega), gB.zer d5 (by omega), by rw [em]; exact eM, by rw [em]; exact hM.up (by decide), by rw [em]; exact gN.zer d5 (Nat.le_refl _)⟩, lmeet_eq gA.rf gB.rf⟩
  · have lU : (meetD d A B).length ≤ (sols d (ech d (meetM d [A, B]))).length := by
      have := est_cnt (sols d (ech d (meetM d [A, B]))) d
      have : (est (sols d (ech d (meetM d [A, B]))) d).1.length ≤ (sols d (ech d (meetM d [A, B]))).length := by omega
      exact this
    have sl : (sols d (ech d (meetM d [A, B]))).length = (frees d (ech d (meetM d [A, B]))).length := by unfold sols; rw [List.length_map]
    by_cases c : (ech d (meetM d [A, B])).length ≤ 4
    · have so : Okr d ((ech d (meetM d [A, B])).length * (377 + 4) + 1) (meetD d A B) := gN.solved d5
      exact echok (m := d - (ech d (meetM d [A, B])).length) d5 (sD.up (by decide)) (by omega) (by omega) (eleft_bd so) (gen_bb d5 (Nat.le_refl _) c)
    · have z : meetD d A B = [] := List.eq_nil_of_length_eq_zero (by have := gN.le; omega)
      rw [z]
      exact echok (b := 0) (m := 0) d5 (fun r h => by simp at h) (Nat.le_refl _) (by omega) (fun r h => by simp [eleft] at h) (by decide)
  · rw [ech_id meetD_rf]
    exact say_ok d5 (by omega) (sD.up (by decide))
theorem meet_bd {b1 b2 : Nat} (d5 : d ≤ 5) (gA : Gen d b1 A) (gB : Gen d b2 B) (h1 : b1 ≤ 14) (h2 : b2 ≤ 14) : Okr d 309 (meetE d A B) := by
  have hM : Okr d 73 (meetM d [A, B]) := by
    rw [meetM_two]
    exact okr_app (gA.solved4 d5 (by omega)) (gB.solved4 d5 (by omega))
  rw [meetE_id]
  exact (gen_of d5 hM).solved4 d5 (by decide)
theorem told90 {b : Nat} (d5 : d ≤ 5) (g : Gen d b A) (h : b ≤ 14) : Okr d 90 A := g.told.up (Nat.le_trans (Nat.mul_le_mul (show A.length ≤ 5 by have := g.le; omega) (show b + 4 ≤ 18 by omega)) (by decide))
theorem both_ok (d5 : d ≤ 5) (gA : Gen d 14 A) (gB : Gen d 14 B) (gC : Gen d 14 C) : BothOk d A B C := by
  have tA := told90 d5 gA (Nat.le_refl _)
  have tB := told90 d5 gB (Nat.le_refl _)
  have lA := gA.le
  have lB := gB.le
  have lBC := ech_len d (meetD d B C)
  have lCB := ech_len d (meetD d C B)
  have gAB : Gen d 90 (sumE d A B) := gen_of d5 (okr_app tA tB)
  have gBA : Gen d 90 (sumE d B A) := gen_of d5 (okr_app tB tA)
  have mBC := (meet_bd d5 gB gC (Nat.le_refl _) (Nat.le_refl _)).up (show 309 ≤ 377 by decide)
  have mCB := (meet_bd d5 gC gB (Nat.le_refl _) (Nat.le_refl _)).up (show 309 ≤ 377 by decide)
  refine ⟨mt_ok d5 gB gC (by decide) (by decide), mt_ok d5 gC gB (by decide) (by decide), sum_ok d5 (by omega) (by omega) ((okr_app tA tB).up (by decide)), sum_ok d5 (by omega) (by omega) ((okr_app tB tA).up (by decide)), sum_ok d5 (by omega) (by show (ech d (meetD d B C)).length ≤ 5; omega) (okr_app (tA.up (by decide)) mBC), sum_ok d5 (by show (ech d (meetD d C B)).length ≤ 5; omega) (by omega) (okr_app mCB (tA.up (by decide))), mt_ok d5 gAB gC (by decide) (by decide), mt_ok d5 gC gBA (by decide) (by decide), ?_, ?_⟩
  · rw [meet_comm gC.rf gB.rf]
    exact sum_comm meetE_rf gA.rf
  · rw [sum_comm gB.rf gA.rf]
    exact meet_comm gC.rf gAB.rf
end
theorem law12 : Law12 := fun d A B C hA hB hC => by
  have d5 := hA.d5
  have gA := gen_of d5 hA.rows
  have gB := gen_of d5 hB.rows
  have gC := gen_of d5 hC.rows
  have fA := hA.few
  have fB := hB.few
  have fC := hC.few
  have lA : Len d A := fun r hr => (hA.rows r hr).1
  have lC : Len d C := fun r hr => (hC.rows r hr).1
  have sC := gC.sol d5 (by decide)
  refine ⟨⟨who377 d5 (by omega) (hA.rows.up (by decide)), who377 d5 (by omega) (hB.rows.up (by decide)), who377 d5 (by omega) (hC.rows.up (by decide)), hA.rows.up (by decide), hB.rows.up (by decide), hC.rows.up (by decide), ⟨by omega, by have := gA.le; omega, sC.ldd, sC.mul, sC.len, fun l hl => (gA.rf.tl l hl).1, fun l hl => (told90 d5 gA (Nat.le_refl _) l hl).2.mono (by decide)⟩, both_ok d5 gA gB gC, both_ok d5 gB gA gC, both_ok d5 gC gB gA, both_ok d5 gB gC gA⟩, fun h => ?_⟩
  have sub : ∀ v, Spn d (ech d A) v → Spn d (ech d C) v := fun v s => ((ech_rf lC).2 v).mpr ((((ech_rf lA).2 v).mp s).mono fun r hr _ => h r hr)
  refine ⟨List.all_eq_true.mpr fun r hr => lies_of gC.rf (sub r (.mem hr (gA.rf.tl r hr).1)), modular gA.rf gB.rf gC.rf sub⟩
theorem pure_law {K : PySem.W.Frag} (CF : ClsF CLw K) (vs : List V) (H : Hp) (Q : VK) (E : XK) (h : sp_law12 K vs H Q E) : t_law K { nx := fun _ H' => Q .non H', rt := Q } (start N_law vs) H := pure_law12 law12 CF vs H Q E h
/-! what the head says, apart -/
theorem cf12 {K : PySem.W.Frag} (c : wholeB12 K = true) : ClsF CLw K := cls_of (He.ba c).1
theorem sf12 {K : PySem.W.Frag} (c : wholeB12 K = true) : PySem.W.selfFirst K (He.ga K "Whole") = true := (He.ba (He.ba c).2).1
theorem gcd12 {K : PySem.W.Frag} {h : Heap} {mg : Str → Option Value} (X : K.In h) (G : h.Ns mainGlobals mg) (c : wholeB12 K = true) : mg "gcd" = some (.builtin "math.gcd") := PySem.W.mg_of X G (He.eqO_ok (He.ba (He.ba (He.ba c).2).2).1)
theorem lcm12 {K : PySem.W.Frag} {h : Heap} {mg : Str → Option Value} (X : K.In h) (G : h.Ns mainGlobals mg) (c : wholeB12 K = true) : mg "lcm" = some (.builtin "math.lcm") := PySem.W.mg_of X G (He.eqO_ok (He.ba (He.ba (He.ba c).2).2).2)

end
end C
end
section
set_option maxHeartbeats 4000000
local macro_rules | `(tactic| walk_at "splen") => `(tactic| (intro vs H Q E h; first | (obtain ⟨e, _⟩ := h; subst e; rfl) | (obtain ⟨_, e, _⟩ := h; subst e; rfl) | (obtain ⟨_, _, e, _⟩ := h; subst e; rfl) | (obtain ⟨_, _, _, e, _⟩ := h; subst e; rfl) | (obtain ⟨_, _, _, _, e, _⟩ := h; subst e; rfl) | (obtain ⟨_, _, _, _, _, e, _⟩ := h; subst e; rfl) | (obtain ⟨_, _, _, _, _, _, e, _⟩ := h; subst e; rfl) | (obtain ⟨_, _, _, _, _, _, _, e, _⟩ := h; subst e; rfl) | (obtain ⟨_, _, _, _, _, _, _, _, e, _⟩ := h; subst e; rfl) | (obtain ⟨_, _, _, _, _, _, _, _, _, e, _⟩ := h; subst e; rfl) | (obtain ⟨_, _, _, _, _, _, _, _, _, _, e, _⟩ := h; subst e; rfl) | (obtain ⟨_, _, _, _, _, _, _, _, _, _, _, e, _⟩ := h; subst e; rfl) | (refine C.fnD_len h fun ds Qd q => ?_; first | (obtain ⟨e, _⟩ := q; subst e; rfl) | (obtain ⟨_, e, _⟩ := q; subst e; rfl) | (obtain ⟨_, _, e, _⟩ := q; subst e; rfl) | (obtain ⟨_, _, _, e, _⟩ := q; subst e; rfl) | (obtain ⟨_, _, _, _, e, _⟩ := q; subst e; rfl) | (obtain ⟨_, _, _, _, _, e, _⟩ := q; subst e; rfl) | (obtain ⟨_, _, _, _, _, _, e, _⟩ := q; subst e; rfl) | (obtain ⟨_, _, _, _, _, _, _, e, _⟩ := q; subst e; rfl)) | (obtain ⟨W, S, x, dx, ws, ds, Qd, e, _, _, _, _, hs, q, _⟩ := h; subst e; rw [List.length_cons, hs.len]; first | (obtain ⟨e, _⟩ := q; subst e; rfl) | (obtain ⟨_, e, _⟩ := q; subst e; rfl) | (obtain ⟨_, _, e, _⟩ := q; subst e; rfl) | (obtain ⟨_, _, _, e, _⟩ := q; subst e; rfl) | (obtain ⟨_, _, _, _, e, _⟩ := q; subst e; rfl) | (obtain ⟨_, _, _, _, _, e, _⟩ := q; subst e; rfl) | (obtain ⟨_, _, _, _, _, _, e, _⟩ := q; subst e; rfl) | (obtain ⟨_, _, _, _, _, _, _, e, _⟩ := q; subst e; rfl))))
namespace D
open PySem PySem.Spec PyProof.Rows L2 RZ U ZM C
section
variable {P : Program} {w : World} {K : PySem.W.Frag} {mg : Str → Option Value} {base : Heap}
structure Fr (mg : Str → Option Value) : Prop where
  int : mg "int" = none
  list : mg "list" = none
  len : mg "len" = none
  range : mg "range" = none
  zip : mg "zip" = none
  tuple : mg "tuple" = none
  abs : mg "abs" = none
  isinstance : mg "isinstance" = none
  bool : mg "bool" = none
  str : mg "str" = none
  all : mg "all" = none
  enumerate : mg "enumerate" = none
  any : mg "any" = none
  divmod : mg "divmod" = none
theorem sc_law_bag : FnScope N_law_bag ["script"] (defScope s_law_bag) := ⟨rfl, rfl, rfl, by decide +kernel, rfl, by decide +kernel, by decide +kernel⟩
theorem b_law_bag (W : Fr mg) {f : Addr} {cdv : Value} {A : Around} {outer : List Env} {s : Shared} {H : Hp} {E : XK} (hr : Room 0 (A.deeper (envOfC "_law_bag" (defScope s_law_bag) s.heap.objs.size f cdv))) :
  PSs (cxOf CX0 P w K mg base N_law_bag "_law_bag" (defScope s_law_bag) f cdv A outer s H E).nox (defBody s_law_bag) (t_law_bag K) :=
  have hu64 := hr.units
  have hu65 : (A.deeper (envOfC "_law_bag" (defScope s_law_bag) s.heap.objs.size f cdv)).units + 65 < cLine := by have := hr.un; omega
  (pss_cons (ps_set (i := 1) sc_law_bag.nd rfl (by first | exact Or.inl rfl | exact Or.inr rfl) pe_int)
    (pss_cons (ps_for PassesOwn.never rfl (pi_list (pe_slice o_sl (pv 0) po_none (po_some pe_int))) (pg_name (i := 2) sc_law_bag.nd rfl (by first | exact Or.inl rfl | exact Or.inr rfl))
    (pss_one (ps_set (i := 1) sc_law_bag.nd rfl (by first | exact Or.inl rfl | exact Or.inr rfl) (pe_op o_mod (pe_callTy c_int1 (by rfl) W.int (by first | boot_by_name | rfl | kernel_rfl) (pa_cons (pe_op o_add (pe_op o_add (pe_op o_mul (pv 1) pe_int) (pe_op o_mod (pe_callTy c_int1 (by rfl) W.int (by first | boot_by_name | rfl | kernel_rfl) (pa_cons (pv 2) pa_nil)) pe_int)) pe_int) pa_nil)) pe_int))))
    (pss_one (ps_ret (pe_lst (pa_cons (pe_callTy c_list (by rfl) W.list (by first | boot_by_name | rfl | kernel_rfl) (pa_cons (pe_slice o_sl (pv 0) po_none (po_some pe_int)) pa_nil)) (pa_cons pe_int (pa_cons pe_int (pa_cons (pv 1) (pa_cons pe_int pa_nil))))))))))
theorem ok_law_bag (W : Fr mg) {f : Addr} {fd : FuncData} (F : FunD K "_law_bag" "_law_bag" (defArgs s_law_bag) (defBody s_law_bag) (defScope s_law_bag) [] [] f fd) : FnOk P w K mg base CX0 1 f fd ["script"] (sp_law_bag K) := by
  refine F.ok sc_law_bag ?_ (fun cdv A outer s H vs Q E hr h => ⟨t_law_bag K, PSs.nox (b_law_bag W hr), pure_law_bag vs H Q E h⟩)
  walk_at "splen"
theorem sc_law_draw : FnScope N_law_draw ["bag", "size"] (defScope s_law_draw) := ⟨rfl, rfl, rfl, by decide +kernel, rfl, by decide +kernel, by decide +kernel⟩
theorem b_law_draw (W : Fr mg) {f : Addr} {cdv : Value} {A : Around} {outer : List Env} {s : Shared} {H : Hp} {E : XK} (hr : Room 0 (A.deeper (envOfC "_law_draw" (defScope s_law_draw) s.heap.objs.size f cdv))) :
  PSs (cxOf CX0 P w K mg base N_law_draw "_law_draw" (defScope s_law_draw) f cdv A outer s H E).nox (defBody s_law_draw) (t_law_draw K) :=
  have hu64 := hr.units
  have hu65 : (A.deeper (envOfC "_law_draw" (defScope s_law_draw) s.heap.objs.size f cdv)).units + 65 < cLine := by have := hr.un; omega
  (pss_cons (ps_if (pt_cmpR o_lt (pv 1) pe_int (nomark _)) (pss_one (ps_ret pe_int)) pss_nil)
    (pss_cons (ps_asg (pe_op o_add (pe_ix ix_seq (pv 0) pe_int (fun _ _ => rfl)) pe_int) (pg_sub (pv 0) pe_int set_list))
    (pss_mid (ps_if (PW.pt (pw_and (pt_cmpR (o_eq hu64) (pe_ix ix_seq (pv 0) pe_int (fun _ _ => rfl)) pe_int (nomark _)) (pw_and1 (pt_cmpR o_lt (pe_ix ix_seq (pv 0) pe_int (fun _ _ => rfl)) (pe_callB c_len (by rfl) W.len (by first | boot_by_name | rfl | kernel_rfl) (pa_cons (pe_ix ix_seq (pv 0) pe_int (fun _ _ => rfl)) pa_nil)) (nomark _))))) (pss_cons (ps_set (i := 2) sc_law_draw.nd rfl (by first | exact Or.inl rfl | exact Or.inr rfl) (pe_callTy c_int1 (by rfl) W.int (by first | boot_by_name | rfl | kernel_rfl) (pa_cons (pe_ix ix_seq (pe_ix ix_seq (pv 0) pe_int (fun _ _ => rfl)) (pe_ix ix_seq (pv 0) pe_int (fun _ _ => rfl)) (fun _ _ => rfl)) pa_nil)))
    (pss_cons (ps_asg (pe_op o_add (pe_ix ix_seq (pv 0) pe_int (fun _ _ => rfl)) pe_int) (pg_sub (pv 0) pe_int set_list))
    (pss_one (ps_if (pt_cmpR o_ge (pv 2) (pe_op o_pow pe_int pe_int) (nomark _)) (pss_one (ps_asg (pv 2) (pg_sub (pv 0) pe_int set_list))) (pss_one (ps_asg (pe_op o_mod (pe_callTy c_int1 (by rfl) W.int (by first | boot_by_name | rfl | kernel_rfl) (pa_cons (pe_op o_add (pe_op o_add (pe_op o_mul (pe_ix ix_seq (pv 0) pe_int (fun _ _ => rfl)) pe_int) (pe_op o_mul (pe_op o_mod (pe_callTy c_int1 (by rfl) W.int (by first | boot_by_name | rfl | kernel_rfl) (pa_cons (pv 2) pa_nil)) pe_int) pe_int)) pe_int) pa_nil)) pe_int) (pg_sub (pv 0) pe_int set_list))))))) pss_nil)
    (pss_cons (ps_if (pt_cmpR o_gt (pe_ix ix_seq (pv 0) pe_int (fun _ _ => rfl)) pe_int (nomark _)) (pss_cons (ps_set (i := 3) sc_law_draw.nd rfl (by first | exact Or.inl rfl | exact Or.inr rfl) (pe_op o_mod (pe_callTy c_int1 (by rfl) W.int (by first | boot_by_name | rfl | kernel_rfl) (pa_cons (pe_ix ix_seq (pv 0) pe_int (fun _ _ => rfl)) pa_nil)) (pv 1)))
    (pss_cons (ps_asg (pe_op o_div (pe_callTy c_int1 (by rfl) W.int (by first | boot_by_name | rfl | kernel_rfl) (pa_cons (pe_ix ix_seq (pv 0) pe_int (fun _ _ => rfl)) pa_nil)) (pv 1)) (pg_sub (pv 0) pe_int set_list))
    (pss_one (ps_ret (pv 3))))) pss_nil)
    (pss_cons (ps_set (i := 4) sc_law_draw.nd rfl (by first | exact Or.inl rfl | exact Or.inr rfl) (pe_callTy c_int1 (by rfl) W.int (by first | boot_by_name | rfl | kernel_rfl) (pa_cons (pe_ix ix_seq (pv 0) pe_int (fun _ _ => rfl)) pa_nil)))
    (pss_cons (ps_asg (pe_op o_mod (pe_callTy c_int1 (by rfl) W.int (by first | boot_by_name | rfl | kernel_rfl) (pa_cons (pe_op o_add (pe_op o_add (pe_op o_add (pe_op o_pow (pv 4) pe_int) (pe_op o_mul (pv 4) pe_int)) (pe_op o_mul (pe_ix ix_seq (pv 0) pe_int (fun _ _ => rfl)) pe_int)) pe_int) pa_nil)) pe_int) (pg_sub (pv 0) pe_int set_list))
    (pss_one (ps_ret (pe_op o_mod (pe_callTy c_int1 (by rfl) W.int (by first | boot_by_name | rfl | kernel_rfl) (pa_cons (pe_op o_add (pe_op o_div (pe_ix ix_seq (pv 0) pe_int (fun _ _ => rfl)) pe_int) (pe_op o_mul (pe_op o_mod (pe_callTy c_int1 (by rfl) W.int (by first | boot_by_name | rfl | kernel_rfl) (pa_cons (pe_ix ix_seq (pv 0) pe_int (fun _ _ => rfl)) pa_nil)) pe_int) pe_int)) pa_nil)) (pv 1))))))))))
theorem ok_law_draw (W : Fr mg) {f : Addr} {fd : FuncData} (F : FunD K "_law_draw" "_law_draw" (defArgs s_law_draw) (defBody s_law_draw) (defScope s_law_draw) [] [] f fd) : FnOk P w K mg base CX0 1 f fd ["bag", "size"] (sp_law_draw K) := by
  refine F.ok sc_law_draw ?_ (fun cdv A outer s H vs Q E hr h => ⟨t_law_draw K, PSs.nox (b_law_draw W hr), pure_law_draw vs H Q E h⟩)
  walk_at "splen"
theorem sc_law_of : FnScope N_law_of ["bag", "things"] (defScope s_law_of) := ⟨rfl, rfl, rfl, by decide +kernel, rfl, by decide +kernel, by decide +kernel⟩
theorem b_law_of (W : Fr mg) (D_law_draw : Fd P w K mg base CX0 "_law_draw" 1 ["bag", "size"] (sp_law_draw K)) {f : Addr} {cdv : Value} {A : Around} {outer : List Env} {s : Shared} {H : Hp} {E : XK} (hr : Room 1 (A.deeper (envOfC "_law_of" (defScope s_law_of) s.heap.objs.size f cdv))) :
  PSs (cxOf CX0 P w K mg base N_law_of "_law_of" (defScope s_law_of) f cdv A outer s H E).nox (defBody s_law_of) (t_law_of K) :=
  have hu64 := hr.units
  have hu65 : (A.deeper (envOfC "_law_of" (defScope s_law_of) s.heap.objs.size f cdv)).units + 65 < cLine := by have := hr.un; omega
  (pss_one (ps_ret (pe_ix ix_seq (pv 1) (pe_fd D_law_draw (hr.mono (by omega)) (pa_cons (pv 0) (pa_cons (pe_callB c_len (by rfl) W.len (by first | boot_by_name | rfl | kernel_rfl) (pa_cons (pv 1) pa_nil)) pa_nil))) (fun _ _ => rfl))))
theorem ok_law_of (W : Fr mg) (D_law_draw : Fd P w K mg base CX0 "_law_draw" 1 ["bag", "size"] (sp_law_draw K)) {f : Addr} {fd : FuncData} (F : FunD K "_law_of" "_law_of" (defArgs s_law_of) (defBody s_law_of) (defScope s_law_of) [] [] f fd) : FnOk P w K mg base CX0 2 f fd ["bag", "things"] (sp_law_of K) := by
  refine F.ok sc_law_of ?_ (fun cdv A outer s H vs Q E hr h => ⟨t_law_of K, PSs.nox (b_law_of W D_law_draw hr), pure_law_of vs H Q E h⟩)
  walk_at "splen"
theorem sc_law_deep : FnScope N_law_deep ["bag"] (defScope s_law_deep) := ⟨rfl, rfl, rfl, by decide +kernel, rfl, by decide +kernel, by decide +kernel⟩
theorem b_law_deep (W : Fr mg) (D_law_of : Fd P w K mg base CX0 "_law_of" 2 ["bag", "things"] (sp_law_of K)) {f : Addr} {cdv : Value} {A : Around} {outer : List Env} {s : Shared} {H : Hp} {E : XK} (hr : Room 2 (A.deeper (envOfC "_law_deep" (defScope s_law_deep) s.heap.objs.size f cdv))) :
  PSs (cxOf CX0 P w K mg base N_law_deep "_law_deep" (defScope s_law_deep) f cdv A outer s H E).nox (defBody s_law_deep) (t_law_deep K) :=
  have hu64 := hr.units
  have hu65 : (A.deeper (envOfC "_law_deep" (defScope s_law_deep) s.heap.objs.size f cdv)).units + 65 < cLine := by have := hr.un; omega
  (pss_one (ps_ret (pe_fd D_law_of (hr.mono (by omega)) (pa_cons (pv 0) (pa_cons (pe_lst (pa_cons pe_int (pa_cons pe_int (pa_cons pe_int (pa_cons pe_int (pa_cons pe_int (pa_cons pe_int (pa_cons pe_int (pa_cons pe_int (pa_cons pe_int (pa_cons pe_int pa_nil))))))))))) pa_nil)))))
theorem ok_law_deep (W : Fr mg) (D_law_of : Fd P w K mg base CX0 "_law_of" 2 ["bag", "things"] (sp_law_of K)) {f : Addr} {fd : FuncData} (F : FunD K "_law_deep" "_law_deep" (defArgs s_law_deep) (defBody s_law_deep) (defScope s_law_deep) [] [] f fd) : FnOk P w K mg base CX0 3 f fd ["bag"] (sp_law_deep K) := by
  refine F.ok sc_law_deep ?_ (fun cdv A outer s H vs Q E hr h => ⟨t_law_deep K, PSs.nox (b_law_deep W D_law_of hr), pure_law_deep vs H Q E h⟩)
  walk_at "splen"
theorem sc_law_rows : FnScope N_law_rows ["bag", "d", "many"] (defScope s_law_rows) := ⟨rfl, rfl, rfl, by decide +kernel, rfl, by decide +kernel, by decide +kernel⟩
theorem b_law_rows (W : Fr mg) (D_law_draw : Fd P w K mg base CX0 "_law_draw" 1 ["bag", "size"] (sp_law_draw K)) (D_law_of : Fd P w K mg base CX0 "_law_of" 2 ["bag", "things"] (sp_law_of K)) {f : Addr} {cdv : Value} {A : Around} {outer : List Env} {s : Shared} {H : Hp} {E : XK} (hr : Room 2 (A.deeper (envOfC "_law_rows" (defScope s_law_rows) s.heap.objs.size f cdv))) :
  PSs (cxOf CX0 P w K mg base N_law_rows "_law_rows" (defScope s_law_rows) f cdv A outer s H E).nox (defBody s_law_rows) (t_law_rows K) :=
  have hu64 := hr.units
  have hu65 : (A.deeper (envOfC "_law_rows" (defScope s_law_rows) s.heap.objs.size f cdv)).units + 65 < cLine := by have := hr.un; omega
  (pss_cons (ps_set (i := 3) sc_law_rows.nd rfl (by first | exact Or.inl rfl | exact Or.inr rfl) (pe_lst pa_nil))
    (pss_cons (ps_for PassesOwn.never rfl (pi_range1 (by rfl) W.range (pa_cons (pv 2) pa_nil)) (pg_name (i := 4) sc_law_rows.nd rfl (by first | exact Or.inl rfl | exact Or.inr rfl))
    (pss_cons (ps_set (i := 5) sc_law_rows.nd rfl (by first | exact Or.inl rfl | exact Or.inr rfl) (pe_fd D_law_draw (hr.mono (by omega)) (pa_cons (pv 0) (pa_cons pe_int pa_nil))))
    (pss_one (ps_if (PW.pt (pw_and (pt_cmpR (o_eq hu64) (pv 5) pe_int (nomark _)) (pw_and1 (p_truth (pv 3) (by intro _; rfl))))) (pss_cons (ps_par (i := 6) (j := 7) (by rfl) sc_law_rows.nd rfl rfl (by decide) rfl rfl (pa_cons (pe_fd D_law_of (hr.mono (by omega)) (pa_cons (pv 0) (pa_cons (pv 3) pa_nil))) (pa_cons (pe_fd D_law_of (hr.mono (by omega)) (pa_cons (pv 0) (pa_cons (pv 3) pa_nil))) pa_nil)) (by rfl))
    (pss_cons (ps_asg (pe_tup (pa_cons (pe_op o_sub (pe_fd D_law_draw (hr.mono (by omega)) (pa_cons (pv 0) (pa_cons pe_int pa_nil))) pe_int) (pa_cons (pe_op o_sub (pe_fd D_law_draw (hr.mono (by omega)) (pa_cons (pv 0) (pa_cons pe_int pa_nil))) pe_int) pa_nil))) (pg_tup (by rfl) (pgs_cons (pg_name (i := 8) sc_law_rows.nd rfl (by first | exact Or.inl rfl | exact Or.inr rfl)) (pgs_cons (pg_name (i := 9) sc_law_rows.nd rfl (by first | exact Or.inl rfl | exact Or.inr rfl)) pgs_nil))))
    (pss_one (ps_expr (pe_bm PySem.F.plainAttrs_list PySem.F.slot_list_append PySem.F.type_list_append mt_append (pv 3) (pa_cons (pe_callTy c_tuple (by rfl) W.tuple (by first | boot_by_name | rfl | kernel_rfl) (pa_cons (pe_lc (own := [("x", 11), ("y", 12)]) (g := (gTup K 2 (gCons (gName 11) (gCons (gName 12) gNil)))) (tt := tYes) (by rfl) sc_law_rows.nd (pi_zipU (by rfl) W.zip (pa_cons (pv 6) (pa_cons (pv 7) pa_nil))) (blkOk_by (own := [("x", 11), ("y", 12)]) (N := N_law_rows) (sc := (defScope s_law_rows)) (by decide +kernel)) (fun _ _ _ _ _ => (pg_tup (by rfl) (pgs_cons (pg_name (i := 11) sc_law_rows.nd rfl (by first | exact Or.inl rfl | exact Or.inr rfl)) (pgs_cons (pg_name (i := 12) sc_law_rows.nd rfl (by first | exact Or.inl rfl | exact Or.inr rfl)) pgs_nil)))) (fun _ _ _ _ _ => pts_nil) (fun _ _ _ _ _ => (pe_op o_add (pe_op o_mul (pv 8) (pv 11)) (pe_op o_mul (pv 9) (pv 12))))) pa_nil)) pa_nil)))))) (pss_one (ps_if (pt_cmpR (o_eq hu64) (pv 5) pe_int (nomark _)) (pss_cons (ps_set (i := 10) sc_law_rows.nd rfl (by first | exact Or.inl rfl | exact Or.inr rfl) (pe_fd D_law_draw (hr.mono (by omega)) (pa_cons (pv 0) (pa_cons (pv 1) pa_nil))))
    (pss_one (ps_expr (pe_bm PySem.F.plainAttrs_list PySem.F.slot_list_append PySem.F.type_list_append mt_append (pv 3) (pa_cons (pe_callTy c_tuple (by rfl) W.tuple (by first | boot_by_name | rfl | kernel_rfl) (pa_cons (pe_lc (own := [("j", 13)]) (g := (gName 13)) (tt := tYes) (by rfl) sc_law_rows.nd (pi_range1 (by rfl) W.range (pa_cons (pv 1) pa_nil)) (blkOk_by (own := [("j", 13)]) (N := N_law_rows) (sc := (defScope s_law_rows)) (by decide +kernel)) (fun _ _ _ _ _ => (pg_name (i := 13) sc_law_rows.nd rfl (by first | exact Or.inl rfl | exact Or.inr rfl))) (fun _ _ _ _ _ => pts_nil) (fun _ _ _ _ _ => (pe_op o_mul (pe_callTy c_int1 (by rfl) W.int (by first | boot_by_name | rfl | kernel_rfl) (pa_cons (pe_cmpR (o_eq hu64) (pv 13) (pv 10) (nomark _)) pa_nil)) (pe_fd D_law_of (hr.mono (by omega)) (pa_cons (pv 0) (pa_cons (pe_lst (pa_cons pe_int (pa_cons (pe_un o_neg pe_int) (pa_cons pe_int (pa_cons pe_int pa_nil))))) pa_nil)))))) pa_nil)) pa_nil))))) (pss_one (ps_if (pt_cmpR o_lt (pv 5) pe_int (nomark _)) (pss_one (ps_expr (pe_bm PySem.F.plainAttrs_list PySem.F.slot_list_append PySem.F.type_list_append mt_append (pv 3) (pa_cons (pe_callTy c_tuple (by rfl) W.tuple (by first | boot_by_name | rfl | kernel_rfl) (pa_cons (pe_lc (own := [("j", 13)]) (g := (gName 13)) (tt := tYes) (by rfl) sc_law_rows.nd (pi_range1 (by rfl) W.range (pa_cons (pv 1) pa_nil)) (blkOk_by (own := [("j", 13)]) (N := N_law_rows) (sc := (defScope s_law_rows)) (by decide +kernel)) (fun _ _ _ _ _ => (pg_name (i := 13) sc_law_rows.nd rfl (by first | exact Or.inl rfl | exact Or.inr rfl))) (fun _ _ _ _ _ => pts_nil) (fun _ _ _ _ _ => (pe_fd D_law_of (hr.mono (by omega)) (pa_cons (pv 0) (pa_cons (pe_lst (pa_cons pe_int (pa_cons pe_int (pa_cons pe_int (pa_cons (pe_un o_neg pe_int) (pa_cons pe_int pa_nil)))))) pa_nil))))) pa_nil)) pa_nil)))) (pss_one (ps_expr (pe_bm PySem.F.plainAttrs_list PySem.F.slot_list_append PySem.F.type_list_append mt_append (pv 3) (pa_cons (pe_callTy c_tuple (by rfl) W.tuple (by first | boot_by_name | rfl | kernel_rfl) (pa_cons (pe_lc (own := [("j", 13)]) (g := (gName 13)) (tt := tYes) (by rfl) sc_law_rows.nd (pi_range1 (by rfl) W.range (pa_cons (pv 1) pa_nil)) (blkOk_by (own := [("j", 13)]) (N := N_law_rows) (sc := (defScope s_law_rows)) (by decide +kernel)) (fun _ _ _ _ _ => (pg_name (i := 13) sc_law_rows.nd rfl (by first | exact Or.inl rfl | exact Or.inr rfl))) (fun _ _ _ _ _ => pts_nil) (fun _ _ _ _ _ => (pe_op o_sub (pe_fd D_law_draw (hr.mono (by omega)) (pa_cons (pv 0) (pa_cons pe_int pa_nil))) pe_int))) pa_nil)) pa_nil))))))))))))
    (pss_one (ps_ret (pv 3)))))
theorem ok_law_rows (W : Fr mg) (D_law_draw : Fd P w K mg base CX0 "_law_draw" 1 ["bag", "size"] (sp_law_draw K)) (D_law_of : Fd P w K mg base CX0 "_law_of" 2 ["bag", "things"] (sp_law_of K)) {f : Addr} {fd : FuncData} (F : FunD K "_law_rows" "_law_rows" (defArgs s_law_rows) (defBody s_law_rows) (defScope s_law_rows) [] [] f fd) : FnOk P w K mg base CX0 3 f fd ["bag", "d", "many"] (sp_law_rows K) := by
  refine F.ok sc_law_rows ?_ (fun cdv A outer s H vs Q E hr h => ⟨t_law_rows K, PSs.nox (b_law_rows W D_law_draw D_law_of hr), pure_law_rows vs H Q E h⟩)
  walk_at "splen"
theorem sc_law_parts : FnScope N_law_parts ["bag", "base", "d"] (defScope s_law_parts) := ⟨rfl, rfl, rfl, by decide +kernel, rfl, by decide +kernel, by decide +kernel⟩
theorem b_law_parts (W : Fr mg) (D_law_of : Fd P w K mg base CX0 "_law_of" 2 ["bag", "things"] (sp_law_of K)) {f : Addr} {cdv : Value} {A : Around} {outer : List Env} {s : Shared} {H : Hp} {E : XK} (hr : Room 2 (A.deeper (envOfC "_law_parts" (defScope s_law_parts) s.heap.objs.size f cdv))) :
  PSs (cxOf CX0 P w K mg base N_law_parts "_law_parts" (defScope s_law_parts) f cdv A outer s H E).nox (defBody s_law_parts) (t_law_parts K) :=
  have hu64 := hr.units
  have hu65 : (A.deeper (envOfC "_law_parts" (defScope s_law_parts) s.heap.objs.size f cdv)).units + 65 < cLine := by have := hr.un; omega
  (pss_cons (ps_set (i := 3) sc_law_parts.nd rfl (by first | exact Or.inl rfl | exact Or.inr rfl) (pe_lst pa_nil))
    (pss_cons (ps_for PassesOwn.never rfl (pi_range1 (by rfl) W.range (pa_cons (pe_fd D_law_of (hr.mono (by omega)) (pa_cons (pv 0) (pa_cons (pe_lst (pa_cons pe_int (pa_cons pe_int (pa_cons pe_int (pa_cons pe_int (pa_cons pe_int pa_nil)))))) pa_nil))) pa_nil)) (pg_name (i := 4) sc_law_parts.nd rfl (by first | exact Or.inl rfl | exact Or.inr rfl))
    (pss_cons (ps_setLc (i := 5) (own := [("j", 8)]) (g := (gName 8)) (tt := tYes) (by rfl) sc_law_parts.nd rfl rfl (sw_true rfl rfl rfl (by decide +kernel)) (pi_range1 (by rfl) W.range (pa_cons (pv 2) pa_nil)) (blkOk_by (own := [("j", 8)]) (N := N_law_parts) (sc := (defScope s_law_parts)) (by decide +kernel)) (fun _ _ _ _ _ => (pg_name (i := 8) sc_law_parts.nd rfl (by first | exact Or.inl rfl | exact Or.inr rfl))) (fun _ _ _ _ _ => pts_nil) (fun _ _ _ _ _ => pe_int))
    (pss_cons (ps_for PassesOwn.never rfl (pi_sq (pv 1)) (pg_name (i := 6) sc_law_parts.nd rfl (by first | exact Or.inl rfl | exact Or.inr rfl))
    (pss_cons (ps_set (i := 7) sc_law_parts.nd rfl (by first | exact Or.inl rfl | exact Or.inr rfl) (pe_fd D_law_of (hr.mono (by omega)) (pa_cons (pv 0) (pa_cons (pe_lst (pa_cons pe_int (pa_cons pe_int (pa_cons (pe_un o_neg pe_int) (pa_cons pe_int (pa_cons pe_int (pa_cons pe_int pa_nil))))))) pa_nil))))
    (pss_one (ps_setLc (i := 5) (own := [("a", 9), ("b", 10)]) (g := (gTup K 2 (gCons (gName 9) (gCons (gName 10) gNil)))) (tt := tYes) (by rfl) sc_law_parts.nd rfl rfl (sw_true rfl rfl rfl (by decide +kernel)) (pi_zipU (by rfl) W.zip (pa_cons (pv 5) (pa_cons (pv 6) pa_nil))) (blkOk_by (own := [("a", 9), ("b", 10)]) (N := N_law_parts) (sc := (defScope s_law_parts)) (by decide +kernel)) (fun _ _ _ _ _ => (pg_tup (by rfl) (pgs_cons (pg_name (i := 9) sc_law_parts.nd rfl (by first | exact Or.inl rfl | exact Or.inr rfl)) (pgs_cons (pg_name (i := 10) sc_law_parts.nd rfl (by first | exact Or.inl rfl | exact Or.inr rfl)) pgs_nil)))) (fun _ _ _ _ _ => pts_nil) (fun _ _ _ _ _ => (pe_op o_add (pv 9) (pe_op o_mul (pv 7) (pv 10))))))))
    (pss_one (ps_expr (pe_bm PySem.F.plainAttrs_list PySem.F.slot_list_append PySem.F.type_list_append mt_append (pv 3) (pa_cons (pe_callTy c_tuple (by rfl) W.tuple (by first | boot_by_name | rfl | kernel_rfl) (pa_cons (pv 5) pa_nil)) pa_nil)))))))
    (pss_one (ps_ret (pv 3)))))
theorem ok_law_parts (W : Fr mg) (D_law_of : Fd P w K mg base CX0 "_law_of" 2 ["bag", "things"] (sp_law_of K)) {f : Addr} {fd : FuncData} (F : FunD K "_law_parts" "_law_parts" (defArgs s_law_parts) (defBody s_law_parts) (defScope s_law_parts) [] [] f fd) : FnOk P w K mg base CX0 3 f fd ["bag", "base", "d"] (sp_law_parts K) := by
  refine F.ok sc_law_parts ?_ (fun cdv A outer s H vs Q E hr h => ⟨t_law_parts K, PSs.nox (b_law_parts W D_law_of hr), pure_law_parts vs H Q E h⟩)
  walk_at "splen"
theorem sc_law_gcd : FnScope N_law_gcd ["a", "b"] (defScope s_law_gcd) := ⟨rfl, rfl, rfl, by decide +kernel, rfl, by decide +kernel, by decide +kernel⟩
theorem b_law_gcd (W : Fr mg) {f : Addr} {cdv : Value} {A : Around} {outer : List Env} {s : Shared} {H : Hp} {E : XK} (hr : Room 0 (A.deeper (envOfC "_law_gcd" (defScope s_law_gcd) s.heap.objs.size f cdv))) :
  PSs (cxOf CX0 P w K mg base N_law_gcd "_law_gcd" (defScope s_law_gcd) f cdv A outer s H E).nox (defBody s_law_gcd) (t_law_gcd K) :=
  have hu64 := hr.units
  have hu65 : (A.deeper (envOfC "_law_gcd" (defScope s_law_gcd) s.heap.objs.size f cdv)).units + 65 < cLine := by have := hr.un; omega
  (pss_cons (ps_par (i := 0) (j := 1) (by rfl) sc_law_gcd.nd rfl rfl (by decide) rfl rfl (pa_cons (pe_callB c_abs (by rfl) W.abs (by first | boot_by_name | rfl | kernel_rfl) (pa_cons (pv 0) pa_nil)) (pa_cons (pe_callB c_abs (by rfl) W.abs (by first | boot_by_name | rfl | kernel_rfl) (pa_cons (pv 1) pa_nil)) pa_nil)) (by rfl))
    (pss_cons (ps_while PassesOwn.never (pt_cmpR o_gt (pv 1) pe_int (nomark _))
    (pss_one (ps_par (i := 0) (j := 1) (by rfl) sc_law_gcd.nd rfl rfl (by decide) rfl rfl (pa_cons (pv 1) (pa_cons (pe_op o_mod (pe_callTy c_int1 (by rfl) W.int (by first | boot_by_name | rfl | kernel_rfl) (pa_cons (pv 0) pa_nil)) (pv 1)) pa_nil)) (by rfl))))
    (pss_one (ps_ret (pv 0)))))
theorem ok_law_gcd (W : Fr mg) {f : Addr} {fd : FuncData} (F : FunD K "_law_gcd" "_law_gcd" (defArgs s_law_gcd) (defBody s_law_gcd) (defScope s_law_gcd) [] [] f fd) : FnOk P w K mg base CX0 1 f fd ["a", "b"] (sp_law_gcd K) := by
  refine F.ok sc_law_gcd ?_ (fun cdv A outer s H vs Q E hr h => ⟨t_law_gcd K, PSs.nox (b_law_gcd W hr), pure_law_gcd vs H Q E h⟩)
  walk_at "splen"
theorem sc_law_thin : FnScope N_law_thin ["row"] (defScope s_law_thin) := ⟨rfl, rfl, rfl, by decide +kernel, rfl, by decide +kernel, by decide +kernel⟩
theorem b_law_thin (W : Fr mg) (D_law_gcd : Fd P w K mg base CX0 "_law_gcd" 1 ["a", "b"] (sp_law_gcd K)) {f : Addr} {cdv : Value} {A : Around} {outer : List Env} {s : Shared} {H : Hp} {E : XK} (hr : Room 1 (A.deeper (envOfC "_law_thin" (defScope s_law_thin) s.heap.objs.size f cdv))) :
  PSs (cxOf CX0 P w K mg base N_law_thin "_law_thin" (defScope s_law_thin) f cdv A outer s H E).nox (defBody s_law_thin) (t_law_thin K) :=
  have hu64 := hr.units
  have hu65 : (A.deeper (envOfC "_law_thin" (defScope s_law_thin) s.heap.objs.size f cdv)).units + 65 < cLine := by have := hr.un; omega
  (pss_cons (ps_set (i := 1) sc_law_thin.nd rfl (by first | exact Or.inl rfl | exact Or.inr rfl) pe_int)
    (pss_cons (ps_for PassesOwn.never rfl (pi_sq (pv 0)) (pg_name (i := 2) sc_law_thin.nd rfl (by first | exact Or.inl rfl | exact Or.inr rfl))
    (pss_one (ps_set (i := 1) sc_law_thin.nd rfl (by first | exact Or.inl rfl | exact Or.inr rfl) (pe_fd D_law_gcd (hr.mono (by omega)) (pa_cons (pv 1) (pa_cons (pv 2) pa_nil))))))
    (pss_one (ps_ret (pe_ifExp (pt_cmpR o_gt (pv 1) pe_int (nomark _)) (pe_lc (own := [("x", 2)]) (g := (gName 2)) (tt := tYes) (by rfl) sc_law_thin.nd (pi_sq (pv 0)) (blkOk_by (own := [("x", 2)]) (N := N_law_thin) (sc := (defScope s_law_thin)) (by decide +kernel)) (fun _ _ _ _ _ => (pg_name (i := 2) sc_law_thin.nd rfl (by first | exact Or.inl rfl | exact Or.inr rfl))) (fun _ _ _ _ _ => pts_nil) (fun _ _ _ _ _ => (pe_op o_divv (pv 2) (pv 1)))) (pe_callTy c_list (by rfl) W.list (by first | boot_by_name | rfl | kernel_rfl) (pa_cons (pv 0) pa_nil)))))))
theorem ok_law_thin (W : Fr mg) (D_law_gcd : Fd P w K mg base CX0 "_law_gcd" 1 ["a", "b"] (sp_law_gcd K)) {f : Addr} {fd : FuncData} (F : FunD K "_law_thin" "_law_thin" (defArgs s_law_thin) (defBody s_law_thin) (defScope s_law_thin) [] [] f fd) : FnOk P w K mg base CX0 2 f fd ["row"] (sp_law_thin K) := by
  refine F.ok sc_law_thin ?_ (fun cdv A outer s H vs Q E hr h => ⟨t_law_thin K, PSs.nox (b_law_thin W D_law_gcd hr), pure_law_thin vs H Q E h⟩)
  walk_at "splen"
theorem sc_law_clear : FnScope N_law_clear ["row", "by", "col"] (defScope s_law_clear) := ⟨rfl, rfl, rfl, by decide +kernel, rfl, by decide +kernel, by decide +kernel⟩
theorem b_law_clear (W : Fr mg) (D_law_thin : Fd P w K mg base CX0 "_law_thin" 2 ["row"] (sp_law_thin K)) {f : Addr} {cdv : Value} {A : Around} {outer : List Env} {s : Shared} {H : Hp} {E : XK} (hr : Room 2 (A.deeper (envOfC "_law_clear" (defScope s_law_clear) s.heap.objs.size f cdv))) :
  PSs (cxOf CX0 P w K mg base N_law_clear "_law_clear" (defScope s_law_clear) f cdv A outer s H E).nox (defBody s_law_clear) (t_law_clear K) :=
  have hu64 := hr.units
  have hu65 : (A.deeper (envOfC "_law_clear" (defScope s_law_clear) s.heap.objs.size f cdv)).units + 65 < cLine := by have := hr.un; omega
  (pss_cons (ps_if (pt_cmpR (o_eq hu64) (pe_ix ix_seq (pv 0) (pv 2) (fun _ _ => rfl)) pe_int (nomark _)) (pss_one (ps_ret (pv 0))) pss_nil)
    (pss_one (ps_ret (pe_fd D_law_thin (hr.mono (by omega)) (pa_cons (pe_lc (own := [("x", 3), ("y", 4)]) (g := (gTup K 2 (gCons (gName 3) (gCons (gName 4) gNil)))) (tt := tYes) (by rfl) sc_law_clear.nd (pi_zipU (by rfl) W.zip (pa_cons (pv 0) (pa_cons (pv 1) pa_nil))) (blkOk_by (own := [("x", 3), ("y", 4)]) (N := N_law_clear) (sc := (defScope s_law_clear)) (by decide +kernel)) (fun _ _ _ _ _ => (pg_tup (by rfl) (pgs_cons (pg_name (i := 3) sc_law_clear.nd rfl (by first | exact Or.inl rfl | exact Or.inr rfl)) (pgs_cons (pg_name (i := 4) sc_law_clear.nd rfl (by first | exact Or.inl rfl | exact Or.inr rfl)) pgs_nil)))) (fun _ _ _ _ _ => pts_nil) (fun _ _ _ _ _ => (pe_op o_sub (pe_op o_mul (pv 3) (pe_ix ix_seq (pv 1) (pv 2) (fun _ _ => rfl))) (pe_op o_mul (pv 4) (pe_ix ix_seq (pv 0) (pv 2) (fun _ _ => rfl)))))) pa_nil)))))
theorem ok_law_clear (W : Fr mg) (D_law_thin : Fd P w K mg base CX0 "_law_thin" 2 ["row"] (sp_law_thin K)) {f : Addr} {fd : FuncData} (F : FunD K "_law_clear" "_law_clear" (defArgs s_law_clear) (defBody s_law_clear) (defScope s_law_clear) [] [] f fd) : FnOk P w K mg base CX0 3 f fd ["row", "by", "col"] (sp_law_clear K) := by
  refine F.ok sc_law_clear ?_ (fun cdv A outer s H vs Q E hr h => ⟨t_law_clear K, PSs.nox (b_law_clear W D_law_thin hr), pure_law_clear vs H Q E h⟩)
  walk_at "splen"
theorem sc_law_told : FnScope N_law_told ["base", "d"] (defScope s_law_told) := ⟨rfl, rfl, rfl, by decide +kernel, rfl, by decide +kernel, by decide +kernel⟩
theorem b_law_told (W : Fr mg) (D_law_thin : Fd P w K mg base CX0 "_law_thin" 2 ["row"] (sp_law_thin K)) (D_law_clear : Fd P w K mg base CX0 "_law_clear" 3 ["row", "by", "col"] (sp_law_clear K)) {f : Addr} {cdv : Value} {A : Around} {outer : List Env} {s : Shared} {H : Hp} {E : XK} (hr : Room 3 (A.deeper (envOfC "_law_told" (defScope s_law_told) s.heap.objs.size f cdv))) :
  PSs (cxOf CX0 P w K mg base N_law_told "_law_told" (defScope s_law_told) f cdv A outer s H E).nox (defBody s_law_told) (t_law_told K) :=
  have hu64 := hr.units
  have hu65 : (A.deeper (envOfC "_law_told" (defScope s_law_told) s.heap.objs.size f cdv)).units + 65 < cLine := by have := hr.un; omega
  (pss_cons (ps_asg (pe_tup (pa_cons (pe_lc (own := [("row", 7)]) (g := (gName 7)) (tt := tYes) (by rfl) sc_law_told.nd (pi_sq (pv 0)) (blkOk_by (own := [("row", 7)]) (N := N_law_told) (sc := (defScope s_law_told)) (by decide +kernel)) (fun _ _ _ _ _ => (pg_name (i := 7) sc_law_told.nd rfl (by first | exact Or.inl rfl | exact Or.inr rfl))) (fun _ _ _ _ _ => pts_nil) (fun _ _ _ _ _ => (pe_callTy c_list (by rfl) W.list (by first | boot_by_name | rfl | kernel_rfl) (pa_cons (pv 7) pa_nil)))) (pa_cons (pe_lst pa_nil) pa_nil))) (pg_tup (by rfl) (pgs_cons (pg_name (i := 2) sc_law_told.nd rfl (by first | exact Or.inl rfl | exact Or.inr rfl)) (pgs_cons (pg_name (i := 3) sc_law_told.nd rfl (by first | exact Or.inl rfl | exact Or.inr rfl)) pgs_nil))))
    (pss_cons (ps_for PassesOwn.never rfl (pi_range1 (by rfl) W.range (pa_cons (pv 1) pa_nil)) (pg_name (i := 4) sc_law_told.nd rfl (by first | exact Or.inl rfl | exact Or.inr rfl))
    (pss_cons (ps_setLc (i := 5) (own := [("k", 8)]) (g := (gName 8)) (tt := (tTest (tOp (rNeU K) (tOp (rIx K) (tOp (rIx K) (tVar 2) (tVar 8)) (tVar 4)) (tC (.int 0))))) (by rfl) sc_law_told.nd rfl rfl (sw_true rfl rfl rfl (by decide +kernel)) (pi_range1 (by rfl) W.range (pa_cons (pe_callB c_len (by rfl) W.len (by first | boot_by_name | rfl | kernel_rfl) (pa_cons (pv 2) pa_nil)) pa_nil)) (blkOk_by (own := [("k", 8)]) (N := N_law_told) (sc := (defScope s_law_told)) (by decide +kernel)) (fun _ _ _ _ _ => (pg_name (i := 8) sc_law_told.nd rfl (by first | exact Or.inl rfl | exact Or.inr rfl))) (fun _ _ _ _ _ => (pts_one (pt_cmpR (o_ne hu64) (pe_ix ix_seq (pe_ix ix_seq (pv 2) (pv 8) (fun _ _ => rfl)) (pv 4) (fun _ _ => rfl)) pe_int (nomark _)))) (fun _ _ _ _ _ => (pv 8)))
    (pss_one (ps_if (p_truth (pv 5) (by intro _; rfl)) (pss_cons (ps_set (i := 6) sc_law_told.nd rfl (by first | exact Or.inl rfl | exact Or.inr rfl) (pe_fd D_law_thin (hr.mono (by omega)) (pa_cons (pe_bm PySem.F.plainAttrs_list PySem.F.slot_list_pop PySem.F.type_list_pop mt_popAt (pv 2) (pa_cons (pe_ix ix_seq (pv 5) pe_int (fun _ _ => rfl)) pa_nil)) pa_nil)))
    (pss_mid (ps_if (pt_cmpR o_lt (pe_ix ix_seq (pv 6) (pv 4) (fun _ _ => rfl)) pe_int (nomark _)) (pss_one (ps_set (i := 6) sc_law_told.nd rfl (by first | exact Or.inl rfl | exact Or.inr rfl) (pe_lc (own := [("x", 9)]) (g := (gName 9)) (tt := tYes) (by rfl) sc_law_told.nd (pi_sq (pv 6)) (blkOk_by (own := [("x", 9)]) (N := N_law_told) (sc := (defScope s_law_told)) (by decide +kernel)) (fun _ _ _ _ _ => (pg_name (i := 9) sc_law_told.nd rfl (by first | exact Or.inl rfl | exact Or.inr rfl))) (fun _ _ _ _ _ => pts_nil) (fun _ _ _ _ _ => (pe_op o_sub pe_int (pv 9)))))) pss_nil)
    (pss_cons (ps_set (i := 2) sc_law_told.nd rfl (by first | exact Or.inl rfl | exact Or.inr rfl) (pe_lc (own := [("row", 7)]) (g := (gName 7)) (tt := tYes) (by rfl) sc_law_told.nd (pi_sq (pv 2)) (blkOk_by (own := [("row", 7)]) (N := N_law_told) (sc := (defScope s_law_told)) (by decide +kernel)) (fun _ _ _ _ _ => (pg_name (i := 7) sc_law_told.nd rfl (by first | exact Or.inl rfl | exact Or.inr rfl))) (fun _ _ _ _ _ => pts_nil) (fun _ _ _ _ _ => (pe_fd D_law_clear (hr.mono (by omega)) (pa_cons (pv 7) (pa_cons (pv 6) (pa_cons (pv 4) pa_nil)))))))
    (pss_one (ps_set (i := 3) sc_law_told.nd rfl (by first | exact Or.inl rfl | exact Or.inr rfl) (pe_op o_add (pe_lc (own := [("row", 7)]) (g := (gName 7)) (tt := tYes) (by rfl) sc_law_told.nd (pi_sq (pv 3)) (blkOk_by (own := [("row", 7)]) (N := N_law_told) (sc := (defScope s_law_told)) (by decide +kernel)) (fun _ _ _ _ _ => (pg_name (i := 7) sc_law_told.nd rfl (by first | exact Or.inl rfl | exact Or.inr rfl))) (fun _ _ _ _ _ => pts_nil) (fun _ _ _ _ _ => (pe_fd D_law_clear (hr.mono (by omega)) (pa_cons (pv 7) (pa_cons (pv 6) (pa_cons (pv 4) pa_nil)))))) (pe_lst (pa_cons (pv 6) pa_nil)))))))) pss_nil))))
    (pss_one (ps_ret (pe_callTy c_tuple (by rfl) W.tuple (by first | boot_by_name | rfl | kernel_rfl) (pa_cons (pe_lc (own := [("row", 7)]) (g := (gName 7)) (tt := tYes) (by rfl) sc_law_told.nd (pi_sq (pv 3)) (blkOk_by (own := [("row", 7)]) (N := N_law_told) (sc := (defScope s_law_told)) (by decide +kernel)) (fun _ _ _ _ _ => (pg_name (i := 7) sc_law_told.nd rfl (by first | exact Or.inl rfl | exact Or.inr rfl))) (fun _ _ _ _ _ => pts_nil) (fun _ _ _ _ _ => (pe_callTy c_tuple (by rfl) W.tuple (by first | boot_by_name | rfl | kernel_rfl) (pa_cons (pv 7) pa_nil)))) pa_nil))))))
theorem ok_law_told (W : Fr mg) (D_law_thin : Fd P w K mg base CX0 "_law_thin" 2 ["row"] (sp_law_thin K)) (D_law_clear : Fd P w K mg base CX0 "_law_clear" 3 ["row", "by", "col"] (sp_law_clear K)) {f : Addr} {fd : FuncData} (F : FunD K "_law_told" "_law_told" (defArgs s_law_told) (defBody s_law_told) (defScope s_law_told) [] [] f fd) : FnOk P w K mg base CX0 4 f fd ["base", "d"] (sp_law_told K) := by
  refine F.ok sc_law_told ?_ (fun cdv A outer s H vs Q E hr h => ⟨t_law_told K, PSs.nox (b_law_told W D_law_thin D_law_clear hr), pure_law_told vs H Q E h⟩)
  walk_at "splen"
theorem sc_law_int : FnScope N_law_int ["v"] (defScope s_law_int) := ⟨rfl, rfl, rfl, by decide +kernel, rfl, by decide +kernel, by decide +kernel⟩
theorem b_law_int (W : Fr mg) {f : Addr} {cdv : Value} {A : Around} {outer : List Env} {s : Shared} {H : Hp} {E : XK} (hr : Room 0 (A.deeper (envOfC "_law_int" (defScope s_law_int) s.heap.objs.size f cdv))) :
  PSs (cxOf CX0 P w K mg base N_law_int "_law_int" (defScope s_law_int) f cdv A outer s H E).nox (defBody s_law_int) (t_law_int K) :=
  have hu64 := hr.units
  have hu65 : (A.deeper (envOfC "_law_int" (defScope s_law_int) s.heap.objs.size f cdv)).units + 65 < cLine := by have := hr.un; omega
  (pss_one (ps_ret (pe_and (pe_callB c_isi (by rfl) W.isinstance (by first | boot_by_name | rfl | kernel_rfl) (pa_cons (pv 0) (pa_cons (pe_bltn (v := .ty "int") rfl W.int (by first | boot_by_name | rfl | kernel_rfl) rfl) pa_nil))) (pe_one (pe_not (pe_callB c_isi (by rfl) W.isinstance (by first | boot_by_name | rfl | kernel_rfl) (pa_cons (pv 0) (pa_cons (pe_bltn (v := .ty "bool") rfl W.bool (by first | boot_by_name | rfl | kernel_rfl) rfl) pa_nil))))))))
theorem ok_law_int (W : Fr mg) {f : Addr} {fd : FuncData} (F : FunD K "_law_int" "_law_int" (defArgs s_law_int) (defBody s_law_int) (defScope s_law_int) [] [] f fd) : FnOk P w K mg base CX0 1 f fd ["v"] (sp_law_int K) := by
  refine F.ok sc_law_int ?_ (fun cdv A outer s H vs Q E hr h => ⟨t_law_int K, PSs.nox (b_law_int W hr), pure_law_int vs H Q E h⟩)
  walk_at "splen"
theorem sc_law_like : FnScope N_law_like ["told", "due"] (defScope s_law_like) := ⟨rfl, rfl, rfl, by decide +kernel, rfl, by decide +kernel, by decide +kernel⟩
theorem b_law_like (n : Nat) (W : Fr mg) (D_law_int : Fd P w K mg base CX0 "_law_int" 1 ["v"] (sp_law_int K)) (D_law_like : Fd P w K mg base CX0 "_law_like" (2 + n) ["told", "due"] (sp_law_like K n)) {f : Addr} {cdv : Value} {A : Around} {outer : List Env} {s : Shared} {H : Hp} {E : XK} (hr : Room (2 + n) (A.deeper (envOfC "_law_like" (defScope s_law_like) s.heap.objs.size f cdv))) :
  PSs (cxOf CX0 P w K mg base N_law_like "_law_like" (defScope s_law_like) f cdv A outer s H E).nox (defBody s_law_like) (t_law_like K n) :=
  have hu64 := hr.units
  have hu65 : (A.deeper (envOfC "_law_like" (defScope s_law_like) s.heap.objs.size f cdv)).units + 65 < cLine := by have := hr.un; omega
  (pss_cons (ps_if (pt_cmpR o_is (pv 1) pe_non (nomark _)) (pss_one (ps_ret (pe_cmpR o_is (pv 0) pe_non (nomark _)))) pss_nil)
    (pss_cons (ps_if (pt_val (pe_callB c_isi (by rfl) W.isinstance (by first | boot_by_name | rfl | kernel_rfl) (pa_cons (pv 1) (pa_cons (pe_bltn (v := .ty "bool") rfl W.bool (by first | boot_by_name | rfl | kernel_rfl) rfl) pa_nil)))) (pss_one (ps_ret (pe_and (pe_callB c_isi (by rfl) W.isinstance (by first | boot_by_name | rfl | kernel_rfl) (pa_cons (pv 0) (pa_cons (pe_bltn (v := .ty "bool") rfl W.bool (by first | boot_by_name | rfl | kernel_rfl) rfl) pa_nil))) (pe_one (pe_cmpR (o_eq hu64) (pv 0) (pv 1) (nomark _)))))) pss_nil)
    (pss_cons (ps_if (pt_val (pe_fd D_law_int (hr.mono (by omega)) (pa_cons (pv 1) pa_nil))) (pss_one (ps_ret (pe_and (pe_fd D_law_int (hr.mono (by omega)) (pa_cons (pv 0) pa_nil)) (pe_one (pe_cmpR (o_eq hu64) (pv 0) (pv 1) (nomark _)))))) pss_nil)
    (pss_cons (ps_if (pt_val (pe_callB c_isi (by rfl) W.isinstance (by first | boot_by_name | rfl | kernel_rfl) (pa_cons (pv 1) (pa_cons (pe_bltn (v := .ty "str") rfl W.str (by first | boot_by_name | rfl | kernel_rfl) rfl) pa_nil)))) (pss_one (ps_ret (pe_and (pe_callB c_isi (by rfl) W.isinstance (by first | boot_by_name | rfl | kernel_rfl) (pa_cons (pv 0) (pa_cons (pe_bltn (v := .ty "str") rfl W.str (by first | boot_by_name | rfl | kernel_rfl) rfl) pa_nil))) (pe_one (pe_cmpR (o_eq hu64) (pv 0) (pv 1) (nomark _)))))) pss_nil)
    (pss_cons (ps_if (PW.pt (pw_or (PW.pt (pw_and (pt_val (pe_callB c_isi (by rfl) W.isinstance (by first | boot_by_name | rfl | kernel_rfl) (pa_cons (pv 1) (pa_cons (pe_bltn (v := .ty "list") rfl W.list (by first | boot_by_name | rfl | kernel_rfl) rfl) pa_nil)))) (pw_and1 (pt_not (pt_val (pe_callB c_isi (by rfl) W.isinstance (by first | boot_by_name | rfl | kernel_rfl) (pa_cons (pv 0) (pa_cons (pe_bltn (v := .ty "list") rfl W.list (by first | boot_by_name | rfl | kernel_rfl) rfl) pa_nil)))))))) (pw_or1 (PW.pt (pw_and (pt_val (pe_callB c_isi (by rfl) W.isinstance (by first | boot_by_name | rfl | kernel_rfl) (pa_cons (pv 1) (pa_cons (pe_bltn (v := .ty "tuple") rfl W.tuple (by first | boot_by_name | rfl | kernel_rfl) rfl) pa_nil)))) (pw_and1 (pt_not (pt_val (pe_callB c_isi (by rfl) W.isinstance (by first | boot_by_name | rfl | kernel_rfl) (pa_cons (pv 0) (pa_cons (pe_bltn (v := .ty "tuple") rfl W.tuple (by first | boot_by_name | rfl | kernel_rfl) rfl) pa_nil))))))))))) (pss_one (ps_ret pe_bl)) pss_nil)
    (pss_one (ps_ret (pe_and (pe_cmpR (o_eq hu64) (pe_callB c_len (by rfl) W.len (by first | boot_by_name | rfl | kernel_rfl) (pa_cons (pv 0) pa_nil)) (pe_callB c_len (by rfl) W.len (by first | boot_by_name | rfl | kernel_rfl) (pa_cons (pv 1) pa_nil)) (nomark _)) (pe_one (pe_callB (cr_all rfl) (by rfl) W.all (by first | boot_by_name | rfl | kernel_rfl) (pa_cons (pe_lc (own := [("x", 2), ("y", 3)]) (g := (gTup K 2 (gCons (gName 2) (gCons (gName 3) gNil)))) (tt := tYes) (by rfl) sc_law_like.nd (pi_zipA (by rfl) W.zip (pa_cons (pv 0) (pa_cons (pv 1) pa_nil))) (blkOk_by (own := [("x", 2), ("y", 3)]) (N := N_law_like) (sc := (defScope s_law_like)) (by decide +kernel)) (fun _ _ _ _ _ => (pg_tup (by rfl) (pgs_cons (pg_name (i := 2) sc_law_like.nd rfl (by first | exact Or.inl rfl | exact Or.inr rfl)) (pgs_cons (pg_name (i := 3) sc_law_like.nd rfl (by first | exact Or.inl rfl | exact Or.inr rfl)) pgs_nil)))) (fun _ _ _ _ _ => pts_nil) (fun _ _ _ _ _ => (pe_fd D_law_like (hr.mono (by omega)) (pa_cons (pv 2) (pa_cons (pv 3) pa_nil))))) pa_nil)))))))))))
theorem ok_law_like (W : Fr mg) (D_law_int : Fd P w K mg base CX0 "_law_int" 1 ["v"] (sp_law_int K)) {f : Addr} {fd : FuncData} (F : FunD K "_law_like" "_law_like" (defArgs s_law_like) (defBody s_law_like) (defScope s_law_like) [] [] f fd) (gF : mg "_law_like" = some (.ref f)) : ∀ n : Nat, FnOk P w K mg base CX0 (2 + n) f fd ["told", "due"] (sp_law_like K n)
  | 0 => F.ok (k := 1) sc_law_like (fun vs H Q E h => (no_law_like h).elim) (fun cdv A outer s H vs Q E hr h => (no_law_like h).elim)
  | n + 1 => by
    refine F.ok (k := 2 + n) sc_law_like ?_ (fun cdv A outer s H vs Q E hr h => ⟨t_law_like K n, PSs.nox (b_law_like n W D_law_int (U.fd_of (st := s_law_like) F (ok_law_like W D_law_int F gF n) gF (fun _ _ _ _ _ _ us hl => match us, hl with | [_, _], _ => rfl)) hr), pure_law_like n vs H Q E h⟩)
    walk_at "splen"
theorem sc_law_zeros : FnScope N_law_zeros ["base", "d"] (defScope s_law_zeros) := ⟨rfl, rfl, rfl, by decide +kernel, rfl, by decide +kernel, by decide +kernel⟩
theorem b_law_zeros (W : Fr mg) (D_law_told : Fd P w K mg base CX0 "_law_told" 4 ["base", "d"] (sp_law_told K)) {f : Addr} {cdv : Value} {A : Around} {outer : List Env} {s : Shared} {H : Hp} {E : XK} (hr : Room 4 (A.deeper (envOfC "_law_zeros" (defScope s_law_zeros) s.heap.objs.size f cdv))) :
  PSs (cxOf CX0 P w K mg base N_law_zeros "_law_zeros" (defScope s_law_zeros) f cdv A outer s H E).nox (defBody s_law_zeros) (t_law_zeros K) :=
  have hu64 := hr.units
  have hu65 : (A.deeper (envOfC "_law_zeros" (defScope s_law_zeros) s.heap.objs.size f cdv)).units + 65 < cLine := by have := hr.un; omega
  (pss_cons (ps_par3 (i := 2) (j := 3) (l := 4) (by rfl) sc_law_zeros.nd rfl rfl rfl (by decide) (by decide) (by decide) rfl rfl rfl (pa_cons (pe_lst pa_nil) (pa_cons pe_int (pa_cons (pe_lst pa_nil) pa_nil))) (by rfl))
    (pss_cons (ps_for PassesOwn.never rfl (pi_sq (pv 0)) (pg_name (i := 5) sc_law_zeros.nd rfl (by first | exact Or.inl rfl | exact Or.inr rfl))
    (pss_cons (ps_expr (pe_bm PySem.F.plainAttrs_list PySem.F.slot_list_append PySem.F.type_list_append mt_append (pv 2) (pa_cons (pe_ix ix_seq (pe_lc (own := [("k", 8)]) (g := (gName 8)) (tt := (tTest (tOp (rNeU K) (tOp (rIx K) (tVar 5) (tVar 8)) (tC (.int 0))))) (by rfl) sc_law_zeros.nd (pi_range1 (by rfl) W.range (pa_cons (pv 1) pa_nil)) (blkOk_by (own := [("k", 8)]) (N := N_law_zeros) (sc := (defScope s_law_zeros)) (by decide +kernel)) (fun _ _ _ _ _ => (pg_name (i := 8) sc_law_zeros.nd rfl (by first | exact Or.inl rfl | exact Or.inr rfl))) (fun _ _ _ _ _ => (pts_one (pt_cmpR (o_ne hu64) (pe_ix ix_seq (pv 5) (pv 8) (fun _ _ => rfl)) pe_int (nomark _)))) (fun _ _ _ _ _ => (pv 8))) pe_int (fun _ _ => rfl)) pa_nil)))
    (pss_one (ps_set (i := 3) sc_law_zeros.nd rfl (by first | exact Or.inl rfl | exact Or.inr rfl) (pe_op o_mul (pv 3) (pe_ix ix_seq (pv 5) (pe_ix ix_seq (pv 2) (pe_un o_neg pe_int) (fun _ _ => rfl)) (fun _ _ => rfl)))))))
    (pss_cons (ps_for PassesOwn.never rfl (pi_range1 (by rfl) W.range (pa_cons (pv 1) pa_nil)) (pg_name (i := 6) sc_law_zeros.nd rfl (by first | exact Or.inl rfl | exact Or.inr rfl))
    (pss_one (ps_if (pt_cmpR (o_nin hu65) (pv 6) (pv 2) (by rfl)) (pss_cons (ps_setLc (i := 7) (own := [("k", 8)]) (g := (gName 8)) (tt := tYes) (by rfl) sc_law_zeros.nd rfl rfl (sw_true rfl rfl rfl (by decide +kernel)) (pi_range1 (by rfl) W.range (pa_cons (pv 1) pa_nil)) (blkOk_by (own := [("k", 8)]) (N := N_law_zeros) (sc := (defScope s_law_zeros)) (by decide +kernel)) (fun _ _ _ _ _ => (pg_name (i := 8) sc_law_zeros.nd rfl (by first | exact Or.inl rfl | exact Or.inr rfl))) (fun _ _ _ _ _ => pts_nil) (fun _ _ _ _ _ => pe_int))
    (pss_cons (ps_asg (pv 3) (pg_sub (pv 7) (pv 6) set_list))
    (pss_cons (ps_for PassesOwn.never rfl (pi_range1 (by rfl) W.range (pa_cons (pe_callB c_len (by rfl) W.len (by first | boot_by_name | rfl | kernel_rfl) (pa_cons (pv 0) pa_nil)) pa_nil)) (pg_name (i := 8) sc_law_zeros.nd rfl (by first | exact Or.inl rfl | exact Or.inr rfl))
    (pss_one (ps_asg (pe_op o_sub pe_int (pe_op o_mul (pe_ix ix_seq (pe_ix ix_seq (pv 0) (pv 8) (fun _ _ => rfl)) (pv 6) (fun _ _ => rfl)) (pe_op o_divv (pv 3) (pe_ix ix_seq (pe_ix ix_seq (pv 0) (pv 8) (fun _ _ => rfl)) (pe_ix ix_seq (pv 2) (pv 8) (fun _ _ => rfl)) (fun _ _ => rfl))))) (pg_sub (pv 7) (pe_ix ix_seq (pv 2) (pv 8) (fun _ _ => rfl)) set_list))))
    (pss_one (ps_expr (pe_bm PySem.F.plainAttrs_list PySem.F.slot_list_append PySem.F.type_list_append mt_append (pv 4) (pa_cons (pv 7) pa_nil))))))) pss_nil)))
    (pss_one (ps_ret (pe_fd D_law_told (hr.mono (by omega)) (pa_cons (pv 4) (pa_cons (pv 1) pa_nil))))))))
theorem ok_law_zeros (W : Fr mg) (D_law_told : Fd P w K mg base CX0 "_law_told" 4 ["base", "d"] (sp_law_told K)) {f : Addr} {fd : FuncData} (F : FunD K "_law_zeros" "_law_zeros" (defArgs s_law_zeros) (defBody s_law_zeros) (defScope s_law_zeros) [] [] f fd) : FnOk P w K mg base CX0 5 f fd ["base", "d"] (sp_law_zeros K) := by
  refine F.ok sc_law_zeros ?_ (fun cdv A outer s H vs Q E hr h => ⟨t_law_zeros K, PSs.nox (b_law_zeros W D_law_told hr), pure_law_zeros vs H Q E h⟩)
  walk_at "splen"
theorem sc_law_meet : FnScope N_law_meet ["one", "two", "d"] (defScope s_law_meet) := ⟨rfl, rfl, rfl, by decide +kernel, rfl, by decide +kernel, by decide +kernel⟩
theorem b_law_meet (W : Fr mg) (D_law_zeros : Fd P w K mg base CX0 "_law_zeros" 5 ["base", "d"] (sp_law_zeros K)) (D_law_told : Fd P w K mg base CX0 "_law_told" 4 ["base", "d"] (sp_law_told K)) {f : Addr} {cdv : Value} {A : Around} {outer : List Env} {s : Shared} {H : Hp} {E : XK} (hr : Room 5 (A.deeper (envOfC "_law_meet" (defScope s_law_meet) s.heap.objs.size f cdv))) :
  PSs (cxOf CX0 P w K mg base N_law_meet "_law_meet" (defScope s_law_meet) f cdv A outer s H E).nox (defBody s_law_meet) (t_law_meet K) :=
  have hu64 := hr.units
  have hu65 : (A.deeper (envOfC "_law_meet" (defScope s_law_meet) s.heap.objs.size f cdv)).units + 65 < cLine := by have := hr.un; omega
  (pss_one (ps_ret (pe_fd D_law_zeros (hr.mono (by omega)) (pa_cons (pe_fd D_law_told (hr.mono (by omega)) (pa_cons (pe_op o_addV (pe_fd D_law_zeros (hr.mono (by omega)) (pa_cons (pv 0) (pa_cons (pv 2) pa_nil))) (pe_fd D_law_zeros (hr.mono (by omega)) (pa_cons (pv 1) (pa_cons (pv 2) pa_nil)))) (pa_cons (pv 2) pa_nil))) (pa_cons (pv 2) pa_nil)))))
theorem ok_law_meet (W : Fr mg) (D_law_zeros : Fd P w K mg base CX0 "_law_zeros" 5 ["base", "d"] (sp_law_zeros K)) (D_law_told : Fd P w K mg base CX0 "_law_told" 4 ["base", "d"] (sp_law_told K)) {f : Addr} {fd : FuncData} (F : FunD K "_law_meet" "_law_meet" (defArgs s_law_meet) (defBody s_law_meet) (defScope s_law_meet) [] [] f fd) : FnOk P w K mg base CX0 6 f fd ["one", "two", "d"] (sp_law_meet K) := by
  refine F.ok sc_law_meet ?_ (fun cdv A outer s H vs Q E hr h => ⟨t_law_meet K, PSs.nox (b_law_meet W D_law_zeros D_law_told hr), pure_law_meet vs H Q E h⟩)
  walk_at "splen"
theorem sc_law_rows_text : FnScope N_law_rows_text ["base"] (defScope s_law_rows_text) := ⟨rfl, rfl, rfl, by decide +kernel, rfl, by decide +kernel, by decide +kernel⟩
theorem b_law_rows_text (W : Fr mg) {f : Addr} {cdv : Value} {A : Around} {outer : List Env} {s : Shared} {H : Hp} {E : XK} (hr : Room 0 (A.deeper (envOfC "_law_rows_text" (defScope s_law_rows_text) s.heap.objs.size f cdv))) :
  PSs (cxOf CX0 P w K mg base N_law_rows_text "_law_rows_text" (defScope s_law_rows_text) f cdv A outer s H E).nox (defBody s_law_rows_text) (t_law_rows_text K) :=
  have hu64 := hr.units
  have hu65 : (A.deeper (envOfC "_law_rows_text" (defScope s_law_rows_text) s.heap.objs.size f cdv)).units + 65 < cLine := by have := hr.un; omega
  (pss_one (ps_ret (pe_ifExp (p_truth (pv 0) (by intro _; rfl)) (pe_join pe_str (pe_lc (own := [("row", 1)]) (g := (gName 1)) (tt := tYes) (by rfl) sc_law_rows_text.nd (pi_sq (pv 0)) (blkOk_by (own := [("row", 1)]) (N := N_law_rows_text) (sc := (defScope s_law_rows_text)) (by decide +kernel)) (fun _ _ _ _ _ => (pg_name (i := 1) sc_law_rows_text.nd rfl (by first | exact Or.inl rfl | exact Or.inr rfl))) (fun _ _ _ _ _ => pts_nil) (fun _ _ _ _ _ => (pe_join pe_str (pe_lc (own := [("x", 2)]) (g := (gName 2)) (tt := tYes) (by rfl) sc_law_rows_text.nd (pi_sq (pv 1)) (blkOk_by (own := [("x", 2)]) (N := N_law_rows_text) (by kernel_rfl)) (fun _ _ _ _ _ => (pg_name (i := 2) sc_law_rows_text.nd rfl (by first | exact Or.inl rfl | exact Or.inr rfl))) (fun _ _ _ _ _ => pts_nil) (fun _ _ _ _ _ => (pe_callTy c_str (by rfl) W.str (by first | boot_by_name | rfl | kernel_rfl) (pa_cons (pv 2) pa_nil)))))))) pe_str)))
theorem ok_law_rows_text (W : Fr mg) {f : Addr} {fd : FuncData} (F : FunD K "_law_rows_text" "_law_rows_text" (defArgs s_law_rows_text) (defBody s_law_rows_text) (defScope s_law_rows_text) [] [] f fd) : FnOk P w K mg base CX0 1 f fd ["base"] (sp_law_rows_text K) := by
  refine F.ok sc_law_rows_text ?_ (fun cdv A outer s H vs Q E hr h => ⟨t_law_rows_text K, PSs.nox (b_law_rows_text W hr), pure_law_rows_text vs H Q E h⟩)
  walk_at "splen"
theorem sc_Whole_told : FnScope N_Whole_told ["self"] (defScope s_Whole_told) := ⟨rfl, rfl, rfl, by decide +kernel, rfl, by decide +kernel, by decide +kernel⟩
theorem b_Whole_told (W : Fr mg) {f : Addr} {cdv : Value} {A : Around} {outer : List Env} {s : Shared} {H : Hp} {E : XK} (hr : Room 0 (A.deeper (envOfC "Whole.told" (defScope s_Whole_told) s.heap.objs.size f cdv))) :
  PSs (cxOf CX0 P w K mg base N_Whole_told "Whole.told" (defScope s_Whole_told) f cdv A outer s H E).nox (defBody s_Whole_told) (t_Whole_told K) :=
  have hu64 := hr.units
  have hu65 : (A.deeper (envOfC "Whole.told" (defScope s_Whole_told) s.heap.objs.size f cdv)).units + 65 < cLine := by have := hr.un; omega
  (pss_one (ps_ret (pe_callTy c_list (by rfl) W.list (by first | boot_by_name | rfl | kernel_rfl) (pa_cons (pe_fld (pv 0) rfl) pa_nil))))
theorem ok_Whole_told (W : Fr mg) (CF : ClsF CLw K) {f : Addr} {fd : FuncData} (F : FunD K "told" "Whole.told" (defArgs s_Whole_told) (defBody s_Whole_told) (defScope s_Whole_told) [] [] f fd) : FnOk P w K mg base CX0 1 f fd ["self"] (sp_Whole_told K) := by
  refine F.ok sc_Whole_told ?_ (fun cdv A outer s H vs Q E hr h => ⟨t_Whole_told K, PSs.nox (b_Whole_told W hr), pure_Whole_told CF vs H Q E h⟩)
  walk_at "splen"
theorem sc_law_is_whole : FnScope N_law_is_whole ["told", "d", "base"] (defScope s_law_is_whole) := ⟨rfl, rfl, rfl, by decide +kernel, rfl, by decide +kernel, by decide +kernel⟩
theorem b_law_is_whole (W : Fr mg) (G_Whole : mg "Whole" = some (.ref (He.ga K "Whole"))) (D_law_like : Fd P w K mg base CX0 "_law_like" (2 + 12) ["told", "due"] (sp_law_like K 12)) (D_law_rows_text : Fd P w K mg base CX0 "_law_rows_text" 1 ["base"] (sp_law_rows_text K)) (M_Whole_told : Md P w K mg base (He.ga K "Whole") "told" 1 ["self"] (sp_Whole_told K)) {f : Addr} {cdv : Value} {A : Around} {outer : List Env} {s : Shared} {H : Hp} {E : XK} (hr : Room 14 (A.deeper (envOfC "_law_is_whole" (defScope s_law_is_whole) s.heap.objs.size f cdv))) :
  PSs (cxOf CX0 P w K mg base N_law_is_whole "_law_is_whole" (defScope s_law_is_whole) f cdv A outer s H E).nox (defBody s_law_is_whole) (t_law_is_whole K) :=
  have hu64 := hr.units
  have hu65 : (A.deeper (envOfC "_law_is_whole" (defScope s_law_is_whole) s.heap.objs.size f cdv)).units + 65 < cLine := by have := hr.un; omega
  (pss_one (ps_ret (pe_and (pe_callB c_isi (by rfl) W.isinstance (by first | boot_by_name | rfl | kernel_rfl) (pa_cons (pv 0) (pa_cons (pe_glob rfl G_Whole rfl) pa_nil))) (pe_one (pe_fd D_law_like (hr.mono (by omega)) (pa_cons (pe_lst (pa_cons (pe_fld (pv 0) rfl) (pa_cons (pe_md0 M_Whole_told (hr.mono (by omega)) (pv 0)) (pa_cons (pe_fld (pv 0) rfl) pa_nil)))) (pa_cons (pe_lst (pa_cons (pv 1) (pa_cons (pe_callTy c_list (by rfl) W.list (by first | boot_by_name | rfl | kernel_rfl) (pa_cons (pv 2) pa_nil)) (pa_cons (pe_fd D_law_rows_text (hr.mono (by omega)) (pa_cons (pv 2) pa_nil)) pa_nil)))) pa_nil)))))))
theorem ok_law_is_whole (W : Fr mg) (G_Whole : mg "Whole" = some (.ref (He.ga K "Whole"))) (D_law_like : Fd P w K mg base CX0 "_law_like" (2 + 12) ["told", "due"] (sp_law_like K 12)) (D_law_rows_text : Fd P w K mg base CX0 "_law_rows_text" 1 ["base"] (sp_law_rows_text K)) (M_Whole_told : Md P w K mg base (He.ga K "Whole") "told" 1 ["self"] (sp_Whole_told K)) (CF : ClsF CLw K) {f : Addr} {fd : FuncData} (F : FunD K "_law_is_whole" "_law_is_whole" (defArgs s_law_is_whole) (defBody s_law_is_whole) (defScope s_law_is_whole) [] [] f fd) : FnOk P w K mg base CX0 15 f fd ["told", "d", "base"] (sp_law_is_whole K) := by
  refine F.ok sc_law_is_whole ?_ (fun cdv A outer s H vs Q E hr h => ⟨t_law_is_whole K, PSs.nox (b_law_is_whole W G_Whole D_law_like D_law_rows_text M_Whole_told hr), pure_law_is_whole CF vs H Q E h⟩)
  walk_at "splen"
theorem sc_primitive_row : FnScope N_primitive_row ["row"] (defScope s_primitive_row) := ⟨rfl, rfl, rfl, by decide +kernel, rfl, by decide +kernel, by decide +kernel⟩
theorem b_primitive_row (W : Fr mg) (M_gcd : mg "gcd" = some (.builtin "math.gcd")) {f : Addr} {cdv : Value} {A : Around} {outer : List Env} {s : Shared} {H : Hp} {E : XK} (hr : Room 0 (A.deeper (envOfC "primitive_row" (defScope s_primitive_row) s.heap.objs.size f cdv))) :
  PSs (cxOf CX0 P w K mg base N_primitive_row "primitive_row" (defScope s_primitive_row) f cdv A outer s H E).nox (defBody s_primitive_row) (t_primitive_row K) :=
  have hu64 := hr.units
  have hu65 : (A.deeper (envOfC "primitive_row" (defScope s_primitive_row) s.heap.objs.size f cdv)).units + 65 < cLine := by have := hr.un; omega
  (pss_cons (ps_set (i := 1) sc_primitive_row.nd rfl (by first | exact Or.inl rfl | exact Or.inr rfl) pe_int)
    (pss_cons (ps_for PassesOwn.never rfl (pi_sq (pv 0)) (pg_name (i := 2) sc_primitive_row.nd rfl (by first | exact Or.inl rfl | exact Or.inr rfl))
    (pss_one (ps_set (i := 1) sc_primitive_row.nd rfl (by first | exact Or.inl rfl | exact Or.inr rfl) (pe_callBfun cr_gcd rfl M_gcd (pa_cons (pv 1) (pa_cons (pv 2) pa_nil))))))
    (pss_cons (ps_if (pt_cmpR o_le (pv 1) pe_int (nomark _)) (pss_one (ps_ret (pv 0))) pss_nil)
    (pss_one (ps_ret (pe_lc (own := [("number", 2)]) (g := (gName 2)) (tt := tYes) (by rfl) sc_primitive_row.nd (pi_sq (pv 0)) (blkOk_by (own := [("number", 2)]) (N := N_primitive_row) (sc := (defScope s_primitive_row)) (by decide +kernel)) (fun _ _ _ _ _ => (pg_name (i := 2) sc_primitive_row.nd rfl (by first | exact Or.inl rfl | exact Or.inr rfl))) (fun _ _ _ _ _ => pts_nil) (fun _ _ _ _ _ => (pe_op o_divv (pv 2) (pv 1)))))))))
theorem ok_primitive_row (W : Fr mg) (M_gcd : mg "gcd" = some (.builtin "math.gcd")) {f : Addr} {fd : FuncData} (F : FunD K "primitive_row" "primitive_row" (defArgs s_primitive_row) (defBody s_primitive_row) (defScope s_primitive_row) [] [] f fd) : FnOk P w K mg base CX0 1 f fd ["row"] (sp_primitive_row K) := by
  refine F.ok sc_primitive_row ?_ (fun cdv A outer s H vs Q E hr h => ⟨t_primitive_row K, PSs.nox (b_primitive_row W M_gcd hr), pure_primitive_row vs H Q E h⟩)
  walk_at "splen"
theorem sc_first_with : FnScope N_first_with ["rows", "place"] (defScope s_first_with) := ⟨rfl, rfl, rfl, by decide +kernel, rfl, by decide +kernel, by decide +kernel⟩
theorem b_first_with (W : Fr mg) {f : Addr} {cdv : Value} {A : Around} {outer : List Env} {s : Shared} {H : Hp} {E : XK} (hr : Room 0 (A.deeper (envOfC "first_with" (defScope s_first_with) s.heap.objs.size f cdv))) :
  PSs (cxOf CX0 P w K mg base N_first_with "first_with" (defScope s_first_with) f cdv A outer s H E).nox (defBody s_first_with) (t_first_with K) :=
  have hu64 := hr.units
  have hu65 : (A.deeper (envOfC "first_with" (defScope s_first_with) s.heap.objs.size f cdv)).units + 65 < cLine := by have := hr.un; omega
  (pss_cons (ps_for PassesOwn.never rfl (pi_enumU (by rfl) W.enumerate (pa_cons (pv 0) pa_nil)) (pg_tup (by rfl) (pgs_cons (pg_name (i := 2) sc_first_with.nd rfl (by first | exact Or.inl rfl | exact Or.inr rfl)) (pgs_cons (pg_name (i := 3) sc_first_with.nd rfl (by first | exact Or.inl rfl | exact Or.inr rfl)) pgs_nil)))
    (pss_one (ps_if (pt_cmpR (o_ne hu64) (pe_ix ix_seq (pv 3) (pv 1) (fun _ _ => rfl)) pe_int (nomark _)) (pss_one (ps_ret (pv 2))) pss_nil)))
    (pss_one (ps_ret (pe_un o_neg pe_int))))
theorem ok_first_with (W : Fr mg) {f : Addr} {fd : FuncData} (F : FunD K "first_with" "first_with" (defArgs s_first_with) (defBody s_first_with) (defScope s_first_with) [] [] f fd) : FnOk P w K mg base CX0 1 f fd ["rows", "place"] (sp_first_with K) := by
  refine F.ok sc_first_with ?_ (fun cdv A outer s H vs Q E hr h => ⟨t_first_with K, PSs.nox (b_first_with W hr), pure_first_with vs H Q E h⟩)
  walk_at "splen"
theorem sc_led_row : FnScope N_led_row ["row", "place"] (defScope s_led_row) := ⟨rfl, rfl, rfl, by decide +kernel, rfl, by decide +kernel, by decide +kernel⟩
theorem b_led_row (W : Fr mg) {f : Addr} {cdv : Value} {A : Around} {outer : List Env} {s : Shared} {H : Hp} {E : XK} (hr : Room 0 (A.deeper (envOfC "led_row" (defScope s_led_row) s.heap.objs.size f cdv))) :
  PSs (cxOf CX0 P w K mg base N_led_row "led_row" (defScope s_led_row) f cdv A outer s H E).nox (defBody s_led_row) (t_led_row K) :=
  have hu64 := hr.units
  have hu65 : (A.deeper (envOfC "led_row" (defScope s_led_row) s.heap.objs.size f cdv)).units + 65 < cLine := by have := hr.un; omega
  (pss_cons (ps_if (pt_cmpR o_gt (pe_ix ix_seq (pv 0) (pv 1) (fun _ _ => rfl)) pe_int (nomark _)) (pss_one (ps_ret (pv 0))) pss_nil)
    (pss_one (ps_ret (pe_lc (own := [("number", 2)]) (g := (gName 2)) (tt := tYes) (by rfl) sc_led_row.nd (pi_sq (pv 0)) (blkOk_by (own := [("number", 2)]) (N := N_led_row) (sc := (defScope s_led_row)) (by decide +kernel)) (fun _ _ _ _ _ => (pg_name (i := 2) sc_led_row.nd rfl (by first | exact Or.inl rfl | exact Or.inr rfl))) (fun _ _ _ _ _ => pts_nil) (fun _ _ _ _ _ => (pe_un o_neg (pv 2)))))))
theorem ok_led_row (W : Fr mg) {f : Addr} {fd : FuncData} (F : FunD K "led_row" "led_row" (defArgs s_led_row) (defBody s_led_row) (defScope s_led_row) [] [] f fd) : FnOk P w K mg base CX0 1 f fd ["row", "place"] (sp_led_row K) := by
  refine F.ok sc_led_row ?_ (fun cdv A outer s H vs Q E hr h => ⟨t_led_row K, PSs.nox (b_led_row W hr), pure_led_row vs H Q E h⟩)
  walk_at "splen"
theorem sc_struck : FnScope N_struck ["row", "lead", "place"] (defScope s_struck) := ⟨rfl, rfl, rfl, by decide +kernel, rfl, by decide +kernel, by decide +kernel⟩
theorem b_struck (W : Fr mg) (D_primitive_row : Fd P w K mg base CX0 "primitive_row" 1 ["row"] (sp_primitive_row K)) {f : Addr} {cdv : Value} {A : Around} {outer : List Env} {s : Shared} {H : Hp} {E : XK} (hr : Room 1 (A.deeper (envOfC "struck" (defScope s_struck) s.heap.objs.size f cdv))) :
  PSs (cxOf CX0 P w K mg base N_struck "struck" (defScope s_struck) f cdv A outer s H E).nox (defBody s_struck) (t_struck K) :=
  have hu64 := hr.units
  have hu65 : (A.deeper (envOfC "struck" (defScope s_struck) s.heap.objs.size f cdv)).units + 65 < cLine := by have := hr.un; omega
  (pss_cons (ps_set (i := 3) sc_struck.nd rfl (by first | exact Or.inl rfl | exact Or.inr rfl) (pe_ix ix_seq (pv 0) (pv 2) (fun _ _ => rfl)))
    (pss_cons (ps_if (pt_cmpR (o_eq hu64) (pv 3) pe_int (nomark _)) (pss_one (ps_ret (pv 0))) pss_nil)
    (pss_cons (ps_set (i := 4) sc_struck.nd rfl (by first | exact Or.inl rfl | exact Or.inr rfl) (pe_ix ix_seq (pv 1) (pv 2) (fun _ _ => rfl)))
    (pss_one (ps_ret (pe_fd D_primitive_row (hr.mono (by omega)) (pa_cons (pe_lc (own := [("number", 5), ("other", 6)]) (g := (gTup K 2 (gCons (gName 5) (gCons (gName 6) gNil)))) (tt := tYes) (by rfl) sc_struck.nd (pi_zipU (by rfl) W.zip (pa_cons (pv 0) (pa_cons (pv 1) pa_nil))) (blkOk_by (own := [("number", 5), ("other", 6)]) (N := N_struck) (sc := (defScope s_struck)) (by decide +kernel)) (fun _ _ _ _ _ => (pg_tup (by rfl) (pgs_cons (pg_name (i := 5) sc_struck.nd rfl (by first | exact Or.inl rfl | exact Or.inr rfl)) (pgs_cons (pg_name (i := 6) sc_struck.nd rfl (by first | exact Or.inl rfl | exact Or.inr rfl)) pgs_nil)))) (fun _ _ _ _ _ => pts_nil) (fun _ _ _ _ _ => (pe_op o_sub (pe_op o_mul (pv 4) (pv 5)) (pe_op o_mul (pv 3) (pv 6))))) pa_nil)))))))
theorem ok_struck (W : Fr mg) (D_primitive_row : Fd P w K mg base CX0 "primitive_row" 1 ["row"] (sp_primitive_row K)) {f : Addr} {fd : FuncData} (F : FunD K "struck" "struck" (defArgs s_struck) (defBody s_struck) (defScope s_struck) [] [] f fd) : FnOk P w K mg base CX0 2 f fd ["row", "lead", "place"] (sp_struck K) := by
  refine F.ok sc_struck ?_ (fun cdv A outer s H vs Q E hr h => ⟨t_struck K, PSs.nox (b_struck W D_primitive_row hr), pure_struck vs H Q E h⟩)
  walk_at "splen"
theorem sc_echelon : FnScope N_echelon ["deep", "rows"] (defScope s_echelon) := ⟨rfl, rfl, rfl, by decide +kernel, rfl, by decide +kernel, by decide +kernel⟩
theorem b_echelon (W : Fr mg) (D_primitive_row : Fd P w K mg base CX0 "primitive_row" 1 ["row"] (sp_primitive_row K)) (D_first_with : Fd P w K mg base CX0 "first_with" 1 ["rows", "place"] (sp_first_with K)) (D_led_row : Fd P w K mg base CX0 "led_row" 1 ["row", "place"] (sp_led_row K)) (D_struck : Fd P w K mg base CX0 "struck" 2 ["row", "lead", "place"] (sp_struck K)) {f : Addr} {cdv : Value} {A : Around} {outer : List Env} {s : Shared} {H : Hp} {E : XK} (hr : Room 2 (A.deeper (envOfC "echelon" (defScope s_echelon) s.heap.objs.size f cdv))) :
  PSs (cxOf CX0 P w K mg base N_echelon "echelon" (defScope s_echelon) f cdv A outer s H E).nox (defBody s_echelon) (t_echelon K) :=
  have hu64 := hr.units
  have hu65 : (A.deeper (envOfC "echelon" (defScope s_echelon) s.heap.objs.size f cdv)).units + 65 < cLine := by have := hr.un; omega
  (pss_cons (ps_setLc (i := 2) (own := [("row", 8)]) (g := (gName 8)) (tt := (tB (tCB (rAnyU K) (tCons (tCB (rListOf K) (tCons (tVar 8) tNil)) tNil)))) (by rfl) sc_echelon.nd rfl rfl (sw_true rfl rfl rfl (by decide +kernel)) (pi_sq (pv 1)) (blkOk_by (own := [("row", 8)]) (N := N_echelon) (sc := (defScope s_echelon)) (by decide +kernel)) (fun _ _ _ _ _ => (pg_name (i := 8) sc_echelon.nd rfl (by first | exact Or.inl rfl | exact Or.inr rfl))) (fun _ _ _ _ _ => (pts_one (pt_val (pe_callB (c_any rfl) (by rfl) W.any (by first | boot_by_name | rfl | kernel_rfl) (pa_cons (pe_callTy c_list (by rfl) W.list (by first | boot_by_name | rfl | kernel_rfl) (pa_cons (pv 8) pa_nil)) pa_nil))))) (fun _ _ _ _ _ => (pe_fd D_primitive_row (hr.mono (by omega)) (pa_cons (pv 8) pa_nil))))
    (pss_cons (ps_set (i := 3) sc_echelon.nd rfl (by first | exact Or.inl rfl | exact Or.inr rfl) (pe_lst pa_nil))
    (pss_cons (ps_for PassesOwn.never rfl (pi_range1 (by rfl) W.range (pa_cons (pv 0) pa_nil)) (pg_name (i := 4) sc_echelon.nd rfl (by first | exact Or.inl rfl | exact Or.inr rfl))
    (pss_cons (ps_set (i := 5) sc_echelon.nd rfl (by first | exact Or.inl rfl | exact Or.inr rfl) (pe_fd D_first_with (hr.mono (by omega)) (pa_cons (pv 2) (pa_cons (pv 4) pa_nil))))
    (pss_one (ps_if (pt_cmpR o_ge (pv 5) pe_int (nomark _)) (pss_cons (ps_set (i := 6) sc_echelon.nd rfl (by first | exact Or.inl rfl | exact Or.inr rfl) (pe_fd D_led_row (hr.mono (by omega)) (pa_cons (pe_ix ix_seq (pv 2) (pv 5) (fun _ _ => rfl)) (pa_cons (pv 4) pa_nil))))
    (pss_cons (ps_setLc (i := 7) (own := [("row", 8)]) (g := (gName 8)) (tt := tYes) (by rfl) sc_echelon.nd rfl rfl (sw_true rfl rfl rfl (by decide +kernel)) (pi_sq (pe_op o_add (pe_slice o_sl (pv 2) po_none (po_some (pv 5))) (pe_slice o_sl (pv 2) (po_some (pe_op o_add (pv 5) pe_int)) po_none))) (blkOk_by (own := [("row", 8)]) (N := N_echelon) (sc := (defScope s_echelon)) (by decide +kernel)) (fun _ _ _ _ _ => (pg_name (i := 8) sc_echelon.nd rfl (by first | exact Or.inl rfl | exact Or.inr rfl))) (fun _ _ _ _ _ => pts_nil) (fun _ _ _ _ _ => (pe_fd D_struck (hr.mono (by omega)) (pa_cons (pv 8) (pa_cons (pv 6) (pa_cons (pv 4) pa_nil))))))
    (pss_cons (ps_setLc (i := 2) (own := [("row", 8)]) (g := (gName 8)) (tt := (tB (tCB (rAnyU K) (tCons (tCB (rListOf K) (tCons (tVar 8) tNil)) tNil)))) (by rfl) sc_echelon.nd rfl rfl (sw_true rfl rfl rfl (by decide +kernel)) (pi_sq (pv 7)) (blkOk_by (own := [("row", 8)]) (N := N_echelon) (sc := (defScope s_echelon)) (by decide +kernel)) (fun _ _ _ _ _ => (pg_name (i := 8) sc_echelon.nd rfl (by first | exact Or.inl rfl | exact Or.inr rfl))) (fun _ _ _ _ _ => (pts_one (pt_val (pe_callB (c_any rfl) (by rfl) W.any (by first | boot_by_name | rfl | kernel_rfl) (pa_cons (pe_callTy c_list (by rfl) W.list (by first | boot_by_name | rfl | kernel_rfl) (pa_cons (pv 8) pa_nil)) pa_nil))))) (fun _ _ _ _ _ => (pv 8)))
    (pss_one (ps_set (i := 3) sc_echelon.nd rfl (by first | exact Or.inl rfl | exact Or.inr rfl) (pe_op o_add (pe_lc (own := [("row", 8)]) (g := (gName 8)) (tt := tYes) (by rfl) sc_echelon.nd (pi_sq (pv 3)) (blkOk_by (own := [("row", 8)]) (N := N_echelon) (sc := (defScope s_echelon)) (by decide +kernel)) (fun _ _ _ _ _ => (pg_name (i := 8) sc_echelon.nd rfl (by first | exact Or.inl rfl | exact Or.inr rfl))) (fun _ _ _ _ _ => pts_nil) (fun _ _ _ _ _ => (pe_fd D_struck (hr.mono (by omega)) (pa_cons (pv 8) (pa_cons (pv 6) (pa_cons (pv 4) pa_nil)))))) (pe_lst (pa_cons (pv 6) pa_nil)))))))) pss_nil))))
    (pss_one (ps_ret (pe_lc (own := [("row", 8)]) (g := (gName 8)) (tt := tYes) (by rfl) sc_echelon.nd (pi_sq (pv 3)) (blkOk_by (own := [("row", 8)]) (N := N_echelon) (sc := (defScope s_echelon)) (by decide +kernel)) (fun _ _ _ _ _ => (pg_name (i := 8) sc_echelon.nd rfl (by first | exact Or.inl rfl | exact Or.inr rfl))) (fun _ _ _ _ _ => pts_nil) (fun _ _ _ _ _ => (pe_callTy c_tuple (by rfl) W.tuple (by first | boot_by_name | rfl | kernel_rfl) (pa_cons (pv 8) pa_nil)))))))))
theorem ok_echelon (W : Fr mg) (D_primitive_row : Fd P w K mg base CX0 "primitive_row" 1 ["row"] (sp_primitive_row K)) (D_first_with : Fd P w K mg base CX0 "first_with" 1 ["rows", "place"] (sp_first_with K)) (D_led_row : Fd P w K mg base CX0 "led_row" 1 ["row", "place"] (sp_led_row K)) (D_struck : Fd P w K mg base CX0 "struck" 2 ["row", "lead", "place"] (sp_struck K)) {f : Addr} {fd : FuncData} (F : FunD K "echelon" "echelon" (defArgs s_echelon) (defBody s_echelon) (defScope s_echelon) [] [] f fd) : FnOk P w K mg base CX0 3 f fd ["deep", "rows"] (sp_echelon K) := by
  refine F.ok sc_echelon ?_ (fun cdv A outer s H vs Q E hr h => ⟨t_echelon K, PSs.nox (b_echelon W D_primitive_row D_first_with D_led_row D_struck hr), pure_echelon vs H Q E h⟩)
  walk_at "splen"
theorem sc_integer_text : FnScope N_integer_text ["value"] (defScope s_integer_text) := ⟨rfl, rfl, rfl, by decide +kernel, rfl, by decide +kernel, by decide +kernel⟩
theorem b_integer_text (W : Fr mg) (C_LIMIT : ∃ t, mg "LIMIT" = some (.int 1000000000000000000000000000000000000000000000000000000000000 t)) {f : Addr} {cdv : Value} {A : Around} {outer : List Env} {s : Shared} {H : Hp} {E : XK} (hr : Room 0 (A.deeper (envOfC "integer_text" (defScope s_integer_text) s.heap.objs.size f cdv))) :
  PSs (cxOf CX0 P w K mg base N_integer_text "integer_text" (defScope s_integer_text) f cdv A outer s H E).nox (defBody s_integer_text) (t_integer_text K) :=
  have hu64 := hr.units
  have hu65 : (A.deeper (envOfC "integer_text" (defScope s_integer_text) s.heap.objs.size f cdv)).units + 65 < cLine := by have := hr.un; omega
  (pss_cons (ps_if (pt_chain o_lt o_lt (pe_un o_neg (pe_globI C_LIMIT)) (pv 0) (pe_globI C_LIMIT)) (pss_one (ps_ret (pe_callTy c_str (by rfl) W.str (by first | boot_by_name | rfl | kernel_rfl) (pa_cons (pv 0) pa_nil)))) pss_nil)
    (pss_cons (ps_set (i := 1) sc_integer_text.nd rfl (by first | exact Or.inl rfl | exact Or.inr rfl) (pe_callB c_abs (by rfl) W.abs (by first | boot_by_name | rfl | kernel_rfl) (pa_cons (pv 0) pa_nil)))
    (pss_cons (ps_set (i := 2) sc_integer_text.nd rfl (by first | exact Or.inl rfl | exact Or.inr rfl) (pe_lst pa_nil))
    (pss_cons (ps_while PassesOwn.never (pt_cmpR o_ge (pv 1) (pe_globI C_LIMIT) (nomark _))
    (pss_cons (ps_asg (pe_callB c_divmod (by rfl) W.divmod (by first | boot_by_name | rfl | kernel_rfl) (pa_cons (pv 1) (pa_cons (pe_globI C_LIMIT) pa_nil))) (pg_tup (by rfl) (pgs_cons (pg_name (i := 1) sc_integer_text.nd rfl (by first | exact Or.inl rfl | exact Or.inr rfl)) (pgs_cons (pg_name (i := 3) sc_integer_text.nd rfl (by first | exact Or.inl rfl | exact Or.inr rfl)) pgs_nil))))
    (pss_one (ps_expr (pe_bm PySem.F.plainAttrs_list PySem.F.slot_list_append PySem.F.type_list_append mt_append (pv 2) (pa_cons (pe_m1 PySem.F.slot_str_zfill PySem.F.type_str_zfill mt_zfill (pe_callTy c_str (by rfl) W.str (by first | boot_by_name | rfl | kernel_rfl) (pa_cons (pv 3) pa_nil)) pe_int) pa_nil))))))
    (pss_cons (ps_expr (pe_bm PySem.F.plainAttrs_list PySem.F.slot_list_append PySem.F.type_list_append mt_append (pv 2) (pa_cons (pe_callTy c_str (by rfl) W.str (by first | boot_by_name | rfl | kernel_rfl) (pa_cons (pv 1) pa_nil)) pa_nil)))
    (pss_mid (ps_if (pt_cmpR o_lt (pv 0) pe_int (nomark _)) (pss_one (ps_expr (pe_bm PySem.F.plainAttrs_list PySem.F.slot_list_append PySem.F.type_list_append mt_append (pv 2) (pa_cons pe_str pa_nil)))) pss_nil)
    (pss_one (ps_ret (pe_join pe_str (pe_revL (pv 2)))))))))))
theorem ok_integer_text (W : Fr mg) (C_LIMIT : ∃ t, mg "LIMIT" = some (.int 1000000000000000000000000000000000000000000000000000000000000 t)) {f : Addr} {fd : FuncData} (F : FunD K "integer_text" "integer_text" (defArgs s_integer_text) (defBody s_integer_text) (defScope s_integer_text) [] [] f fd) : FnOk P w K mg base CX0 1 f fd ["value"] (sp_integer_text K) := by
  refine F.ok sc_integer_text ?_ (fun cdv A outer s H vs Q E hr h => ⟨t_integer_text K, PSs.nox (b_integer_text W C_LIMIT hr), pure_integer_text vs H Q E h⟩)
  walk_at "splen"
theorem sc_row_text : FnScope N_row_text ["row"] (defScope s_row_text) := ⟨rfl, rfl, rfl, by decide +kernel, rfl, by decide +kernel, by decide +kernel⟩
theorem b_row_text (W : Fr mg) (D_integer_text : Fd P w K mg base CX0 "integer_text" 1 ["value"] (sp_integer_text K)) {f : Addr} {cdv : Value} {A : Around} {outer : List Env} {s : Shared} {H : Hp} {E : XK} (hr : Room 1 (A.deeper (envOfC "row_text" (defScope s_row_text) s.heap.objs.size f cdv))) :
  PSs (cxOf CX0 P w K mg base N_row_text "row_text" (defScope s_row_text) f cdv A outer s H E).nox (defBody s_row_text) (t_row_text K) :=
  have hu64 := hr.units
  have hu65 : (A.deeper (envOfC "row_text" (defScope s_row_text) s.heap.objs.size f cdv)).units + 65 < cLine := by have := hr.un; omega
  (pss_one (ps_ret (pe_join pe_str (pe_lc (own := [("value", 1)]) (g := (gName 1)) (tt := tYes) (by rfl) sc_row_text.nd (pi_sq (pv 0)) (blkOk_by (own := [("value", 1)]) (N := N_row_text) (sc := (defScope s_row_text)) (by decide +kernel)) (fun _ _ _ _ _ => (pg_name (i := 1) sc_row_text.nd rfl (by first | exact Or.inl rfl | exact Or.inr rfl))) (fun _ _ _ _ _ => pts_nil) (fun _ _ _ _ _ => (pe_fd D_integer_text (hr.mono (by omega)) (pa_cons (pv 1) pa_nil)))))))
theorem ok_row_text (W : Fr mg) (D_integer_text : Fd P w K mg base CX0 "integer_text" 1 ["value"] (sp_integer_text K)) {f : Addr} {fd : FuncData} (F : FunD K "row_text" "row_text" (defArgs s_row_text) (defBody s_row_text) (defScope s_row_text) [] [] f fd) : FnOk P w K mg base CX0 2 f fd ["row"] (sp_row_text K) := by
  refine F.ok sc_row_text ?_ (fun cdv A outer s H vs Q E hr h => ⟨t_row_text K, PSs.nox (b_row_text W D_integer_text hr), pure_row_text vs H Q E h⟩)
  walk_at "splen"
theorem sc_rows_text : FnScope N_rows_text ["rows"] (defScope s_rows_text) := ⟨rfl, rfl, rfl, by decide +kernel, rfl, by decide +kernel, by decide +kernel⟩
theorem b_rows_text (W : Fr mg) (D_row_text : Fd P w K mg base CX0 "row_text" 2 ["row"] (sp_row_text K)) {f : Addr} {cdv : Value} {A : Around} {outer : List Env} {s : Shared} {H : Hp} {E : XK} (hr : Room 2 (A.deeper (envOfC "rows_text" (defScope s_rows_text) s.heap.objs.size f cdv))) :
  PSs (cxOf CX0 P w K mg base N_rows_text "rows_text" (defScope s_rows_text) f cdv A outer s H E).nox (defBody s_rows_text) (t_rows_text K) :=
  have hu64 := hr.units
  have hu65 : (A.deeper (envOfC "rows_text" (defScope s_rows_text) s.heap.objs.size f cdv)).units + 65 < cLine := by have := hr.un; omega
  (pss_cons (ps_if (pt_not (p_truth (pv 0) (by intro _; rfl))) (pss_one (ps_ret pe_str)) pss_nil)
    (pss_one (ps_ret (pe_join pe_str (pe_lc (own := [("row", 1)]) (g := (gName 1)) (tt := tYes) (by rfl) sc_rows_text.nd (pi_sq (pv 0)) (blkOk_by (own := [("row", 1)]) (N := N_rows_text) (sc := (defScope s_rows_text)) (by decide +kernel)) (fun _ _ _ _ _ => (pg_name (i := 1) sc_rows_text.nd rfl (by first | exact Or.inl rfl | exact Or.inr rfl))) (fun _ _ _ _ _ => pts_nil) (fun _ _ _ _ _ => (pe_fd D_row_text (hr.mono (by omega)) (pa_cons (pv 1) pa_nil))))))))
theorem ok_rows_text (W : Fr mg) (D_row_text : Fd P w K mg base CX0 "row_text" 2 ["row"] (sp_row_text K)) {f : Addr} {fd : FuncData} (F : FunD K "rows_text" "rows_text" (defArgs s_rows_text) (defBody s_rows_text) (defScope s_rows_text) [] [] f fd) : FnOk P w K mg base CX0 3 f fd ["rows"] (sp_rows_text K) := by
  refine F.ok sc_rows_text ?_ (fun cdv A outer s H vs Q E hr h => ⟨t_rows_text K, PSs.nox (b_rows_text W D_row_text hr), pure_rows_text vs H Q E h⟩)
  walk_at "splen"
theorem sc_Whole_init : FnScope N_Whole_init ["self", "deep", "rows"] (defScope s_Whole_init) := ⟨rfl, rfl, rfl, by decide +kernel, rfl, by decide +kernel, by decide +kernel⟩
theorem b_Whole_init (W : Fr mg) (D_echelon : Fd P w K mg base CX0 "echelon" 3 ["deep", "rows"] (sp_echelon K)) (D_rows_text : Fd P w K mg base CX0 "rows_text" 3 ["rows"] (sp_rows_text K)) {f : Addr} {cdv : Value} {A : Around} {outer : List Env} {s : Shared} {H : Hp} {E : XK} (hr : Room 3 (A.deeper (envOfC "Whole.__init__" (defScope s_Whole_init) s.heap.objs.size f cdv))) :
  PSs (cxOf CX0 P w K mg base N_Whole_init "Whole.__init__" (defScope s_Whole_init) f cdv A outer s H E).nox (defBody s_Whole_init) (t_Whole_init K) :=
  have hu64 := hr.units
  have hu65 : (A.deeper (envOfC "Whole.__init__" (defScope s_Whole_init) s.heap.objs.size f cdv)).units + 65 < cLine := by have := hr.un; omega
  (pss_cons (ps_for PassesOwn.never rfl (pi_enumU (by rfl) W.enumerate (pa_cons (pv 2) pa_nil)) (pg_tup (by rfl) (pgs_cons (pg_name (i := 3) sc_Whole_init.nd rfl (by first | exact Or.inl rfl | exact Or.inr rfl)) (pgs_cons (pg_name (i := 4) sc_Whole_init.nd rfl (by first | exact Or.inl rfl | exact Or.inr rfl)) pgs_nil)))
    (pss_one (ps_if (pt_cmpR (o_ne hu64) (pe_callB c_len (by rfl) W.len (by first | boot_by_name | rfl | kernel_rfl) (pa_cons (pv 4) pa_nil)) (pv 1) (nomark _)) (pss_one ps_bot) pss_nil)))
    (pss_cons (ps_fld (pv 0) (pv 1) rfl)
    (pss_cons (ps_fld (pv 0) (pe_fd D_echelon (hr.mono (by omega)) (pa_cons (pv 1) (pa_cons (pv 2) pa_nil))) rfl)
    (pss_one (ps_fld (pv 0) (pe_fd D_rows_text (hr.mono (by omega)) (pa_cons (pe_fld (pv 0) rfl) pa_nil)) rfl)))))
theorem ok_Whole_init (W : Fr mg) (D_echelon : Fd P w K mg base CX0 "echelon" 3 ["deep", "rows"] (sp_echelon K)) (D_rows_text : Fd P w K mg base CX0 "rows_text" 3 ["rows"] (sp_rows_text K)) (CF : ClsF CLw K) {f : Addr} {fd : FuncData} (F : FunD K "__init__" "Whole.__init__" (defArgs s_Whole_init) (defBody s_Whole_init) (defScope s_Whole_init) [] [] f fd) : FnOk P w K mg base CX0 4 f fd ["self", "deep", "rows"] (sp_Whole_init K) := by
  refine F.ok sc_Whole_init ?_ (fun cdv A outer s H vs Q E hr h => ⟨t_Whole_init K, PSs.nox (b_Whole_init W D_echelon D_rows_text hr), pure_Whole_init CF vs H Q E h⟩)
  walk_at "splen"
theorem sc_Whole_add : FnScope N_Whole_add ["self", "other"] (defScope s_Whole_add) := ⟨rfl, rfl, rfl, by decide +kernel, rfl, by decide +kernel, by decide +kernel⟩
theorem b_Whole_add (W : Fr mg) (N_Whole : Nd P w K mg base "Whole" (He.ga K "Whole") 4 ["self", "deep", "rows"] (sp_Whole_init K)) {f : Addr} {cdv : Value} {A : Around} {outer : List Env} {s : Shared} {H : Hp} {E : XK} (hr : Room 5 (A.deeper (envOfC "Whole.__add__" (defScope s_Whole_add) s.heap.objs.size f cdv))) :
  PSs (cxOf CX0 P w K mg base N_Whole_add "Whole.__add__" (defScope s_Whole_add) f cdv A outer s H E).nox (defBody s_Whole_add) (t_Whole_add K) :=
  have hu64 := hr.units
  have hu65 : (A.deeper (envOfC "Whole.__add__" (defScope s_Whole_add) s.heap.objs.size f cdv)).units + 65 < cLine := by have := hr.un; omega
  (pss_one (ps_ret (pe_nd N_Whole (hr.mono (by omega)) (pa_cons (pe_fld (pv 0) rfl) (pa_cons (pe_op o_add (pe_fld (pv 0) rfl) (pe_fld (pv 1) rfl)) pa_nil)))))
theorem ok_Whole_add (W : Fr mg) (N_Whole : Nd P w K mg base "Whole" (He.ga K "Whole") 4 ["self", "deep", "rows"] (sp_Whole_init K)) (CF : ClsF CLw K) {f : Addr} {fd : FuncData} (F : FunD K "__add__" "Whole.__add__" (defArgs s_Whole_add) (defBody s_Whole_add) (defScope s_Whole_add) [] [] f fd) : FnOk P w K mg base CX0 6 f fd ["self", "other"] (sp_Whole_add K) := by
  refine F.ok sc_Whole_add ?_ (fun cdv A outer s H vs Q E hr h => ⟨t_Whole_add K, PSs.nox (b_Whole_add W N_Whole hr), pure_Whole_add CF vs H Q E h⟩)
  walk_at "splen"
theorem sc_lead_place : FnScope N_lead_place ["row"] (defScope s_lead_place) := ⟨rfl, rfl, rfl, by decide +kernel, rfl, by decide +kernel, by decide +kernel⟩
theorem b_lead_place (W : Fr mg) {f : Addr} {cdv : Value} {A : Around} {outer : List Env} {s : Shared} {H : Hp} {E : XK} (hr : Room 0 (A.deeper (envOfC "lead_place" (defScope s_lead_place) s.heap.objs.size f cdv))) :
  PSs (cxOf CX0 P w K mg base N_lead_place "lead_place" (defScope s_lead_place) f cdv A outer s H E).nox (defBody s_lead_place) (t_lead_place K) :=
  have hu64 := hr.units
  have hu65 : (A.deeper (envOfC "lead_place" (defScope s_lead_place) s.heap.objs.size f cdv)).units + 65 < cLine := by have := hr.un; omega
  (pss_cons (ps_for PassesOwn.never rfl (pi_enumU (by rfl) W.enumerate (pa_cons (pv 0) pa_nil)) (pg_tup (by rfl) (pgs_cons (pg_name (i := 1) sc_lead_place.nd rfl (by first | exact Or.inl rfl | exact Or.inr rfl)) (pgs_cons (pg_name (i := 2) sc_lead_place.nd rfl (by first | exact Or.inl rfl | exact Or.inr rfl)) pgs_nil)))
    (pss_one (ps_if (pt_cmpR (o_ne hu64) (pv 2) pe_int (nomark _)) (pss_one (ps_ret (pv 1))) pss_nil)))
    (pss_one (ps_ret (pe_callB c_len (by rfl) W.len (by first | boot_by_name | rfl | kernel_rfl) (pa_cons (pv 0) pa_nil)))))
theorem ok_lead_place (W : Fr mg) {f : Addr} {fd : FuncData} (F : FunD K "lead_place" "lead_place" (defArgs s_lead_place) (defBody s_lead_place) (defScope s_lead_place) [] [] f fd) : FnOk P w K mg base CX0 1 f fd ["row"] (sp_lead_place K) := by
  refine F.ok sc_lead_place ?_ (fun cdv A outer s H vs Q E hr h => ⟨t_lead_place K, PSs.nox (b_lead_place W hr), pure_lead_place vs H Q E h⟩)
  walk_at "splen"
theorem sc_lead_multiple : FnScope N_lead_multiple ["told"] (defScope s_lead_multiple) := ⟨rfl, rfl, rfl, by decide +kernel, rfl, by decide +kernel, by decide +kernel⟩
theorem b_lead_multiple (W : Fr mg) (M_lcm : mg "lcm" = some (.builtin "math.lcm")) (D_lead_place : Fd P w K mg base CX0 "lead_place" 1 ["row"] (sp_lead_place K)) {f : Addr} {cdv : Value} {A : Around} {outer : List Env} {s : Shared} {H : Hp} {E : XK} (hr : Room 1 (A.deeper (envOfC "lead_multiple" (defScope s_lead_multiple) s.heap.objs.size f cdv))) :
  PSs (cxOf CX0 P w K mg base N_lead_multiple "lead_multiple" (defScope s_lead_multiple) f cdv A outer s H E).nox (defBody s_lead_multiple) (t_lead_multiple K) :=
  have hu64 := hr.units
  have hu65 : (A.deeper (envOfC "lead_multiple" (defScope s_lead_multiple) s.heap.objs.size f cdv)).units + 65 < cLine := by have := hr.un; omega
  (pss_cons (ps_set (i := 1) sc_lead_multiple.nd rfl (by first | exact Or.inl rfl | exact Or.inr rfl) pe_int)
    (pss_cons (ps_for PassesOwn.never rfl (pi_sq (pv 0)) (pg_name (i := 2) sc_lead_multiple.nd rfl (by first | exact Or.inl rfl | exact Or.inr rfl))
    (pss_one (ps_set (i := 1) sc_lead_multiple.nd rfl (by first | exact Or.inl rfl | exact Or.inr rfl) (pe_callBfun cr_lcm rfl M_lcm (pa_cons (pv 1) (pa_cons (pe_ix ix_seq (pv 2) (pe_fd D_lead_place (hr.mono (by omega)) (pa_cons (pv 2) pa_nil)) (fun _ _ => rfl)) pa_nil))))))
    (pss_one (ps_ret (pv 1)))))
theorem ok_lead_multiple (W : Fr mg) (M_lcm : mg "lcm" = some (.builtin "math.lcm")) (D_lead_place : Fd P w K mg base CX0 "lead_place" 1 ["row"] (sp_lead_place K)) {f : Addr} {fd : FuncData} (F : FunD K "lead_multiple" "lead_multiple" (defArgs s_lead_multiple) (defBody s_lead_multiple) (defScope s_lead_multiple) [] [] f fd) : FnOk P w K mg base CX0 2 f fd ["told"] (sp_lead_multiple K) := by
  refine F.ok sc_lead_multiple ?_ (fun cdv A outer s H vs Q E hr h => ⟨t_lead_multiple K, PSs.nox (b_lead_multiple W M_lcm D_lead_place hr), pure_lead_multiple vs H Q E h⟩)
  walk_at "splen"
theorem sc_one_solution : FnScope N_one_solution ["deep", "told", "free"] (defScope s_one_solution) := ⟨rfl, rfl, rfl, by decide +kernel, rfl, by decide +kernel, by decide +kernel⟩
theorem b_one_solution (W : Fr mg) (D_lead_multiple : Fd P w K mg base CX0 "lead_multiple" 2 ["told"] (sp_lead_multiple K)) (D_lead_place : Fd P w K mg base CX0 "lead_place" 1 ["row"] (sp_lead_place K)) {f : Addr} {cdv : Value} {A : Around} {outer : List Env} {s : Shared} {H : Hp} {E : XK} (hr : Room 2 (A.deeper (envOfC "one_solution" (defScope s_one_solution) s.heap.objs.size f cdv))) :
  PSs (cxOf CX0 P w K mg base N_one_solution "one_solution" (defScope s_one_solution) f cdv A outer s H E).nox (defBody s_one_solution) (t_one_solution K) :=
  have hu64 := hr.units
  have hu65 : (A.deeper (envOfC "one_solution" (defScope s_one_solution) s.heap.objs.size f cdv)).units + 65 < cLine := by have := hr.un; omega
  (pss_cons (ps_set (i := 3) sc_one_solution.nd rfl (by first | exact Or.inl rfl | exact Or.inr rfl) (pe_fd D_lead_multiple (hr.mono (by omega)) (pa_cons (pv 1) pa_nil)))
    (pss_cons (ps_setDc (i := 4) (own := [("equation", 7)]) (g := (gName 7)) (tt := tYes) (by rfl) sc_one_solution.nd rfl rfl (sw_trueD rfl rfl rfl (by decide +kernel)) (pi_sq (pv 1)) (blkOk_by (own := [("equation", 7)]) (N := N_one_solution) (sc := (defScope s_one_solution)) (by decide +kernel)) (fun _ _ _ _ _ => (pg_name (i := 7) sc_one_solution.nd rfl (by first | exact Or.inl rfl | exact Or.inr rfl))) (fun _ _ _ _ _ => pts_nil) (fun _ _ _ _ _ => (pe_fd D_lead_place (hr.mono (by omega)) (pa_cons (pv 7) pa_nil))) (fun _ _ _ _ _ => (pv 7)))
    (pss_cons (ps_set (i := 5) sc_one_solution.nd rfl (by first | exact Or.inl rfl | exact Or.inr rfl) (pe_lst pa_nil))
    (pss_cons (ps_for PassesOwn.never rfl (pi_range1 (by rfl) W.range (pa_cons (pv 0) pa_nil)) (pg_name (i := 6) sc_one_solution.nd rfl (by first | exact Or.inl rfl | exact Or.inr rfl))
    (pss_one (ps_if (pt_cmpR (o_eq hu64) (pv 6) (pv 2) (nomark _)) (pss_one (ps_expr (pe_bm PySem.F.plainAttrs_list PySem.F.slot_list_append PySem.F.type_list_append mt_append (pv 5) (pa_cons (pv 3) pa_nil)))) (pss_one (ps_if (pt_cmp (pc_din (Nat.lt_of_le_of_lt (Nat.add_le_add_left (by decide) _) hu64) (pv 6) (pv 4))) (pss_cons (ps_set (i := 7) sc_one_solution.nd rfl (by first | exact Or.inl rfl | exact Or.inr rfl) (pe_dget (Nat.lt_of_le_of_lt (Nat.add_le_add_left (by decide) _) hu64) (pv 4) (pv 6) (fun _ _ => rfl)))
    (pss_one (ps_expr (pe_bm PySem.F.plainAttrs_list PySem.F.slot_list_append PySem.F.type_list_append mt_append (pv 5) (pa_cons (pe_op o_mul (pe_un o_neg (pe_ix ix_seq (pv 7) (pv 2) (fun _ _ => rfl))) (pe_op o_divv (pv 3) (pe_ix ix_seq (pv 7) (pv 6) (fun _ _ => rfl)))) pa_nil))))) (pss_one (ps_expr (pe_bm PySem.F.plainAttrs_list PySem.F.slot_list_append PySem.F.type_list_append mt_append (pv 5) (pa_cons pe_int pa_nil)))))))))
    (pss_one (ps_ret (pv 5)))))))
theorem ok_one_solution (W : Fr mg) (D_lead_multiple : Fd P w K mg base CX0 "lead_multiple" 2 ["told"] (sp_lead_multiple K)) (D_lead_place : Fd P w K mg base CX0 "lead_place" 1 ["row"] (sp_lead_place K)) {f : Addr} {fd : FuncData} (F : FunD K "one_solution" "one_solution" (defArgs s_one_solution) (defBody s_one_solution) (defScope s_one_solution) [] [] f fd) : FnOk P w K mg base CX0 3 f fd ["deep", "told", "free"] (sp_one_solution K) := by
  refine F.ok sc_one_solution ?_ (fun cdv A outer s H vs Q E hr h => ⟨t_one_solution K, PSs.nox (b_one_solution W D_lead_multiple D_lead_place hr), pure_one_solution vs H Q E h⟩)
  walk_at "splen"
theorem sc_solved : FnScope N_solved ["deep", "told"] (defScope s_solved) := ⟨rfl, rfl, rfl, by decide +kernel, rfl, by decide +kernel, by decide +kernel⟩
theorem b_solved (W : Fr mg) (D_lead_place : Fd P w K mg base CX0 "lead_place" 1 ["row"] (sp_lead_place K)) (D_echelon : Fd P w K mg base CX0 "echelon" 3 ["deep", "rows"] (sp_echelon K)) (D_one_solution : Fd P w K mg base CX0 "one_solution" 3 ["deep", "told", "free"] (sp_one_solution K)) {f : Addr} {cdv : Value} {A : Around} {outer : List Env} {s : Shared} {H : Hp} {E : XK} (hr : Room 3 (A.deeper (envOfC "solved" (defScope s_solved) s.heap.objs.size f cdv))) :
  PSs (cxOf CX0 P w K mg base N_solved "solved" (defScope s_solved) f cdv A outer s H E).nox (defBody s_solved) (t_solved K) :=
  have hu64 := hr.units
  have hu65 : (A.deeper (envOfC "solved" (defScope s_solved) s.heap.objs.size f cdv)).units + 65 < cLine := by have := hr.un; omega
  (pss_cons (ps_set (i := 2) sc_solved.nd rfl (by first | exact Or.inl rfl | exact Or.inr rfl) (pe_lc (own := [("row", 4)]) (g := (gName 4)) (tt := tYes) (by rfl) sc_solved.nd (pi_sq (pv 1)) (blkOk_by (own := [("row", 4)]) (N := N_solved) (sc := (defScope s_solved)) (by decide +kernel)) (fun _ _ _ _ _ => (pg_name (i := 4) sc_solved.nd rfl (by first | exact Or.inl rfl | exact Or.inr rfl))) (fun _ _ _ _ _ => pts_nil) (fun _ _ _ _ _ => (pe_fd D_lead_place (hr.mono (by omega)) (pa_cons (pv 4) pa_nil)))))
    (pss_cons (ps_setLc (i := 3) (own := [("place", 5)]) (g := (gName 5)) (tt := (tTest (tOp (rNInU K) (tVar 5) (tVar 2)))) (by rfl) sc_solved.nd rfl rfl (sw_true rfl rfl rfl (by decide +kernel)) (pi_range1 (by rfl) W.range (pa_cons (pv 0) pa_nil)) (blkOk_by (own := [("place", 5)]) (N := N_solved) (sc := (defScope s_solved)) (by decide +kernel)) (fun _ _ _ _ _ => (pg_name (i := 5) sc_solved.nd rfl (by first | exact Or.inl rfl | exact Or.inr rfl))) (fun _ _ _ _ _ => (pts_one (pt_cmpR (o_nin hu65) (pv 5) (pv 2) (by rfl)))) (fun _ _ _ _ _ => (pv 5)))
    (pss_one (ps_ret (pe_fd D_echelon (hr.mono (by omega)) (pa_cons (pv 0) (pa_cons (pe_lc (own := [("free", 6)]) (g := (gName 6)) (tt := tYes) (by rfl) sc_solved.nd (pi_sq (pv 3)) (blkOk_by (own := [("free", 6)]) (N := N_solved) (sc := (defScope s_solved)) (by decide +kernel)) (fun _ _ _ _ _ => (pg_name (i := 6) sc_solved.nd rfl (by first | exact Or.inl rfl | exact Or.inr rfl))) (fun _ _ _ _ _ => pts_nil) (fun _ _ _ _ _ => (pe_fd D_one_solution (hr.mono (by omega)) (pa_cons (pv 0) (pa_cons (pv 1) (pa_cons (pv 6) pa_nil)))))) pa_nil)))))))
theorem ok_solved (W : Fr mg) (D_lead_place : Fd P w K mg base CX0 "lead_place" 1 ["row"] (sp_lead_place K)) (D_echelon : Fd P w K mg base CX0 "echelon" 3 ["deep", "rows"] (sp_echelon K)) (D_one_solution : Fd P w K mg base CX0 "one_solution" 3 ["deep", "told", "free"] (sp_one_solution K)) {f : Addr} {fd : FuncData} (F : FunD K "solved" "solved" (defArgs s_solved) (defBody s_solved) (defScope s_solved) [] [] f fd) : FnOk P w K mg base CX0 4 f fd ["deep", "told"] (sp_solved K) := by
  refine F.ok sc_solved ?_ (fun cdv A outer s H vs Q E hr h => ⟨t_solved K, PSs.nox (b_solved W D_lead_place D_echelon D_one_solution hr), pure_solved vs H Q E h⟩)
  walk_at "splen"
theorem sc_solutions : FnScope N_solutions ["deep", "equations"] (defScope s_solutions) := ⟨rfl, rfl, rfl, by decide +kernel, rfl, by decide +kernel, by decide +kernel⟩
theorem b_solutions (W : Fr mg) (D_solved : Fd P w K mg base CX0 "solved" 4 ["deep", "told"] (sp_solved K)) (D_echelon : Fd P w K mg base CX0 "echelon" 3 ["deep", "rows"] (sp_echelon K)) {f : Addr} {cdv : Value} {A : Around} {outer : List Env} {s : Shared} {H : Hp} {E : XK} (hr : Room 4 (A.deeper (envOfC "solutions" (defScope s_solutions) s.heap.objs.size f cdv))) :
  PSs (cxOf CX0 P w K mg base N_solutions "solutions" (defScope s_solutions) f cdv A outer s H E).nox (defBody s_solutions) (t_solutions K) :=
  have hu64 := hr.units
  have hu65 : (A.deeper (envOfC "solutions" (defScope s_solutions) s.heap.objs.size f cdv)).units + 65 < cLine := by have := hr.un; omega
  (pss_one (ps_ret (pe_fd D_solved (hr.mono (by omega)) (pa_cons (pv 0) (pa_cons (pe_fd D_echelon (hr.mono (by omega)) (pa_cons (pv 0) (pa_cons (pv 1) pa_nil))) pa_nil)))))
theorem ok_solutions (W : Fr mg) (D_solved : Fd P w K mg base CX0 "solved" 4 ["deep", "told"] (sp_solved K)) (D_echelon : Fd P w K mg base CX0 "echelon" 3 ["deep", "rows"] (sp_echelon K)) {f : Addr} {fd : FuncData} (F : FunD K "solutions" "solutions" (defArgs s_solutions) (defBody s_solutions) (defScope s_solutions) [] [] f fd) : FnOk P w K mg base CX0 5 f fd ["deep", "equations"] (sp_solutions K) := by
  refine F.ok sc_solutions ?_ (fun cdv A outer s H vs Q E hr h => ⟨t_solutions K, PSs.nox (b_solutions W D_solved D_echelon hr), pure_solutions vs H Q E h⟩)
  walk_at "splen"
theorem sc_meet_rows : FnScope N_meet_rows ["deep", "parts"] (defScope s_meet_rows) := ⟨rfl, rfl, rfl, by decide +kernel, rfl, by decide +kernel, by decide +kernel⟩
theorem b_meet_rows (W : Fr mg) (D_solutions : Fd P w K mg base CX0 "solutions" 5 ["deep", "equations"] (sp_solutions K)) (D_solved : Fd P w K mg base CX0 "solved" 4 ["deep", "told"] (sp_solved K)) {f : Addr} {cdv : Value} {A : Around} {outer : List Env} {s : Shared} {H : Hp} {E : XK} (hr : Room 5 (A.deeper (envOfC "meet_rows" (defScope s_meet_rows) s.heap.objs.size f cdv))) :
  PSs (cxOf CX0 P w K mg base N_meet_rows "meet_rows" (defScope s_meet_rows) f cdv A outer s H E).nox (defBody s_meet_rows) (t_meet_rows K) :=
  have hu64 := hr.units
  have hu65 : (A.deeper (envOfC "meet_rows" (defScope s_meet_rows) s.heap.objs.size f cdv)).units + 65 < cLine := by have := hr.un; omega
  (pss_one (ps_ret (pe_fd D_solutions (hr.mono (by omega)) (pa_cons (pv 0) (pa_cons (pe_lc2 (own := [("told", 2), ("row", 3)]) (vs1 := [3]) (g := (gName 2)) (tt := tYes) (g1 := (gName 3)) (tt1 := tYes) (by rfl) sc_meet_rows.nd (pi_sq (pv 1)) (blkOk_by (own := [("told", 2), ("row", 3)]) (N := N_meet_rows) (sc := (defScope s_meet_rows)) (by decide +kernel)) (by decide) (fun _ _ _ _ _ => (pg_name (i := 2) sc_meet_rows.nd rfl (by first | exact Or.inl rfl | exact Or.inr rfl))) (fun _ _ _ _ _ => pts_nil) (fun _ _ _ _ _ => (pi_sq (pe_fd D_solved (hr.mono (by omega)) (pa_cons (pv 0) (pa_cons (pv 2) pa_nil))))) (fun _ _ _ _ _ => (pg_name (i := 3) sc_meet_rows.nd rfl (by first | exact Or.inl rfl | exact Or.inr rfl))) (fun _ _ _ _ _ => pts_nil) (fun _ _ _ _ _ => (pv 3))) pa_nil)))))
theorem ok_meet_rows (W : Fr mg) (D_solutions : Fd P w K mg base CX0 "solutions" 5 ["deep", "equations"] (sp_solutions K)) (D_solved : Fd P w K mg base CX0 "solved" 4 ["deep", "told"] (sp_solved K)) {f : Addr} {fd : FuncData} (F : FunD K "meet_rows" "meet_rows" (defArgs s_meet_rows) (defBody s_meet_rows) (defScope s_meet_rows) [] [] f fd) : FnOk P w K mg base CX0 6 f fd ["deep", "parts"] (sp_meet_rows K) := by
  refine F.ok sc_meet_rows ?_ (fun cdv A outer s H vs Q E hr h => ⟨t_meet_rows K, PSs.nox (b_meet_rows W D_solutions D_solved hr), pure_meet_rows vs H Q E h⟩)
  walk_at "splen"
theorem sc_Whole_and : FnScope N_Whole_and ["self", "other"] (defScope s_Whole_and) := ⟨rfl, rfl, rfl, by decide +kernel, rfl, by decide +kernel, by decide +kernel⟩
theorem b_Whole_and (W : Fr mg) (D_meet_rows : Fd P w K mg base CX0 "meet_rows" 6 ["deep", "parts"] (sp_meet_rows K)) (N_Whole : Nd P w K mg base "Whole" (He.ga K "Whole") 4 ["self", "deep", "rows"] (sp_Whole_init K)) {f : Addr} {cdv : Value} {A : Around} {outer : List Env} {s : Shared} {H : Hp} {E : XK} (hr : Room 6 (A.deeper (envOfC "Whole.__and__" (defScope s_Whole_and) s.heap.objs.size f cdv))) :
  PSs (cxOf CX0 P w K mg base N_Whole_and "Whole.__and__" (defScope s_Whole_and) f cdv A outer s H E).nox (defBody s_Whole_and) (t_Whole_and K) :=
  have hu64 := hr.units
  have hu65 : (A.deeper (envOfC "Whole.__and__" (defScope s_Whole_and) s.heap.objs.size f cdv)).units + 65 < cLine := by have := hr.un; omega
  (pss_one (ps_ret (pe_nd N_Whole (hr.mono (by omega)) (pa_cons (pe_fld (pv 0) rfl) (pa_cons (pe_fd D_meet_rows (hr.mono (by omega)) (pa_cons (pe_fld (pv 0) rfl) (pa_cons (pe_lst (pa_cons (pe_fld (pv 0) rfl) (pa_cons (pe_fld (pv 1) rfl) pa_nil))) pa_nil))) pa_nil)))))
theorem ok_Whole_and (W : Fr mg) (D_meet_rows : Fd P w K mg base CX0 "meet_rows" 6 ["deep", "parts"] (sp_meet_rows K)) (N_Whole : Nd P w K mg base "Whole" (He.ga K "Whole") 4 ["self", "deep", "rows"] (sp_Whole_init K)) (CF : ClsF CLw K) {f : Addr} {fd : FuncData} (F : FunD K "__and__" "Whole.__and__" (defArgs s_Whole_and) (defBody s_Whole_and) (defScope s_Whole_and) [] [] f fd) : FnOk P w K mg base CX0 7 f fd ["self", "other"] (sp_Whole_and K) := by
  refine F.ok sc_Whole_and ?_ (fun cdv A outer s H vs Q E hr h => ⟨t_Whole_and K, PSs.nox (b_Whole_and W D_meet_rows N_Whole hr), pure_Whole_and CF vs H Q E h⟩)
  walk_at "splen"
theorem sc_Whole_eq : FnScope N_Whole_eq ["self", "other"] (defScope s_Whole_eq) := ⟨rfl, rfl, rfl, by decide +kernel, rfl, by decide +kernel, by decide +kernel⟩
theorem b_Whole_eq (W : Fr mg) (G_Whole : mg "Whole" = some (.ref (He.ga K "Whole"))) {f : Addr} {cdv : Value} {A : Around} {outer : List Env} {s : Shared} {H : Hp} {E : XK} (hr : Room 0 (A.deeper (envOfC "Whole.__eq__" (defScope s_Whole_eq) s.heap.objs.size f cdv))) :
  PSs (cxOf CX0 P w K mg base N_Whole_eq "Whole.__eq__" (defScope s_Whole_eq) f cdv A outer s H E).nox (defBody s_Whole_eq) (t_Whole_eq K) :=
  have hu64 := hr.units
  have hu65 : (A.deeper (envOfC "Whole.__eq__" (defScope s_Whole_eq) s.heap.objs.size f cdv)).units + 65 < cLine := by have := hr.un; omega
  (pss_one (ps_ret (pe_and (pe_callB c_isi (by rfl) W.isinstance (by first | boot_by_name | rfl | kernel_rfl) (pa_cons (pv 1) (pa_cons (pe_glob rfl G_Whole rfl) pa_nil))) (pe_and (pe_cmpR (o_eq hu64) (pe_fld (pv 0) rfl) (pe_fld (pv 1) rfl) (nomark _)) (pe_one (pe_cmpR (o_eq hu64) (pe_fld (pv 0) rfl) (pe_fld (pv 1) rfl) (nomark _)))))))
theorem ok_Whole_eq (W : Fr mg) (G_Whole : mg "Whole" = some (.ref (He.ga K "Whole"))) (CF : ClsF CLw K) {f : Addr} {fd : FuncData} (F : FunD K "__eq__" "Whole.__eq__" (defArgs s_Whole_eq) (defBody s_Whole_eq) (defScope s_Whole_eq) [] [] f fd) : FnOk P w K mg base CX0 1 f fd ["self", "other"] (sp_Whole_eq K) := by
  refine F.ok sc_Whole_eq ?_ (fun cdv A outer s H vs Q E hr h => ⟨t_Whole_eq K, PSs.nox (b_Whole_eq W G_Whole hr), pure_Whole_eq CF vs H Q E h⟩)
  walk_at "splen"
theorem sc_law_both_so : FnScope N_law_both_so ["a", "b", "c", "one", "two", "three", "d"] (defScope s_law_both_so) := ⟨rfl, rfl, rfl, by decide +kernel, rfl, by decide +kernel, by decide +kernel⟩
theorem b_law_both_so (W : Fr mg) (SF_Whole : PySem.W.selfFirst K (He.ga K "Whole") = true) (D_law_told : Fd P w K mg base CX0 "_law_told" 4 ["base", "d"] (sp_law_told K)) (D_law_meet : Fd P w K mg base CX0 "_law_meet" 6 ["one", "two", "d"] (sp_law_meet K)) (D_law_is_whole : Fd P w K mg base CX0 "_law_is_whole" 15 ["told", "d", "base"] (sp_law_is_whole K)) (D_law_like : Fd P w K mg base CX0 "_law_like" (2 + 12) ["told", "due"] (sp_law_like K 12)) (M_Whole_add : Md P w K mg base (He.ga K "Whole") "__add__" 6 ["self", "other"] (sp_Whole_add K)) (M_Whole_and : Md P w K mg base (He.ga K "Whole") "__and__" 7 ["self", "other"] (sp_Whole_and K)) (M_Whole_eq : Md P w K mg base (He.ga K "Whole") "__eq__" 1 ["self", "other"] (sp_Whole_eq K)) {f : Addr} {cdv : Value} {A : Around} {outer : List Env} {s : Shared} {H : Hp} {E : XK} (hr : Room 15 (A.deeper (envOfC "_law_both_so" (defScope s_law_both_so) s.heap.objs.size f cdv))) :
  PSs (cxOf CX0 P w K mg base N_law_both_so "_law_both_so" (defScope s_law_both_so) f cdv A outer s H E).nox (defBody s_law_both_so) (t_law_both_so K) :=
  have hu64 := hr.units
  have hu65 : (A.deeper (envOfC "_law_both_so" (defScope s_law_both_so) s.heap.objs.size f cdv)).units + 65 < cLine := by have := hr.un; omega
  (pss_cons (ps_set (i := 7) sc_law_both_so.nd rfl (by first | exact Or.inl rfl | exact Or.inr rfl) (pe_fd D_law_told (hr.mono (by omega)) (pa_cons (pe_op o_addV (pv 3) (pe_fd D_law_meet (hr.mono (by omega)) (pa_cons (pv 4) (pa_cons (pv 5) (pa_cons (pv 6) pa_nil))))) (pa_cons (pv 6) pa_nil))))
    (pss_cons (ps_set (i := 8) sc_law_both_so.nd rfl (by first | exact Or.inl rfl | exact Or.inr rfl) (pe_fd D_law_meet (hr.mono (by omega)) (pa_cons (pe_fd D_law_told (hr.mono (by omega)) (pa_cons (pe_op o_addV (pv 3) (pv 4)) (pa_cons (pv 6) pa_nil))) (pa_cons (pv 5) (pa_cons (pv 6) pa_nil)))))
    (pss_cons (ps_if (PW.pt (pw_or (pt_not (pt_val (pe_fd D_law_is_whole (hr.mono (by omega)) (pa_cons (pe_op (o_own M_Whole_add (hr.mono (by omega)) SF_Whole) (pv 0) (pe_op (o_own M_Whole_and (hr.mono (by omega)) SF_Whole) (pv 1) (pv 2))) (pa_cons (pv 6) (pa_cons (pv 7) pa_nil)))))) (pw_or1 (pt_not (pt_val (pe_fd D_law_is_whole (hr.mono (by omega)) (pa_cons (pe_op (o_own M_Whole_and (hr.mono (by omega)) SF_Whole) (pe_op (o_own M_Whole_add (hr.mono (by omega)) SF_Whole) (pv 0) (pv 1)) (pv 2)) (pa_cons (pv 6) (pa_cons (pv 8) pa_nil))))))))) (pss_one (ps_ret pe_bl)) pss_nil)
    (pss_one (ps_ret (pe_fd D_law_like (hr.mono (by omega)) (pa_cons (pe_lst (pa_cons (pe_cmpR (o_ownC M_Whole_eq (hr.mono (by omega))) (pe_op (o_own M_Whole_add (hr.mono (by omega)) SF_Whole) (pv 0) (pe_op (o_own M_Whole_and (hr.mono (by omega)) SF_Whole) (pv 1) (pv 2))) (pe_op (o_own M_Whole_and (hr.mono (by omega)) SF_Whole) (pe_op (o_own M_Whole_add (hr.mono (by omega)) SF_Whole) (pv 0) (pv 1)) (pv 2)) (nomark _)) (pa_cons (pe_cmpR (o_ownC M_Whole_eq (hr.mono (by omega))) (pe_op (o_own M_Whole_add (hr.mono (by omega)) SF_Whole) (pe_op (o_own M_Whole_and (hr.mono (by omega)) SF_Whole) (pv 2) (pv 1)) (pv 0)) (pe_op (o_own M_Whole_and (hr.mono (by omega)) SF_Whole) (pv 2) (pe_op (o_own M_Whole_add (hr.mono (by omega)) SF_Whole) (pv 1) (pv 0))) (nomark _)) pa_nil))) (pa_cons (pe_lst (pa_cons (pe_cmpR (o_eq hu64) (pv 7) (pv 8) (nomark _)) (pa_cons (pe_cmpR (o_eq hu64) (pv 7) (pv 8) (nomark _)) pa_nil))) pa_nil))))))))
theorem ok_law_both_so (W : Fr mg) (SF_Whole : PySem.W.selfFirst K (He.ga K "Whole") = true) (D_law_told : Fd P w K mg base CX0 "_law_told" 4 ["base", "d"] (sp_law_told K)) (D_law_meet : Fd P w K mg base CX0 "_law_meet" 6 ["one", "two", "d"] (sp_law_meet K)) (D_law_is_whole : Fd P w K mg base CX0 "_law_is_whole" 15 ["told", "d", "base"] (sp_law_is_whole K)) (D_law_like : Fd P w K mg base CX0 "_law_like" (2 + 12) ["told", "due"] (sp_law_like K 12)) (M_Whole_add : Md P w K mg base (He.ga K "Whole") "__add__" 6 ["self", "other"] (sp_Whole_add K)) (M_Whole_and : Md P w K mg base (He.ga K "Whole") "__and__" 7 ["self", "other"] (sp_Whole_and K)) (M_Whole_eq : Md P w K mg base (He.ga K "Whole") "__eq__" 1 ["self", "other"] (sp_Whole_eq K)) (CF : ClsF CLw K) {f : Addr} {fd : FuncData} (F : FunD K "_law_both_so" "_law_both_so" (defArgs s_law_both_so) (defBody s_law_both_so) (defScope s_law_both_so) [] [] f fd) : FnOk P w K mg base CX0 16 f fd ["a", "b", "c", "one", "two", "three", "d"] (sp_law_both_so K) := by
  refine F.ok sc_law_both_so ?_ (fun cdv A outer s H vs Q E hr h => ⟨t_law_both_so K, PSs.nox (b_law_both_so W SF_Whole D_law_told D_law_meet D_law_is_whole D_law_like M_Whole_add M_Whole_and M_Whole_eq hr), pure_law_both_so CF vs H Q E h⟩)
  walk_at "splen"
theorem sc_lies_in : FnScope N_lies_in ["told", "row"] (defScope s_lies_in) := ⟨rfl, rfl, rfl, by decide +kernel, rfl, by decide +kernel, by decide +kernel⟩
theorem b_lies_in (W : Fr mg) (D_lead_multiple : Fd P w K mg base CX0 "lead_multiple" 2 ["told"] (sp_lead_multiple K)) (D_lead_place : Fd P w K mg base CX0 "lead_place" 1 ["row"] (sp_lead_place K)) {f : Addr} {cdv : Value} {A : Around} {outer : List Env} {s : Shared} {H : Hp} {E : XK} (hr : Room 2 (A.deeper (envOfC "lies_in" (defScope s_lies_in) s.heap.objs.size f cdv))) :
  PSs (cxOf CX0 P w K mg base N_lies_in "lies_in" (defScope s_lies_in) f cdv A outer s H E).nox (defBody s_lies_in) (t_lies_in K) :=
  have hu64 := hr.units
  have hu65 : (A.deeper (envOfC "lies_in" (defScope s_lies_in) s.heap.objs.size f cdv)).units + 65 < cLine := by have := hr.un; omega
  (pss_cons (ps_set (i := 2) sc_lies_in.nd rfl (by first | exact Or.inl rfl | exact Or.inr rfl) (pe_fd D_lead_multiple (hr.mono (by omega)) (pa_cons (pv 0) pa_nil)))
    (pss_cons (ps_set (i := 3) sc_lies_in.nd rfl (by first | exact Or.inl rfl | exact Or.inr rfl) (pe_op o_mul (pe_lst (pa_cons pe_int pa_nil)) (pe_callB c_len (by rfl) W.len (by first | boot_by_name | rfl | kernel_rfl) (pa_cons (pv 1) pa_nil))))
    (pss_cons (ps_for PassesOwn.never rfl (pi_sq (pv 0)) (pg_name (i := 4) sc_lies_in.nd rfl (by first | exact Or.inl rfl | exact Or.inr rfl))
    (pss_cons (ps_set (i := 5) sc_lies_in.nd rfl (by first | exact Or.inl rfl | exact Or.inr rfl) (pe_fd D_lead_place (hr.mono (by omega)) (pa_cons (pv 4) pa_nil)))
    (pss_cons (ps_set (i := 6) sc_lies_in.nd rfl (by first | exact Or.inl rfl | exact Or.inr rfl) (pe_op o_mul (pe_ix ix_seq (pv 1) (pv 5) (fun _ _ => rfl)) (pe_op o_divv (pv 2) (pe_ix ix_seq (pv 4) (pv 5) (fun _ _ => rfl)))))
    (pss_one (ps_setLc (i := 3) (own := [("number", 7), ("other", 8)]) (g := (gTup K 2 (gCons (gName 7) (gCons (gName 8) gNil)))) (tt := tYes) (by rfl) sc_lies_in.nd rfl rfl (sw_true rfl rfl rfl (by decide +kernel)) (pi_zipU (by rfl) W.zip (pa_cons (pv 3) (pa_cons (pv 4) pa_nil))) (blkOk_by (own := [("number", 7), ("other", 8)]) (N := N_lies_in) (sc := (defScope s_lies_in)) (by decide +kernel)) (fun _ _ _ _ _ => (pg_tup (by rfl) (pgs_cons (pg_name (i := 7) sc_lies_in.nd rfl (by first | exact Or.inl rfl | exact Or.inr rfl)) (pgs_cons (pg_name (i := 8) sc_lies_in.nd rfl (by first | exact Or.inl rfl | exact Or.inr rfl)) pgs_nil)))) (fun _ _ _ _ _ => pts_nil) (fun _ _ _ _ _ => (pe_op o_add (pv 7) (pe_op o_mul (pv 6) (pv 8)))))))))
    (pss_one (ps_ret (pe_cmpR (o_eq hu64) (pv 3) (pe_lc (own := [("number", 7)]) (g := (gName 7)) (tt := tYes) (by rfl) sc_lies_in.nd (pi_sq (pv 1)) (blkOk_by (own := [("number", 7)]) (N := N_lies_in) (sc := (defScope s_lies_in)) (by decide +kernel)) (fun _ _ _ _ _ => (pg_name (i := 7) sc_lies_in.nd rfl (by first | exact Or.inl rfl | exact Or.inr rfl))) (fun _ _ _ _ _ => pts_nil) (fun _ _ _ _ _ => (pe_op o_mul (pv 2) (pv 7)))) (nomark _)))))))
theorem ok_lies_in (W : Fr mg) (D_lead_multiple : Fd P w K mg base CX0 "lead_multiple" 2 ["told"] (sp_lead_multiple K)) (D_lead_place : Fd P w K mg base CX0 "lead_place" 1 ["row"] (sp_lead_place K)) {f : Addr} {fd : FuncData} (F : FunD K "lies_in" "lies_in" (defArgs s_lies_in) (defBody s_lies_in) (defScope s_lies_in) [] [] f fd) : FnOk P w K mg base CX0 3 f fd ["told", "row"] (sp_lies_in K) := by
  refine F.ok sc_lies_in ?_ (fun cdv A outer s H vs Q E hr h => ⟨t_lies_in K, PSs.nox (b_lies_in W D_lead_multiple D_lead_place hr), pure_lies_in vs H Q E h⟩)
  walk_at "splen"
theorem sc_Whole_within : FnScope N_Whole_within ["self", "other"] (defScope s_Whole_within) := ⟨rfl, rfl, rfl, by decide +kernel, rfl, by decide +kernel, by decide +kernel⟩
theorem b_Whole_within (W : Fr mg) (D_lies_in : Fd P w K mg base CX0 "lies_in" 3 ["told", "row"] (sp_lies_in K)) {f : Addr} {cdv : Value} {A : Around} {outer : List Env} {s : Shared} {H : Hp} {E : XK} (hr : Room 3 (A.deeper (envOfC "Whole.within" (defScope s_Whole_within) s.heap.objs.size f cdv))) :
  PSs (cxOf CX0 P w K mg base N_Whole_within "Whole.within" (defScope s_Whole_within) f cdv A outer s H E).nox (defBody s_Whole_within) (t_Whole_within K) :=
  have hu64 := hr.units
  have hu65 : (A.deeper (envOfC "Whole.within" (defScope s_Whole_within) s.heap.objs.size f cdv)).units + 65 < cLine := by have := hr.un; omega
  (pss_one (ps_ret (pe_and (pe_cmpR (o_eq hu64) (pe_fld (pv 0) rfl) (pe_fld (pv 1) rfl) (nomark _)) (pe_one (pe_callB (cr_all rfl) (by rfl) W.all (by first | boot_by_name | rfl | kernel_rfl) (pa_cons (pe_lc (own := [("row", 2)]) (g := (gName 2)) (tt := tYes) (by rfl) sc_Whole_within.nd (pi_sq (pe_fld (pv 0) rfl)) (blkOk_by (own := [("row", 2)]) (N := N_Whole_within) (sc := (defScope s_Whole_within)) (by decide +kernel)) (fun _ _ _ _ _ => (pg_name (i := 2) sc_Whole_within.nd rfl (by first | exact Or.inl rfl | exact Or.inr rfl))) (fun _ _ _ _ _ => pts_nil) (fun _ _ _ _ _ => (pe_fd D_lies_in (hr.mono (by omega)) (pa_cons (pe_fld (pv 1) rfl) (pa_cons (pv 2) pa_nil))))) pa_nil))))))
theorem ok_Whole_within (W : Fr mg) (D_lies_in : Fd P w K mg base CX0 "lies_in" 3 ["told", "row"] (sp_lies_in K)) (CF : ClsF CLw K) {f : Addr} {fd : FuncData} (F : FunD K "within" "Whole.within" (defArgs s_Whole_within) (defBody s_Whole_within) (defScope s_Whole_within) [] [] f fd) : FnOk P w K mg base CX0 4 f fd ["self", "other"] (sp_Whole_within K) := by
  refine F.ok sc_Whole_within ?_ (fun cdv A outer s H vs Q E hr h => ⟨t_Whole_within K, PSs.nox (b_Whole_within W D_lies_in hr), pure_Whole_within CF vs H Q E h⟩)
  walk_at "splen"
theorem sc_law : FnScope N_law ["script"] (defScope s_law) := ⟨rfl, rfl, rfl, by decide +kernel, rfl, by decide +kernel, by decide +kernel⟩
theorem b_law (W : Fr mg) (SF_Whole : PySem.W.selfFirst K (He.ga K "Whole") = true) (D_law_bag : Fd P w K mg base CX0 "_law_bag" 1 ["script"] (sp_law_bag K)) (D_law_deep : Fd P w K mg base CX0 "_law_deep" 3 ["bag"] (sp_law_deep K)) (D_law_rows : Fd P w K mg base CX0 "_law_rows" 3 ["bag", "d", "many"] (sp_law_rows K)) (D_law_of : Fd P w K mg base CX0 "_law_of" 2 ["bag", "things"] (sp_law_of K)) (D_law_parts : Fd P w K mg base CX0 "_law_parts" 3 ["bag", "base", "d"] (sp_law_parts K)) (D_law_draw : Fd P w K mg base CX0 "_law_draw" 1 ["bag", "size"] (sp_law_draw K)) (D_law_told : Fd P w K mg base CX0 "_law_told" 4 ["base", "d"] (sp_law_told K)) (D_law_like : Fd P w K mg base CX0 "_law_like" (2 + 12) ["told", "due"] (sp_law_like K 12)) (D_law_both_so : Fd P w K mg base CX0 "_law_both_so" 16 ["a", "b", "c", "one", "two", "three", "d"] (sp_law_both_so K)) (N_Whole : Nd P w K mg base "Whole" (He.ga K "Whole") 4 ["self", "deep", "rows"] (sp_Whole_init K)) (M_Whole_within : Md P w K mg base (He.ga K "Whole") "within" 4 ["self", "other"] (sp_Whole_within K)) (M_Whole_eq : Md P w K mg base (He.ga K "Whole") "__eq__" 1 ["self", "other"] (sp_Whole_eq K)) (M_Whole_add : Md P w K mg base (He.ga K "Whole") "__add__" 6 ["self", "other"] (sp_Whole_add K)) (M_Whole_and : Md P w K mg base (He.ga K "Whole") "__and__" 7 ["self", "other"] (sp_Whole_and K)) {f : Addr} {cdv : Value} {A : Around} {outer : List Env} {s : Shared} {H : Hp} {E : XK} (hr : Room 16 (A.deeper (envOfC "law" (defScope s_law) s.heap.objs.size f cdv))) :
  PSs (cxOf CX0 P w K mg base N_law "law" (defScope s_law) f cdv A outer s H E).nox (defBody s_law) (t_law K) :=
  have hu64 := hr.units
  have hu65 : (A.deeper (envOfC "law" (defScope s_law) s.heap.objs.size f cdv)).units + 65 < cLine := by have := hr.un; omega
  (pss_cons (ps_set (i := 1) sc_law.nd rfl (by first | exact Or.inl rfl | exact Or.inr rfl) (pe_fd D_law_bag (hr.mono (by omega)) (pa_cons (pv 0) pa_nil)))
    (pss_cons (ps_for PassesOwn.never rfl (pi_range1 (by rfl) W.range (pa_cons pe_int pa_nil)) (pg_name (i := 2) sc_law.nd rfl (by first | exact Or.inl rfl | exact Or.inr rfl))
    (pss_cons (ps_set (i := 3) sc_law.nd rfl (by first | exact Or.inl rfl | exact Or.inr rfl) (pe_fd D_law_deep (hr.mono (by omega)) (pa_cons (pv 1) pa_nil)))
    (pss_cons (ps_set (i := 4) sc_law.nd rfl (by first | exact Or.inl rfl | exact Or.inr rfl) (pe_fd D_law_rows (hr.mono (by omega)) (pa_cons (pv 1) (pa_cons (pv 3) (pa_cons (pe_fd D_law_of (hr.mono (by omega)) (pa_cons (pv 1) (pa_cons (pe_lst (pa_cons pe_int (pa_cons pe_int (pa_cons pe_int (pa_cons pe_int (pa_cons pe_int pa_nil)))))) pa_nil))) pa_nil)))))
    (pss_cons (ps_set (i := 5) sc_law.nd rfl (by first | exact Or.inl rfl | exact Or.inr rfl) (pe_fd D_law_parts (hr.mono (by omega)) (pa_cons (pv 1) (pa_cons (pv 4) (pa_cons (pv 3) pa_nil)))))
    (pss_cons (ps_set (i := 6) sc_law.nd rfl (by first | exact Or.inl rfl | exact Or.inr rfl) (pe_fd D_law_rows (hr.mono (by omega)) (pa_cons (pv 1) (pa_cons (pv 3) (pa_cons (pe_fd D_law_of (hr.mono (by omega)) (pa_cons (pv 1) (pa_cons (pe_lst (pa_cons pe_int (pa_cons pe_int (pa_cons pe_int (pa_cons pe_int (pa_cons pe_int pa_nil)))))) pa_nil))) pa_nil)))))
    (pss_mid (ps_if (pt_cmpR (o_eq hu64) (pe_fd D_law_draw (hr.mono (by omega)) (pa_cons (pv 1) (pa_cons pe_int pa_nil))) pe_int (nomark _)) (pss_one (ps_set (i := 6) sc_law.nd rfl (by first | exact Or.inl rfl | exact Or.inr rfl) (pe_op o_add (pe_fd D_law_rows (hr.mono (by omega)) (pa_cons (pv 1) (pa_cons (pv 3) (pa_cons pe_int pa_nil)))) (pe_fd D_law_parts (hr.mono (by omega)) (pa_cons (pv 1) (pa_cons (pv 4) (pa_cons (pv 3) pa_nil))))))) pss_nil)
    (pss_cons (ps_par3 (i := 7) (j := 8) (l := 9) (by rfl) sc_law.nd rfl rfl rfl (by decide) (by decide) (by decide) rfl rfl rfl (pa_cons (pe_fd D_law_told (hr.mono (by omega)) (pa_cons (pv 5) (pa_cons (pv 3) pa_nil))) (pa_cons (pe_fd D_law_told (hr.mono (by omega)) (pa_cons (pv 6) (pa_cons (pv 3) pa_nil))) (pa_cons (pe_fd D_law_told (hr.mono (by omega)) (pa_cons (pv 4) (pa_cons (pv 3) pa_nil))) pa_nil))) (by rfl))
    (pss_cons (ps_par3 (i := 10) (j := 11) (l := 12) (by rfl) sc_law.nd rfl rfl rfl (by decide) (by decide) (by decide) rfl rfl rfl (pa_cons (pe_nd N_Whole (hr.mono (by omega)) (pa_cons (pv 3) (pa_cons (pv 5) pa_nil))) (pa_cons (pe_nd N_Whole (hr.mono (by omega)) (pa_cons (pv 3) (pa_cons (pv 6) pa_nil))) (pa_cons (pe_nd N_Whole (hr.mono (by omega)) (pa_cons (pv 3) (pa_cons (pv 4) pa_nil))) pa_nil))) (by rfl))
    (pss_cons (ps_if (PW.pt (pw_or (pt_not (pt_val (pe_fd D_law_like (hr.mono (by omega)) (pa_cons (pe_md M_Whole_within (hr.mono (by omega)) (pv 10) (pa_cons (pv 12) pa_nil)) (pa_cons pe_bl pa_nil))))) (pw_or1 (pt_not (pt_val (pe_fd D_law_like (hr.mono (by omega)) (pa_cons (pe_cmpR (o_ownC M_Whole_eq (hr.mono (by omega))) (pe_op (o_own M_Whole_add (hr.mono (by omega)) SF_Whole) (pv 10) (pe_op (o_own M_Whole_and (hr.mono (by omega)) SF_Whole) (pv 11) (pv 12))) (pe_op (o_own M_Whole_and (hr.mono (by omega)) SF_Whole) (pe_op (o_own M_Whole_add (hr.mono (by omega)) SF_Whole) (pv 10) (pv 11)) (pv 12)) (nomark _)) (pa_cons pe_bl pa_nil)))))))) (pss_one (ps_ret pe_bl)) pss_nil)
    (pss_cons (ps_if (PW.pt (pw_or (pt_not (pt_val (pe_fd D_law_both_so (hr.mono (by omega)) (pa_cons (pv 10) (pa_cons (pv 11) (pa_cons (pv 12) (pa_cons (pv 7) (pa_cons (pv 8) (pa_cons (pv 9) (pa_cons (pv 3) pa_nil)))))))))) (pw_or1 (pt_not (pt_val (pe_fd D_law_both_so (hr.mono (by omega)) (pa_cons (pv 11) (pa_cons (pv 10) (pa_cons (pv 12) (pa_cons (pv 8) (pa_cons (pv 7) (pa_cons (pv 9) (pa_cons (pv 3) pa_nil))))))))))))) (pss_one (ps_ret pe_bl)) pss_nil)
    (pss_one (ps_if (PW.pt (pw_or (pt_not (pt_val (pe_fd D_law_both_so (hr.mono (by omega)) (pa_cons (pv 12) (pa_cons (pv 11) (pa_cons (pv 10) (pa_cons (pv 9) (pa_cons (pv 8) (pa_cons (pv 7) (pa_cons (pv 3) pa_nil)))))))))) (pw_or1 (pt_not (pt_val (pe_fd D_law_both_so (hr.mono (by omega)) (pa_cons (pv 11) (pa_cons (pv 12) (pa_cons (pv 10) (pa_cons (pv 8) (pa_cons (pv 9) (pa_cons (pv 7) (pa_cons (pv 3) pa_nil))))))))))))) (pss_one (ps_ret pe_bl)) pss_nil))))))))))))
    (pss_one (ps_ret pe_bl))))
theorem ok_law (W : Fr mg) (SF_Whole : PySem.W.selfFirst K (He.ga K "Whole") = true) (D_law_bag : Fd P w K mg base CX0 "_law_bag" 1 ["script"] (sp_law_bag K)) (D_law_deep : Fd P w K mg base CX0 "_law_deep" 3 ["bag"] (sp_law_deep K)) (D_law_rows : Fd P w K mg base CX0 "_law_rows" 3 ["bag", "d", "many"] (sp_law_rows K)) (D_law_of : Fd P w K mg base CX0 "_law_of" 2 ["bag", "things"] (sp_law_of K)) (D_law_parts : Fd P w K mg base CX0 "_law_parts" 3 ["bag", "base", "d"] (sp_law_parts K)) (D_law_draw : Fd P w K mg base CX0 "_law_draw" 1 ["bag", "size"] (sp_law_draw K)) (D_law_told : Fd P w K mg base CX0 "_law_told" 4 ["base", "d"] (sp_law_told K)) (D_law_like : Fd P w K mg base CX0 "_law_like" (2 + 12) ["told", "due"] (sp_law_like K 12)) (D_law_both_so : Fd P w K mg base CX0 "_law_both_so" 16 ["a", "b", "c", "one", "two", "three", "d"] (sp_law_both_so K)) (N_Whole : Nd P w K mg base "Whole" (He.ga K "Whole") 4 ["self", "deep", "rows"] (sp_Whole_init K)) (M_Whole_within : Md P w K mg base (He.ga K "Whole") "within" 4 ["self", "other"] (sp_Whole_within K)) (M_Whole_eq : Md P w K mg base (He.ga K "Whole") "__eq__" 1 ["self", "other"] (sp_Whole_eq K)) (M_Whole_add : Md P w K mg base (He.ga K "Whole") "__add__" 6 ["self", "other"] (sp_Whole_add K)) (M_Whole_and : Md P w K mg base (He.ga K "Whole") "__and__" 7 ["self", "other"] (sp_Whole_and K)) (CF : ClsF CLw K) {f : Addr} {fd : FuncData} (F : FunD K "law" "law" (defArgs s_law) (defBody s_law) (defScope s_law) [] [] f fd) : FnOk P w K mg base CX0 17 f fd ["script"] (sp_law12 K) := by
  refine F.ok sc_law ?_ (fun cdv A outer s H vs Q E hr h => ⟨t_law K, PSs.nox (b_law W SF_Whole D_law_bag D_law_deep D_law_rows D_law_of D_law_parts D_law_draw D_law_told D_law_like D_law_both_so N_Whole M_Whole_within M_Whole_eq M_Whole_add M_Whole_and hr), pure_law CF vs H Q E h⟩)
  walk_at "splen"
end
end D
end
section
set_option maxHeartbeats 0
namespace D
open PySem PySem.Spec PyProof.Rows L2 U C
theorem facts {w : World} {K : PySem.W.Frag} {h : Heap} {mg : Str → Option Value} {f : Addr} (X : K.In h) (G : h.Ns mainGlobals mg) (hfa : mg ("law" : Str) = some (.ref f)) (c : Hf.Says ask K) :
    ∃ fd : FuncData, (∀ (s : Shared) (v : Value), BindsTo s fd ⟨[v], []⟩ [("script", v)]) ∧ ∀ base : Heap, K.In base → base.Ns mainGlobals mg → FnOk (PySem.Challenge.rw_leastfetched_k12_whole_modular_law).prog w K mg base CX0 17 f fd ["script"] (sp_law12 K) := by
  obtain ⟨fd_law_bag, F_law_bag⟩ := c.def_ 0 (d := d_law_bag) rfl
  obtain ⟨fd_law_draw, F_law_draw⟩ := c.def_ 1 (d := d_law_draw) rfl
  obtain ⟨fd_law_of, F_law_of⟩ := c.def_ 2 (d := d_law_of) rfl
  obtain ⟨fd_law_deep, F_law_deep⟩ := c.def_ 3 (d := d_law_deep) rfl
  obtain ⟨fd_law_rows, F_law_rows⟩ := c.def_ 4 (d := d_law_rows) rfl
  obtain ⟨fd_law_parts, F_law_parts⟩ := c.def_ 5 (d := d_law_parts) rfl
  obtain ⟨fd_law_gcd, F_law_gcd⟩ := c.def_ 6 (d := d_law_gcd) rfl
  obtain ⟨fd_law_thin, F_law_thin⟩ := c.def_ 7 (d := d_law_thin) rfl
  obtain ⟨fd_law_clear, F_law_clear⟩ := c.def_ 8 (d := d_law_clear) rfl
  obtain ⟨fd_law_told, F_law_told⟩ := c.def_ 9 (d := d_law_told) rfl
  obtain ⟨fd_law_int, F_law_int⟩ := c.def_ 10 (d := d_law_int) rfl
  obtain ⟨fd_law_like, F_law_like⟩ := c.def_ 11 (d := d_law_like) rfl
  obtain ⟨fd_law_zeros, F_law_zeros⟩ := c.def_ 12 (d := d_law_zeros) rfl
  obtain ⟨fd_law_meet, F_law_meet⟩ := c.def_ 13 (d := d_law_meet) rfl
  obtain ⟨fd_law_rows_text, F_law_rows_text⟩ := c.def_ 14 (d := d_law_rows_text) rfl
  obtain ⟨fd_Whole_told, F_Whole_told⟩ := c.def_ 15 (d := d_Whole_told) rfl
  obtain ⟨fd_law_is_whole, F_law_is_whole⟩ := c.def_ 16 (d := d_law_is_whole) rfl
  obtain ⟨fd_primitive_row, F_primitive_row⟩ := c.def_ 17 (d := d_primitive_row) rfl
  obtain ⟨fd_first_with, F_first_with⟩ := c.def_ 18 (d := d_first_with) rfl
  obtain ⟨fd_led_row, F_led_row⟩ := c.def_ 19 (d := d_led_row) rfl
  obtain ⟨fd_struck, F_struck⟩ := c.def_ 20 (d := d_struck) rfl
  obtain ⟨fd_echelon, F_echelon⟩ := c.def_ 21 (d := d_echelon) rfl
  obtain ⟨fd_integer_text, F_integer_text⟩ := c.def_ 22 (d := d_integer_text) rfl
  obtain ⟨fd_row_text, F_row_text⟩ := c.def_ 23 (d := d_row_text) rfl
  obtain ⟨fd_rows_text, F_rows_text⟩ := c.def_ 24 (d := d_rows_text) rfl
  obtain ⟨fd_Whole_init, F_Whole_init⟩ := c.def_ 25 (d := d_Whole_init) rfl
  obtain ⟨fd_Whole_add, F_Whole_add⟩ := c.def_ 26 (d := d_Whole_add) rfl
  obtain ⟨fd_lead_place, F_lead_place⟩ := c.def_ 27 (d := d_lead_place) rfl
  obtain ⟨fd_lead_multiple, F_lead_multiple⟩ := c.def_ 28 (d := d_lead_multiple) rfl
  obtain ⟨fd_one_solution, F_one_solution⟩ := c.def_ 29 (d := d_one_solution) rfl
  obtain ⟨fd_solved, F_solved⟩ := c.def_ 30 (d := d_solved) rfl
  obtain ⟨fd_solutions, F_solutions⟩ := c.def_ 31 (d := d_solutions) rfl
  obtain ⟨fd_meet_rows, F_meet_rows⟩ := c.def_ 32 (d := d_meet_rows) rfl
  obtain ⟨fd_Whole_and, F_Whole_and⟩ := c.def_ 33 (d := d_Whole_and) rfl
  obtain ⟨fd_Whole_eq, F_Whole_eq⟩ := c.def_ 34 (d := d_Whole_eq) rfl
  obtain ⟨fd_law_both_so, F_law_both_so⟩ := c.def_ 35 (d := d_law_both_so) rfl
  obtain ⟨fd_lies_in, F_lies_in⟩ := c.def_ 36 (d := d_lies_in) rfl
  obtain ⟨fd_Whole_within, F_Whole_within⟩ := c.def_ 37 (d := d_Whole_within) rfl
  obtain ⟨fd_law, F_law⟩ := c.def_ 38 (d := d_law) rfl
  have G_law := He.glo_ok X G (c.fact 0 (f := .glo "law") rfl)
  have G_law_bag := He.glo_ok X G (c.fact 1 (f := .glo "_law_bag") rfl)
  have G_law_draw := He.glo_ok X G (c.fact 2 (f := .glo "_law_draw") rfl)
  have G_law_of := He.glo_ok X G (c.fact 3 (f := .glo "_law_of") rfl)
  have G_law_deep := He.glo_ok X G (c.fact 4 (f := .glo "_law_deep") rfl)
  have G_law_rows := He.glo_ok X G (c.fact 5 (f := .glo "_law_rows") rfl)
  have G_law_parts := He.glo_ok X G (c.fact 6 (f := .glo "_law_parts") rfl)
  have G_law_gcd := He.glo_ok X G (c.fact 7 (f := .glo "_law_gcd") rfl)
  have G_law_thin := He.glo_ok X G (c.fact 8 (f := .glo "_law_thin") rfl)
  have G_law_clear := He.glo_ok X G (c.fact 9 (f := .glo "_law_clear") rfl)
  have G_law_told := He.glo_ok X G (c.fact 10 (f := .glo "_law_told") rfl)
  have G_law_int := He.glo_ok X G (c.fact 11 (f := .glo "_law_int") rfl)
  have G_law_like := He.glo_ok X G (c.fact 12 (f := .glo "_law_like") rfl)
  have G_law_zeros := He.glo_ok X G (c.fact 13 (f := .glo "_law_zeros") rfl)
  have G_law_meet := He.glo_ok X G (c.fact 14 (f := .glo "_law_meet") rfl)
  have G_law_rows_text := He.glo_ok X G (c.fact 15 (f := .glo "_law_rows_text") rfl)
  have G_law_is_whole := He.glo_ok X G (c.fact 16 (f := .glo "_law_is_whole") rfl)
  have G_primitive_row := He.glo_ok X G (c.fact 17 (f := .glo "primitive_row") rfl)
  have G_first_with := He.glo_ok X G (c.fact 18 (f := .glo "first_with") rfl)
  have G_led_row := He.glo_ok X G (c.fact 19 (f := .glo "led_row") rfl)
  have G_struck := He.glo_ok X G (c.fact 20 (f := .glo "struck") rfl)
  have G_echelon := He.glo_ok X G (c.fact 21 (f := .glo "echelon") rfl)
  have G_integer_text := He.glo_ok X G (c.fact 22 (f := .glo "integer_text") rfl)
  have G_row_text := He.glo_ok X G (c.fact 23 (f := .glo "row_text") rfl)
  have G_rows_text := He.glo_ok X G (c.fact 24 (f := .glo "rows_text") rfl)
  have G_lead_place := He.glo_ok X G (c.fact 25 (f := .glo "lead_place") rfl)
  have G_lead_multiple := He.glo_ok X G (c.fact 26 (f := .glo "lead_multiple") rfl)
  have G_one_solution := He.glo_ok X G (c.fact 27 (f := .glo "one_solution") rfl)
  have G_solved := He.glo_ok X G (c.fact 28 (f := .glo "solved") rfl)
  have G_solutions := He.glo_ok X G (c.fact 29 (f := .glo "solutions") rfl)
  have G_meet_rows := He.glo_ok X G (c.fact 30 (f := .glo "meet_rows") rfl)
  have G_law_both_so := He.glo_ok X G (c.fact 31 (f := .glo "_law_both_so") rfl)
  have G_lies_in := He.glo_ok X G (c.fact 32 (f := .glo "lies_in") rfl)
  have G_Whole := He.glo_ok X G (c.fact 33 (f := .glo "Whole") rfl)
  have W : Fr mg := ⟨He.free_ok X G (c.fact 34 (f := .free "int") rfl), He.free_ok X G (c.fact 35 (f := .free "list") rfl), He.free_ok X G (c.fact 36 (f := .free "len") rfl), He.free_ok X G (c.fact 37 (f := .free "range") rfl), He.free_ok X G (c.fact 38 (f := .free "zip") rfl), He.free_ok X G (c.fact 39 (f := .free "tuple") rfl), He.free_ok X G (c.fact 40 (f := .free "abs") rfl), He.free_ok X G (c.fact 41 (f := .free "isinstance") rfl), He.free_ok X G (c.fact 42 (f := .free "bool") rfl), He.free_ok X G (c.fact 43 (f := .free "str") rfl), He.free_ok X G (c.fact 44 (f := .free "all") rfl), He.free_ok X G (c.fact 45 (f := .free "enumerate") rfl), He.free_ok X G (c.fact 46 (f := .free "any") rfl), He.free_ok X G (c.fact 47 (f := .free "divmod") rfl)⟩
  have C_LIMIT := He.int_ok X G (c.fact 48 (f := .int "LIMIT" 1000000000000000000000000000000000000000000000000000000000000) rfl)
  have M_gcd : mg "gcd" = some (.builtin "math.gcd") := gcd12 X G c.all.2.2.2
  have M_lcm : mg "lcm" = some (.builtin "math.lcm") := lcm12 X G c.all.2.2.2
  have SF_Whole := sf12 c.all.2.2.2
  have CF : ClsF CLw K := cf12 c.all.2.2.2
  have e := hfa.symm.trans G_law
  cases e
  have b := FunD.bindsA (ps := ["script"]) F_law fun _ _ _ _ _ _ us hl => match us, hl with | [_], _ => rfl
  refine ⟨fd_law, fun s v => b s [v] rfl, fun base _ _ => ?_⟩
  have D_law_bag : Fd (PySem.Challenge.rw_leastfetched_k12_whole_modular_law).prog w K mg base CX0 "_law_bag" 1 ["script"] (sp_law_bag K) := U.fd_of (st := s_law_bag) F_law_bag (ok_law_bag W F_law_bag) G_law_bag (fun _ _ _ _ _ _ us hl => match us, hl with | [_], _ => rfl)
  have D_law_draw : Fd (PySem.Challenge.rw_leastfetched_k12_whole_modular_law).prog w K mg base CX0 "_law_draw" 1 ["bag", "size"] (sp_law_draw K) := U.fd_of (st := s_law_draw) F_law_draw (ok_law_draw W F_law_draw) G_law_draw (fun _ _ _ _ _ _ us hl => match us, hl with | [_, _], _ => rfl)
  have D_law_of : Fd (PySem.Challenge.rw_leastfetched_k12_whole_modular_law).prog w K mg base CX0 "_law_of" 2 ["bag", "things"] (sp_law_of K) := U.fd_of (st := s_law_of) F_law_of (ok_law_of W D_law_draw F_law_of) G_law_of (fun _ _ _ _ _ _ us hl => match us, hl with | [_, _], _ => rfl)
  have D_law_deep : Fd (PySem.Challenge.rw_leastfetched_k12_whole_modular_law).prog w K mg base CX0 "_law_deep" 3 ["bag"] (sp_law_deep K) := U.fd_of (st := s_law_deep) F_law_deep (ok_law_deep W D_law_of F_law_deep) G_law_deep (fun _ _ _ _ _ _ us hl => match us, hl with | [_], _ => rfl)
  have D_law_rows : Fd (PySem.Challenge.rw_leastfetched_k12_whole_modular_law).prog w K mg base CX0 "_law_rows" 3 ["bag", "d", "many"] (sp_law_rows K) := U.fd_of (st := s_law_rows) F_law_rows (ok_law_rows W D_law_draw D_law_of F_law_rows) G_law_rows (fun _ _ _ _ _ _ us hl => match us, hl with | [_, _, _], _ => rfl)
  have D_law_parts : Fd (PySem.Challenge.rw_leastfetched_k12_whole_modular_law).prog w K mg base CX0 "_law_parts" 3 ["bag", "base", "d"] (sp_law_parts K) := U.fd_of (st := s_law_parts) F_law_parts (ok_law_parts W D_law_of F_law_parts) G_law_parts (fun _ _ _ _ _ _ us hl => match us, hl with | [_, _, _], _ => rfl)
  have D_law_gcd : Fd (PySem.Challenge.rw_leastfetched_k12_whole_modular_law).prog w K mg base CX0 "_law_gcd" 1 ["a", "b"] (sp_law_gcd K) := U.fd_of (st := s_law_gcd) F_law_gcd (ok_law_gcd W F_law_gcd) G_law_gcd (fun _ _ _ _ _ _ us hl => match us, hl with | [_, _], _ => rfl)
  have D_law_thin : Fd (PySem.Challenge.rw_leastfetched_k12_whole_modular_law).prog w K mg base CX0 "_law_thin" 2 ["row"] (sp_law_thin K) := U.fd_of (st := s_law_thin) F_law_thin (ok_law_thin W D_law_gcd F_law_thin) G_law_thin (fun _ _ _ _ _ _ us hl => match us, hl with | [_], _ => rfl)
  have D_law_clear : Fd (PySem.Challenge.rw_leastfetched_k12_whole_modular_law).prog w K mg base CX0 "_law_clear" 3 ["row", "by", "col"] (sp_law_clear K) := U.fd_of (st := s_law_clear) F_law_clear (ok_law_clear W D_law_thin F_law_clear) G_law_clear (fun _ _ _ _ _ _ us hl => match us, hl with | [_, _, _], _ => rfl)
  have D_law_told : Fd (PySem.Challenge.rw_leastfetched_k12_whole_modular_law).prog w K mg base CX0 "_law_told" 4 ["base", "d"] (sp_law_told K) := U.fd_of (st := s_law_told) F_law_told (ok_law_told W D_law_thin D_law_clear F_law_told) G_law_told (fun _ _ _ _ _ _ us hl => match us, hl with | [_, _], _ => rfl)
  have D_law_int : Fd (PySem.Challenge.rw_leastfetched_k12_whole_modular_law).prog w K mg base CX0 "_law_int" 1 ["v"] (sp_law_int K) := U.fd_of (st := s_law_int) F_law_int (ok_law_int W F_law_int) G_law_int (fun _ _ _ _ _ _ us hl => match us, hl with | [_], _ => rfl)
  have D_law_like : Fd (PySem.Challenge.rw_leastfetched_k12_whole_modular_law).prog w K mg base CX0 "_law_like" (2 + 12) ["told", "due"] (sp_law_like K 12) := U.fd_of (st := s_law_like) F_law_like (ok_law_like W D_law_int F_law_like G_law_like 12) G_law_like (fun _ _ _ _ _ _ us hl => match us, hl with | [_, _], _ => rfl)
  have D_law_zeros : Fd (PySem.Challenge.rw_leastfetched_k12_whole_modular_law).prog w K mg base CX0 "_law_zeros" 5 ["base", "d"] (sp_law_zeros K) := U.fd_of (st := s_law_zeros) F_law_zeros (ok_law_zeros W D_law_told F_law_zeros) G_law_zeros (fun _ _ _ _ _ _ us hl => match us, hl with | [_, _], _ => rfl)
  have D_law_meet : Fd (PySem.Challenge.rw_leastfetched_k12_whole_modular_law).prog w K mg base CX0 "_law_meet" 6 ["one", "two", "d"] (sp_law_meet K) := U.fd_of (st := s_law_meet) F_law_meet (ok_law_meet W D_law_zeros D_law_told F_law_meet) G_law_meet (fun _ _ _ _ _ _ us hl => match us, hl with | [_, _, _], _ => rfl)
  have D_law_rows_text : Fd (PySem.Challenge.rw_leastfetched_k12_whole_modular_law).prog w K mg base CX0 "_law_rows_text" 1 ["base"] (sp_law_rows_text K) := U.fd_of (st := s_law_rows_text) F_law_rows_text (ok_law_rows_text W F_law_rows_text) G_law_rows_text (fun _ _ _ _ _ _ us hl => match us, hl with | [_], _ => rfl)
  have M_Whole_told : Md (PySem.Challenge.rw_leastfetched_k12_whole_modular_law).prog w K mg base (He.ga K "Whole") "told" 1 ["self"] (sp_Whole_told K) := ⟨⟨_, _, (ok_Whole_told W CF F_Whole_told), He.cls_ok (c.fact 50 (f := .cls "Whole") rfl), He.meth_ok (c.fact 51 (f := .meth "Whole" "told") rfl), (FunD.bindsN F_Whole_told (fun _ _ _ _ _ _ us hl => match us, hl with | [_], _ => rfl))⟩⟩
  have D_law_is_whole : Fd (PySem.Challenge.rw_leastfetched_k12_whole_modular_law).prog w K mg base CX0 "_law_is_whole" 15 ["told", "d", "base"] (sp_law_is_whole K) := U.fd_of (st := s_law_is_whole) F_law_is_whole (ok_law_is_whole W G_Whole D_law_like D_law_rows_text M_Whole_told CF F_law_is_whole) G_law_is_whole (fun _ _ _ _ _ _ us hl => match us, hl with | [_, _, _], _ => rfl)
  have D_primitive_row : Fd (PySem.Challenge.rw_leastfetched_k12_whole_modular_law).prog w K mg base CX0 "primitive_row" 1 ["row"] (sp_primitive_row K) := U.fd_of (st := s_primitive_row) F_primitive_row (ok_primitive_row W M_gcd F_primitive_row) G_primitive_row (fun _ _ _ _ _ _ us hl => match us, hl with | [_], _ => rfl)
  have D_first_with : Fd (PySem.Challenge.rw_leastfetched_k12_whole_modular_law).prog w K mg base CX0 "first_with" 1 ["rows", "place"] (sp_first_with K) := U.fd_of (st := s_first_with) F_first_with (ok_first_with W F_first_with) G_first_with (fun _ _ _ _ _ _ us hl => match us, hl with | [_, _], _ => rfl)
  have D_led_row : Fd (PySem.Challenge.rw_leastfetched_k12_whole_modular_law).prog w K mg base CX0 "led_row" 1 ["row", "place"] (sp_led_row K) := U.fd_of (st := s_led_row) F_led_row (ok_led_row W F_led_row) G_led_row (fun _ _ _ _ _ _ us hl => match us, hl with | [_, _], _ => rfl)
  have D_struck : Fd (PySem.Challenge.rw_leastfetched_k12_whole_modular_law).prog w K mg base CX0 "struck" 2 ["row", "lead", "place"] (sp_struck K) := U.fd_of (st := s_struck) F_struck (ok_struck W D_primitive_row F_struck) G_struck (fun _ _ _ _ _ _ us hl => match us, hl with | [_, _, _], _ => rfl)
  have D_echelon : Fd (PySem.Challenge.rw_leastfetched_k12_whole_modular_law).prog w K mg base CX0 "echelon" 3 ["deep", "rows"] (sp_echelon K) := U.fd_of (st := s_echelon) F_echelon (ok_echelon W D_primitive_row D_first_with D_led_row D_struck F_echelon) G_echelon (fun _ _ _ _ _ _ us hl => match us, hl with | [_, _], _ => rfl)
  have D_integer_text : Fd (PySem.Challenge.rw_leastfetched_k12_whole_modular_law).prog w K mg base CX0 "integer_text" 1 ["value"] (sp_integer_text K) := U.fd_of (st := s_integer_text) F_integer_text (ok_integer_text W C_LIMIT F_integer_text) G_integer_text (fun _ _ _ _ _ _ us hl => match us, hl with | [_], _ => rfl)
  have D_row_text : Fd (PySem.Challenge.rw_leastfetched_k12_whole_modular_law).prog w K mg base CX0 "row_text" 2 ["row"] (sp_row_text K) := U.fd_of (st := s_row_text) F_row_text (ok_row_text W D_integer_text F_row_text) G_row_text (fun _ _ _ _ _ _ us hl => match us, hl with | [_], _ => rfl)
  have D_rows_text : Fd (PySem.Challenge.rw_leastfetched_k12_whole_modular_law).prog w K mg base CX0 "rows_text" 3 ["rows"] (sp_rows_text K) := U.fd_of (st := s_rows_text) F_rows_text (ok_rows_text W D_row_text F_rows_text) G_rows_text (fun _ _ _ _ _ _ us hl => match us, hl with | [_], _ => rfl)
  have N_Whole : Nd (PySem.Challenge.rw_leastfetched_k12_whole_modular_law).prog w K mg base "Whole" (He.ga K "Whole") 4 ["self", "deep", "rows"] (sp_Whole_init K) := ⟨⟨_, _, (ok_Whole_init W D_echelon D_rows_text CF F_Whole_init), G_Whole, He.mkr_ok (c.fact 49 (f := .mkr "Whole") rfl), (FunD.bindsN F_Whole_init (fun _ _ _ _ _ _ us hl => match us, hl with | [_, _, _], _ => rfl))⟩, by decide⟩
  have M_Whole_add : Md (PySem.Challenge.rw_leastfetched_k12_whole_modular_law).prog w K mg base (He.ga K "Whole") "__add__" 6 ["self", "other"] (sp_Whole_add K) := ⟨⟨_, _, (ok_Whole_add W N_Whole CF F_Whole_add), He.cls_ok (c.fact 50 (f := .cls "Whole") rfl), He.meth_ok (c.fact 52 (f := .meth "Whole" "__add__") rfl), (FunD.bindsN F_Whole_add (fun _ _ _ _ _ _ us hl => match us, hl with | [_, _], _ => rfl))⟩⟩
  have D_lead_place : Fd (PySem.Challenge.rw_leastfetched_k12_whole_modular_law).prog w K mg base CX0 "lead_place" 1 ["row"] (sp_lead_place K) := U.fd_of (st := s_lead_place) F_lead_place (ok_lead_place W F_lead_place) G_lead_place (fun _ _ _ _ _ _ us hl => match us, hl with | [_], _ => rfl)
  have D_lead_multiple : Fd (PySem.Challenge.rw_leastfetched_k12_whole_modular_law).prog w K mg base CX0 "lead_multiple" 2 ["told"] (sp_lead_multiple K) := U.fd_of (st := s_lead_multiple) F_lead_multiple (ok_lead_multiple W M_lcm D_lead_place F_lead_multiple) G_lead_multiple (fun _ _ _ _ _ _ us hl => match us, hl with | [_], _ => rfl)
  have D_one_solution : Fd (PySem.Challenge.rw_leastfetched_k12_whole_modular_law).prog w K mg base CX0 "one_solution" 3 ["deep", "told", "free"] (sp_one_solution K) := U.fd_of (st := s_one_solution) F_one_solution (ok_one_solution W D_lead_multiple D_lead_place F_one_solution) G_one_solution (fun _ _ _ _ _ _ us hl => match us, hl with | [_, _, _], _ => rfl)
  have D_solved : Fd (PySem.Challenge.rw_leastfetched_k12_whole_modular_law).prog w K mg base CX0 "solved" 4 ["deep", "told"] (sp_solved K) := U.fd_of (st := s_solved) F_solved (ok_solved W D_lead_place D_echelon D_one_solution F_solved) G_solved (fun _ _ _ _ _ _ us hl => match us, hl with | [_, _], _ => rfl)
  have D_solutions : Fd (PySem.Challenge.rw_leastfetched_k12_whole_modular_law).prog w K mg base CX0 "solutions" 5 ["deep", "equations"] (sp_solutions K) := U.fd_of (st := s_solutions) F_solutions (ok_solutions W D_solved D_echelon F_solutions) G_solutions (fun _ _ _ _ _ _ us hl => match us, hl with | [_, _], _ => rfl)
  have D_meet_rows : Fd (PySem.Challenge.rw_leastfetched_k12_whole_modular_law).prog w K mg base CX0 "meet_rows" 6 ["deep", "parts"] (sp_meet_rows K) := U.fd_of (st := s_meet_rows) F_meet_rows (ok_meet_rows W D_solutions D_solved F_meet_rows) G_meet_rows (fun _ _ _ _ _ _ us hl => match us, hl with | [_, _], _ => rfl)
  have M_Whole_and : Md (PySem.Challenge.rw_leastfetched_k12_whole_modular_law).prog w K mg base (He.ga K "Whole") "__and__" 7 ["self", "other"] (sp_Whole_and K) := ⟨⟨_, _, (ok_Whole_and W D_meet_rows N_Whole CF F_Whole_and), He.cls_ok (c.fact 50 (f := .cls "Whole") rfl), He.meth_ok (c.fact 53 (f := .meth "Whole" "__and__") rfl), (FunD.bindsN F_Whole_and (fun _ _ _ _ _ _ us hl => match us, hl with | [_, _], _ => rfl))⟩⟩
  have M_Whole_eq : Md (PySem.Challenge.rw_leastfetched_k12_whole_modular_law).prog w K mg base (He.ga K "Whole") "__eq__" 1 ["self", "other"] (sp_Whole_eq K) := ⟨⟨_, _, (ok_Whole_eq W G_Whole CF F_Whole_eq), He.cls_ok (c.fact 50 (f := .cls "Whole") rfl), He.meth_ok (c.fact 54 (f := .meth "Whole" "__eq__") rfl), (FunD.bindsN F_Whole_eq (fun _ _ _ _ _ _ us hl => match us, hl with | [_, _], _ => rfl))⟩⟩
  have D_law_both_so : Fd (PySem.Challenge.rw_leastfetched_k12_whole_modular_law).prog w K mg base CX0 "_law_both_so" 16 ["a", "b", "c", "one", "two", "three", "d"] (sp_law_both_so K) := U.fd_of (st := s_law_both_so) F_law_both_so (ok_law_both_so W SF_Whole D_law_told D_law_meet D_law_is_whole D_law_like M_Whole_add M_Whole_and M_Whole_eq CF F_law_both_so) G_law_both_so (fun _ _ _ _ _ _ us hl => match us, hl with | [_, _, _, _, _, _, _], _ => rfl)
  have D_lies_in : Fd (PySem.Challenge.rw_leastfetched_k12_whole_modular_law).prog w K mg base CX0 "lies_in" 3 ["told", "row"] (sp_lies_in K) := U.fd_of (st := s_lies_in) F_lies_in (ok_lies_in W D_lead_multiple D_lead_place F_lies_in) G_lies_in (fun _ _ _ _ _ _ us hl => match us, hl with | [_, _], _ => rfl)
  have M_Whole_within : Md (PySem.Challenge.rw_leastfetched_k12_whole_modular_law).prog w K mg base (He.ga K "Whole") "within" 4 ["self", "other"] (sp_Whole_within K) := ⟨⟨_, _, (ok_Whole_within W D_lies_in CF F_Whole_within), He.cls_ok (c.fact 50 (f := .cls "Whole") rfl), He.meth_ok (c.fact 55 (f := .meth "Whole" "within") rfl), (FunD.bindsN F_Whole_within (fun _ _ _ _ _ _ us hl => match us, hl with | [_, _], _ => rfl))⟩⟩
  exact ok_law W SF_Whole D_law_bag D_law_deep D_law_rows D_law_of D_law_parts D_law_draw D_law_told D_law_like D_law_both_so N_Whole M_Whole_within M_Whole_eq M_Whole_add M_Whole_and CF F_law
end D
open PySem PySem.W PySem.Calls PyProof.Rows
theorem PySem.Challenge.cw_leastfetched_k12_whole_modular_law_holds : PySem.Challenge.rw_leastfetched_k12_whole_modular_law.Holds := by
  w_on; o_law
  refine HandSHeadRun.head_imp (r := OpenLaw.row PySem.Challenge.rw_leastfetched_k12_whole_modular_law) (q := view (OpenLaw.row PySem.Challenge.rw_leastfetched_k12_whole_modular_law).prog [0, 45]) (H := D.hk) (ob := D.ob) (M := 20000) (loose := D.loose) (d := HandSHeadRun.topDef (OpenLaw.row PySem.Challenge.rw_leastfetched_k12_whole_modular_law).prog 45) (kwd := []) D.ob_eq
    D.run (by kernel_rfl) (by kernel_rfl) (by kernel_rfl) (by rfl) (by first | assumption | decide +kernel) (by decide +kernel) ⟨rfl, rfl, rfl, rfl, rfl, by decide +kernel⟩ ?hw ?hc
  case hw => w_witness2
  case hc =>
    refine L2.walk_ofE (l := PySem.Challenge.rw_leastfetched_k12_whole_modular_law) (n := 63) (k := 17) (x := "script") (CX := L2.CX0) rfl (by decide) (by kernel_rfl) ⟨rfl, by decide, by decide⟩ ?F (fun _ _ _ _ z => z)
    intro w mg fa h Y G hmg0
    obtain ⟨K, KX, c⟩ := Y
    have hmg : mg ("law" : PySem.Str) = some (.ref fa) := by
      have e : (HandSHeadRun.topDef (OpenLaw.row PySem.Challenge.rw_leastfetched_k12_whole_modular_law).prog 45).name = ("law" : PySem.Str) := by kernel_rfl
      rw [← e]
      exact hmg0
    obtain ⟨fd, hb, hF⟩ := D.facts (w := w) KX G hmg c
    exact ⟨K, fd, C.sp_law12 K, KX, hb, fun H a ns hl _ hS => ⟨a, ns, rfl, hS, fun _ => rfl⟩, hF⟩
end
