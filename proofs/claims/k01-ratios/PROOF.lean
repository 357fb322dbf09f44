import PyProof.Rows.All
import Wide.All
import OpenK.AllK
import Wide.FinOn
import KE.KStateDown
import Lean
import HandS.ForSpec
import HandS.Defaults
import HandS.Head0
import HandS.Head1
import HandS.Head2
import HandS.Head3
import HandS.HeadEnd
import HandS.HeadHook1
import HandS.HeadHook2
import KE.KExcSuper
import HandS.ExcInit
import KE.KExcIs
import HandS.IsInst
import HandS.HeadNt
import HandS.ForMost
import HandS.Exc
import HandS.TryOnly
import HandS.TryMany
import HandS.ExcOwn
import HandS.WordsExc
import HandS.Flow
import HandS.Style
import HandS.Zip
import HandS.Wide
import HandS.RaiseOp
import HandS.Deep
import HandS.Walk
import HandS.Conv
import HandS.TupAny
import HandS.ClsMeth
import HandS.OwnEq
import HandS.Gcd
import HandS.Text
import HandS.MakeKw
import KE.GoesZip
import KE.GoesMore
import OpenK.KMeth
import KE.KOpsOwn
import KE.KMathG
import HandS.DictComp
import HandS.StrMore
import HandS.WideBits
import HandS.Dict
import KE.GoesEnum
import HandS.List
import OpenK.KMake
import HandS.TupMul
import PyProof.Rows.StrOr
import HandS.Star
import OpenK.KOps
import HandS.ExcCtx
import HandS.HotCalls
import HandS.ExcField
import HandS.FStr
import PyProof.CallFns
import HandS.ReplaceLit
import HandS.Iter
import PyProof.Rows.StrRev
import PyProof.StrOps2
import PySem.Challenge.RW_leastfetched_k01_ratios_beside_pairs
set_option Elab.async false
set_option linter.all false
set_option maxRecDepth 100000

section
set_option Elab.async false
set_option linter.all false
set_option maxRecDepth 100000
set_option maxHeartbeats 4000000
/-! Own exception classes whose __init__ is: super().__init__('text'), then self.f = f or self.f = 'text', one by one. -/
namespace FK
open PySem PySem.W PySem.Calls PyProof.Rows

/-- a family: the built-in class above -/
structure Fam (B newId initId : String) (bmB : List Value) : Prop where
  base : ExcBaseFacts B newId initId bmB
  kxs : KxsFacts B initId
  st : StoreFacts B bmB "object.__setattr__" "object"
abbrev bmV : List Value := [.type "ValueError", .type "Exception", .type "BaseException", .type "object"]
abbrev bmL : List Value := [.type "LookupError", .type "Exception", .type "BaseException", .type "object"]
abbrev bmR : List Value := [.type "RuntimeError", .type "Exception", .type "BaseException", .type "object"]
theorem famV : Fam "ValueError" "ValueError.__new__" "ValueError.__init__" bmV := ⟨F.excBase_ValueError, kxs_ValueError, F.store_ValueError⟩
theorem famL : Fam "LookupError" "LookupError.__new__" "LookupError.__init__" bmL := ⟨F.excBase_LookupError, kxs_LookupError, F.store_LookupError⟩
theorem famR : Fam "RuntimeError" "RuntimeError.__new__" "RuntimeError.__init__" bmR := ⟨F.excBase_RuntimeError, kxs_RuntimeError, F.store_RuntimeError⟩

/-- a field's value: the i-th parameter, or a text -/
inductive Src where
  | par (x : Str)
  | txt (x : Str)
  deriving DecidableEq
/-- self.f = x | self.f = 'text' -/
def fieldOf : Stmt → Option (Str × Src)
  | .Assign [.Attribute (.Name s _) f _] (.Name x _) _ => if s = "self" then some (f, .par x) else none
  | .Assign [.Attribute (.Name s _) f _] (.Constant (.str x) _ _) _ => if s = "self" then some (f, .txt x) else none
  | _ => none
/-- the statements' fields, all or none -/
def fieldsOf : List Stmt → Option (List (Str × Src))
  | [] => some []
  | st :: r => match fieldOf st, fieldsOf r with
    | some a, some l => some (a :: l)
    | _, _ => none
theorem fieldOf_cases {st : Stmt} {f : Str} {sr : Src} (h : fieldOf st = some (f, sr)) :
    (∃ x p1 p2 p3 p4, st = .Assign [.Attribute (.Name "self" p1) f p2] (.Name x p3) p4 ∧ sr = .par x) ∨
    (∃ x p1 p2 k p3 p4, st = .Assign [.Attribute (.Name "self" p1) f p2] (.Constant (.str x) k p3) p4 ∧ sr = .txt x) := by
  unfold fieldOf at h
  split at h
  · split at h
    · rename_i e
      subst e
      cases h
      exact .inl ⟨_, _, _, _, _, rfl, rfl⟩
    · cases h
  · split at h
    · rename_i e
      subst e
      cases h
      exact .inr ⟨_, _, _, _, _, _, rfl, rfl⟩
    · cases h
  · cases h

/-- what the written part says of the class at C -/
structure Cl (K : Frag) (C : Addr) (B newId : String) (bmB : List Value) : Prop where
  ini : excInitIn K C bmB newId = true
  over : excOver K C bmB = true
  sa : findIn K (.ref C) "__setattr__" = some (some (.builtin "object.__setattr__"))
  dict : hasDictIn K C = true
  subB : subIn K (.ref C) (.type B) = some true
  sup : ks_superIn K C C "__init__" = some (some (.builtin (B ++ ".__init__")))

section
variable {prog : Program} {w : World} {A : Around} {E : Value → Shared → Prop} {R : Result → Shared → Prop} {K : Frag} {C x : Addr} {B newId initId : String} {bmB : List Value} {g : Array GenState} {d : Drawn} {t : Nat} {os : OsState} {hp : Heap}

/-- an exception's record at x, its dict d -/
abbrev xo (C t0 : Addr) (d : Option Addr) : Obj := { cls := .ref C, dict := d, data := .fields #[.ref t0, .none, .none, .none, .bool false, .none] }

theorem taker_of {f : Str} (h : findIn K (.ref C) f = some none) : takerIn K C f = some none := L2.NoAttr.taker h

theorem set_first {t0 : Addr} {f : Str} {v : Value} {Q : Unit → Shared → Prop} (FM : Fam B newId initId bmB) (T : Cl K C B newId bmB) (X : K.In hp) (hx : hp.get? x = some (xo C t0 none)) (hno : findIn K (.ref C) f = some none)
    (hq : ∀ h' tk' dx, (∀ b o, b ≠ x → hp.get? b = some o → h'.get? b = some o) → hp.objs.size ≤ dx → dx ≠ x → h'.get? x = some (xo C t0 (some dx)) →
      h'.Ns1 dx (fun y => if y = f then some v else none) → Q () ⟨h', g, d, tk', os⟩) :
    wpAny (model prog w) A (setAttr (.ref x) f v) Q E ⟨hp, g, d, t, os⟩ := by
  have I : InstAt hp x (xo C t0 none) C none := ⟨hx, rfl, rfl, trivial⟩
  obtain ⟨cd, hc, hd⟩ := any_some T.dict
  have hxs : x ≠ hp.objs.size := Nat.ne_of_lt (Heap.lt_size hx)
  refine set_plain X I T.sa (osa_openX (od := none) FM.st X I T.over (taker_of hno) fun b => ?_)
  have hcls : Looks (model prog w) hp (classData C) cd := looks_clsIn X hc
  refine wpAny_bind (wpAny_pure (wpAny_bind (instanceDict_exc hx hcls hd ?_)))
  show wpAny _ _ (Builtin.ObjectAttr.storeInDict hp.objs.size (.str f t) f v) _ _ _
  refine PySem.HandSPX.store_in_new ⟨_, #[], _, (Heap.get?_update_ne _ _ _ _ hxs.symm).trans (Heap.get?_push_at rfl rfl), rfl, fun e he => absurd he (by simp), fun _ => rfl⟩ fun h' tk' hn' hs => ?_
  have hx1 : (hp.push { cls := .type "dict", data := .dict #[] }).get? x = some (xo C t0 none) := Heap.get?_push_of_some _ hx
  exact hq h' tk' hp.objs.size (fun b o hb ho => (hs.2 b (Nat.ne_of_lt (Heap.lt_size ho))).trans ((Heap.get?_update_ne _ _ _ _ hb).trans (Heap.get?_push_of_some _ ho))) (Nat.le_refl _) hxs.symm
    ((hs.2 x hxs).trans (Heap.get?_update_self _ hx1 rfl)) hn'
theorem set_next {t0 dx : Addr} {f : Str} {v : Value} {m0 : Str → Option Value} {nl : List Str} {Q : Unit → Shared → Prop} (FM : Fam B newId initId bmB) (T : Cl K C B newId bmB) (X : K.In hp) (hx : hp.get? x = some (xo C t0 (some dx))) (hns : hp.Ns1 dx m0) (hw : Within m0 nl) (hz : nl.length ≤ 900)
    (hno : findIn K (.ref C) f = some none)
    (hq : ∀ h' tk', (∀ b o, b ≠ dx → hp.get? b = some o → h'.get? b = some o) → h'.Ns1 dx (fun y => if y = f then some v else m0 y) → Q () ⟨h', g, d, tk', os⟩) :
    wpAny (model prog w) A (setAttr (.ref x) f v) Q E ⟨hp, g, d, t, os⟩ := by
  obtain ⟨oD, esD, epD, hoD, hdD, _⟩ := hns.count hw
  have I : InstAt hp x (xo C t0 (some dx)) C (some oD) := ⟨hx, rfl, rfl, hoD⟩
  obtain ⟨cd, hc, hd⟩ := any_some T.dict
  refine set_plain X I T.sa (osa_openX FM.st X I T.over (taker_of hno) fun b => ?_)
  have hcls : Looks (model prog w) hp (classData C) cd := looks_clsIn X hc
  refine wpAny_bind (wpAny_pure (wpAny_bind (wpAny_bind (wpAny_loadPart hx (wpAny_bind (hcls.here ?_))))))
  rw [hd]
  refine wpAny_pure (a := some dx) ?_
  refine PySem.OEX.store_in_old hns hw (by omega) fun h' tk' hn' hs => ?_
  exact hq h' tk' (fun b o hb ho => (hs.2 b hb).trans ho) hn'

/-! ### the stores, one behind the other -/
/-- the fields behind the statements, the last one first -/
def put (ev : Str → Option L2.V) : List (Str × Src) → List (Str × L2.V) → List (Str × L2.V)
  | [], fs => fs
  | (f, .par y) :: r, fs => put ev r ((f, (ev y).getD .non) :: fs)
  | (f, .txt c) :: r, fs => put ev r ((f, .str c) :: fs)
/-- while __init__ runs: hb the heap at its call, x the exception, d its dict so far -/
structure Cur (hb hp : Heap) (L x C : Addr) (ml : Str → Option Value) (d : Option Addr) (fs : List (Str × L2.V)) : Prop where
  keep : ∀ b o, b ≠ x → hb.get? b = some o → hp.get? b = some o
  ns : hp.Ns L ml
  obj : ∃ t0, hp.get? x = some (xo C t0 d)
  dic : match d with
    | none => fs = [] ∧ hb.objs.size ≤ hp.objs.size
    | some dx => hb.objs.size ≤ dx ∧ dx ≠ x ∧ dx ≠ L ∧ ∃ mA, hp.Ns1 dx mA ∧ ∀ f, L2.RelO (fs.lookup f) (mA f)
theorem in_but {hb hp : Heap} {x : Addr} (X : K.In hb) (hx : K.lookup x = none) (k : ∀ b o, b ≠ x → hb.get? b = some o → hp.get? b = some o) : K.In hp := fun a o e =>
  k a o (fun z => by rw [z, hx] at e; cases e) (X a o e)
theorem ns_at {h h' : Heap} {a : Addr} {m : Str → Option Value} (n : h.Ns a m) (k : ∀ o, h.get? a = some o → h'.get? a = some o) : h'.Ns a m := by
  obtain ⟨o, es, ep, e, r⟩ := n
  exact ⟨o, es, ep, k o e, r⟩
theorem ns_ne {h : Heap} {a x : Addr} {m : Str → Option Value} {C t0 : Addr} {d : Option Addr} (n : h.Ns a m) (hx : h.get? x = some (xo C t0 d)) : a ≠ x := fun z => by
  obtain ⟨o, es, ep, e, e2, r⟩ := n
  rw [z, hx] at e
  have z2 := Option.some.inj e
  subst z2
  cases e2
/-- one store -/
theorem cur_store {hb : Heap} {L : Addr} {ml : Str → Option Value} {dd : Option Addr} {fs : List (Str × L2.V)} {f : Str} {y : L2.V} {u : Value} {Q : Unit → Shared → Prop} (FM : Fam B newId initId bmB) (T : Cl K C B newId bmB)
    (X : K.In hb) (hnx : K.lookup x = none) (c : Cur hb hp L x C ml dd fs) (hz : fs.length ≤ 800) (hno : findIn K (.ref C) f = some none) (ry : L2.RelV y u)
    (hq : ∀ h' tk' dx, Cur hb h' L x C ml (some dx) ((f, y) :: fs) → Q () ⟨h', g, d, tk', os⟩) : wpAny (model prog w) A (setAttr (.ref x) f u) Q E ⟨hp, g, d, t, os⟩ := by
  obtain ⟨t0, hx⟩ := c.obj
  have X1 : K.In hp := in_but X hnx c.keep
  have nL := ns_ne c.ns hx
  have lL : L < hp.objs.size := c.ns.lt
  cases dd with
  | none =>
    obtain ⟨rfl, sz⟩ := c.dic
    refine set_first FM T X1 hx hno fun h' tk' dx k hd ne hx' hn' => hq h' tk' dx ⟨fun b o hb2 e => k b o hb2 (c.keep b o hb2 e), ns_at c.ns fun o e => k L o nL e, ⟨t0, hx'⟩, Nat.le_trans sz hd, ne, Nat.ne_of_gt (Nat.lt_of_lt_of_le lL hd), _, hn', ?_⟩
    exact L2.relO_put (fs := []) (mA := fun _ => none) ry fun g => True.intro
  | some dx =>
    obtain ⟨hd, ne, neL, mA, hn, rel⟩ := c.dic
    have hw := L2.within_of rel
    refine set_next FM T X1 hx hn hw (by rw [List.length_map]; omega) hno fun h' tk' k hn' => hq h' tk' dx ⟨fun b o hb2 e => ?_, ns_at c.ns fun o e => k L o (Ne.symm neL) e, ⟨t0, k x _ (Ne.symm ne) hx⟩, hd, ne, neL, _, hn', L2.relO_put ry rel⟩
    exact k b o (Nat.ne_of_lt (Nat.lt_of_lt_of_le (Heap.lt_size e) hd)) (c.keep b o hb2 e)
theorem run_fields {hb : Heap} {L : Addr} {ml : Str → Option Value} {ev : Str → Option L2.V} {env : Env} {Q : Flow → Shared → Prop} (FM : Fam B newId initId bmB) (T : Cl K C B newId bmB) (X : K.In hb) (hnx : K.lookup x = none)
    (hk : env.scope.kind = .function) (hL : env.locals = L) (hself : env.kindOf "self" = some .local) (hsv : ml "self" = some (.ref x)) :
    ∀ (l : List Stmt) (fl : List (Str × Src)), fieldsOf l = some fl → (∀ p ∈ fl, findIn K (.ref C) p.1 = some none) →
      (∀ p ∈ fl, ∀ y, p.2 = .par y → env.kindOf y = some .local ∧ (y == ("__debug__" : Str)) = false ∧ ∃ u v, ml y = some u ∧ ev y = some v ∧ L2.RelV v u) →
      ∀ (hp : Heap) (tk : Nat) (dd : Option Addr) (fs : List (Str × L2.V)), Cur hb hp L x C ml dd fs → fs.length + fl.length ≤ 800 →
      (∀ h' tk' d', Cur hb h' L x C ml d' (put ev fl fs) → Q .next ⟨h', g, d, tk', os⟩) → wpAny (model prog w) A (execs l env) Q E ⟨hp, g, d, tk, os⟩ := by
  intro l
  induction l with
  | nil =>
    intro fl e _ _ hp tk dd fs c _ hq
    cases e
    exact wpAny_execs_nil (hq hp tk dd c)
  | cons st r ih =>
    intro fl e hno hpar hp tk dd fs c hz hq
    unfold fieldsOf at e
    cases e1 : fieldOf st with
    | none => rw [e1] at e; cases e
    | some a =>
      cases e2 : fieldsOf r with
      | none => rw [e1, e2] at e; cases e
      | some lr =>
        rw [e1, e2] at e
        cases e
        obtain ⟨f, sr⟩ := a
        have hz1 : fs.length ≤ 800 := by omega
        have hz2 : (fs.length + 1) + lr.length ≤ 800 := by
          have : fs.length + (lr.length + 1) ≤ 800 := by simpa using hz
          omega
        have no1 := hno (f, sr) List.mem_cons_self
        have hno2 : ∀ p ∈ lr, findIn K (.ref C) p.1 = some none := fun p hp => hno p (List.mem_cons_of_mem _ hp)
        have hpar2 := fun p hp => hpar p (List.mem_cons_of_mem _ hp)
        rcases fieldOf_cases e1 with ⟨y, p1, p2, p3, p4, rfl, rfl⟩ | ⟨y, p1, p2, k, p3, p4, rfl, rfl⟩
        · obtain ⟨ky, dy, u, v, hu, hv, ruv⟩ := hpar (f, .par y) List.mem_cons_self y rfl
          refine wpAny_execs_cons (plainObj_wpAny_Assign_Attribute ?_)
          refine wpAny_Name (wpAny_loadName_local hk ky (hL ▸ c.ns) hu ?_) dy
          refine wpAny_Name (wpAny_loadName_local hk hself (hL ▸ c.ns) hsv ?_) (by decide)
          refine cur_store FM T X hnx c hz1 no1 ruv fun h' tk' dx c' => ?_
          refine ih lr e2 hno2 hpar2 h' tk' (some dx) _ c' hz2 fun h2 tk2 d2 c2 => ?_
          refine hq h2 tk2 d2 ?_
          show Cur hb h2 L x C ml d2 (put ev lr ((f, (ev y).getD .non) :: fs))
          rw [hv]
          exact c2
        · refine wpAny_execs_cons (plainObj_wpAny_Assign_Attribute ?_)
          refine Calls.Constant_str ?_
          refine wpAny_Name (wpAny_loadName_local hk hself (hL ▸ c.ns) hsv ?_) (by decide)
          refine cur_store (y := .str y) FM T X hnx c hz1 no1 ⟨_, rfl⟩ fun h' tk' dx c' => ?_
          exact ih lr e2 hno2 hpar2 h' tk' (some dx) _ c' hz2 fun h2 tk2 d2 c2 => hq h2 tk2 d2 c2

/-! ### super().__init__('text') -/
/-- super().__init__('text') -/
def superOf : Stmt → Bool
  | .Expr (.Call (.Attribute (.Call (.Name s _) [] [] _) f p) [.Constant (.str _) _ _] [] q) _ => (s = "super" && f = "__init__") && (p.endLine == q.line)
  | _ => false
theorem superOf_cases {st : Stmt} (h : superOf st = true) : ∃ p1 p2 p3 x k p4 p5 p6, st = .Expr (.Call (.Attribute (.Call (.Name "super" p1) [] [] p2) "__init__" p3) [.Constant (.str x) k p4] [] p5) p6 ∧ (p3.endLine == p5.line) = true := by
  unfold superOf at h
  split at h
  · rw [Bool.and_eq_true, Bool.and_eq_true] at h
    obtain ⟨⟨h1, h2⟩, h3⟩ := h
    have e1 := of_decide_eq_true h1
    have e2 := of_decide_eq_true h2
    subst e1 e2
    exact ⟨_, _, _, _, _, _, _, _, rfl, h3⟩
  · cases h

theorem super_call {o : Expr} {name tx : Str} {kk p4} {apos pos : Pos} {env : Env} (h : (apos.endLine == pos.line) = true) : eval (.Call (.Attribute o name apos) [.Constant (.str tx) kk p4] [] pos) env = (do
      let ov ← attributeBase o name env (eval o env)
      standAt apos.atName
      let (f, first) ← holding [ov] (getMethod ov name (do return (← importBound o env).getD true))
      callWith pos f first (backTo pos (starEach [.Constant (.str tx) kk p4] env)) []) := by
  rw [arm_eval_Call]
  have hf : methodCallForm ([Expr.Constant (.str tx) kk p4].length + ([] : List Keyword).length) (backTo pos (starEach [.Constant (.str tx) kk p4] env)) (backToKw pos (keywordEach [] env)) = true := by rfl
  unfold methodCall methodCallPos calleeOf
  rw [hf, h]
  rfl

theorem callWith_mw {M : Model} {s : Shared} {pos : Pos} {u : Addr} {i : String} {first : List Value} {args : List (Bool × Sem Value)} {Q : Value → Shared → Prop} (hplain : args.any (·.1) = false)
    (h : wpAny M A (evalArgs (.ref u) true args []) (fun ar s₁ => KxsAt i u x s₁.heap ∧ wpAny M A (call (.ref u) (first ++ ar.pos) ar.kw) Q E s₁) E s) : wpAny M A (callWith pos (.ref u) first args []) Q E s := kxs_callWith hplain h

/-- the wrapper called: the args are laid anew -/
theorem call_mw {u t0 : Addr} {rest : List Value} {Q : Value → Shared → Prop} (FM : Fam B newId initId bmB) (T : Cl K C B newId bmB) (X : K.In hp) (hx : hp.get? x = some (xo C t0 none)) (hu : hp.get? u = some (kxs_mw initId x)) (hz : rest.length ≤ sizeLine)
    (hq : ∀ h' t1, (∀ b o, b ≠ x → hp.get? b = some o → h'.get? b = some o) → h'.get? x = some (xo C t1 none) → hp.objs.size ≤ h'.objs.size → Q .none ⟨h', g, d, t, os⟩) :
    wpAny (model prog w) A (call (.ref u) rest) Q E ⟨hp, g, d, t, os⟩ := by
  obtain ⟨nm, N', qn, bs, bm, hdct, sn, sub, ab, col, dd, k0, k1, k2, k3, k5, hC, hT⟩ := excInit_of X T.ini
  refine wpAny_call (codeAny_of_tree ?_)
  show wpAny _ A.in1 (callAny (.ref u) ⟨rest, []⟩) _ _ _
  simp only [callAny]
  refine wpAny_bind (wpAny_load hu ?_)
  simp only [kxs_mw, show (Value.type "method-wrapper" == Value.type "method" || Value.type "method-wrapper" == Value.type "builtin_function_or_method" || Value.type "method-wrapper" == Value.type "method-wrapper") = true by decide, if_true]
  refine KFB.if_so (by decide) ?_
  refine wpAny_bind (check_bound_init FM.base.toExcCallFacts hC hx rfl ?_)
  refine wpAny_bind (wpAny_pure (wpAny_pure ?_))
  refine ⟨plainId_quiet FM.base.init.plain _, codeAny_builtin FM.base.initEntry ?_⟩
  refine exc_init_tree (cls := .ref C) (t0 := t0) (dv := none) (c2 := .none) (c3 := .none) (b4 := .bool false) hx hz fun h' k e1 e2 => ?_
  exact hq h' hp.objs.size k e1 (Nat.le_of_lt (Heap.lt_size e2))
end

/-- the function object of __init__ -/
structure IniFn (prog : Program) (K : Frag) (C f : Addr) (qual : Str) (st : Stmt) : Prop where
  ex : ∃ (oc : Value) (od : Option Addr) (doc pm ct : Value) (an : Option Addr) (osl : Array (Option Value)) (cda cc : Addr),
    K.lookup f = some ⟨oc, od, .func (ksFn "__init__" qual (L2.defArgs st) (L2.defBody st) (L2.defScope st) .none .none doc pm an (.ref cda) ct cc), osl⟩ ∧ codeIn K (.ref cda) qual = true ∧
    (∃ ccl cdd vs ccs file tf, K.lookup cda = some ⟨ccl, cdd, .fields vs, ccs⟩ ∧ vs[2]? = some (.str file tf) ∧ ((prog.main.file : Str) == file) = true) ∧
    (∃ cl cld csl, K.lookup cc = some ⟨cl, cld, .cell (some (.ref C)), csl⟩)
/-- what is read off the text of __init__: ps its parameters behind self -/
structure IniTx (prog : Program) (st : Stmt) (ps : List Str) (fl : List (Str × Src)) : Prop where
  head : ((L2.defArgs st).posonlyargs ++ (L2.defArgs st).args).head?.map (·.arg) = some "self"
  body : ∃ s1 r, L2.defBody st = s1 :: r ∧ superOf s1 = true ∧ fieldsOf r = some fl
  sup : (L2.defScope st).names.lookup ("super" : Str) = some .globalImplicit
  cls : (L2.defScope st).names.lookup ("__class__" : Str) = some .free
  loc : ∀ y ∈ ("self" : Str) :: ps, (L2.defScope st).names.lookup y = some .local ∧ (y == ("__debug__" : Str)) = false
  nd : (("self" : Str) :: ps).Nodup
  cells : ∀ y ∈ (L2.defScope st).names, y.2 ≠ .cell
  co : (L2.defScope st).isCoroutine = false
  gen : (L2.defScope st).isGenerator = false
  kind : (L2.defScope st).kind = .function
  pars : ∀ p ∈ fl, ∀ y, p.2 = .par y → y ∈ ps
  few : fl.length ≤ 100
  top : (prog.main.scope.names.lookup ("super" : Str)).isSome = false

section
variable {prog : Program} {w : World} {A : Around} {E : Value → Shared → Prop} {R : Result → Shared → Prop} {K : Frag} {C x fI : Addr} {B newId initId : String} {bmB : List Value} {s : Shared} {qual : Str} {st : Stmt} {ps : List Str} {fl : List (Str × Src)} {mg mb : Str → Option Value} {base : Heap}
theorem zip_fst : ∀ (ks : List Str) (us : List Value), ((ks.zip us).map (·.1)) <+: ks
  | [], us => by simp
  | k :: r, [] => by simp
  | k :: r, u :: us => by
    have := zip_fst r us
    simpa using this
theorem zip_look : ∀ {ks : List Str} {us : List Value} {i : Nat} {y : Str} {u : Value}, ks.Nodup → ks[i]? = some y → us[i]? = some u → (ks.zip us).reverse.lookup y = some u := by
  intro ks us i y u nd hy hu
  have h1 : ∀ (l : List (Str × Value)), (l.map (·.1)).Nodup → (y, u) ∈ l → l.lookup y = some u := by
    intro l
    induction l with
    | nil => intro _ h; cases h
    | cons a r ih =>
      intro n h
      obtain ⟨k, v⟩ := a
      rw [List.map_cons, List.nodup_cons] at n
      rcases List.mem_cons.mp h with h | h
      · cases h
        simp [List.lookup]
      · have ne : (y == k) = false := by
          simp only [beq_eq_false_iff_ne, ne_eq]
          exact fun z => n.1 (List.mem_map.mpr ⟨(y, u), h, z⟩)
        have e : List.lookup y ((k, v) :: r) = r.lookup y := by
          show (match y == k with | true => some v | false => r.lookup y) = r.lookup y
          rw [ne]
        rw [e]
        exact ih n.2 h
  refine h1 _ ?_ ?_
  · rw [List.map_reverse]
    refine (List.reverse_perm _).nodup_iff.mpr ?_
    have : ((ks.zip us).map (·.1)) <+: ks := by
      exact zip_fst ks us
    exact nd.sublist this.sublist
  · rw [List.mem_reverse]
    have : (ks.zip us)[i]? = some (y, u) := by
      rw [List.getElem?_zip_eq_some]
      exact ⟨hy, hu⟩
    exact List.mem_of_getElem? this
/-- what __init__ leaves of a fresh exception at x -/
structure End (h h' : Heap) (x C : Addr) (fs : List (Str × L2.V)) : Prop where
  keep : ∀ b o, b ≠ x → h.get? b = some o → h'.get? b = some o
  ex : ∃ t1 dx, h'.get? x = some (xo C t1 (some dx)) ∧ h.objs.size ≤ dx ∧ dx ≠ x ∧ ∃ mA, h'.Ns1 dx mA ∧ ∀ f, L2.RelO (fs.lookup f) (mA f)
theorem init_run (FM : Fam B newId initId bmB) (ei : initId = B ++ ".__init__") (T : Cl K C B newId bmB) (FI : IniFn prog K C fI qual st) (TX : IniTx prog st ps fl) (hne : fl ≠ [])
    (hsup : mg "super" = none) (hno : ∀ p ∈ fl, findIn K (.ref C) p.1 = some none) (hop : nsIn K cStatics "thirdparty.any" = some none)
    {t0 : Addr} {args : Args} {us : List Value} {vs : List L2.V} (hb : ∀ fd, K.lookup fI = some fd → ∀ fo, fd.data = .func fo → BindsTo s fo args ((("self" : Str) :: ps).zip (.ref x :: us))) (r : L2.Vals vs us) (hl : us.length = ps.length)
    (X : K.In s.heap) (G : s.heap.Ns mainGlobals mg) (Bt : s.heap.Ns builtinsNs mb) (hbt : mb "super" = some (.type "super"))
    (lim : s.heap.NoLimit) (hx : s.heap.get? x = some (xo C t0 none)) (hnx : K.lookup x = none) (hroom : A.depth < recursionLimit)
    (hq : ∀ h' tk, End s.heap h' x C (put (fun y => (ps.zip vs).lookup y) fl []) → R (.ok (.ret .none)) { s with heap := h', toks := tk }) :
    codeAny (model prog w) A (.call (.ref fI) args) R s := by
  obtain ⟨oc, od, doc, pm, ct, an, osl, cda, cc, lk, hcd, ⟨ccl, cdd, cvs, ccs, file, tf, lcd, hfile, hf2⟩, cl, cld, csl, lcc⟩ := FI.ex
  obtain ⟨s1, rst, hbody, hs1, hrst⟩ := TX.body
  obtain ⟨p1, p2, p3, tx, kk, p4, p5, p6, rfl, hpp⟩ := superOf_cases hs1
  have hbb := hb _ lk _ rfl
  have hxlt : x < s.heap.objs.size := Heap.lt_size hx
  refine ks_codeAny_call_defAt (fd := ksFn "__init__" qual (L2.defArgs st) (L2.defBody st) (L2.defScope st) .none .none doc pm an (.ref cda) ct cc) (body := L2.defBody st) hroom (X _ _ lk) rfl lim (codeRec_of X hcd) rfl hbb TX.cells (fun y hy => ?_) (fun h0 hns hk0 => ?_) TX.co TX.gen TX.kind
  · obtain ⟨n, v⟩ := y
    exact (TX.loc n (List.of_mem_zip hy).1).1
  have hself : ((("self" : Str) :: ps).zip (Value.ref x :: us)).reverse.lookup ("self" : Str) = some (Value.ref x) := zip_look (i := 0) TX.nd rfl rfl
  have X0 : K.In h0 := X.keeps hk0
  have hxC : x ≠ C := fun z => by
    obtain ⟨nm, N', qn, bs, bm, hdct, sn, sub, ab, col, dd, k0, k1, k2, k3, k5, hC, hT⟩ := excInit_of X T.ini
    rw [z, hC] at hx
    cases hx
  have hx0 := hk0 _ _ hx
  obtain ⟨cd, hcl, hcm⟩ : ∃ cd, clsIn K C = some cd ∧ alongIn K "__init__" ((cd.mro.dropWhile (· != .ref C)).drop 1) = some (some (.builtin initId)) := by
    have q := T.sup
    unfold ks_superIn at q
    cases e : clsIn K C with
    | none => rw [e] at q; cases q
    | some cd => rw [e] at q; exact ⟨cd, rfl, by rw [ei]; exact q⟩
  obtain ⟨oD, hD1, hD2⟩ : ∃ oD, h0.get? C = some oD ∧ oD.data = .cls cd := by
    unfold clsIn at hcl
    split at hcl
    · rename_i c d cd' sl ho
      cases hcl
      exact ⟨_, X0 _ _ ho, rfl⟩
    · cases hcl
  rw [hbody]
  refine ks_wpAt_execs_cons (ks_wpAt_Expr_any (ks_wpAt_MethodCall ?_ (super_call hpp)) (by unfold interactive; show ((L2.defScope st).kind == .module && _) = false; rw [TX.kind]; rfl))
  obtain ⟨ar, har, hear⟩ := Option.map_eq_some_iff.mp TX.head
  refine ks_wpAt_super_base (env := ksEnv qual (L2.defScope st) s.heap.objs.size fI (.ref cda) cc) TX.sup TX.cls (by decide) rfl (X0 _ _ lk) rfl har rfl (X0 _ _ lcd) rfl hfile hf2 TX.top ?_
  refine ks_loadName_global TX.kind TX.sup (loadGlobal_builtin (env := ksEnv qual (L2.defScope st) s.heap.objs.size fI (.ref cda) cc) (G.keeps hk0) hsup (Bt.keeps hk0) hbt ⟨rfl, ?_⟩)
  refine wpAny_loadName_free TX.kind TX.cls rfl ⟨_, X0 _ _ lcc, rfl⟩ ?_
  rw [hear]
  refine wpAny_loadName_local TX.kind (TX.loc "self" List.mem_cons_self).1 hns hself ?_
  refine ks_wpAny_isType_cls hD1 hD2 ⟨rfl, ?_⟩
  have hsubC : Looks (model prog w) h0 (isSubtype (.ref C) (.ref C)) true := by
    refine looks_mroIn X0 ?_
    obtain ⟨cd2, hc2, ho⟩ := any_some T.over
    unfold mroIn
    rw [hc2, Option.bind_some]
    (try dsimp only at ho)
    split at ho
    · rename_i C' bm hm
      rw [Bool.and_eq_true, beq_iff_eq] at ho
      obtain ⟨rfl, _⟩ := ho
      rw [hm]
      simp
    · cases ho
  refine ks_wpAny_call_super hD1 hD2 hx0 rfl (fun c e => by cases e) hsubC (fun h1 e1 k1 => ?_)
  have X1 : K.In h1 := X0.keeps k1
  have hx1 := k1 _ _ hx0
  have hI1 : Looks (model prog w) h1 (isInstance (.ref x) (.type B)) true := (show InstAt h1 x (xo C t0 none) C none from ⟨hx1, rfl, rfl, trivial⟩).type.andThen (looks_subIn X1 T.subB)
  refine kxs_getMethod FM.kxs e1 (looks_opaque X1 hop) (l₀ := cd.mro) (fun A Q E s k q => wpAny_bind ((looks_clsIn X1 hcl) A _ E s k (wpAny_pure q))) rfl X1 hcm hI1 hxC (by decide) ?_
  have k2 : ∀ b o, h1.get? b = some o → (h1.push (kxs_mw initId x)).get? b = some o := fun b o e => Heap.get?_push_of_some _ e
  have hu2 : (h1.push (kxs_mw initId x)).get? h1.objs.size = some (kxs_mw initId x) := Heap.get?_push_at rfl rfl
  refine callWith_mw (i := initId) (x := x) rfl (evalArgs_plain (Calls.spliced_cons ?_))
  rw [if_neg Bool.false_ne_true]
  refine Calls.Constant_str (Calls.spliced_nil ⟨hu2, ?_⟩)
  refine call_mw FM T (X1.keeps k2) (k2 _ _ hx1) hu2 (by show 1 ≤ sizeLine; decide) fun h3 t1 k3 hx3 sz3 => ?_
  refine wpAt_of_wpAny ?_
  have sz0 : s.heap.objs.size < h0.objs.size := hns.lt
  have kk : ∀ b o, b ≠ x → h0.get? b = some o → h3.get? b = some o := fun b o hb e => k3 b o hb (k2 b o (k1 b o e))
  have hLx : s.heap.objs.size ≠ x := Nat.ne_of_gt hxlt
  have c0 : Cur s.heap h3 s.heap.objs.size x C (fun y => ((("self" : Str) :: ps).zip (Value.ref x :: us)).reverse.lookup y) none [] :=
    ⟨fun b o hb e => kk b o hb (hk0 b o e), ns_at hns fun o e => kk _ o hLx e, ⟨t1, hx3⟩, rfl, by
      obtain ⟨o, es, ep, e, _⟩ := ns_at hns fun o e => kk _ o hLx e
      exact Nat.le_of_lt (Heap.lt_size e)⟩
  refine run_fields (env := ksEnv qual (L2.defScope st) s.heap.objs.size fI (.ref cda) cc) (ev := fun y => (ps.zip vs).lookup y) FM T X hnx TX.kind rfl (TX.loc "self" List.mem_cons_self).1 hself rst fl hrst hno (fun p hp y e => ?_) h3 _ none [] c0 (by have := TX.few; simp only [List.length_nil]; omega) fun h4 tk4 d4 c4 => ?_
  · have hy := TX.pars p hp y e
    obtain ⟨i, hi, hiy⟩ := List.getElem_of_mem hy
    have l1 := TX.loc y (List.mem_cons_of_mem _ hy)
    have hiu : i < us.length := by omega
    have hiv : i < vs.length := by have := r.length; omega
    have eu : us[i]? = some us[i] := List.getElem?_eq_getElem hiu
    have evv : vs[i]? = some vs[i] := List.getElem?_eq_getElem hiv
    obtain ⟨u, hu', ruv⟩ := L2.Vals.get r evv
    refine ⟨l1.1, l1.2, u, vs[i], ?_, ?_, ruv⟩
    · exact zip_look (i := i + 1) TX.nd (by simpa using (List.getElem?_eq_getElem hi).trans (congrArg some hiy)) (by simpa using hu')
    · have ndp : ps.Nodup := (List.nodup_cons.mp TX.nd).2
      have key : ∀ (ks : List Str) (ws : List L2.V) (i : Nat) (y : Str) (v : L2.V), ks.Nodup → ks[i]? = some y → ws[i]? = some v → (ks.zip ws).lookup y = some v := by
        intro ks
        induction ks with
        | nil => intro ws i y v _ h _; simp at h
        | cons k kr ih =>
          intro ws i y v n h1 h2
          cases ws with
          | nil => simp at h2
          | cons w0 wr =>
            cases i with
            | zero =>
              simp at h1 h2
              subst h1 h2
              simp [List.lookup]
            | succ j =>
              have h1' : kr[j]? = some y := by simpa using h1
              have h2' : wr[j]? = some v := by simpa using h2
              have ne : (y == k) = false := by
                simp only [beq_eq_false_iff_ne, ne_eq]
                intro z
                subst z
                exact (List.nodup_cons.mp n).1 (List.mem_of_getElem? h1')
              show (match y == k with | true => some w0 | false => (kr.zip wr).lookup y) = some v
              rw [ne]
              exact ih wr j y v (List.nodup_cons.mp n).2 h1' h2'
      exact key ps vs i y _ ndp ((List.getElem?_eq_getElem hi).trans (congrArg some hiy)) evv
  · refine hq h4 tk4 ⟨fun b o hb e => c4.keep b o hb e, ?_⟩
    cases d4 with
    | none =>
      exfalso
      have q := c4.dic.1
      cases fl with
      | nil => exact hne rfl
      | cons a l =>
        have lenp : ∀ (l : List (Str × Src)) (fs : List (Str × L2.V)), (put (fun y => (ps.zip vs).lookup y) l fs).length = l.length + fs.length := by
          intro l
          induction l with
          | nil => intro fs; simp [put]
          | cons b l ih =>
            intro fs
            obtain ⟨f, sr⟩ := b
            cases sr <;> (simp only [put, ih, List.length_cons]; omega)
        have := congrArg List.length q
        rw [lenp] at this
        simp at this
    | some dx =>
      obtain ⟨hd, ne, neL, mA, hn, rel⟩ := c4.dic
      obtain ⟨t2, e2⟩ := c4.obj
      exact ⟨t2, dx, e2, hd, ne, mA, hn, rel⟩
end
end FK
end
section
set_option Elab.async false
set_option linter.all false
set_option maxRecDepth 100000
set_option maxHeartbeats 4000000
namespace FK
open PySem PySem.W PySem.Calls PyProof.Rows

/-- how positional arguments bind to self and the parameters -/
def BindP (qual : Str) (st : Stmt) (ps : List Str) : Prop := ∀ (doc pm ct cda : Value) (an : Option Addr) (cc : Addr) (us : List Value), us.length = ps.length + 1 →
  bindArgs (ksFn "__init__" qual (L2.defArgs st) (L2.defBody st) (L2.defScope st) .none .none doc pm an cda ct cc) ⟨us, []⟩ = pure ((("self" : Str) :: ps).zip us)

/-- all that is told of one class x of the package -/
structure Flt (prog : Program) (K : Frag) (mg : Str → Option Value) (x : Str) (C : Addr) (fl : List (Str × Src)) (ps : List Str) : Prop where
  ex : ∃ (B newId initId : String) (bmB : List Value) (st : Stmt) (fI : Addr), Fam B newId initId bmB ∧ initId = B ++ ".__init__" ∧ Cl K C B newId bmB ∧ IniFn prog K C fI (x ++ ".__init__") st ∧ IniTx prog st ps fl ∧ BindP (x ++ ".__init__") st ps ∧
    findIn K (.ref C) "__init__" = some (some (.ref fI)) ∧ typeIn K (.ref fI) = some (.type "function")
  ne : fl ≠ []
  sup : mg "super" = none
  no : ∀ p ∈ fl, findIn K (.ref C) p.1 = some none
  opq : nsIn K cStatics "thirdparty.any" = some none
  kC : keepIn K (.ref C) = true
  gC : mg x = some (.ref C)
  exC : subIn K (.ref C) (.type "BaseException") = some true
  tyC : typeIn K (.ref C) = some (.type "type")
  ga : findIn K (.ref C) "__getattribute__" = some (some (.builtin "BaseException.__getattribute__"))
  gg : findIn K (.ref C) "__getattr__" = some none
  dict : hasDictIn K C = true
  clsA : findIn K (.ref C) "__class__" = some (some (.builtin "object.__class__"))
  clsG : specialIn K (.builtin "object.__class__") "__get__" = some (some (.builtin "getset_descriptor.__get__"))
  clsT : takesIn K (.builtin "object.__class__") = some true
  mrO : mroIn K C (.type "object") = some true
  db : (x == ("__debug__" : Str)) = false

/-- the fields of an error that was made of these values -/
abbrev flds (ps : List Str) (fl : List (Str × Src)) (vs : List L2.V) : List (Str × L2.V) := put (fun y => (ps.zip vs).lookup y) fl []

/-- a made error at e -/
structure Made (h h' : Heap) (e C : Addr) (fs : List (Str × L2.V)) : Prop where
  keep : ∀ b o, h.get? b = some o → h'.get? b = some o
  new : h.objs.size ≤ e
  ex : ∃ t1 d, h'.get? e = some (xo C t1 (some d)) ∧ h.objs.size ≤ d ∧ d ≠ e ∧ ∃ mA, h'.Ns1 d mA ∧ ∀ f, L2.RelO (fs.lookup f) (mA f)

section
variable {prog : Program} {w : World} {A : Around} {E : Value → Shared → Prop} {R : Result → Shared → Prop} {K : Frag} {C : Addr} {s : Shared} {x : Str} {ps : List Str} {fl : List (Str × Src)} {mg mb : Str → Option Value}
theorem made (T : Flt prog K mg x C fl ps) {us : List Value} {vs : List L2.V} (r : L2.Vals vs us) (hl : vs.length = ps.length)
    (X : K.In s.heap) (G : s.heap.Ns mainGlobals mg) (Bt : s.heap.Ns builtinsNs mb) (hbt : mb "super" = some (.type "super")) (lim : s.heap.NoLimit) (hroom : A.depth + 1 < recursionLimit) (hz : us.length ≤ sizeLine)
    (hq : ∀ h' tk e, Made s.heap h' e C (flds ps fl vs) → R (.ok (.ret (.ref e))) { s with heap := h', toks := tk }) :
    codeAny (model prog w) A (.call (.ref C) ⟨us, []⟩) R s := by
  obtain ⟨B, newId, initId, bmB, st, fI, FM, ei, TC, FI, TX, bd, hi, tI⟩ := T.ex
  obtain ⟨nm, N', qn, bs, bm, hdct, sn, sub, ab, col, dd, k0, k1, k2, k3, k5, hC, hT⟩ := excInit_of X TC.ini
  obtain ⟨hp, g, dr, tk, os⟩ := s
  have k : ∀ b o, hp.get? b = some o → ((hp.push (kdv_tup us)).push (PySem.HandSPX.excO C hp.objs.size)).get? b = some o := fun b o e => Heap.get?_push_of_some _ (Heap.get?_push_of_some _ e)
  have hget : ((hp.push (kdv_tup us)).push (PySem.HandSPX.excO C hp.objs.size)).get? (hp.objs.size + 1) = some (xo C hp.objs.size none) := by heap_get
  have hnx : K.lookup (hp.objs.size + 1) = none := by
    cases e : K.lookup (hp.objs.size + 1) with
    | none => rfl
    | some o =>
      have z : hp.get? (hp.objs.size + 1) = some o := X _ _ e
      exact absurd (Nat.lt_of_succ_lt (Heap.lt_size z)) (Nat.lt_irrefl _)
  refine PySem.HandSPX.call_own FM.base hT hC (looks_findIn X hi) (fun self => bind_fn X self tI) hz ?_
  refine init_run (s := ⟨(hp.push (kdv_tup us)).push (PySem.HandSPX.excO C hp.objs.size), g, dr, tk, os⟩) (us := us) (vs := vs) FM ei TC FI TX T.ne T.sup T.no T.opq (fun fd lk fo hfd => ?_) r (by rw [← r.length]; exact hl) (X.keeps k) (G.keeps k) (Bt.keeps k) hbt (lim.keeps k) hget hnx ?_ fun h' tk' EN => ?_
  · obtain ⟨oc, od, doc, pm, ct, an, osl, cda, cc, lk2, _⟩ := FI.ex
    rw [lk] at lk2
    cases lk2
    cases hfd
    exact BindsTo.of_eq (bd doc pm ct (.ref cda) an cc (.ref (hp.objs.size + 1) :: us) (by rw [List.length_cons, ← r.length, hl]))
  · show A.depth + 1 < recursionLimit
    exact hroom
  · obtain ⟨t1, d, e1, d1, d2, mA, n1, rel⟩ := EN.ex
    have old : ∀ b o, hp.get? b = some o → h'.get? b = some o := fun b o e => EN.keep b o (Nat.ne_of_lt (Nat.lt_succ_of_lt (Heap.lt_size e))) (k b o e)
    have z : hp.objs.size ≤ d := by
      have q := d1
      have q2 : hp.objs.size + 1 + 1 ≤ d := by
        simpa only [Heap.size_push] using q
      omega
    exact ⟨rfl, hq h' tk' (hp.objs.size + 1) ⟨old, Nat.le_succ _, t1, d, e1, z, d2, mA, n1, rel⟩⟩
end
end FK

namespace L2
open PySem PySem.Spec PyProof.Rows
section
variable {X : Cx} {x : Str} {C : Addr} {fl : List (Str × FK.Src)} {ps : List Str}
/-- C(e, ..) made to be raised -/
def tMkF (C : Addr) (ps : List Str) (fl : List (Str × FK.Src)) (ta : TA) : St → Hp → XK → Prop := fun σ H Q => ta σ H fun vs H1 => vs.length = ps.length ∧ ∀ d, H1 d = none → Q (.ref C) (some d) (upd H1 d (.xd (FK.flds ps fl vs)))
theorem mk_core {k : Nat} {pins : List (Addr × Obj)} {σ : St} {H1 : Hp} {s1 : Shared} {us : List Value} {vs : List V} {Q : Value → Shared → Prop} {E : Value → Shared → Prop} (T : FK.Flt X.prog X.K X.mg x C fl ps) (hr : Room (k + 1) X.A) (I1 : Inv X pins σ H1 s1) (r1 : Vals vs us) (hl : vs.length = ps.length) (hps : ps.length ≤ 1000)
    (hq : ∀ h' tk e, FK.Made s1.heap h' e C (FK.flds ps fl vs) → Q (.ref e) { s1 with heap := h', toks := tk }) : wpAny (model X.prog X.w) X.A (call (.ref C) us) Q E s1 := by
  obtain ⟨mb, hmb, hbt⟩ := I1.ok.mod.blt
  have hus : us.length ≤ sizeLine := by
    rw [← Paired.length r1, sizeLine_eq]
    omega
  refine wpAny_call (FK.made T r1 hl I1.kIn (I1.ok.mod.glob.keeps I1.bk) (hmb.keeps I1.bk) ((hbt "super" (by decide)).trans (by first | boot_by_name | rfl | kernel_rfl)) I1.nolimit ?_ hus fun h' tk e M => ?_)
  · have := hr.dp
    omega
  · exact hq h' tk e M
/-- it is raised: the object is let go, its dict stands as an exception's dict -/
theorem mk_raise {pins : List (Addr × Obj)} {σ : St} {H1 : Hp} {s1 : Shared} {h' : Heap} {tk : Nat} {e : Addr} {fs : List (Str × V)} {Q : XK} (T : FK.Flt X.prog X.K X.mg x C fl ps) (I1 : Inv X pins σ H1 s1) (M : FK.Made s1.heap h' e C fs) (q : ∀ d, H1 d = none → Q (.ref C) (some d) (upd H1 d (.xd fs))) :
    MkP X pins σ Q (.ref e) { s1 with heap := h', toks := tk } := by
  obtain ⟨hp, g, dr, t0, os⟩ := s1
  obtain ⟨t1, d, e1, d1, d2, mA, n1, rel⟩ := M.ex
  obtain ⟨G', g1, g2⟩ := restrict h' fun b => decide (b ≠ e)
  have gk : ∀ b, b ≠ e → G'.get? b = h'.get? b := fun b hb => g1 b (decide_eq_true hb)
  have ge : G'.get? e = none := g2 e (by simp)
  have old : ∀ b o, hp.get? b = some o → G'.get? b = some o := fun b o q => (gk b (Nat.ne_of_lt (Nat.lt_of_lt_of_le (Heap.lt_size q) M.new))).trans (M.keep b o q)
  have ob : ObjOk X.prog X.w (upd H1 d (.xd fs)) G' d (.xd fs) := ⟨_, n1.at (fun o q => (gk d d2).trans q), rel⟩
  have J : Inv X pins σ (upd H1 d (.xd fs)) ⟨G', g, dr, tk, os⟩ := I1.laid (t' := tk) old d1 ob
  refine ⟨e, _, _, ⟨G', g, dr, tk, os⟩, _, .ref C, some d, rfl, J, fun b o q => ?_, ge, e1, ⟨rfl, rfl⟩, rfl, rfl, ?_, rfl, I1.bare, raises_own T.exC T.tyC, q d (I1.hok.fresh d1)⟩
  · by_cases hb : b = e
    · have q' : G'.get? b = some o := q
      rw [hb, ge] at q'
      cases q'
    · exact (gk b hb).symm.trans q
  · rw [upd_ne (Ne.symm d2)]
    exact I1.hok.fresh M.new
theorem pmk_flt {e : Expr} {es : List Expr} {ta : TA} {p pos : Pos} {k : Nat} (T : FK.Flt X.prog X.K X.mg x C fl ps) (hr : Room (k + 1) X.A) (ha : PA X (e :: es) ta) (hps : ps.length ≤ 1000 := by decide) (hg : Gl X x := by rfl)
    (he : starEach (e :: es) X.env = (false, eval e X.env) :: starEach es X.env := by rfl) (hpl : (backTo pos (starEach es X.env)).any (·.1) = false := by rfl) :
    PMk X (.Call (.Name x p) (e :: es) [] pos) (tMkF C ps fl ta) := by
  intro pins s σ H Q I h
  refine wpAny_Call_Name_kw (ld_glob I hg T.gC ?_ T.db)
  refine PySem.W.callWith_K (h₀ := X.base) I.ok.mod.kin T.kC (thn (ha.run pos pins s σ H _ I h) fun us s1 ⟨vs, H1, I1, r1, hl, q1⟩ => ⟨I1.kIn, ?_⟩) he hpl
  exact mk_core T hr I1 r1 hl hps fun h' tk e M => mk_raise T I1 M q1
/-- raise C(e, ..) -/
def tRaiseF (C : Addr) (ps : List Str) (fl : List (Str × FK.Src)) (W : WX) (ta : TA) : TS := fun _ σ H => tMkF C ps fl ta σ H fun cls d H' => W cls d σ H'
theorem ps_raiseF {e : Expr} {es : List Expr} {ta : TA} {W : WX} {p pos pos2 : Pos} {k : Nat} (hc : X.calm = true) (T : FK.Flt X.prog X.K X.mg x C fl ps) (hr : Room (k + 1) X.A) (tk : Takes X W) (ha : PA X (e :: es) ta) (hps : ps.length ≤ 1000 := by decide) (hg : Gl X x := by rfl)
    (he : starEach (e :: es) X.env = (false, eval e X.env) :: starEach es X.env := by rfl) (hpl : (backTo pos (starEach es X.env)).any (·.1) = false := by rfl) :
    PS X (.Raise (some (.Call (.Name x p) (e :: es) [] pos)) none pos2) (tRaiseF C ps fl W ta) := ps_raise hc tk (pmk_flt T hr ha hps hg he hpl)

/-! ### errors held as values -/
/-- at a: an error of the class at C, its dict at d -/
abbrev ExV (H : Hp) (a C d : Addr) (fs : List (Str × V)) : Prop := H a = some (exo a C (some d)) ∧ H d = some (.xd fs)
theorem mk_value {pins : List (Addr × Obj)} {σ : St} {H1 : Hp} {s1 : Shared} {h' : Heap} {tk : Nat} {e : Addr} {fs : List (Str × V)} {Q : VK} (I1 : Inv X pins σ H1 s1) (M : FK.Made s1.heap h' e C fs)
    (q : ∀ a d, H1 a = none → H1 d = none → d ≠ a → Q (.ref a) (upd (upd H1 d (.xd fs)) a (exo a C (some d)))) : EP X pins σ Q (.ref e) { s1 with heap := h', toks := tk } := by
  obtain ⟨hp, g, dr, t0, os⟩ := s1
  obtain ⟨t1, d, e1, d1, d2, mA, n1, rel⟩ := M.ex
  have ob : ObjOk X.prog X.w (upd H1 d (.xd fs)) h' d (.xd fs) := ⟨_, n1, rel⟩
  have J : Inv X pins σ (upd H1 d (.xd fs)) ⟨h', g, dr, tk, os⟩ := I1.laid (t' := tk) M.keep d1 ob
  have na : H1 e = none := I1.hok.fresh M.new
  have nd : H1 d = none := I1.hok.fresh d1
  have na2 : upd H1 d (.xd fs) e = none := by rw [upd_ne (Ne.symm d2)]; exact na
  have Un1 : Un X.fs [] H1 (upd (upd H1 d (.xd fs)) e (exo e C (some d))) hp h' := {
    keep := fun b o q _ _ _ => M.keep b o q
    slot := fun b o q _ _ _ => ⟨o.slots, M.keep b o q⟩
    free := fun b o q n _ => by
      have lt := Heap.lt_size q
      rw [upd_ne (Nat.ne_of_lt (Nat.lt_of_lt_of_le lt M.new)), upd_ne (Nat.ne_of_lt (Nat.lt_of_lt_of_le lt d1))]
      exact n
    there := fun b o q _ => ⟨o, M.keep b o q⟩
    tups := fun b xs q => by rw [upd_ne (ne_of_none q na), upd_ne (ne_of_none q nd)]; exact q
    frzs := fun b o v q => by rw [upd_ne (ne_of_none q na), upd_ne (ne_of_none q nd)]; exact q
    tbls := fun b ps q => ⟨#[], by rw [upd_ne (ne_of_none q na), upd_ne (ne_of_none q nd), q]; simp⟩ }
  refine ⟨.ref e, _, I1.un (t' := tk) Un1 fun b o q => ?_, rfl, q e d na nd d2⟩
  by_cases hb : b = e
  · subst hb
    rw [upd_same] at q
    cases q
    exact exo_ok e1
  · rw [upd_ne hb] at q
    exact (J.hok b o q).stay (fun c v hc z => z) (fun c hc => by rw [upd_ne (ne_of_none hc na2)]; exact hc) (fun c xs hc => by rw [upd_ne (ne_of_none hc na2)]; exact hc)
/-- C(e, ..) as a value -/
def tMkV (C : Addr) (ps : List Str) (fl : List (Str × FK.Src)) (ta : TA) : TE := fun σ H Q => ta σ H fun vs H1 => vs.length = ps.length ∧ ∀ a d, H1 a = none → H1 d = none → d ≠ a → Q (.ref a) (upd (upd H1 d (.xd (FK.flds ps fl vs))) a (exo a C (some d)))
theorem pe_flt {e : Expr} {es : List Expr} {ta : TA} {p pos : Pos} {k : Nat} (T : FK.Flt X.prog X.K X.mg x C fl ps) (hr : Room (k + 1) X.A) (ha : PA X (e :: es) ta) (hps : ps.length ≤ 1000 := by decide) (hg : Gl X x := by rfl)
    (he : starEach (e :: es) X.env = (false, eval e X.env) :: starEach es X.env := by rfl) (hpl : (backTo pos (starEach es X.env)).any (·.1) = false := by rfl) :
    PE X (.Call (.Name x p) (e :: es) [] pos) (tMkV C ps fl ta) := by
  refine ⟨fun pins s σ H Q I h => ?_⟩
  refine wpAny_Call_Name_kw (ld_glob I hg T.gC ?_ T.db)
  refine PySem.W.callWith_K (h₀ := X.base) I.ok.mod.kin T.kC (thn (ha.run pos pins s σ H _ I h) fun us s1 ⟨vs, H1, I1, r1, hl, q1⟩ => ⟨I1.kIn, ?_⟩) he hpl
  exact mk_core T hr I1 r1 hl hps fun h' tk e M => mk_value I1 M q1
/-- e.f of an error that is held -/
def tXFld (K : PySem.W.Frag) (te : TE) (f : Str) : TE := fun σ H Q => te σ H fun x H1 => ∃ a C d fs v, x = .ref a ∧ ExV H1 a C d fs ∧ (∃ prog mg nm fl ps, FK.Flt prog K mg nm C fl ps) ∧ PySem.W.findIn K (.ref C) f = some none ∧ fs.lookup f = some v ∧ Q v H1
theorem pe_xfld {e : Expr} {te : TE} {f : Str} {pos : Pos} (he : PE X e te) (hb : attributeBase e f X.env (eval e X.env) = eval e X.env) : PE X (.Attribute e f pos) (tXFld X.K te f) := by
  refine ⟨fun pins s σ H Q I h => ?_⟩
  refine attr_of hb (thn (he.run pins s σ H _ I h) fun u s1 hh => ?_)
  obtain ⟨x, H1, I1, rx, a, C, d, fs, v, ex, ⟨ea, ed⟩, ⟨_, _, _, _, _, T⟩, hno, l, q⟩ := hh
  subst ex
  obtain rfl : u = Value.ref a := rx
  obtain ⟨t1, ho⟩ := exo_at I1.hok ea
  obtain ⟨mA, hns, hr⟩ := (show ObjOk X.prog X.w H1 s1.heap d (.xd fs) from I1.hok d _ ed)
  obtain ⟨od, hod, hl⟩ := lookIn_ns hns
  obtain ⟨u, hu, ru⟩ := RelO.some_of (v := v) (o := mA f) (by rw [← l]; exact hr f)
  have J : PySem.W.InstAt s1.heap a (FK.xo C t1 (some d)) C (some od) := ⟨ho, rfl, rfl, hod⟩
  exact PySem.HandSPX.exc_get I1.kIn J T.ga T.gg T.exC (PySem.W.findObj_own T.dict hno rfl (by rw [hl, hu])) (handed_of ru) ⟨v, H1, I1.tok _, ru, q⟩
end
end L2
end
section
set_option Elab.async false
set_option linter.all false
set_option maxRecDepth 100000
set_option maxHeartbeats 4000000
/-! The head's facts for a law over the package: defs, facts, exception classes, one Bool more. -/
namespace Hf
open PySem PySem.Spec PyProof.Rows L2 He
abbrev IniW : Type := Option (Str × Str × Arguments × FuncBody × Scope × Addr × List Str × Addr)
def iniW (K : PySem.W.Frag) (x : Str) : IniW := match K.lookup (ma K (ga K x) "__init__") with
  | some ⟨_, _, .func fd, _⟩ => some (fd.name, fd.qualname, fd.params, fd.body, fd.scope, fd.globals, fd.closure.map (·.1), fd.builtins)
  | _ => none
/-- one exception class: its name, its family (0 ValueError, 1 LookupError, 2 RuntimeError), its __init__, its parameters and fields -/
structure FltD where
  x : Str
  fam : Nat
  st : Stmt
  ps : List Str
  fl : List (Str × FK.Src)
def FltD.val (d : FltD) : IniW := some (("__init__" : Str), d.x ++ ".__init__", defArgs d.st, FuncBody.stmts (defBody d.st), defScope d.st, mainGlobals, [("__class__" : Str)], builtinsNs)
def famB : Nat → String
  | 0 => "ValueError"
  | 1 => "LookupError"
  | _ => "RuntimeError"
def famBm : Nat → List Value
  | 0 => FK.bmV
  | 1 => FK.bmL
  | _ => FK.bmR
def newB : Nat → String
  | 0 => "ValueError.__new__"
  | 1 => "LookupError.__new__"
  | _ => "RuntimeError.__new__"
def initB : Nat → String
  | 0 => "ValueError.__init__"
  | 1 => "LookupError.__init__"
  | _ => "RuntimeError.__init__"
theorem fam_ok : ∀ n : Nat, FK.Fam (famB n) (newB n) (initB n) (famBm n)
  | 0 => FK.famV
  | 1 => FK.famL
  | _ + 2 => FK.famR
theorem init_eq : ∀ n : Nat, initB n = famB n ++ ".__init__"
  | 0 => by decide
  | 1 => by decide
  | _ + 2 => by show "RuntimeError.__init__" = "RuntimeError" ++ ".__init__"; decide
/-- the closure's one cell holds the class; the code's file is the program's -/
def tieB (K : PySem.W.Frag) (file : Str) (q : Str) (C f : Addr) : Bool := match K.lookup f with
  | some ⟨_, _, .func fd, _⟩ => (match fd.defaults, fd.kwdefaults, fd.closure, fd.code with
    | .none, .none, [(_, cc)], .ref cda => PySem.W.codeIn K (.ref cda) q && ((match K.lookup cc with
      | some ⟨_, _, .cell (some (.ref D)), _⟩ => decide (D = C)
      | _ => false) && (match K.lookup cda with
      | some ⟨_, _, .fields vs, _⟩ => (match (vs[2]? : Option Value) with
        | some (.str fl _) => (file == fl)
        | _ => false)
      | _ => false))
    | _, _, _, _ => false)
  | _ => false
def FltD.ok (K : PySem.W.Frag) (file : Str) (d : FltD) : Bool :=
  let C := ga K d.x
  let f := ma K C "__init__"
  eqO (PySem.W.nsIn K mainGlobals d.x) (some (some (.ref C))) && (PySem.W.excInitIn K C (famBm d.fam) (newB d.fam) && (PySem.W.excOver K C (famBm d.fam) && (eqO (PySem.W.findIn K (.ref C) "__setattr__") (some (some (.builtin "object.__setattr__"))) &&
  (PySem.W.hasDictIn K C && (decide (PySem.W.subIn K (.ref C) (.type (famB d.fam)) = some true) && (eqO (PySem.W.ks_superIn K C C "__init__") (some (some (.builtin (initB d.fam)))) && ((d.fl.all fun p => eqO (PySem.W.findIn K (.ref C) p.1) (some none)) &&
  (eqO (PySem.W.nsIn K cStatics "thirdparty.any") (some none) && (PySem.W.keepIn K (.ref C) && (decide (PySem.W.subIn K (.ref C) (.type "BaseException") = some true) && (decide (PySem.W.typeIn K (.ref C) = some (.type "type")) &&
  (eqO (PySem.W.findIn K (.ref C) "__getattribute__") (some (some (.builtin "BaseException.__getattribute__"))) && (eqO (PySem.W.findIn K (.ref C) "__getattr__") (some none) && (eqO (PySem.W.findIn K (.ref C) "__class__") (some (some (.builtin "object.__class__"))) &&
  (eqO (PySem.W.specialIn K (.builtin "object.__class__") "__get__") (some (some (.builtin "getset_descriptor.__get__"))) && (decide (PySem.W.takesIn K (.builtin "object.__class__") = some true) && (decide (PySem.W.mroIn K C (.type "object") = some true) &&
  (eqO (PySem.W.findIn K (.ref C) "__init__") (some (some (.ref f))) && (decide (PySem.W.typeIn K (.ref f) = some (.type "function")) && (eqO (PySem.W.nsIn K mainGlobals "super") (some none) && tieB K file (d.x ++ ".__init__") C f))))))))))))))))))))
/-- what of the text is asked, beside -/
structure FltT (prog : Program) (d : FltD) : Prop where
  tx : FK.IniTx prog d.st d.ps d.fl
  bd : FK.BindP (d.x ++ ".__init__") d.st d.ps
  ne : d.fl ≠ []
  db : (d.x == ("__debug__" : Str)) = false
theorem tie_ok {K : PySem.W.Frag} {prog : Program} {C f : Addr} {q : Str} {st : Stmt} {x : Str} (h : tieB K prog.main.file q C f = true) (hf : f = ma K (ga K x) "__init__")
    (hw : iniW K x = (some (("__init__" : Str), q, defArgs st, FuncBody.stmts (defBody st), defScope st, mainGlobals, [("__class__" : Str)], builtinsNs) : IniW)) : FK.IniFn prog K C f q st := by
  subst hf
  unfold tieB at h
  unfold iniW at hw
  cases e : K.lookup (ma K (ga K x) "__init__") with
  | none =>
    rw [e] at h
    cases h
  | some o =>
    obtain ⟨oc, od, dt, osl⟩ := o
    rw [e] at h hw
    cases dt with
    | func fd =>
      obtain ⟨n1, n2, n3, n4, n5, n6, n7, n8, n9, n10, n11, n12, n13, n14, n15⟩ := fd
      have e2 : (some (n1, n2, n3, n4, n5, n6, n7.map (·.1), n15) : IniW) = some (("__init__" : Str), q, defArgs st, FuncBody.stmts (defBody st), defScope st, mainGlobals, [("__class__" : Str)], builtinsNs) := hw
      simp only [Option.some.injEq, Prod.mk.injEq] at e2
      obtain ⟨h1, h2, h3, h4, h5, h6, h7, h8⟩ := e2
      subst h1 h2 h3 h4 h5 h6 h8
      dsimp only at h
      split at h
      · rename_i nm cc cda
        have hn : nm = ("__class__" : Str) := by simpa using h7
        subst hn
        obtain ⟨c1, c2⟩ := ba h
        obtain ⟨c3, c4⟩ := ba c2
        split at c3
        · rename_i k1 k2 D k3 ek
          have eD : D = C := of_decide_eq_true c3
          subst eD
          split at c4
          · rename_i v1 v2 vs v3 ev
            split at c4
            · rename_i fl tk efl
              exact ⟨oc, od, n10, n11, n14, n12, osl, cda, cc, e, c1, ⟨_, _, vs, _, fl, tk, ev, efl, c4⟩, ⟨_, _, _, ek⟩⟩
            · cases c4
          · cases c4
        · cases c3
      · cases h
    | _ => cases h
theorem flt_ok {K : PySem.W.Frag} {prog : Program} {mg : Str → Option Value} {h : Heap} {d : FltD} (X : K.In h) (G : h.Ns mainGlobals mg) (c : d.ok K prog.main.file = true) (w : iniW K d.x = d.val) (t : FltT prog d) : FK.Flt prog K mg d.x (ga K d.x) d.fl d.ps := by
  unfold FltD.ok at c
  simp only [Bool.and_eq_true] at c
  obtain ⟨c1, c2, c3, c4, c5, c6, c7, c8, c9, c10, c11, c12, c13, c14, c15, c16, c17, c18, c19, c20, c21, c22⟩ := c
  refine ⟨⟨famB d.fam, newB d.fam, initB d.fam, famBm d.fam, d.st, ma K (ga K d.x) "__init__", fam_ok d.fam, init_eq d.fam, ⟨c2, c3, eqO_ok c4, c5, of_decide_eq_true c6, ?_⟩, tie_ok c22 rfl w, t.tx, t.bd, eqO_ok c19, of_decide_eq_true c20⟩,
    t.ne, PySem.W.mg_none_of X G (eqO_ok c21), fun p hp => eqO_ok (List.all_eq_true.mp c8 p hp), eqO_ok c9, c10, PySem.W.mg_of X G (eqO_ok c1), of_decide_eq_true c11, of_decide_eq_true c12, eqO_ok c13, eqO_ok c14, c5, eqO_ok c15, eqO_ok c16, of_decide_eq_true c17, of_decide_eq_true c18, t.db⟩
  rw [← init_eq]
  exact eqO_ok c7
/-! ### static methods -/
def fnWa (K : PySem.W.Frag) (f : Addr) : FnW := match K.lookup f with
  | some ⟨_, _, .func fd, _⟩ => some (fd.name, fd.qualname, fd.params, fd.body, fd.scope, fd.globals, fd.closure, fd.builtins)
  | _ => none
/-- the static method m of the class x: its def (d.at_ is not looked at) -/
structure SDef where
  x : Str
  m : Str
  d : DefD
def SDef.ad (K : PySem.W.Frag) (s : SDef) : Addr := He5.wf K (ga K s.x) "staticmethod" s.m
def SDef.ok (K : PySem.W.Frag) (s : SDef) : Bool := He5.wrapB K (ga K s.x) "staticmethod" "staticmethod.__get__" s.m && (PySem.W.readsIn K (ga K s.x) (.type "type") &&
  (eqO (PySem.W.specialIn K (.ref (ga K s.x)) "__getattribute__") (some (some (.builtin "type.__getattribute__"))) && (PySem.W.keepIn K (.ref (s.ad K)) && (match K.lookup (s.ad K) with
  | some ⟨_, _, .func fd, _⟩ => PySem.W.codeIn K fd.code s.d.qual && (dflB K fd.defaults (s.d.dvs K) && kwdB K fd.kwdefaults (s.d.kws K))
  | _ => false))))
theorem SDef.funD {K : PySem.W.Frag} {s : SDef} (e : fnWa K (s.ad K) = s.d.val) (c : s.ok K = true) : ∃ fd, FunD K s.d.name s.d.qual s.d.params s.d.body s.d.scope (s.d.dvs K) (s.d.kws K) (s.ad K) fd := by
  obtain ⟨c1, c⟩ := ba c
  obtain ⟨c3, c⟩ := ba c
  obtain ⟨c5, c⟩ := ba c
  obtain ⟨kp, c2⟩ := ba c
  clear c c1 c3 c5
  unfold fnWa at e
  generalize hf : s.ad K = f at e kp c2
  cases q : K.lookup f with
  | none =>
    rw [q] at c2
    cases c2
  | some o =>
    obtain ⟨oc, od, dt, osl⟩ := o
    rw [q] at c2 e
    cases dt with
    | func fd =>
      obtain ⟨n1, n2, n3, n4, n5, n6, n7, n8, n9, n10, n11, n12, n13, n14, n15⟩ := fd
      have e2 : (some (n1, n2, n3, n4, n5, n6, n7, n15) : FnW) = some (s.d.name, s.d.qual, s.d.params, .stmts s.d.body, s.d.scope, mainGlobals, [], builtinsNs) := e
      simp only [Option.some.injEq, Prod.mk.injEq] at e2
      obtain ⟨h1, h2, h3, h4, h5, h6, h7, h8⟩ := e2
      subst h1 h2 h3 h4 h5 h6 h7 h8
      have c3 : (PySem.W.codeIn K n13 s.d.qual && (dflB K n8 (s.d.dvs K) && kwdB K n9 (s.d.kws K))) = true := c2
      obtain ⟨k1, k2⟩ := ba c3
      obtain ⟨k3, k4⟩ := ba k2
      exact ⟨_, ⟨oc, od, n8, n9, n10, n11, n12, n13, n14, osl, rfl, q, k1, dflB_ok k3, kwdB_ok k4⟩, kp⟩
    | _ => cases c2
/-! ### the Hook -/
abbrev AlF : Type := Bool × List FnW × List IniW × List FnW
/-- what is looked at: facts, defs, exception classes, a Bool of one's own -/
structure Ask where
  file : Str
  fa : List Fa
  fn : List DefD
  fx : List FltD
  xt : PySem.W.Frag → Bool
  fs : List SDef := []
def Ask.obs (a : Ask) (K : PySem.W.Frag) : AlF := ((a.fa.all fun f => f.ok K) && ((a.fn.all fun d => d.ok K) && ((a.fx.all fun d => d.ok K a.file) && (a.xt K && a.fs.all fun d => d.ok K))), a.fn.map (fun d => fnW K d.at_), a.fx.map (fun d => iniW K d.x), a.fs.map fun d => fnWa K (d.ad K))
def Ask.val (a : Ask) : AlF := (true, a.fn.map DefD.val, a.fx.map FltD.val, a.fs.map fun d => d.d.val)
def Says (a : Ask) (K : PySem.W.Frag) : Prop := a.obs K = a.val
def asF (g : Addr → Option Obj) (n : Nat) : List Addr := cStatics :: asD g n
def Ask.obsG (n : Nat) (a : Ask) (g : Addr → Option Obj) : AlF := a.obs (frG g (asF g n))
def hookF (n : Nat) (a : Ask) : PySem.W.Hook where
  α := AlF
  obs := fun s => a.obsG n s.heap.get?
  val := fun _ => a.val
  says := fun _ h => ∃ K : PySem.W.Frag, K.In h ∧ Says a K
  of := fun _ _ e => ⟨_, frG_in, e⟩
  keeps := fun _ _ _ ⟨K, hK, c⟩ k => ⟨K, PySem.W.Frag.In.keeps hK k, c⟩
theorem obsG_eq {n : Nat} {a : Ask} {g : Addr → Option Obj} {s : Shared} (h : ∀ b, g b = s.heap.get? b) : a.obsG n g = (hookF n a).obs s := by
  have e : g = s.heap.get? := funext h
  rw [e] <;> rfl
section
variable {a : Ask} {K : PySem.W.Frag}
theorem Says.all (c : Says a K) : (a.fa.all fun f => f.ok K) = true ∧ (a.fn.all fun d => d.ok K) = true ∧ (a.fx.all fun d => d.ok K a.file) = true ∧ a.xt K = true := by
  have c1 := ba (show ((a.fa.all fun f => f.ok K) && ((a.fn.all fun d => d.ok K) && ((a.fx.all fun d => d.ok K a.file) && (a.xt K && a.fs.all fun d => d.ok K)))) = true from congrArg (fun z : AlF => z.1) c)
  have c2 := ba c1.2
  have c3 := ba c2.2
  exact ⟨c1.1, c2.1, c3.1, (ba c3.2).1⟩
theorem Says.sts (c : Says a K) : (a.fs.all fun d => d.ok K) = true := by
  have c1 := ba (show ((a.fa.all fun f => f.ok K) && ((a.fn.all fun d => d.ok K) && ((a.fx.all fun d => d.ok K a.file) && (a.xt K && a.fs.all fun d => d.ok K)))) = true from congrArg (fun z : AlF => z.1) c)
  exact (ba (ba (ba c1.2).2).2).2
theorem Says.sdef (c : Says a K) (i : Nat) {d : SDef} (h : a.fs[i]? = some d := by rfl) : ∃ fd, FunD K d.d.name d.d.qual d.d.params d.d.body d.d.scope (d.d.dvs K) (d.d.kws K) (d.ad K) fd := by
  have e : (a.fs.map fun d => fnWa K (d.ad K)) = a.fs.map fun d => d.d.val := congrArg (fun z : AlF => z.2.2.2) c
  have e2 : (a.fs.map fun d => fnWa K (d.ad K))[i]? = (a.fs.map fun d => d.d.val)[i]? := by rw [e]
  rw [List.getElem?_map, List.getElem?_map, h] at e2
  exact SDef.funD (Option.some.inj e2) (List.all_eq_true.mp c.sts d (List.mem_of_getElem? h))
theorem Says.sok (c : Says a K) (i : Nat) {d : SDef} (h : a.fs[i]? = some d := by rfl) : d.ok K = true := List.all_eq_true.mp c.sts d (List.mem_of_getElem? h)
theorem Says.fact (c : Says a K) (i : Nat) {f : Fa} (h : a.fa[i]? = some f := by rfl) : f.ok K = true := List.all_eq_true.mp c.all.1 f (List.mem_of_getElem? h)
theorem Says.glo {h : Heap} {mg : Str → Option Value} (c : Says a K) (X : K.In h) (G : h.Ns mainGlobals mg) {x : Str} (m : Fa.glo x ∈ a.fa) : mg x = some (.ref (ga K x)) := glo_ok X G (List.all_eq_true.mp c.all.1 _ m)
theorem Says.free {h : Heap} {mg : Str → Option Value} (c : Says a K) (X : K.In h) (G : h.Ns mainGlobals mg) {x : Str} (m : Fa.free x ∈ a.fa) : mg x = none := free_ok X G (List.all_eq_true.mp c.all.1 _ m)
theorem Says.def_ (c : Says a K) (i : Nat) {d : DefD} (h : a.fn[i]? = some d := by rfl) : ∃ fd, FunD K d.name d.qual d.params d.body d.scope (d.dvs K) (d.kws K) (fAd K d.at_) fd := by
  have e : a.fn.map (fun d => fnW K d.at_) = a.fn.map DefD.val := congrArg (fun z : AlF => z.2.1) c
  have e2 : (a.fn.map fun d => fnW K d.at_)[i]? = (a.fn.map DefD.val)[i]? := by rw [e]
  rw [List.getElem?_map, List.getElem?_map, h] at e2
  exact DefD.funD (Option.some.inj e2) (List.all_eq_true.mp c.all.2.1 d (List.mem_of_getElem? h))
theorem Says.flt {prog : Program} {h : Heap} {mg : Str → Option Value} (c : Says a K) (X : K.In h) (G : h.Ns mainGlobals mg) (ef : a.file = prog.main.file) (i : Nat) {d : FltD} (hd : a.fx[i]? = some d) (t : FltT prog d) : FK.Flt prog K mg d.x (ga K d.x) d.fl d.ps := by
  have e : a.fx.map (fun d => iniW K d.x) = a.fx.map FltD.val := congrArg (fun z : AlF => z.2.2.1) c
  have e2 : (a.fx.map fun d => iniW K d.x)[i]? = (a.fx.map FltD.val)[i]? := by rw [e]
  rw [List.getElem?_map, List.getElem?_map, hd] at e2
  exact flt_ok X G (ef ▸ List.all_eq_true.mp c.all.2.2.1 d (List.mem_of_getElem? hd)) (Option.some.inj e2) t
end
end Hf
namespace RM
open PySem PySem.Spec PyProof.Rows L2
/-- what K must know that a number may stand on the right -/
def numR (K : PySem.W.Frag) (C : Addr) (nm : String) : Bool := (match PySem.W.findIn K (.ref C) (PySem.dunderR nm) with
  | some none => true
  | _ => false) && (PySem.W.findIn K (.type "int") (PySem.dunder nm)).isSome && (PySem.W.findIn K (.type "int") (PySem.dunderR nm)).isSome && PySem.W.subIn K (.type "int") (.ref C) == some false
/-- what K must know that a number or a text may stand on the right of == -/
def eqR (K : PySem.W.Frag) (C : Addr) : Bool := PySem.W.notFirst K C (.type "int") && PySem.W.notFirst K C (.type "str")
end RM
end
section
namespace C
open PySem PySem.Spec PyProof.Rows L2 RZ
/-! ### what the head says of own classes -/
abbrev CL : Type := List (Str × List Str)
def bTys : List String := ["NoneType", "bool", "int", "str", "list", "tuple"]
/-- what the head says of the own classes L (each with its fields) -/
def clsB (L : CL) (K : PySem.W.Frag) : Bool := He.eqO (PySem.W.specialIn K (.builtin "object.__class__") "__get__") (some (some (.builtin "getset_descriptor.__get__"))) && (decide (PySem.W.takesIn K (.builtin "object.__class__") = some true) &&
  L.all fun p => (He.Fa.cls p.1).ok K && ((p.2.all fun f => He.eqO (PySem.W.findIn K (.ref (He.ga K p.1)) f) (some none)) && (He.eqO (PySem.W.findIn K (.ref (He.ga K p.1)) "__class__") (some (some (.builtin "object.__class__"))) && (decide (PySem.W.mroIn K (He.ga K p.1) (.type "object") = some true) &&
    ((L.all fun q => decide (PySem.W.kitOne K (.ref (He.ga K p.1)) (.ref (He.ga K q.1)) = some (p.1 == q.1))) && bTys.all fun T => decide (PySem.W.kitOne K (.type T) (.ref (He.ga K p.1)) = some false) && decide (PySem.W.kitOne K (.ref (He.ga K p.1)) (.type T) = some false))))))
abbrev CLw : CL := [("Whole", ["deep", "_told", "text"])]
/-- what the head says for k12: the class, its operators first, gcd and lcm -/
def wholeB12 (K : PySem.W.Frag) : Bool := clsB CLw K && (PySem.W.selfFirst K (He.ga K "Whole") && (He.eqO (PySem.W.nsIn K mainGlobals "gcd") (some (some (.builtin "math.gcd"))) && He.eqO (PySem.W.nsIn K mainGlobals "lcm") (some (some (.builtin "math.lcm")))))

end C
end
section
namespace C
open PySem PySem.Spec PyProof.Rows L2 RZ
/-! ### k01: the class Ratio, its errors -/
abbrev CLr : CL := [("Ratio", ["top", "bottom", "text"])]
abbrev psInvalidNumber : List Str := ["value"]
abbrev flInvalidNumber : List (Str × FK.Src) := [("value", .par "value"), ("code", .txt "InvalidNumber")]
abbrev psInvalidText : List Str := ["text"]
abbrev flInvalidText : List (Str × FK.Src) := [("text", .par "text"), ("code", .txt "InvalidText")]
/-- which error a clause catches -/
def xmT : List (Str × Str × Bool) := [("InvalidNumber", "InvalidNumber", true), ("InvalidText", "InvalidText", true)]
def xm (C B : Str) : Option Bool := (xmT.find? fun t => t.1 == C && t.2.1 == B).map fun t => t.2.2
def xmB (K : PySem.W.Frag) : Bool := xmT.all fun t => decide (PySem.W.exmOne K (.ref (He.ga K t.1)) (.ref (He.ga K t.2.1)) = some t.2.2)
/-- what the head says for k01 -/
def ratB01 (K : PySem.W.Frag) : Bool := clsB CLr K && (PySem.W.selfFirst K (He.ga K "Ratio") && (He.eqO (PySem.W.nsIn K mainGlobals "gcd") (some (some (.builtin "math.gcd"))) && (He.eqO (PySem.W.nsIn K cStatics "sys.int_max_str_digits") (some none) && (xmB K && (RM.numR K (He.ga K "Ratio") "add" && (RM.numR K (He.ga K "Ratio") "sub" && (RM.numR K (He.ga K "Ratio") "mul" && RM.eqR K (He.ga K "Ratio"))))))))

end C
end
section
set_option maxHeartbeats 0
namespace D
open PySem PySem.Spec PyProof.Rows L2
def topS (i : Nat) : Stmt := PySem.Challenge.pw_leastfetched_k01_ratios_beside_pairs.main.body.getD i (.Pass ⟨0, 0, 0, 0⟩)
abbrev s_law_bag : Stmt := topS 14
abbrev s_law_draw : Stmt := topS 15
abbrev s_law_of : Stmt := topS 16
abbrev s_law_up : Stmt := topS 23
abbrev s_law_down : Stmt := topS 24
abbrev s_law_gcd : Stmt := topS 19
abbrev s_law_low : Stmt := topS 20
abbrev s_integer_text : Stmt := topS 7
abbrev s_Ratio_init : Stmt := inClass (topS 11) 0
abbrev s_law_int : Stmt := topS 17
abbrev s_law_like : Stmt := topS 18
abbrev s_law_zero_refused : Stmt := topS 29
abbrev s_law_text : Stmt := topS 21
abbrev s_Ratio_repr : Stmt := inClass (topS 11) 7
abbrev s_law_is : Stmt := topS 22
abbrev s_Ratio_floor : Stmt := inClass (topS 11) 9
abbrev s_Ratio_ceiling : Stmt := inClass (topS 11) 10
abbrev s_law_whole_parts_so : Stmt := topS 31
abbrev s_as_ratio : Stmt := topS 12
abbrev s_Ratio_add : Stmt := inClass (topS 11) 3
abbrev s_Ratio_sub : Stmt := inClass (topS 11) 4
abbrev s_Ratio_mul : Stmt := inClass (topS 11) 5
abbrev s_Ratio_compare : Stmt := inClass (topS 11) 8
abbrev s_Ratio_eq : Stmt := inClass (topS 11) 2
abbrev s_law_two_so : Stmt := topS 30
abbrev s_law_digits : Stmt := topS 25
abbrev s_law_fraction : Stmt := topS 26
abbrev s_is_amount : Stmt := topS 8
abbrev s_is_integer : Stmt := topS 9
abbrev s_Ratio_read : Stmt := inClass (topS 11) 1
abbrev s_law_reads : Stmt := topS 28
abbrev s_law_bent : Stmt := topS 27
abbrev s_Ratio_neg : Stmt := inClass (topS 11) 6
abbrev s_law : Stmt := topS 32
end D
namespace D
open PySem PySem.Spec PyProof.Rows L2
abbrev iInvalidText : Stmt := inClass (topS 3) 0
def xInvalidText : Hf.FltD := ⟨"InvalidText", 0, iInvalidText, ["text"], [("text", .par "text"), ("code", .txt "InvalidText")]⟩
abbrev iInvalidNumber : Stmt := inClass (topS 4) 0
def xInvalidNumber : Hf.FltD := ⟨"InvalidNumber", 0, iInvalidNumber, ["value"], [("value", .par "value"), ("code", .txt "InvalidNumber")]⟩
def d_law_bag : He.DefD := ⟨("_law_bag", none), "_law_bag", "_law_bag", defArgs s_law_bag, defBody s_law_bag, defScope s_law_bag, [], []⟩
def d_law_draw : He.DefD := ⟨("_law_draw", none), "_law_draw", "_law_draw", defArgs s_law_draw, defBody s_law_draw, defScope s_law_draw, [], []⟩
def d_law_of : He.DefD := ⟨("_law_of", none), "_law_of", "_law_of", defArgs s_law_of, defBody s_law_of, defScope s_law_of, [], []⟩
def d_law_up : He.DefD := ⟨("_law_up", none), "_law_up", "_law_up", defArgs s_law_up, defBody s_law_up, defScope s_law_up, [], []⟩
def d_law_down : He.DefD := ⟨("_law_down", none), "_law_down", "_law_down", defArgs s_law_down, defBody s_law_down, defScope s_law_down, [], []⟩
def d_law_gcd : He.DefD := ⟨("_law_gcd", none), "_law_gcd", "_law_gcd", defArgs s_law_gcd, defBody s_law_gcd, defScope s_law_gcd, [], []⟩
def d_law_low : He.DefD := ⟨("_law_low", none), "_law_low", "_law_low", defArgs s_law_low, defBody s_law_low, defScope s_law_low, [], []⟩
def d_integer_text : He.DefD := ⟨("integer_text", none), "integer_text", "integer_text", defArgs s_integer_text, defBody s_integer_text, defScope s_integer_text, [], []⟩
def d_Ratio_init : He.DefD := ⟨("Ratio", some "__init__"), "__init__", "Ratio.__init__", defArgs s_Ratio_init, defBody s_Ratio_init, defScope s_Ratio_init, [.int 1], []⟩
def d_law_int : He.DefD := ⟨("_law_int", none), "_law_int", "_law_int", defArgs s_law_int, defBody s_law_int, defScope s_law_int, [], []⟩
def d_law_like : He.DefD := ⟨("_law_like", none), "_law_like", "_law_like", defArgs s_law_like, defBody s_law_like, defScope s_law_like, [], []⟩
def d_law_zero_refused : He.DefD := ⟨("_law_zero_refused", none), "_law_zero_refused", "_law_zero_refused", defArgs s_law_zero_refused, defBody s_law_zero_refused, defScope s_law_zero_refused, [], []⟩
def d_law_text : He.DefD := ⟨("_law_text", none), "_law_text", "_law_text", defArgs s_law_text, defBody s_law_text, defScope s_law_text, [], []⟩
def d_Ratio_repr : He.DefD := ⟨("Ratio", some "__repr__"), "__repr__", "Ratio.__repr__", defArgs s_Ratio_repr, defBody s_Ratio_repr, defScope s_Ratio_repr, [], []⟩
def d_law_is : He.DefD := ⟨("_law_is", none), "_law_is", "_law_is", defArgs s_law_is, defBody s_law_is, defScope s_law_is, [], []⟩
def d_Ratio_floor : He.DefD := ⟨("Ratio", some "floor"), "floor", "Ratio.floor", defArgs s_Ratio_floor, defBody s_Ratio_floor, defScope s_Ratio_floor, [], []⟩
def d_Ratio_ceiling : He.DefD := ⟨("Ratio", some "ceiling"), "ceiling", "Ratio.ceiling", defArgs s_Ratio_ceiling, defBody s_Ratio_ceiling, defScope s_Ratio_ceiling, [], []⟩
def d_law_whole_parts_so : He.DefD := ⟨("_law_whole_parts_so", none), "_law_whole_parts_so", "_law_whole_parts_so", defArgs s_law_whole_parts_so, defBody s_law_whole_parts_so, defScope s_law_whole_parts_so, [], []⟩
def d_as_ratio : He.DefD := ⟨("as_ratio", none), "as_ratio", "as_ratio", defArgs s_as_ratio, defBody s_as_ratio, defScope s_as_ratio, [], []⟩
def d_Ratio_add : He.DefD := ⟨("Ratio", some "__add__"), "__add__", "Ratio.__add__", defArgs s_Ratio_add, defBody s_Ratio_add, defScope s_Ratio_add, [], []⟩
def d_Ratio_sub : He.DefD := ⟨("Ratio", some "__sub__"), "__sub__", "Ratio.__sub__", defArgs s_Ratio_sub, defBody s_Ratio_sub, defScope s_Ratio_sub, [], []⟩
def d_Ratio_mul : He.DefD := ⟨("Ratio", some "__mul__"), "__mul__", "Ratio.__mul__", defArgs s_Ratio_mul, defBody s_Ratio_mul, defScope s_Ratio_mul, [], []⟩
def d_Ratio_compare : He.DefD := ⟨("Ratio", some "compare"), "compare", "Ratio.compare", defArgs s_Ratio_compare, defBody s_Ratio_compare, defScope s_Ratio_compare, [], []⟩
def d_Ratio_eq : He.DefD := ⟨("Ratio", some "__eq__"), "__eq__", "Ratio.__eq__", defArgs s_Ratio_eq, defBody s_Ratio_eq, defScope s_Ratio_eq, [], []⟩
def d_law_two_so : He.DefD := ⟨("_law_two_so", none), "_law_two_so", "_law_two_so", defArgs s_law_two_so, defBody s_law_two_so, defScope s_law_two_so, [], []⟩
def d_law_digits : He.DefD := ⟨("_law_digits", none), "_law_digits", "_law_digits", defArgs s_law_digits, defBody s_law_digits, defScope s_law_digits, [], []⟩
def d_law_fraction : He.DefD := ⟨("_law_fraction", none), "_law_fraction", "_law_fraction", defArgs s_law_fraction, defBody s_law_fraction, defScope s_law_fraction, [], []⟩
def d_is_amount : He.DefD := ⟨("is_amount", none), "is_amount", "is_amount", defArgs s_is_amount, defBody s_is_amount, defScope s_is_amount, [], []⟩
def d_is_integer : He.DefD := ⟨("is_integer", none), "is_integer", "is_integer", defArgs s_is_integer, defBody s_is_integer, defScope s_is_integer, [], []⟩
def d_Ratio_read : He.DefD := ⟨("Ratio", some "read"), "read", "Ratio.read", defArgs s_Ratio_read, defBody s_Ratio_read, defScope s_Ratio_read, [], []⟩
def d_law_reads : He.DefD := ⟨("_law_reads", none), "_law_reads", "_law_reads", defArgs s_law_reads, defBody s_law_reads, defScope s_law_reads, [], []⟩
def d_law_bent : He.DefD := ⟨("_law_bent", none), "_law_bent", "_law_bent", defArgs s_law_bent, defBody s_law_bent, defScope s_law_bent, [], []⟩
def d_Ratio_neg : He.DefD := ⟨("Ratio", some "__neg__"), "__neg__", "Ratio.__neg__", defArgs s_Ratio_neg, defBody s_Ratio_neg, defScope s_Ratio_neg, [], []⟩
def d_law : He.DefD := ⟨("law", none), "law", "law", defArgs s_law, defBody s_law, defScope s_law, [], []⟩
def fn : List He.DefD := [d_law_bag, d_law_draw, d_law_of, d_law_up, d_law_down, d_law_gcd, d_law_low, d_integer_text, d_Ratio_init, d_law_int, d_law_like, d_law_zero_refused, d_law_text, d_Ratio_repr, d_law_is, d_Ratio_floor, d_Ratio_ceiling, d_law_whole_parts_so, d_as_ratio, d_Ratio_add, d_Ratio_sub, d_Ratio_mul, d_Ratio_compare, d_Ratio_eq, d_law_two_so, d_law_digits, d_law_fraction, d_is_amount, d_is_integer, d_law_reads, d_law_bent, d_Ratio_neg, d_law]
def fs : List Hf.SDef := [⟨"Ratio", "read", d_Ratio_read⟩]
def fx : List Hf.FltD := [xInvalidText, xInvalidNumber]
def fa : List He.Fa := ([.glo "law", .glo "_law_bag", .glo "_law_draw", .glo "_law_of", .glo "_law_up", .glo "_law_down", .glo "_law_gcd", .glo "_law_low", .glo "integer_text", .glo "_law_int", .glo "_law_like", .glo "_law_zero_refused", .glo "_law_text", .glo "_law_is", .glo "_law_whole_parts_so", .glo "as_ratio", .glo "_law_two_so", .glo "_law_digits", .glo "_law_fraction", .glo "is_amount", .glo "is_integer", .glo "_law_reads", .glo "_law_bent", .glo "Ratio", .glo "InvalidNumber", .glo "NestError", .glo "InvalidText", .free "int", .free "list", .free "len"] : List He.Fa) ++ ([.free "abs", .free "str", .free "divmod", .free "isinstance", .free "bool", .free "tuple", .free "zip", .free "all", .free "repr", .free "min", .free "range", .int "LIMIT" 1000000000000000000000000000000000000000000000000000000000000, .mkr "Ratio", .cls "Ratio", .meth "Ratio" "__repr__", .meth "Ratio" "floor", .meth "Ratio" "ceiling", .meth "Ratio" "__add__", .meth "Ratio" "__sub__", .meth "Ratio" "__mul__", .meth "Ratio" "compare", .meth "Ratio" "__eq__", .meth "Ratio" "__neg__"] : List He.Fa)
def ask : Hf.Ask := ⟨PySem.Challenge.pw_leastfetched_k01_ratios_beside_pairs.main.file, fa, fn, fx, C.ratB01, fs⟩
abbrev R : PySem.W.OpenRow := PySem.W.OpenLaw.row PySem.Challenge.rw_leastfetched_k01_ratios_beside_pairs
abbrev hk : PySem.W.Hook := Hf.hookF 6 ask
def ob (s : PySem.W.SharedT) : Hf.AlF := Hf.Ask.obsG 6 ask (HandSHeadRun.getT s)
theorem ob_eq (s : PySem.W.SharedT) : ob s = hk.obs s.abs := Hf.obsG_eq (HandSHeadRun.getT_eq s)
def loose : List PySem.Str := (["gcd", "NestError", "InvalidText", "InvalidNumber", "LIMIT", "integer_text", "is_amount", "is_integer", "Ratio", "as_ratio", "_law_bag", "_law_draw", "_law_of", "_law_int", "_law_like", "_law_gcd", "_law_low", "_law_text", "_law_is", "_law_up", "_law_down", "_law_digits", "_law_fraction", "_law_bent", "_law_reads", "_law_zero_refused", "_law_two_so", "_law_whole_parts_so"] : List PySem.Str)
theorem run (w : World) : HandSHeadRun.RunEqI R (PySem.W.view R.prog [0, 32]) hk ob 20000 loose w := by
  unfold HandSHeadRun.RunEqI
  kernel_rfl
end D
end
section
set_option Elab.async false
set_option linter.all false
set_option maxRecDepth 100000
set_option maxHeartbeats 4000000
namespace FK
open PySem PySem.W PySem.Calls PyProof.Rows
section
variable {M : Model} {A : Around} {E : Value → Shared → Prop} {h : Heap} {g : Array GenState} {d : Drawn} {t : Nat} {os : OsState}
variable {nm q : Str} {C N : Addr} {bs bm bmB : List Value} {hdct : Bool} {sn : List Str} {sub : List Value} {ab : Bool} {col : Option Bool} {dd : Option Addr} {k0 k1 k2 k3 k5 : Option Value} {B newId initId : String} {kw : List (Str × Value)}
theorem new_checked (FM : ExcBaseFacts B newId initId bmB) (hT : ∀ X : String, bm.contains (.type X) = bmB.contains (.type X)) {rest : List Value} {Q : Unit → Shared → Prop}
    (hC : h.get? C = some (excClassObj nm q C N bs bm hdct sn sub ab col dd k0 k1 k2 k3 k5 newId)) (hq : Q () ⟨h, g, d, t, os⟩) : wpAny M A (checkBuiltinCall newId ⟨.ref C :: rest, kw⟩) Q E ⟨h, g, d, t, os⟩ := by
  have hin : (Value.ref C :: bm).contains (.type B) = true := by rw [List.contains_cons, hT, FM.hasB, Bool.or_true]
  have nostar := FM.noStar
  simp only [checkBuiltinCall, FM.newKind, FM.newSplit, FM.newRow]
  repeat (first | refine wpAny_loadPart_at hC ?_ | (refine wpAny_isSubtype_exc hC ?_; rw [hin]) | refine wpAny_staticBase_exc hC ?_ | refine wpAny_madeBy_exc hC ?_ | simp only [bne_self_eq_false, Bool.false_eq_true, if_false] | wp_step)
  exact hq
theorem typeCall_checked {M : Model} {rest : List Value} {Q : Unit → Shared → Prop} (hC : h.get? C = some (excClassObj nm q C N bs bm hdct sn sub ab col dd k0 k1 k2 k3 k5 newId)) (hq : Q () ⟨h, g, d, t, os⟩) :
    wpAny M A (checkBuiltinCall "type.__call__" ⟨.ref C :: rest, kw⟩) Q E ⟨h, g, d, t, os⟩ := by
  have f3 := tc_sub
  have ty : (⟨h, g, d, t, os⟩ : Shared).TypeIs (.ref C) "type" := ⟨_, hC, rfl⟩
  simp only [checkBuiltinCall, tc_kind, tc_split]
  repeat (any_goals (first | assumption | with_reducible refine wpAny_loadPart_at hC ?_ | with_reducible refine wpAny_onRaise ?_ | with_reducible refine wpAny_map ?_ | wp_step))
end
section
variable {prog : Program} {w : World} {A : Around} {E : Value → Shared → Prop} {R : Result → Shared → Prop} {h : Heap} {g : Array GenState} {d : Drawn} {t : Nat} {os : OsState}
variable {nm q : Str} {C N : Addr} {bs bm bmB : List Value} {hdct : Bool} {sn : List Str} {sub : List Value} {ab : Bool} {col : Option Bool} {dd : Option Addr} {k0 k1 k2 k3 k5 : Option Value} {B newId initId : String} {kw : List (Str × Value)}
theorem new_laid (FM : ExcBaseFacts B newId initId bmB) (hT : ∀ X : String, bm.contains (.type X) = bmB.contains (.type X)) {rest : List Value}
    (hC : h.get? C = some (excClassObj nm q C N bs bm hdct sn sub ab col dd k0 k1 k2 k3 k5 newId))
    (hq : R (.ok (.ret (.ref (h.objs.size + 1)))) ⟨(h.push (kdv_tup rest)).push (xo C h.objs.size none), g, d, t, os⟩) (hrest : rest.length ≤ sizeLine) :
    codeAny (model prog w) A (.builtin newId ⟨.ref C :: rest, kw⟩) R ⟨h, g, d, t, os⟩ := by
  have fin := FM.ends
  have cB : (Value.ref C :: bm).contains (.type B) = true := by rw [List.contains_cons, hT, FM.hasB, Bool.or_true]
  have cA : (Value.ref C :: bm).contains (.type "AttributeError") = false := by rw [List.contains_cons, hT, FM.noAttr]; rfl
  have cN : (Value.ref C :: bm).contains (.type "NameError") = false := by rw [List.contains_cons, hT, FM.noName]; rfl
  refine codeAny_builtinAt FM.entry ?_
  unfold Builtin.«BaseException.__new__»
  refine PySem.wpAt_bind ?_
  show PySem.wpAt _ _ _ (stack >>= _) _ _ _
  refine PySem.wpAt_bind (PySem.wpAt_stack fun p below => PySem.wpAt_of_wpAny ?_)
  wp_walk
  refine PySem.wpAt_of_wpAny ?_
  rw [FM.owner]
  repeat (first | with_reducible refine wpAny_madeHere_exc FM.canon hC ?_ | with_reducible refine wpAny_loadPart_at hC ?_ | (with_reducible refine wpAny_isSubtype_exc hC ?_; first | rw [cB] | rw [cA] | rw [cN]) | wp_step)
  show R _ _
  rw [Heap.size_push]
  exact hq
theorem typeCall_run (FM : ExcBaseFacts B newId initId bmB) (hT : ∀ X : String, bm.contains (.type X) = bmB.contains (.type X)) {rest : List Value} {fI : Addr} {Q : Fin → Shared → Prop}
    (hC : h.get? C = some (excClassObj nm q C N bs bm hdct sn sub ab col dd k0 k1 k2 k3 k5 newId))
    (hi : Looks (model prog w) h (typeLookup (.ref C) "__init__") (some (.ref fI))) (hb : ∀ self, Looks (model prog w) h (bindSpecial (.ref fI) self) (.ref fI, [self])) (hrest : rest.length ≤ sizeLine)
    (hq : codeAny (model prog w) A (.call (.ref fI) ⟨.ref (h.objs.size + 1) :: rest, kw⟩)
      (fun r s' => match r with | .ok (.ret v) => v = .none ∧ Q (.done (.ret (.ref (h.objs.size + 1)))) s' | .ok _ => False | .error e => E e s')
      ⟨(h.push (kdv_tup rest)).push (xo C h.objs.size none), g, d, t, os⟩) :
    wpAny (model prog w) A (Builtin.«type.__call__» ⟨.ref C :: rest, kw⟩) Q E ⟨h, g, d, t, os⟩ := by
  repeat (first | with_reducible refine wpAny_loadPart_at hC ?_ | with_reducible refine wpAny_madeBy_exc hC ?_ | wp_step)
  refine codeAny_call_builtin_code (Code.quiet_builtin _ FM.quiet) (new_checked FM hT hC ?_)
  refine new_laid FM hT hC ?_ hrest
  show wpAny _ _ _ _ _ _
  have k : ∀ b o, h.get? b = some o → ((h.push (kdv_tup rest)).push (xo C h.objs.size none)).get? b = some o := fun b o e => Heap.get?_push_of_some _ (Heap.get?_push_of_some _ e)
  have C1 := k _ _ hC
  have e1 : ((h.push (kdv_tup rest)).push (xo C h.objs.size none)).get? (h.objs.size + 1) = some (xo C h.objs.size none) := by heap_get
  have cC : (Value.ref C :: bm).contains (.ref C) = true := by simp
  have i1 := hi.keeps k
  have b1 := (hb (.ref (h.objs.size + 1))).keeps k
  unfold isInstance
  repeat (first | with_reducible refine wpAny_loadPart_at e1 ?_ | (with_reducible refine wpAny_isSubtype_exc C1 ?_; rw [cC]) | wp_step)
  show wpAny _ _ (typeLookup (.ref C) _) _ _ _
  refine i1.at ?_
  refine wpAny_holding (wpAny_bind (b1.at ?_))
  refine wpAny_bind (wpAny_call (codeAny_mono hq fun r s' z => ?_))
  rcases r with e | (v | _ | _ | _) <;> first | exact z | exact z.elim | skip
  obtain ⟨rfl, z⟩ := z
  first
    | exact wpAny_pure (wpAny_pure z)
    | (wp_walk; exact z)
theorem call_ownK (FM : ExcBaseFacts B newId initId bmB) (hT : ∀ X : String, bm.contains (.type X) = bmB.contains (.type X)) {rest : List Value} {fI : Addr}
    (hC : h.get? C = some (excClassObj nm q C N bs bm hdct sn sub ab col dd k0 k1 k2 k3 k5 newId))
    (hi : Looks (model prog w) h (typeLookup (.ref C) "__init__") (some (.ref fI))) (hb : ∀ self, Looks (model prog w) h (bindSpecial (.ref fI) self) (.ref fI, [self])) (hrest : rest.length ≤ sizeLine)
    (hq : codeAny (model prog w) (A.under (.builtin "type.__call__" ⟨.ref C :: rest, kw⟩)) (.call (.ref fI) ⟨.ref (h.objs.size + 1) :: rest, kw⟩) (InitBack (h.objs.size + 1) R)
      ⟨(h.push (kdv_tup rest)).push (xo C h.objs.size none), g, d, t, os⟩) :
    codeAny (model prog w) A (.call (.ref C) ⟨rest, kw⟩) R ⟨h, g, d, t, os⟩ := by
  have f1 := tc_lookup
  have f2 := tc_bind (.ref C)
  have ty : (⟨h, g, d, t, os⟩ : Shared).TypeIs (.ref C) "type" := ⟨_, hC, rfl⟩
  refine codeAny_of_tree ?_
  show wpAny _ _ (callAny (.ref C) _) _ _ _
  repeat (any_goals (first | assumption | with_reducible refine wpAny_loadPart_at hC ?_ | wp_step))
  refine ⟨rfl, ?_⟩
  refine codeAny_call_builtin_at (Code.quiet_builtin _ (by decide +kernel)) entry_typeCall (typeCall_checked hC (typeCall_run FM hT hC hi hb hrest ?_))
  refine codeAny_mono hq fun r s' z => ?_
  rcases r with e | (v | _ | _ | _) <;> exact z
end
/-- how keywords bind: ks in their order at the call, the parameters' values are the i-th of them -/
def BindK (qual : Str) (st : Stmt) (ps ks : List Str) (g : {α : Type} → List α → List α) : Prop := ∀ (doc pm ct cda : Value) (an : Option Addr) (cc : Addr) (self : Value) (us : List Value), us.length = ks.length →
  bindArgs (ksFn "__init__" qual (L2.defArgs st) (L2.defBody st) (L2.defScope st) .none .none doc pm an cda ct cc) ⟨[self], ks.zip us⟩ = pure ((("self" : Str) :: ps).zip (self :: g us))
section
variable {prog : Program} {w : World} {A : Around} {E : Value → Shared → Prop} {R : Result → Shared → Prop} {K : Frag} {C : Addr} {s : Shared} {x : Str} {ps ks : List Str} {fl : List (Str × Src)} {mg mb : Str → Option Value} {gg : {α : Type} → List α → List α}
/-- the same as a Flt, and how these keywords bind -/
structure FltK (prog : Program) (K : Frag) (mg : Str → Option Value) (x : Str) (C : Addr) (fl : List (Str × Src)) (ps ks : List Str) (gg : {α : Type} → List α → List α) : Prop where
  ex : ∃ (B newId initId : String) (bmB : List Value) (st : Stmt) (fI : Addr), Fam B newId initId bmB ∧ initId = B ++ ".__init__" ∧ Cl K C B newId bmB ∧ IniFn prog K C fI (x ++ ".__init__") st ∧ IniTx prog st ps fl ∧ BindK (x ++ ".__init__") st ps ks gg ∧
    findIn K (.ref C) "__init__" = some (some (.ref fI)) ∧ typeIn K (.ref fI) = some (.type "function")
  T : Flt prog K mg x C fl ps
  rel : ∀ (vs : List L2.V) (us : List Value), L2.Vals vs us → L2.Vals (gg vs) (gg us)
  len : ∀ vs : List L2.V, vs.length = ks.length → (gg vs).length = ps.length
theorem madeK (T : FltK prog K mg x C fl ps ks gg) {us : List Value} {vs : List L2.V} (r : L2.Vals vs us) (hl : vs.length = ks.length)
    (X : K.In s.heap) (G : s.heap.Ns mainGlobals mg) (Bt : s.heap.Ns builtinsNs mb) (hbt : mb "super" = some (.type "super")) (lim : s.heap.NoLimit) (hroom : A.depth + 1 < recursionLimit)
    (hq : ∀ h' tk e, Made s.heap h' e C (flds ps fl (gg vs)) → R (.ok (.ret (.ref e))) { s with heap := h', toks := tk }) :
    codeAny (model prog w) A (.call (.ref C) ⟨[], ks.zip us⟩) R s := by
  obtain ⟨B, newId, initId, bmB, st, fI, FM, ei, TC, FI, TX, bd, hi, tI⟩ := T.ex
  obtain ⟨nm, N', qn, bs, bm, hdct, sn, sub, ab, col, dd, k0, k1, k2, k3, k5, hC, hT⟩ := excInit_of X TC.ini
  obtain ⟨hp, g, dr, tk, os⟩ := s
  have k : ∀ b o, hp.get? b = some o → ((hp.push (kdv_tup [])).push (xo C hp.objs.size none)).get? b = some o := fun b o e => Heap.get?_push_of_some _ (Heap.get?_push_of_some _ e)
  have hget : ((hp.push (kdv_tup [])).push (xo C hp.objs.size none)).get? (hp.objs.size + 1) = some (xo C hp.objs.size none) := by heap_get
  have hnx : K.lookup (hp.objs.size + 1) = none := by
    cases e : K.lookup (hp.objs.size + 1) with
    | none => rfl
    | some o =>
      have z : hp.get? (hp.objs.size + 1) = some o := X _ _ e
      exact absurd (Nat.lt_of_succ_lt (Heap.lt_size z)) (Nat.lt_irrefl _)
  have r2 := T.rel vs us r
  have l2 := T.len vs hl
  have lu : us.length = ks.length := by rw [← r.length]; exact hl
  refine call_ownK FM.base hT hC (looks_findIn X hi) (fun self => bind_fn X self tI) (Nat.zero_le _) ?_
  refine init_run (s := ⟨(hp.push (kdv_tup [])).push (xo C hp.objs.size none), g, dr, tk, os⟩) (us := gg us) (vs := gg vs) FM ei TC FI TX T.T.ne T.T.sup T.T.no T.T.opq (fun fd lk fo hfd => ?_) r2 (by rw [← r2.length]; exact l2) (X.keeps k) (G.keeps k) (Bt.keeps k) hbt (lim.keeps k) hget hnx ?_ fun h' tk' EN => ?_
  · obtain ⟨oc, od, doc, pm, ct, an, osl, cda, cc, lk2, _⟩ := FI.ex
    rw [lk] at lk2
    cases lk2
    cases hfd
    exact BindsTo.of_eq (bd doc pm ct (.ref cda) an cc (.ref (hp.objs.size + 1)) us lu)
  · show A.depth + 1 < recursionLimit
    exact hroom
  · obtain ⟨t1, d, e1, d1, d2, mA, n1, rel⟩ := EN.ex
    have old : ∀ b o, hp.get? b = some o → h'.get? b = some o := fun b o e => EN.keep b o (Nat.ne_of_lt (Nat.lt_succ_of_lt (Heap.lt_size e))) (k b o e)
    have z : hp.objs.size ≤ d := by
      have q2 : hp.objs.size + 1 + 1 ≤ d := by simpa only [Heap.size_push] using d1
      omega
    exact ⟨rfl, hq h' tk' (hp.objs.size + 1) ⟨old, Nat.le_succ _, t1, d, e1, z, d2, mA, n1, rel⟩⟩
end
end FK
namespace L2
open PySem PySem.Spec PyProof.Rows
section
variable {X : Cx} {x : Str} {C : Addr} {fl : List (Str × FK.Src)} {ps ks : List Str} {gg : {α : Type} → List α → List α}
/-- C(k = e, ..) as a value -/
def tMkVK (C : Addr) (ps ks : List Str) (gg : {α : Type} → List α → List α) (fl : List (Str × FK.Src)) (tk : TA) : TE := fun σ H Q => tk σ H fun vs H1 => vs.length = ks.length ∧ ∀ a d, H1 a = none → H1 d = none → d ≠ a → Q (.ref a) (upd (upd H1 d (.xd (FK.flds ps fl (gg vs)))) a (exo a C (some d)))
theorem pe_fltK {kws : List Keyword} {tk : TA} {p pos : Pos} {k : Nat} (T : FK.FltK X.prog X.K X.mg x C fl ps ks gg) (hr : Room (k + 1) X.A) (hkw : PK X kws tk) (hall : (backToKw pos (keywordEach kws X.env)).all (·.1.isSome) = true := by rfl)
    (hks : (backToKw pos (keywordEach kws X.env)).filterMap (·.1) = ks := by rfl) (hg : Gl X x := by rfl) (hne : kws ≠ [] := by decide)
    (hpl : ((backTo pos (starEach [] X.env)).any (·.1) || (backToKw pos (keywordEach kws X.env)).any (·.1.isNone)) = false := by rfl) :
    PE X (.Call (.Name x p) [] kws pos) (tMkVK C ps ks gg fl tk) := by
  refine ⟨fun pins s σ H Q I h => ?_⟩
  refine wpAny_Call_Name_kw (ld_glob I hg T.T.gC ?_ T.T.db)
  refine PySem.W.callWith_KW0 (h₀ := X.base) I.ok.mod.kin T.T.kC hall (thn (hkw.run pos pins s σ H _ I h) fun us s1 ⟨vs, H1, I1, r1, hl, q1⟩ => ⟨I1.kIn, ?_⟩) hpl
  rw [hks]
  obtain ⟨mb, hmb, hbt⟩ := I1.ok.mod.blt
  refine wpAny_call (FK.madeK T r1 hl I1.kIn (I1.ok.mod.glob.keeps I1.bk) (hmb.keeps I1.bk) ((hbt "super" (by decide)).trans (by first | boot_by_name | rfl | kernel_rfl)) I1.nolimit ?_ fun h' tk e M => ?_)
  · have := hr.dp
    omega
  · exact mk_value I1 M q1
end
/-! ### isinstance of an error -/
/-- isinstance(e, c), e an error that is held -/
def rIsiX (K : PySem.W.Frag) : List V → Hp → VK → Prop := fun xs H Q => ∃ (a C d : Addr) (fs : List (Str × V)) (c : V) (u : Value) (b : Bool), xs = [.ref a, c] ∧ ExV H a C d fs ∧ (∃ prog mg nm fl ps, FK.Flt prog K mg nm C fl ps) ∧ ClsV c u ∧ PySem.W.kitOne K (.ref C) u = some b ∧ Q (.bl b) H
theorem call_isiX {X : Cx} : CallR X (.builtin "isinstance") (rIsiX X.K) := by
  intro pins s σ H xs us Q I r h
  obtain ⟨a, C, d, fs, c, u, b, rfl, ⟨ea, ed⟩, ⟨_, _, _, _, _, T⟩, k, e, q⟩ := h
  obtain ⟨u1, u2, rfl, r1, r2⟩ := vals2 r
  have e2 := k.eq r2
  subst e2
  obtain rfl : u1 = Value.ref a := r1
  obtain ⟨t1, ho⟩ := exo_at I.hok ea
  obtain ⟨mA, hns, hr⟩ := (show ObjOk X.prog X.w H s.heap d (.xd fs) from I.hok d _ ed)
  obtain ⟨od, hod, hl⟩ := lookIn_ns hns
  have J : PySem.W.InstAt s.heap a (FK.xo C t1 (some d)) C (some od) := ⟨ho, rfl, rfl, hod⟩
  have hcl : (PySem.W.clsIn X.K C).isSome = true := by
    obtain ⟨cd, hc, _⟩ := PySem.W.any_some T.dict
    rw [hc] <;> rfl
  exact PySem.W.kia_one (PySem.W.kitx_exc hcl T.ga T.gg T.exC T.clsA T.clsG T.clsT T.mrO) I.kIn J e (fun z => nomatch z) fun tk => ⟨.bl b, H, I.tok tk, rfl, q⟩
def rIsiU (K : PySem.W.Frag) : List V → Hp → VK → Prop := fun xs H Q => rIsi K xs H Q ∨ rIsiX K xs H Q
theorem c_isi {X : Cx} : CallR X (.builtin "isinstance") (rIsiU X.K) := CallR.or call_isi call_isiX
end L2
end
section
set_option Elab.async false
set_option linter.all false
set_option maxRecDepth 100000
set_option maxHeartbeats 4000000
/-! Rules of the layer joined by their operands' kinds; readings opened one step at a time. -/
namespace U
open PySem PySem.Spec PyProof.Rows L2 RZ

/-! ### one def called by name -/
/-- a def: its promise sp (level k), where its name stands, how it binds -/
structure Fd (P : Program) (w : World) (K : PySem.W.Frag) (mg : Str → Option Value) (base : Heap) (CX : CXT) (x : Str) (k : Nat) (ps : List Str) (sp : Sp) : Prop where
  ex : ∃ (f : Addr) (fd : FuncData), FnOk P w K mg base CX k f fd ps sp ∧ mg x = some (.ref f) ∧ PySem.W.keepIn K (.ref f) = true ∧ Binds K fd ps []
  nd : (x == ("__debug__" : Str)) = false
theorem Fd.mono {P : Program} {w : World} {K : PySem.W.Frag} {mg : Str → Option Value} {base : Heap} {CX : CXT} {x : Str} {j k : Nat} {ps : List Str} {sp : Sp} (D : Fd P w K mg base CX x j ps sp) (h : j ≤ k) : Fd P w K mg base CX x k ps sp := by
  obtain ⟨f, fd, F, a, b, c⟩ := D.ex
  exact ⟨⟨f, fd, F.mono h, a, b, c⟩, D.nd⟩
theorem fd_of {P : Program} {w : World} {K : PySem.W.Frag} {mg : Str → Option Value} {base : Heap} {CX : CXT} {x : Str} {k : Nat} {ps : List Str} {sp : Sp} {st : Stmt} {f : Addr} {fd : FuncData}
    (F : FunD K x x (defArgs st) (defBody st) (defScope st) [] [] f fd) (ok : FnOk P w K mg base CX k f fd ps sp) (g : mg x = some (.ref f))
    (h : ∀ (kV doc pm : Value) (an : Option Addr) (cdv ct : Value) (us : List Value), us.length = ps.length → bindArgs (PySem.W.fnOf x x (defArgs st) (defBody st) (defScope st) .none kV doc pm an cdv ct) ⟨us, []⟩ = pure (ps.zip us)) (nd : (x == ("__debug__" : Str)) = false := by decide) :
    Fd P w K mg base CX x k ps sp := ⟨⟨f, fd, ok, g, F.kp, FunD.bindsN F h⟩, nd⟩
section
variable {X : Cx} {x : Str} {p pos : Pos} {e : Expr} {es : List Expr} {t : TA} {k : Nat} {ps : List Str} {sp : Sp}
theorem pe_fd (D : Fd X.prog X.w X.K X.mg X.base CX0 x k ps sp) (hr : Room k X.A) (ha : PA X (e :: es) t) (hg : Gl X x := by rfl)
    (he : starEach (e :: es) X.env = (false, eval e X.env) :: starEach es X.env := by rfl) (hpl : (backTo pos (starEach es X.env)).any (·.1) = false := by rfl) :
    PE X (.Call (.Name x p) (e :: es) [] pos) (tCall sp [] E0 t) := by
  obtain ⟨f, fd, F, m, kp, b⟩ := D.ex
  exact pe_call F hr hg m kp b .nil pass0 ha D.nd he hpl
theorem pe_fd0 (D : Fd X.prog X.w X.K X.mg X.base CX0 x k ps sp) (hr : Room k X.A) (hg : Gl X x := by rfl) : PE X (.Call (.Name x p) [] [] pos) (tCall sp [] E0 tNil) := by
  obtain ⟨f, fd, F, m, kp, b⟩ := D.ex
  exact pe_call0 F hr hg m kp b .nil pass0 D.nd
end

/-! ### operators by their operands' kinds -/
def rAddS : R2 := fun x y H Q => ∃ i j, x = .str i ∧ y = .str j ∧ i.length + j.length ≤ sizeLine ∧ Q (.str (i ++ j)) H
def rAddI : R2 := rI0 fun i j => .int (i + j)
def rSubI : R2 := rI0 fun i j => .int (i - j)
def rAddU (K : PySem.W.Frag) : R2 := fun x y H Q => rAddI x y H Q ∨ (rAddS x y H Q ∨ (rCat x y H Q ∨ rCatT K x y H Q))
def rMulU : R2 := fun x y H Q => rI CMul (fun i j => .int (i * j)) x y H Q ∨ (rI CMulW (fun i j => .int (i * j)) x y H Q ∨ rRep x y H Q)
def rDivU : R2 := fun x y H Q => rI CDivW (fun i j => .int (i / j)) x y H Q ∨ rI CDivN (fun i j => .int (i.fdiv j)) x y H Q
def rModU : R2 := fun x y H Q => rI (fun _ j => 0 < j) (fun i j => .int (i % j)) x y H Q ∨ rI (fun _ j => j ≠ 0) (fun i j => .int (i.fmod j)) x y H Q
def rPowU : R2 := rI CPow fun i j => .int (i ^ j.toNat)
def rEqU (K : PySem.W.Frag) : R2 := fun x y H Q => rEq x y H Q ∨ rEqD K x y H Q
def rNeU (K : PySem.W.Frag) : R2 := fun x y H Q => rNe x y H Q ∨ rNeD K x y H Q
def rLtI : R2 := rI0 fun i j => .bl (decide (i < j))
def rLeI : R2 := rI0 fun i j => .bl (decide (i ≤ j))
def rGtI : R2 := rI0 fun i j => .bl (decide (j < i))
def rGeI : R2 := rI0 fun i j => .bl (decide (j ≤ i))
def rInStr : R2 := fun x y H Q => ∃ i j, x = .str i ∧ y = .str j ∧ Q (.bl (!(Builtin.Str.occurrences j i 0 j.length 1).isEmpty)) H
def rNInStr : R2 := fun x y H Q => ∃ i j, x = .str i ∧ y = .str j ∧ Q (.bl (!(!(Builtin.Str.occurrences j i 0 j.length 1).isEmpty))) H
def rInU (K : PySem.W.Frag) : R2 := fun x y H Q => rIn K false x y H Q ∨ (rInStr x y H Q ∨ rInD K x y H Q)
def rNInU (K : PySem.W.Frag) : R2 := fun x y H Q => rIn K true x y H Q ∨ (rNInStr x y H Q ∨ rNotInD K x y H Q)
def rIsN : R2 := fun x y H Q => y = .non ∧ Q (.bl (decide (x = .non))) H
def rNotN : R2 := fun x y H Q => y = .non ∧ Q (.bl (!decide (x = .non))) H
def rNegI : V → Hp → VK → Prop := rU fun i => .int (-i)
section
variable {X : Cx}
theorem o_add : OpR X (binaryOp .Add) (rAddU X.K) := OpR.or op_add (OpR.or op_add_str (OpR.or op_cat op_catT))
theorem o_sub : OpR X (binaryOp .Sub) rSubI := op_sub
theorem o_mul : OpR X (binaryOp .Mult) rMulU := OpR.or op_mul (OpR.or op_mulW op_rep)
theorem o_div : OpR X (binaryOp .FloorDiv) rDivU := OpR.or op_fdivW op_fdivN
theorem o_mod : OpR X (binaryOp .Mod) rModU := OpR.or op_mod op_modN
theorem o_pow : OpR X (binaryOp .Pow) rPowU := op_pow
theorem o_eq (hu : X.A.units + 64 < cLine) : OpR X (compareOp .Eq) (rEqU X.K) := OpR.or op_eq (op_eqD hu)
theorem o_ne (hu : X.A.units + 64 < cLine) : OpR X (compareOp .NotEq) (rNeU X.K) := OpR.or op_ne (op_neD hu)
theorem o_lt : OpR X (compareOp .Lt) rLtI := op_lt
theorem o_le : OpR X (compareOp .LtE) rLeI := op_le
theorem o_gt : OpR X (compareOp .Gt) rGtI := op_gt
theorem o_ge : OpR X (compareOp .GtE) rGeI := op_ge
theorem o_in (hu : X.A.units + 65 < cLine) : OpR X (compareOp .In) (rInU X.K) := OpR.or op_in_seq (OpR.or op_in_str (op_inD hu))
theorem o_nin (hu : X.A.units + 65 < cLine) : OpR X (compareOp .NotIn) (rNInU X.K) := OpR.or op_notIn_seq (OpR.or op_notIn_str (op_notInD hu))
theorem o_is : OpR X (compareOp .Is) rIsN := op_isN
theorem o_isnot : OpR X (compareOp .IsNot) rNotN := op_notN
theorem o_neg : UnR X (unaryOp .USub) rNegI := un_neg
end
def rSlU (K : PySem.W.Frag) : V → Option Int → Option Int → Hp → VK → Prop := fun x lo hi H Q => rSlL K x lo hi H Q ∨ (rSlS x lo hi H Q ∨ rSlA K x lo hi H Q)
theorem o_sl {X : Cx} : SlR X (rSlU X.K) := SlR.or sl_list (SlR.or sl_str sl_tupA)
def rLenU (K : PySem.W.Frag) : List V → Hp → VK → Prop := fun xs H Q => ∃ x n, xs = [x] ∧ LenV K x H n ∧ Q (.int n) H
def rAbs : List V → Hp → VK → Prop := fun xs H Q => ∃ i, xs = [.int i] ∧ Q (.int (if i < 0 then -i else i)) H
def rMin2 : List V → Hp → VK → Prop := fun xs H Q => ∃ i j, xs = [.int i, .int j] ∧ Q (.int (if j < i then j else i)) H
def rMax2 : List V → Hp → VK → Prop := fun xs H Q => ∃ i j, xs = [.int i, .int j] ∧ Q (.int (if j > i then j else i)) H
def rInt1 : List V → Hp → VK → Prop := fun xs H Q => (∃ i, xs = [.int i] ∧ Q (.int i) H) ∨ ∃ k, xs = [.bl k] ∧ Q (.int (if k then 1 else 0)) H
def rListOf (K : PySem.W.Frag) : List V → Hp → VK → Prop := fun xs H Q => ∃ p ys, xs = [.ref p] ∧ (SqL K H p ys ∨ SqT K H p ys) ∧ ∀ l, H l = none → Q (.ref l) (upd H l (.lst ys))
def rTupOf (K : PySem.W.Frag) : List V → Hp → VK → Prop := fun xs H Q => ∃ p ys, xs = [.ref p] ∧ ((SqL K H p ys ∧ ∀ l, H l = none → Q (.ref l) (upd H l (.tup ys))) ∨ (SqT K H p ys ∧ Q (.ref p) H))
section
variable {X : Cx}
theorem c_len : CallR X (.builtin "len") (rLenU X.K) := call_len
theorem c_abs : CallR X (.builtin "abs") rAbs := call_abs
theorem c_min2 (hc : X.calm = true) : CallR X (.builtin "min") rMin2 := call_min2 hc
theorem c_max2 (hc : X.calm = true) : CallR X (.builtin "max") rMax2 := call_max2 hc
theorem c_int1 : CallR X (.type "int") rInt1 := call_int1
theorem c_list : CallR X (.type "list") (rListOf X.K) := call_list_of
theorem c_tuple : CallR X (.type "tuple") (rTupOf X.K) := call_tuple_of
end

/-! ### readings opened -/
section
variable {K : PySem.W.Frag} {σ σ' : L2.St} {H : Hp} {Q : VK} {D : Ends} {ta tb te to tc : TE} {tt tu : TT} {ta' t tk : TA} {r r' : R2} {i j : Nat} {v w x y : V} {sp : Sp} {E : XK} {s u : TS} {g : TG} {gs : TGs} {vs : List V} {Qb : Bool → Hp → Prop} {Qs : List V → Hp → Prop} {Qσ : L2.St → Hp → Prop} {R : It → Hp → Prop}
theorem v_var (h : σ[i]? = some (some v)) (q : Q v H) : tVar i σ H Q := ⟨v, h, q⟩
theorem v_c (q : Q v H) : tC v σ H Q := q
theorem v_op (q : ta σ H fun x H1 => tb σ H1 fun y H2 => r x y H2 Q) : tOp r ta tb σ H Q := q
theorem v_un {r : V → Hp → VK → Prop} (q : ta σ H fun x H1 => r x H1 Q) : tUn r ta σ H Q := q
theorem v_cb {r : List V → Hp → VK → Prop} (q : t σ H fun vs H1 => r vs H1 Q) : tCB r t σ H Q := q
theorem v_nil (q : Qs [] H) : tNil σ H Qs := q
theorem v_cons (q : ta σ H fun x H1 => t σ H1 fun xs H2 => Qs (x :: xs) H2) : tCons ta t σ H Qs := q
theorem v_if (q : tt σ H fun c H1 => if c = true then ta σ H1 Q else tb σ H1 Q) : tIf tt ta tb σ H Q := q
theorem v_test (q : ta σ H fun x H1 => ∃ k, x = .bl k ∧ Qb k H1) : tTest ta σ H Qb := q
theorem v_b (q : ta σ H fun x H1 => ∃ k, x = .bl k ∧ Qb k H1) : tB ta σ H Qb := q
theorem v_bl {b : Bool} {P : Bool → Prop} (q : P b) : ∃ k, V.bl b = .bl k ∧ P k := ⟨b, rfl, q⟩
theorem v_and (q : tt σ H fun c H1 => if c = true then tu σ H1 Qb else Qb false H1) : tAnd tt tu σ H Qb := q
theorem v_or (q : tt σ H fun c H1 => if c = true then Qb true H1 else tu σ H1 Qb) : tOr tt tu σ H Qb := q
theorem v_not (q : tt σ H fun c H1 => Qb (!c) H1) : tNot tt σ H Qb := q
theorem v_andV (q : ta σ H fun x H1 => ∃ c, x = .bl c ∧ if c = true then tb σ H1 Q else Q (.bl false) H1) : tAndV ta tb σ H Q := q
theorem v_orV (q : ta σ H fun x H1 => ∃ c, x = .bl c ∧ if c = true then Q (.bl true) H1 else tb σ H1 Q) : tOrV ta tb σ H Q := q
theorem v_notV (q : ta σ H fun x H1 => ∃ c, x = .bl c ∧ Q (.bl (!c)) H1) : tNotV ta σ H Q := q
theorem v_tup (q : t σ H fun xs H1 => xs.length ≤ sizeLine ∧ ∀ p, H1 p = none → Q (.ref p) (upd H1 p (.tup xs))) : tTup t σ H Q := q
theorem v_lst (q : t σ H fun xs H1 => xs.length ≤ sizeLine ∧ ∀ p, H1 p = none → Q (.ref p) (upd H1 p (.lst xs))) : tLst t σ H Q := q
theorem v_call (q : t σ H fun vs H1 => sp vs H1 Q E) : tCall sp [] E t σ H Q := by
  have e : (fun vs H1 => sp (vs ++ []) H1 Q E) = fun vs H1 => sp vs H1 Q E := by
    funext vs H1
    rw [List.append_nil]
  show t σ H fun vs H1 => sp (vs ++ []) H1 Q E
  rw [e]
  exact q
theorem v_sl {r : V → Option Int → Option Int → Hp → VK → Prop} {tl th : TO} (q : te σ H fun x H1 => tl σ H1 fun l H2 => th σ H2 fun u H3 => r x l u H3 Q) : tSl r te tl th σ H Q := q
theorem v_nopart {Qo : Option Int → Hp → Prop} (q : Qo none H) : tNoPart σ H Qo := q
theorem v_part {Qo : Option Int → Hp → Prop} (q : te σ H fun x H1 => ∃ i, x = .int i ∧ Qo (some i) H1) : tPart te σ H Qo := q
theorem v_xi {n : Int} {P : Int → Prop} (q : P n) : ∃ k, V.int n = .int k ∧ P k := ⟨n, rfl, q⟩
/-! statements -/
theorem v_next (q : D.nx σ H) : tNext D σ H := q
theorem v_seq (q : s { D with nx := u D } σ H) : tSeq s u D σ H := q
theorem v_drop (q : te σ H fun _ H1 => D.nx σ H1) : tDrop te D σ H := q
theorem v_ret (q : te σ H D.rt) : tRet te D σ H := q
theorem v_retn (q : D.rt .non H) : tRetN D σ H := q
theorem v_ifs (q : tt σ H fun b H1 => if b = true then s D σ H1 else u D σ H1) : tIfS tt s u D σ H := q
theorem v_asg (q : te σ H fun x H1 => g x σ H1 D.nx) : tAsg te g D σ H := q
theorem v_name (q : Qσ (σ.set i (some v)) H) : gName i v σ H Qσ := q
theorem v_par (q : t σ H fun vs H1 => ∃ v w, vs = [v, w] ∧ D.nx ((σ.set i (some v)).set j (some w)) H1) : tPar i j t D σ H := q
theorem v_x2 {P : V → V → Prop} (q : P v w) : ∃ a b, [v, w] = [a, b] ∧ P a b := ⟨v, w, rfl, q⟩
theorem v_sub {ts : TSet} (q : ta σ H fun o H1 => tb σ H1 fun i H2 => ts o i v H2 fun H3 => Qσ σ H3) : gSub ta tb ts v σ H Qσ := q
theorem v_gtup {a : Addr} {n : Nat} (h : SqT K H a vs) (l : vs.length = n) (q : gs vs σ H Qσ) : gTup K n gs (.ref a) σ H Qσ := ⟨a, vs, rfl, h, l, q⟩
theorem v_gcons (q : g v σ H fun σ' H' => gs vs σ' H' Qσ) : gCons g gs (v :: vs) σ H Qσ := ⟨v, vs, rfl, q⟩
theorem v_gnil (q : Qσ σ H) : gNil [] σ H Qσ := ⟨rfl, q⟩
/-! operators at their kinds -/
theorem v_i0 {f : Int → Int → V} {a b : Int} (q : Q (f a b) H) : rI0 f (.int a) (.int b) H Q := ⟨a, b, rfl, rfl, q⟩
theorem v_i {C : Int → Int → Prop} {f : Int → Int → V} {a b : Int} (c : C a b) (q : Q (f a b) H) : rI C f (.int a) (.int b) H Q := ⟨a, b, rfl, rfl, c, q⟩
theorem v_addi {a b : Int} (q : Q (.int (a + b)) H) : rAddU K (.int a) (.int b) H Q := .inl (v_i0 q)
theorem v_adds {a b : Str} (l : a.length + b.length ≤ sizeLine) (q : Q (.str (a ++ b)) H) : rAddU K (.str a) (.str b) H Q := .inr (.inl ⟨a, b, rfl, rfl, l, q⟩)
theorem v_addl {a b : Addr} {xs ys : List V} (ha : H a = some (.lst xs)) (hb : H b = some (.lst ys)) (l : xs.length + ys.length ≤ sizeLine) (q : ∀ p, H p = none → Q (.ref p) (upd H p (.lst (xs ++ ys)))) : rAddU K (.ref a) (.ref b) H Q :=
  .inr (.inr (.inl ⟨a, b, xs, ys, rfl, rfl, ha, hb, l, q⟩))
theorem v_subi {a b : Int} (q : Q (.int (a - b)) H) : rSubI (.int a) (.int b) H Q := v_i0 q
theorem v_muli {a b : Int} (c : CMul a b) (q : Q (.int (a * b)) H) : rMulU (.int a) (.int b) H Q := .inl (v_i c q)
theorem v_mulw {a b : Int} (c : CMulW a b) (q : Q (.int (a * b)) H) : rMulU (.int a) (.int b) H Q := .inr (.inl (v_i c q))
theorem v_divi {a b : Int} (c : CDivW a b) (q : Q (.int (a / b)) H) : rDivU (.int a) (.int b) H Q := .inl (v_i c q)
theorem v_modi {a b : Int} (c : 0 < b) (q : Q (.int (a % b)) H) : rModU (.int a) (.int b) H Q := .inl (v_i (C := fun _ j => 0 < j) c q)
theorem v_pow {a b : Int} (c : CPow a b) (q : Q (.int (a ^ b.toNat)) H) : rPowU (.int a) (.int b) H Q := v_i c q
theorem v_neg {a : Int} (q : Q (.int (-a)) H) : rNegI (.int a) H Q := ⟨a, rfl, q⟩
theorem v_eqi {a b : Int} (q : Q (.bl (decide (a = b))) H) : rEqU K (.int a) (.int b) H Q := .inl ⟨rfl, by rw [show decide (V.int a = V.int b) = decide (a = b) from by rw [decide_eq_decide]; exact ⟨fun z => V.int.inj z, fun z => by rw [z]⟩]; exact q⟩
theorem v_eqs {a b : Str} (q : Q (.bl (decide (a = b))) H) : rEqU K (.str a) (.str b) H Q := .inl ⟨rfl, by rw [show decide (V.str a = V.str b) = decide (a = b) from by rw [decide_eq_decide]; exact ⟨fun z => V.str.inj z, fun z => by rw [z]⟩]; exact q⟩
theorem v_eqb {a b : Bool} (q : Q (.bl (decide (a = b))) H) : rEqU K (.bl a) (.bl b) H Q := .inl ⟨rfl, by rw [show decide (V.bl a = V.bl b) = decide (a = b) from by rw [decide_eq_decide]; exact ⟨fun z => V.bl.inj z, fun z => by rw [z]⟩]; exact q⟩
theorem v_eqd {d e : PyData} (hd : Dp K H x d) (he : Dp K H y e) (sd : SeqAt.shaped d = true) (se : SeqAt.shaped e = true) (q : Q (.bl (PyData.eqv d e)) H) : rEqU K x y H Q := .inr ⟨d, e, hd, he, sd, se, q⟩
theorem v_nei {a b : Int} (q : Q (.bl (!decide (a = b))) H) : rNeU K (.int a) (.int b) H Q := .inl ⟨rfl, by rw [show decide (V.int a = V.int b) = decide (a = b) from by rw [decide_eq_decide]; exact ⟨fun z => V.int.inj z, fun z => by rw [z]⟩]; exact q⟩
theorem v_nes {a b : Str} (q : Q (.bl (!decide (a = b))) H) : rNeU K (.str a) (.str b) H Q := .inl ⟨rfl, by rw [show decide (V.str a = V.str b) = decide (a = b) from by rw [decide_eq_decide]; exact ⟨fun z => V.str.inj z, fun z => by rw [z]⟩]; exact q⟩
theorem v_lti {a b : Int} (q : Q (.bl (decide (a < b))) H) : rLtI (.int a) (.int b) H Q := v_i0 q
theorem v_lei {a b : Int} (q : Q (.bl (decide (a ≤ b))) H) : rLeI (.int a) (.int b) H Q := v_i0 q
theorem v_gti {a b : Int} (q : Q (.bl (decide (b < a))) H) : rGtI (.int a) (.int b) H Q := v_i0 q
theorem v_gei {a b : Int} (q : Q (.bl (decide (b ≤ a))) H) : rGeI (.int a) (.int b) H Q := v_i0 q
theorem v_isn (q : Q (.bl (decide (x = .non))) H) : rIsN x .non H Q := ⟨rfl, q⟩
theorem v_notn (q : Q (.bl (!decide (x = .non))) H) : rNotN x .non H Q := ⟨rfl, q⟩
theorem v_inl {p : Addr} {xs : List V} (h : SqL K H p xs) (fx : flatV x = true) (fs : xs.all flatV = true) (q : Q (.bl (inV x xs)) H) : rInU K x (.ref p) H Q := .inl ⟨p, xs, rfl, .inl h, fx, fs, q⟩
theorem v_ixl {p : Addr} {xs : List V} {n : Int} (h : SqL K H p xs) (ha : atI xs n = some v) (q : Q v H) : rIx K (.ref p) (.int n) H Q := .inl ⟨p, xs, n, v, rfl, rfl, h, ha, q⟩
theorem v_ixt {p : Addr} {xs : List V} {n : Int} (h : SqT K H p xs) (ha : atI xs n = some v) (q : Q v H) : rIx K (.ref p) (.int n) H Q := .inr (.inl ⟨p, xs, n, v, rfl, rfl, h, ha, q⟩)
theorem v_setl {p : Addr} {xs : List V} {n : Int} {k : Nat} {Qh : Hp → Prop} (h : H p = some (.lst xs)) (hk : ixN xs.length n = some k) (q : Qh (upd H p (.lst (xs.set k v)))) : rSetL (.ref p) (.int n) v H Qh := ⟨p, xs, n, k, rfl, rfl, h, hk, q⟩
theorem v_lenl {p : Addr} {xs : List V} (h : SqL K H p xs) (q : Q (.int xs.length) H) : rLenU K [.ref p] H Q := ⟨_, _, rfl, .inl ⟨xs, h, rfl⟩, q⟩
theorem v_lent {p : Addr} {xs : List V} (h : SqT K H p xs) (q : Q (.int xs.length) H) : rLenU K [.ref p] H Q := ⟨_, _, rfl, .inr ⟨xs, h, rfl⟩, q⟩
theorem v_lens {z : Str} (h : z.length ≤ sizeLine) (q : Q (.int z.length) H) : rLenU K [.str z] H Q := ⟨_, _, rfl, ⟨h, rfl⟩, q⟩
theorem v_abs {a : Int} (q : Q (.int (if a < 0 then -a else a)) H) : rAbs [.int a] H Q := ⟨a, rfl, q⟩
theorem v_min2 {a b : Int} (q : Q (.int (if b < a then b else a)) H) : rMin2 [.int a, .int b] H Q := ⟨a, b, rfl, q⟩
theorem v_max2 {a b : Int} (q : Q (.int (if b > a then b else a)) H) : rMax2 [.int a, .int b] H Q := ⟨a, b, rfl, q⟩
theorem v_int {a : Int} (q : Q (.int a) H) : rInt1 [.int a] H Q := .inl ⟨a, rfl, q⟩
theorem v_list {p : Addr} {xs : List V} (h : SqL K H p xs) (q : ∀ l, H l = none → Q (.ref l) (upd H l (.lst xs))) : rListOf K [.ref p] H Q := ⟨p, xs, rfl, .inl h, q⟩
theorem v_listt {p : Addr} {xs : List V} (h : SqT K H p xs) (q : ∀ l, H l = none → Q (.ref l) (upd H l (.lst xs))) : rListOf K [.ref p] H Q := ⟨p, xs, rfl, .inr h, q⟩
theorem v_tuple {p : Addr} {xs : List V} (h : SqL K H p xs) (q : ∀ l, H l = none → Q (.ref l) (upd H l (.tup xs))) : rTupOf K [.ref p] H Q := ⟨p, xs, rfl, .inl ⟨h, q⟩⟩
theorem v_sll {p : Addr} {xs : List V} {lo hi : Option Int} (h : SqL K H p xs) (q : ∀ l, H l = none → Q (.ref l) (upd H l (.lst (cutV xs lo hi)))) : rSlU K (.ref p) lo hi H Q := .inl ⟨p, xs, rfl, h, q⟩
theorem v_bm {T : String} {r : V → List V → Hp → VK → Prop} (q : to σ H fun x H1 => tyV K T x H1 ∧ t σ H1 fun xs H2 => r x xs H2 Q) : tBM K T r to t σ H Q := q
theorem v_bm0 {T : String} {r : V → List V → Hp → VK → Prop} (q : to σ H fun x H1 => tyV K T x H1 ∧ r x [] H1 Q) : tBM0 K T r to σ H Q := q
theorem ty_list {p : Addr} {xs : List V} (h : SqL K H p xs) : tyV K "list" (.ref p) H := .inl ⟨rfl, xs, h⟩
theorem ty_str {z : Str} : tyV K "str" (.str z) H := rfl
theorem v_append {p : Addr} {xs : List V} (h : H p = some (.lst xs)) (l : xs.length < sizeLine) (q : Q .non (upd H p (.lst (xs ++ [x])))) : rAppend (.ref p) [x] H Q := ⟨p, xs, x, rfl, rfl, h, l, q⟩
/-! walked things -/
theorem v_ilist {p : Addr} {xs : List V} (h : SqL K H p xs) (q : R (Itl K p) H) (hx : ta σ H = fun Q => Q (.ref p) H) : iList K ta σ H R := by
  show ta σ H fun x H1 => ∃ a, x = .ref a ∧ (∃ xs, SqL K H1 a xs) ∧ R (Itl K a) H1
  rw [hx]
  exact ⟨p, rfl, ⟨xs, h⟩, q⟩
/-! ints as scalars -/
theorem two64 {n : Int} (h0 : -18446744073709551616 < n) (h1 : n < 18446744073709551616) : -(2 ^ 64) < n ∧ n < 2 ^ 64 := by
  have e : (2 : Int) ^ 64 = 18446744073709551616 := by decide
  rw [e]
  exact ⟨h0, h1⟩
theorem cmul_l {a b : Int} (h0 : -18446744073709551616 < a) (h1 : a < 18446744073709551616) : CMul a b := .inl (two64 h0 h1)
theorem cmul_r {a b : Int} (h0 : -18446744073709551616 < b) (h1 : b < 18446744073709551616) : CMul a b := .inr (two64 h0 h1)
theorem cdiv_small {a b : Int} (h0 : 0 < b) (h1 : b < 4149515568880992958512407863691161151012446232242436899995657329690652811412908146399707048947103794288197886611300789182395151075411775307886874834113963687061181803401509523685376) : CDivW a b := by
  refine wide_div (b := 600) h0 ?_ (by decide) (by decide)
  have e : (2 : Nat) ^ 600 = 4149515568880992958512407863691161151012446232242436899995657329690652811412908146399707048947103794288197886611300789182395151075411775307886874834113963687061181803401509523685376 := by decide
  rw [e]
  omega
end
/-! ### loops and comprehensions: what is walked, then the turns -/
/-- something that is walked already -/
abbrev iIs (J : It) : TI := fun _ H R => R J H
/-- what comes behind the walked thing -/
def ilK (K : PySem.W.Frag) (R : It → Hp → Prop) : VK := fun x H1 => ∃ a, x = .ref a ∧ (∃ xs, SqL K H1 a xs) ∧ R (Itl K a) H1
def itK (K : PySem.W.Frag) (R : It → Hp → Prop) : VK := fun x H1 => ∃ a, x = .ref a ∧ (∃ xs, SqT K H1 a xs) ∧ R (Itt K a) H1
def irK (R : It → Hp → Prop) : List V → Hp → Prop := fun vs H1 => ∃ j : Int, vs = [.int j] ∧ -(2 ^ 62) ≤ j ∧ j < 2 ^ 62 ∧ R (Itr 0 j.toNat) H1
def izK (K : PySem.W.Frag) (R : It → Hp → Prop) : List V → Hp → Prop := fun vs H1 => ∃ a b xs ys, vs = [.ref a, .ref b] ∧ ((SqL K H1 a xs ∧ SqL K H1 b ys ∧ R (Itz K a b) H1) ∨ (SqT K H1 a xs ∧ SqT K H1 b ys ∧ R (ItzT K a b) H1))
/-- a for over J; a comprehension over J -/
def forI (J : It) (g : TG) (tb : TS) : TS := fun D σ H => tFor (iIs J) g tb D σ H
def lcI (J : It) (g : TG) (tt : TT) (te : TE) (vs : List Nat) : TE := fun σ H Q => tLc (iIs J) g tt te vs σ H Q
section
variable {K : PySem.W.Frag} {σ : L2.St} {H : Hp} {Q : VK} {D : Ends} {ta te : TE} {tt : TT} {t : TA} {tb : TS} {g : TG} {wi : TI} {vs : List Nat} {R : It → Hp → Prop} {J : It} {n : Nat} {G : Hp → Prop} {Y : Nat → Hp → V → Hp → Prop} {a b : Addr} {xs ys : List V}
theorem v_for (q : wi σ H fun J H1 => forI J g tb D σ H1) : tFor wi g tb D σ H := q
theorem v_lc (q : wi σ H fun J H1 => lcI J g tt te vs σ H1 Q) : tLc wi g tt te vs σ H Q := q
theorem v_il (q : ta σ H (ilK K R)) : iList K ta σ H R := q
theorem v_ilr (h : SqL K H a xs) (q : R (Itl K a) H) : ilK K R (.ref a) H := ⟨a, rfl, ⟨xs, h⟩, q⟩
theorem v_it (q : ta σ H (itK K R)) : iTup K ta σ H R := q
theorem v_itr (h : SqT K H a xs) (q : R (Itt K a) H) : itK K R (.ref a) H := ⟨a, rfl, ⟨xs, h⟩, q⟩
theorem v_ir (q : t σ H (irK R)) : iRng1 t σ H R := q
theorem v_irr {j : Int} (h : -4611686018427387904 ≤ j ∧ j < 4611686018427387904) (q : R (Itr 0 j.toNat) H) : irK R [.int j] H := by
  have e : (2 : Int) ^ 62 = 4611686018427387904 := by decide
  exact ⟨j, rfl, by rw [e]; exact h.1, by rw [e]; exact h.2, q⟩
theorem v_iz (q : t σ H (izK K R)) : iZipA K t σ H R := q
theorem v_izl (ha : SqL K H a xs) (hb : SqL K H b ys) (q : R (Itz K a b) H) : izK K R [.ref a, .ref b] H := ⟨a, b, xs, ys, rfl, .inl ⟨ha, hb, q⟩⟩
theorem v_izt (ha : SqT K H a xs) (hb : SqT K H b ys) (q : R (ItzT K a b) H) : izK K R [.ref a, .ref b] H := ⟨a, b, xs, ys, rfl, .inr ⟨ha, hb, q⟩⟩
theorem for_w (w : Walk J n G Y) (Pv : Nat → L2.St → Hp → Prop) (h0 : Pv 0 σ H) (hG : ∀ i σ H, i ≤ n → Pv i σ H → G H)
    (hs : ∀ i x σ H H', i < n → Pv i σ H → Y i H x H' → g x σ H' fun σ2 H2 => tb { D with nx := Pv (i + 1), ct := Pv (i + 1), bk := D.nx } σ2 H2) (hd : ∀ σ H, Pv n σ H → D.nx σ H) : forI J g tb D σ H := for_it w Pv h0 hG hs hd
theorem for_l (Pv : Nat → L2.St → Hp → Prop) (h0 : Pv 0 σ H) (hG : ∀ i σ H, i ≤ xs.length → Pv i σ H → SqL K H a xs)
    (hs : ∀ i x σ H, xs[i]? = some x → Pv i σ H → g x σ H fun σ2 H2 => tb { D with nx := Pv (i + 1), ct := Pv (i + 1), bk := D.nx } σ2 H2) (hd : ∀ σ H, Pv xs.length σ H → D.nx σ H) : forI (Itl K a) g tb D σ H :=
  for_w walk_list Pv h0 hG (fun i x σ H H' hi p ⟨e, q⟩ => by subst e; exact hs i x σ H' q p) hd
theorem for_r {lo : Int} (Pv : Nat → L2.St → Hp → Prop) (h0 : Pv 0 σ H)
    (hs : ∀ i σ H, i < n → Pv i σ H → g (.int (lo + i)) σ H fun σ2 H2 => tb { D with nx := Pv (i + 1), ct := Pv (i + 1), bk := D.nx } σ2 H2) (hd : ∀ σ H, Pv n σ H → D.nx σ H) : forI (Itr lo n) g tb D σ H :=
  for_w walk_range Pv h0 (fun _ _ _ _ _ => trivial) (fun i x σ H H' hi p ⟨e, q⟩ => by subst e q; exact hs i σ H' hi p) hd
theorem lc_w (w : Walk J n G Y) (Pv : Addr → Nat → Hp → Prop) (h0 : ∀ D, H D = none → Pv D 0 (upd H D (.lst []))) (hG : ∀ D i H, i ≤ n → Pv D i H → G H)
    (hs : ∀ D i x H1 H', H D = none → i < n → Pv D i H1 → Y i H1 x H' → g x (wipe σ vs) H' fun σ2 H2 => wipe σ2 vs = wipe σ vs ∧ tt σ2 H2 fun b H3 =>
      if b = true then te σ2 H3 fun y H4 => ∃ acc, H4 D = some (.lst acc) ∧ acc.length < sizeLine ∧ Pv D (i + 1) (upd H4 D (.lst (acc ++ [y]))) else Pv D (i + 1) H3) (hd : ∀ D H1, H D = none → Pv D n H1 → Q (.ref D) H1) :
    lcI J g tt te vs σ H Q := fun D hD => lc_it w (Pv D) (h0 D hD) (hG D) (fun i x H1 H' => hs D i x H1 H' hD) fun H1 => hd D H1 hD
end
/-! ### truth -/
def tTruth (K : PySem.W.Frag) (ta : TE) : TT := fun σ H Q => ta σ H fun x H' => ∃ k, TruV K x H' k ∧ Q k H'
theorem p_truth {X : Cx} {a : Expr} {ta : TE} (ha : PE X a ta) (he : ∀ whole, isTrue a X.env whole = (do let v ← whole; standAt a.pos; holding [v] (truthy v))) : PT X a (tTruth X.K ta) := pt_truth ha he
section
variable {K : PySem.W.Frag} {σ : L2.St} {H : Hp} {Qb : Bool → Hp → Prop} {ta : TE}
theorem v_truth (q : ta σ H fun x H' => ∃ k, TruV K x H' k ∧ Qb k H') : tTruth K ta σ H Qb := q
theorem v_trub {b : Bool} (q : Qb b H) : ∃ k, TruV K (.bl b) H k ∧ Qb k H := ⟨b, rfl, q⟩
theorem v_trul {p : Addr} {xs : List V} (h : SqL K H p xs) (q : Qb (!xs.isEmpty) H) : ∃ k, TruV K (.ref p) H k ∧ Qb k H := ⟨_, .inl ⟨xs, h, rfl⟩, q⟩
end
/-! ### ways that meet again -/
/-- s, then r, with a word between them -/
def tMid (s r : TS) : TS := fun D σ H => ∃ W : L2.St → Hp → Prop, s { D with nx := W } σ H ∧ ∀ σ' H', W σ' H' → r D σ' H'
theorem pss_mid {X : Cx} {st : Stmt} {rest : List Stmt} {s r : TS} (h1 : PS X st s) (h2 : PSs X rest r) : PSs X (st :: rest) (tMid s r) := by
  refine ⟨fun pins sh σ H D I ⟨W, hs, hr⟩ => wpAny_execs_cons (thn (h1.run pins sh σ H _ I hs) fun f s1 q => ?_)⟩
  cases f with
  | next =>
    obtain ⟨σ', H', J, w⟩ := q
    exact h2.run pins s1 σ' H' D J (hr σ' H' w)
  | _ => exact q
theorem v_mid {s r : TS} {D : Ends} {σ : L2.St} {H : Hp} (W : L2.St → Hp → Prop) (h1 : s { D with nx := W } σ H) (h2 : ∀ σ' H', W σ' H' → r D σ' H') : tMid s r D σ H := ⟨W, h1, h2⟩
/-! ### what stands at an address -/
theorem h_ne {H : Hp} {a b : Addr} {o u : HO} (h : b ≠ a) (q : H b = some u) : upd H a o b = some u := by rw [upd_ne h]; exact q
theorem ne_new {H : Hp} {a b : Addr} {o : HO} (h : H b = some o) (n : H a = none) : b ≠ a := ne_of_none h n
theorem ne_new' {H : Hp} {a b : Addr} {o : HO} (h : H b = some o) (n : H a = none) : a ≠ b := Ne.symm (ne_of_none h n)
theorem n_new {H : Hp} {a b : Addr} {o : HO} (h : b ≠ a) (q : H b = none) : upd H a o b = none := by rw [upd_ne h]; exact q
theorem upd_none {H : Hp} {a b : Addr} {o : HO} (h : upd H a o b = none) : b ≠ a ∧ H b = none := by
  by_cases e : b = a
  · subst e
    rw [upd_same] at h
    cases h
  · rw [upd_ne e] at h
    exact ⟨e, h⟩
/-! ### heaps without some addresses -/
/-- H without the addresses S -/
def wo (S : List Addr) (H : Hp) : Hp := fun a => if a ∈ S then none else H a
theorem wo_in {S : List Addr} {H : Hp} {a : Addr} (h : a ∈ S) : wo S H a = none := if_pos h
theorem wo_out {S : List Addr} {H : Hp} {a : Addr} (h : a ∉ S) : wo S H a = H a := if_neg h
theorem wo_get {S : List Addr} {H : Hp} {a : Addr} {o : HO} (h : wo S H a = some o) : a ∉ S ∧ H a = some o := by
  by_cases ha : a ∈ S
  · rw [wo_in ha] at h
    cases h
  · rw [wo_out ha] at h
    exact ⟨ha, h⟩
theorem wo_le {S : List Addr} {H : Hp} : Same (wo S H) H := fun a o h => (wo_get h).2
theorem wo_sub {S T : List Addr} {H : Hp} (h : ∀ a, a ∈ T → a ∈ S) : Same (wo S H) (wo T H) := fun a o e => by
  obtain ⟨h1, h2⟩ := wo_get e
  rw [wo_out fun z => h1 (h a z)]
  exact h2
theorem wo_same {S : List Addr} {H H' : Hp} (h : ∀ a, a ∉ S → ∀ o, H a = some o → H' a = some o) : Same (wo S H) (wo S H') := fun a o e => by
  obtain ⟨h1, h2⟩ := wo_get e
  rw [wo_out h1]
  exact h a h1 o h2
theorem wo_upd {S : List Addr} {H : Hp} {a : Addr} {o : HO} (h : a ∈ S) : Same (wo S H) (wo S (upd H a o)) := wo_same fun b hb u e => by
  have ne : b ≠ a := fun z => by
    subst z
    exact hb h
  rw [upd_ne ne]
  exact e
theorem wo_new {S : List Addr} {H : Hp} {a : Addr} {o : HO} (h : H a = none) : Same (wo S H) (wo S (upd H a o)) := wo_same fun b hb u e => by
  rw [upd_ne (ne_of_none e h)]
  exact e
theorem wo_mono {S : List Addr} {H H' : Hp} (h : Same H H') : Same (wo S H) (wo S H') := wo_same fun a _ o e => h a o e
theorem same_new {H : Hp} {a : Addr} {o : HO} (h : H a = none) : Same H (upd H a o) := fun b u e => by
  rw [upd_ne (ne_of_none e h)]
  exact e
theorem same_sql {K : PySem.W.Frag} {H H' : Hp} {a : Addr} {xs : List V} (e : Same H H') (h : SqL K H a xs) : SqL K H' a xs := e.seq h
theorem same_sqt {K : PySem.W.Frag} {H H' : Hp} {a : Addr} {xs : List V} (e : Same H H') (h : SqT K H a xs) : SqT K H' a xs := by
  rcases h with (h | ⟨o, h⟩) | h
  · exact .inl (.inl (e _ _ h))
  · exact .inl (.inr ⟨o, e _ _ h⟩)
  · exact .inr h
mutual
theorem same_dp {K : PySem.W.Frag} {H H' : Hp} (e : Same H H') : ∀ {v : V} {d : PyData}, Dp K H v d → Dp K H' v d
  | _, _, .non => .non
  | _, _, .bl b => .bl b
  | _, _, .int i => .int i
  | _, _, .str x => .str x
  | _, _, .lst h r => .lst (same_sql e h) (same_dps e r)
  | _, _, .tup h r => .tup (same_sqt e h) (same_dps e r)
theorem same_dps {K : PySem.W.Frag} {H H' : Hp} (e : Same H H') : ∀ {vs : List V} {ds : List PyData}, DpAll K H vs ds → DpAll K H' vs ds
  | _, _, .nil => .nil
  | _, _, .cons h r => .cons (same_dp e h) (same_dps e r)
end
/-! ### a promise by what is asked and what is given -/
/-- g: what the caller names besides the arguments -/
def spOf {G : Type} (pre : G → List V → Hp → Prop) (post : G → Hp → V → Hp → Prop) : Sp := fun vs H Q _ => ∃ g, pre g vs H ∧ ∀ v H', post g H v H' → Q v H'
end U
end
section
set_option Elab.async false
set_option linter.all false
set_option maxRecDepth 100000
set_option maxHeartbeats 4000000
namespace L2
open PySem PySem.Spec PyProof.Rows
section
variable {X : Cx} {x : Str} {C : Addr} {ps : List Str} {fl : List (Str × FK.Src)}
/-- C(): no parameter -/
theorem pe_flt0 {p pos : Pos} {k : Nat} (T : FK.Flt X.prog X.K X.mg x C fl ps) (hr : Room (k + 1) X.A) (hps : ps = [] := by rfl) (hg : Gl X x := by rfl) :
    PE X (.Call (.Name x p) [] [] pos) (tMkV C ps fl tNil) := by
  refine ⟨fun pins s σ H Q I h => ?_⟩
  obtain ⟨hl, q1⟩ : ([] : List V).length = ps.length ∧ ∀ a d, H a = none → H d = none → d ≠ a → Q (.ref a) (upd (upd H d (.xd (FK.flds ps fl []))) a (exo a C (some d))) := h
  refine wpAny_Call_Name_kw (ld_glob I hg T.gC ?_ T.db)
  refine PySem.W.callWith_K0 I.kIn T.kC ?_
  exact mk_core T hr I .nil hl (by rw [hps]; decide) fun h' tk e M => mk_value I M q1
end
end L2
namespace FK
open PySem
def parsB (fl : List (Str × Src)) (ps : List Str) : Bool := fl.all fun p => match p.2 with
  | .par y => decide (y ∈ ps)
  | _ => true
theorem pars_of {fl : List (Str × Src)} {ps : List Str} (h : parsB fl ps = true) : ∀ p ∈ fl, ∀ y, p.2 = .par y → y ∈ ps := fun p hp y e => by
  have q := List.all_eq_true.mp h p hp
  rw [e] at q
  exact of_decide_eq_true q
end FK
namespace Hf
open PySem PySem.Spec PyProof.Rows L2 He
theorem fltK_ok {K : PySem.W.Frag} {prog : Program} {mg : Str → Option Value} {h : Heap} {d : FltD} {ks : List Str} {gg : {α : Type} → List α → List α} (X : K.In h) (G : h.Ns mainGlobals mg) (c : d.ok K prog.main.file = true) (w : iniW K d.x = d.val) (t : FltT prog d)
    (bk : FK.BindK (d.x ++ ".__init__") d.st d.ps ks gg) (rel : ∀ (vs : List L2.V) (us : List Value), L2.Vals vs us → L2.Vals (gg vs) (gg us)) (len : ∀ vs : List L2.V, vs.length = ks.length → (gg vs).length = d.ps.length) : FK.FltK prog K mg d.x (ga K d.x) d.fl d.ps ks gg := by
  have T := flt_ok X G c w t
  unfold FltD.ok at c
  simp only [Bool.and_eq_true] at c
  obtain ⟨c1, c2, c3, c4, c5, c6, c7, c8, c9, c10, c11, c12, c13, c14, c15, c16, c17, c18, c19, c20, c21, c22⟩ := c
  refine ⟨⟨famB d.fam, newB d.fam, initB d.fam, famBm d.fam, d.st, ma K (ga K d.x) "__init__", fam_ok d.fam, init_eq d.fam, ⟨c2, c3, eqO_ok c4, c5, of_decide_eq_true c6, ?_⟩, tie_ok c22 rfl w, t.tx, bk, eqO_ok c19, of_decide_eq_true c20⟩, T, rel, len⟩
  rw [← init_eq]
  exact eqO_ok c7
section
variable {a : Ask} {K : PySem.W.Frag}
theorem Says.fltK {prog : Program} {h : Heap} {mg : Str → Option Value} (c : Says a K) (X : K.In h) (G : h.Ns mainGlobals mg) (ef : a.file = prog.main.file) (i : Nat) {d : FltD} {ks : List Str} {gg : {α : Type} → List α → List α} (hd : a.fx[i]? = some d) (t : FltT prog d)
    (bk : FK.BindK (d.x ++ ".__init__") d.st d.ps ks gg) (rel : ∀ (vs : List L2.V) (us : List Value), L2.Vals vs us → L2.Vals (gg vs) (gg us)) (len : ∀ vs : List L2.V, vs.length = ks.length → (gg vs).length = d.ps.length) : FK.FltK prog K mg d.x (ga K d.x) d.fl d.ps ks gg := by
  have e : a.fx.map (fun d => iniW K d.x) = a.fx.map FltD.val := congrArg (fun z : AlF => z.2.2.1) c
  have e2 : (a.fx.map fun d => iniW K d.x)[i]? = (a.fx.map FltD.val)[i]? := by rw [e]
  rw [List.getElem?_map, List.getElem?_map, hd] at e2
  exact fltK_ok X G (ef ▸ List.all_eq_true.mp c.all.2.2.1 d (List.mem_of_getElem? hd)) (Option.some.inj e2) t bk rel len
end
/-- isinstance by class, told of the frag: (class, asked, told) -/
def kitsOk (K : PySem.W.Frag) (xs : List Str) (ys : List (Value × (Str → Bool))) : Bool := xs.all fun x => ys.all fun y => decide (PySem.W.kitOne K (.ref (ga K x)) y.1 = some (y.2 x))
theorem kits_ok {K : PySem.W.Frag} {xs : List Str} {ys : List (Value × (Str → Bool))} (h : kitsOk K xs ys = true) {x : Str} {y : Value × (Str → Bool)} (hx : x ∈ xs) (hy : y ∈ ys) : PySem.W.kitOne K (.ref (ga K x)) y.1 = some (y.2 x) :=
  of_decide_eq_true (List.all_eq_true.mp (List.all_eq_true.mp h x hx) y hy)
end Hf
end
section
set_option Elab.async false
set_option linter.all false
set_option maxRecDepth 100000
set_option maxHeartbeats 4000000
/-! Own classes: methods, static methods, new instances, by name; what is never reached. -/
namespace U
open PySem PySem.Spec PyProof.Rows L2 RZ
/-! ### never reached -/
def tBotS : TS := fun _ _ _ => False
def tBotE : TE := fun _ _ _ => False
theorem ps_bot {X : Cx} {st : Stmt} : PS X st tBotS := ⟨fun _ _ _ _ _ _ h => h.elim⟩
theorem pss_bot {X : Cx} {st : List Stmt} : PSs X st tBotS := ⟨fun _ _ _ _ _ _ h => h.elim⟩
theorem pe_bot {X : Cx} {e : Expr} : PE X e tBotE := ⟨fun _ _ _ _ _ _ h => h.elim⟩
theorem pe_or {X : Cx} {e : Expr} {ta tb : TE} (a : PE X e ta) (b : PE X e tb) : PE X e (fun σ H Q => ta σ H Q ∨ tb σ H Q) := ⟨fun pins s σ H Q I h => h.elim (a.run pins s σ H Q I) (b.run pins s σ H Q I)⟩
/-! ### static methods -/
structure SMet (K : PySem.W.Frag) (C : Addr) (m : Str) (f : Addr) : Prop where
  rd : PySem.W.readsIn K C (.type "type") = true
  ga : PySem.W.specialIn K (.ref C) "__getattribute__" = some (some (.builtin "type.__getattribute__"))
  at_ : ∃ p, PySem.W.findCls K (.ref C) (.type "type") m = some (.get (.builtin "staticmethod.__get__") (.ref p) .none (.ref C)) ∧ ∃ rest, PySem.W.recIn K p "staticmethod" = some (.ref f :: rest)
section
variable {X : Cx} {pins : List (Addr × Obj)} {σ : L2.St} {H : Hp} {s : Shared} {C f : Addr} {m : Str} {A : Around} {E : Value → Shared → Prop}
theorem getmethsm_ok {pl : Sem Bool} {Q : Value × List Value → Shared → Prop} (I : Inv X pins σ H s) (k : SMet X.K C m f) (h : ∀ s', Inv X pins σ H s' → Q (.ref f, []) s') : wpAny (model X.prog X.w) A (getMethod (.ref C) m pl) Q E s := by
  obtain ⟨p, k1, rest, k2⟩ := k.at_
  refine PySem.W.method_cls I.kIn k.ga (PySem.W.cls_bind I.kIn k.rd k1 (wpAny_call (PySem.W.sm_get (s := { s with toks := s.toks + 1 }) I.kIn k2 (PySem.W.handed_on rfl ?_))))
  exact h _ (I.tok _)
end
/-! ### a method, a new instance, a static method, by what they promise -/
structure Md (P : Program) (w : World) (K : PySem.W.Frag) (mg : Str → Option Value) (base : Heap) (C : Addr) (m : Str) (k : Nat) (ps : List Str) (sp : Sp) : Prop where
  ex : ∃ (f : Addr) (fd : FuncData), FnOk P w K mg base CX0 k f fd ps sp ∧ Cls K C ∧ Meth K C m f ∧ Binds K fd ps []
structure Nd (P : Program) (w : World) (K : PySem.W.Frag) (mg : Str → Option Value) (base : Heap) (x : Str) (C : Addr) (k : Nat) (ps : List Str) (sp : Sp) : Prop where
  ex : ∃ (f : Addr) (fd : FuncData), FnOk P w K mg base CX0 k f fd ps sp ∧ mg x = some (.ref C) ∧ Mk K C f ∧ Binds K fd ps []
  nd : (x == ("__debug__" : Str)) = false
structure Sd (P : Program) (w : World) (K : PySem.W.Frag) (mg : Str → Option Value) (base : Heap) (C : Addr) (m : Str) (k : Nat) (ps : List Str) (sp : Sp) : Prop where
  ex : ∃ (f : Addr) (fd : FuncData), FnOk P w K mg base CX0 k f fd ps sp ∧ SMet K C m f ∧ PySem.W.keepIn K (.ref f) = true ∧ Binds K fd ps []
/-- o.m(e, ..): a method of the class at C -/
def tMd (C : Addr) (m : Str) (sp : Sp) (ta : TE) (t : TA) : TE := tMeth C m sp [] E0 ta t
def tNd (C : Addr) (sp : Sp) (t : TA) : TE := tMake C sp [] E0 t
def tSd (C : Addr) (sp : Sp) (ta : TE) (t : TA) : TE := fun σ H Q => ta σ H fun x H1 => x = .ref C ∧ t σ H1 fun vs H2 => sp vs H2 Q E0
section
variable {X : Cx} {x m : Str} {p pos apos : Pos} {e o : Expr} {es : List Expr} {t : TA} {ta : TE} {k : Nat} {ps : List Str} {sp : Sp} {C : Addr}
theorem pe_md {pl : Sem Bool} (D : Md X.prog X.w X.K X.mg X.base C m k ps sp) (hr : Room k X.A) (he : PE X o ta) (ha : PA X (e :: es) t)
    (hst : starEach (e :: es) X.env = (false, eval e X.env) :: starEach es X.env := by rfl) (hpl : (backTo pos (starEach es X.env)).any (·.1) = false := by rfl)
    (ht : eval (.Call (.Attribute o m apos) (e :: es) [] pos) X.env = (do
      let ov ← eval o X.env
      standAt apos.atName
      let (f, first) ← holding [ov] (getMethod ov m pl)
      callWith pos f first (backTo pos (starEach (e :: es) X.env)) (backToKw pos (keywordEach [] X.env))) := by rfl) :
    PE X (.Call (.Attribute o m apos) (e :: es) [] pos) (tMd C m sp ta t) := by
  obtain ⟨f, fd, F, c, hm, b⟩ := D.ex
  exact pe_meth (pl := pl) he c hm F hr b .nil pass0 ha hst hpl ht
theorem pe_md0 {pl : Sem Bool} (D : Md X.prog X.w X.K X.mg X.base C m k ps sp) (hr : Room k X.A) (he : PE X o ta)
    (ht : eval (.Call (.Attribute o m apos) [] [] pos) X.env = (do
      let ov ← eval o X.env
      standAt apos.atName
      let (f, first) ← holding [ov] (getMethod ov m pl)
      callWith pos f first (backTo pos (starEach [] X.env)) (backToKw pos (keywordEach [] X.env))) := by rfl) :
    PE X (.Call (.Attribute o m apos) [] [] pos) (tMeth C m sp [] E0 ta tNil) := by
  obtain ⟨f, fd, F, c, hm, b⟩ := D.ex
  exact pe_meth0 (pl := pl) he c hm F hr b .nil pass0 ht
theorem pe_nd (D : Nd X.prog X.w X.K X.mg X.base x C k ps sp) (hr : Room (k + 1) X.A) (ha : PA X (e :: es) t) (hg : Gl X x := by rfl)
    (he : starEach (e :: es) X.env = (false, eval e X.env) :: starEach es X.env := by rfl) (hpl : (backTo pos (starEach es X.env)).any (·.1) = false := by rfl) :
    PE X (.Call (.Name x p) (e :: es) [] pos) (tNd C sp t) := by
  obtain ⟨f, fd, F, hm, M, b⟩ := D.ex
  exact pe_make M F hr hg hm b .nil pass0 ha D.nd he hpl
theorem pe_sd {pl : Sem Bool} (D : Sd X.prog X.w X.K X.mg X.base C m k ps sp) (hr : Room k X.A) (he : PE X o ta) (ha : PA X (e :: es) t)
    (hst : starEach (e :: es) X.env = (false, eval e X.env) :: starEach es X.env := by rfl) (hpl : (backTo pos (starEach es X.env)).any (·.1) = false := by rfl)
    (ht : eval (.Call (.Attribute o m apos) (e :: es) [] pos) X.env = (do
      let ov ← eval o X.env
      standAt apos.atName
      let (f, first) ← holding [ov] (getMethod ov m pl)
      callWith pos f first (backTo pos (starEach (e :: es) X.env)) (backToKw pos (keywordEach [] X.env))) := by rfl) :
    PE X (.Call (.Attribute o m apos) (e :: es) [] pos) (tSd C sp ta t) := by
  obtain ⟨f, fd, F, sm, kp, b⟩ := D.ex
  refine ⟨fun pins s σ H Q I h => ?_⟩
  refine PySem.W.methodCall_KW (pl := pl) (thn (he.run pins s σ H _ I h) fun u s1 ⟨x, H1, I1, rx, ex, q⟩ => ?_) ht
  subst ex
  obtain rfl : u = Value.ref C := rx
  refine getmethsm_ok I1 sm fun s2 I2 => ?_
  refine PySem.W.callWith_K (h₀ := X.base) (first := []) I2.ok.mod.kin kp (thn (ha.run pos pins s2 σ H1 _ I2 q) fun us s3 ⟨vs, H2, I3, rv, q2⟩ => ⟨I3.kIn, ?_⟩) hst hpl
  exact run_fn F hr b .nil pass0 I3 rv (by rw [List.append_nil]; exact q2)
/-- f(k = e, ..) alone by keywords -/
structure Kd (P : Program) (w : World) (K : PySem.W.Frag) (mg : Str → Option Value) (base : Heap) (x : Str) (k : Nat) (ps ks : List Str) (gV : List V → List V → List V) (sp : Sp) : Prop where
  ex : ∃ (f : Addr) (fd : FuncData) (g : List Value → List Value → List Value), FnOk P w K mg base CX0 k f fd ps sp ∧ mg x = some (.ref f) ∧ PySem.W.keepIn K (.ref f) = true ∧ KBinds K fd ps ks g gV
  nd : (x == ("__debug__" : Str)) = false
variable {ks : List Str} {gV : List V → List V → List V} {kws : List Keyword} {tk : TA}
theorem pe_kd0 (D : Kd X.prog X.w X.K X.mg X.base x k ps ks gV sp) (hr : Room k X.A) (hkw : PK X kws tk) (hall : (backToKw pos (keywordEach kws X.env)).all (·.1.isSome) = true := by rfl) (hks : (backToKw pos (keywordEach kws X.env)).filterMap (·.1) = ks := by rfl)
    (hg : Gl X x := by rfl) (hpl : ((backTo pos (starEach [] X.env)).any (·.1) || (backToKw pos (keywordEach kws X.env)).any (·.1.isNone)) = false := by rfl) :
    PE X (.Call (.Name x p) [] kws pos) (tCallK sp gV E0 tNil tk) := by
  obtain ⟨f, fd, g, F, m, kp, b⟩ := D.ex
  refine ⟨fun pins s σ H Q I h => ?_⟩
  refine wpAny_Call_Name_kw (ld_glob I hg m ?_ D.nd)
  refine PySem.W.callWith_KW0 (h₀ := X.base) I.ok.mod.kin kp hall (thn (hkw.run pos pins s σ H _ I h) fun ws s2 ⟨zs, H2, I2, rz, q2⟩ => ⟨I2.kIn, ?_⟩) hpl
  rw [hks]
  exact run_fnk (us := []) (vs := []) F hr b pass0 I2 .nil rz q2
end
/-! ### fields -/
/-- o.f: an own instance's, a held error's -/
def tFldU (K : PySem.W.Frag) (ta : TE) (f : Str) : TE := tFld K ta f
section
variable {K : PySem.W.Frag} {σ : L2.St} {H : Hp} {Q : VK} {D : Ends} {ta tv : TE} {t : TA} {f m : Str} {a C dx : Addr} {fs : List (Str × V)} {v : V} {sp : Sp}
theorem v_fldo (q : ta σ H fun x H1 => ∃ a C dx fs v, x = .ref a ∧ H1 a = some (.ins C dx fs) ∧ Cls K C ∧ NoAttr K C f ∧ fs.lookup f = some v ∧ Q v H1) : tFld K ta f σ H Q := q
theorem v_sfld (q : tv σ H fun y H1 => ta σ H1 fun x H2 => ∃ a C dx fs, x = .ref a ∧ H2 a = some (.ins C dx fs) ∧ Cls K C ∧ NoAttr K C f ∧ fs.length < 1000 ∧ D.nx σ (upd H2 a (.ins C dx (putF f y fs)))) : sFld K ta tv f D σ H := q
theorem v_nd (q : t σ H fun vs H1 => ∀ x dx, H1 x = none → H1 dx = none → dx ≠ x → sp (.ref x :: vs) (upd (upd H1 dx (.own x)) x (.ins C dx [])) (fun v H2 => v = .non ∧ Q (.ref x) H2) E0) : tNd C sp t σ H Q := by
  show t σ H fun vs H1 => ∀ x dx, H1 x = none → H1 dx = none → dx ≠ x → sp (.ref x :: (vs ++ [])) (upd (upd H1 dx (.own x)) x (.ins C dx [])) (fun v H2 => v = .non ∧ Q (.ref x) H2) E0
  simp only [List.append_nil]
  exact q
theorem v_sd (q : ta σ H fun x H1 => x = .ref C ∧ t σ H1 fun vs H2 => sp vs H2 Q E0) : tSd C sp ta t σ H Q := q
end
end U
namespace U
open PySem PySem.Spec PyProof.Rows L2 RZ
/-! ### more of numbers and lists -/
/-- // by any divisor but 0, below 2 ^ 9000, or of a number below 2 ^ 13000 -/
def CDivV (i j : Int) : Prop := j ≠ 0 ∧ (j.natAbs.log2 < 9000 ∨ i.natAbs.log2 < 13000)
def rDivV : R2 := rI CDivV fun i j => .int (i.fdiv j)
theorem noPy_top {x y : Int} (h : x.natAbs.log2 < 13000) : Builtin.divisionGoesByPylong x y = false := by
  have e : Builtin.divisionGoesByPylong x y = (decide ((if y == 0 then 0 else y.natAbs.log2 / 30 + 1) > 300) && decide ((if x == 0 then 0 else x.natAbs.log2 / 30 + 1) > (if y == 0 then 0 else y.natAbs.log2 / 30 + 1) + 150)) := rfl
  rw [e, Bool.and_eq_false_iff]
  have hx : (if x == 0 then 0 else x.natAbs.log2 / 30 + 1) ≤ 434 := by
    split
    · exact Nat.zero_le _
    · omega
  generalize (if x == 0 then 0 else x.natAbs.log2 / 30 + 1) = a at hx ⊢
  generalize (if y == 0 then 0 else y.natAbs.log2 / 30 + 1) = c
  by_cases q : c > 300
  · exact .inr (decide_eq_false (by omega))
  · exact .inl (decide_eq_false q)
theorem o_divv {X : Cx} : OpR X (binaryOp .FloorDiv) rDivV := opI fun _ _ _ _ _ _ _ hc q => floordiv_int hc.1 q (.inl (hc.2.elim (fun h => PyProof.noPylong_of_log2 h) noPy_top))
theorem v_divv {H : Hp} {Q : VK} {a b : Int} (c : b ≠ 0) (l : b.natAbs.log2 < 9000) (q : Q (.int (a.fdiv b)) H) : rDivV (.int a) (.int b) H Q := ⟨a, b, rfl, rfl, ⟨c, .inl l⟩, q⟩
theorem truth_ints {prog : Program} {w : World} {A : Around} {ns : List Int} {its : List Value} (e : IntsAre its ns) :
    TruthOf prog w A (fun i v => its.toArray[i]? = some v) (fun i => (ns.getD i 0) != 0) := fun i v s Q E hv hq => by
  have hv' : its[i]? = some v := by simpa using hv
  have key : ∀ {its : List Value} {ns : List Int} (i : Nat), IntsAre its ns → its[i]? = some v → ∃ n t, ns[i]? = some n ∧ v = .int n t := by
    intro its ns i e
    induction e generalizing i with
    | nil => intro h; simp at h
    | cons n t r ih =>
      intro h
      cases i with
      | zero =>
        simp at h
        exact ⟨_, _, rfl, h.symm⟩
      | succ i => exact ih i (by simpa using h)
  obtain ⟨n, t, hn, rfl⟩ := key i e hv'
  have hg : ns.getD i 0 = n := by rw [List.getD_eq_getElem?_getD, hn] <;> rfl
  have hq' : Q ((ns.getD i 0) != 0) s := hq
  rw [hg] at hq'
  exact truthy_int hq'
theorem any_rangeI : ∀ ns : List Int, (List.range ns.length).any (fun i => (ns.getD i 0) != 0) = ns.any fun n => n != 0
  | [] => rfl
  | b :: bs => by
    rw [List.length_cons, List.range_succ_eq_map, List.any_cons, List.any_map, List.any_cons, ← any_rangeI bs]
    all_goals rfl
/-- any(xs) of a list of whole numbers -/
def rAnyI (K : PySem.W.Frag) : List V → Hp → VK → Prop := fun vs H Q => ∃ (a : Addr) (ns : List Int), vs = [V.ref a] ∧ SqL K H a (ns.map V.int) ∧ Q (.bl (ns.any fun n => n != 0)) H
theorem cr_anyI {X : Cx} (hc : X.calm = true) : CallR X (.builtin "any") (rAnyI X.K) := by
  intro pins s σ H vs us Q I r h
  obtain ⟨a, ns, rfl, hs, q⟩ := h
  obtain ⟨its, rv, hl, _⟩ := I.list hs
  rw [Vals.ref1 r]
  have hb := rv.ints
  refine call_any_walk (iter_any hl.isList fun s₂ e2 st hne => ?_)
  subst e2
  refine ⟨_, _, _, _, _, _, _, rfl, Walks.list (A := X.A.in1) (I.ok.hd hc) _ a hne its.toArray, st, truth_ints hb, fun h' tk hk => ?_⟩
  refine ⟨.bl _, H, I.kept fun b o eo => hk b o (fun hmem => ?_) (Heap.get?_push_of_some _ eo), ?_, q⟩
  · rcases List.mem_cons.mp hmem with e1 | hmem
    · exact absurd (e1 ▸ Heap.lt_size eo) (Nat.lt_irrefl _)
    · cases hmem
  · show Value.bool _ = Value.bool _
    rw [← any_rangeI, List.size_toArray, ← rv.length, List.length_map]
def rAnyU (K : PySem.W.Frag) : List V → Hp → VK → Prop := fun vs H Q => rAny K vs H Q ∨ rAnyI K vs H Q
theorem c_any {X : Cx} (hc : X.calm = true) : CallR X (.builtin "any") (rAnyU X.K) := CallR.or (cr_any hc) (cr_anyI hc)
def rStr : List V → Hp → VK → Prop := fun xs H Q => ∃ i, xs = [.int i] ∧ i.natAbs.log2 < 1920 ∧ Q (.str (toString i)) H
theorem c_str {X : Cx} : CallR X (.type "str") rStr := call_str_int
def rJoin (K : PySem.W.Frag) : V → V → Hp → VK → Prop := fun x y H Q => ∃ a p, ∃ ys : List Str, x = .str a ∧ y = .ref p ∧ (SqL K H p (ys.map V.str) ∨ SqT K H p (ys.map V.str)) ∧
      (ys.map (·.length)).sum + ys.length * a.length ≤ 16777216 ∧ Q (.str (Txt.join a ys)) H
end U
namespace U
open PySem PySem.Spec PyProof.Rows L2 RZ
/-- a global that is a whole number -/
theorem pe_globI {X : Cx} {x : Str} {p : Pos} {i : Int} (h : ∃ t, X.mg x = some (.int i t)) (hg : Gl X x := by rfl) (hd : (x == ("__debug__" : Str)) = false := by decide) : PE X (.Name x p) (tC (.int i)) := by
  obtain ⟨t, h⟩ := h
  exact pe_glob hg h ⟨t, rfl⟩ hd
/-- == of instances with an own __eq__ -/
theorem o_eqo {X : Cx} {C : Addr} {k : Nat} {ps : List Str} {R : Addr → Addr → Hp → Prop} (D : Md X.prog X.w X.K X.mg X.base C "__eq__" k ps (spEq R)) (hr : Room k X.A) : OpR X (compareOp .Eq) (rEqG (DIns C R)) := by
  obtain ⟨f, fd, F, c, hm, b⟩ := D.ex
  exact op_eqG (rcG_ins F hm.at_ hm.fn b pass0) hr
end U
namespace U
open PySem PySem.Spec PyProof.Rows L2 RZ
theorem smet_of {K : PySem.W.Frag} {d : Hf.SDef} (c : d.ok K = true) : SMet K (He.ga K d.x) d.m (d.ad K) ∧ PySem.W.keepIn K (.ref (d.ad K)) = true := by
  obtain ⟨c1, c⟩ := He.ba c
  obtain ⟨c2, c⟩ := He.ba c
  obtain ⟨c3, c⟩ := He.ba c
  obtain ⟨c4, _⟩ := He.ba c
  obtain ⟨k1, k2⟩ := He5.wrapB_ok c1
  exact ⟨⟨c2, He.eqO_ok c3, _, k1, k2⟩, c4⟩
theorem kd_of {P : Program} {w : World} {K : PySem.W.Frag} {mg : Str → Option Value} {base : Heap} {x : Str} {k : Nat} {ps ks : List Str} {sp : Sp} {st : Stmt} {f : Addr} {fd : FuncData} {gg : {α : Type} → List α → List α → List α}
    (F : FunD K x x (defArgs st) (defBody st) (defScope st) [] [] f fd) (ok : FnOk P w K mg base CX0 k f fd ps sp) (g : mg x = some (.ref f))
    (rel : ∀ {vs : List V} {us : List Value} {zs : List V} {ws : List Value}, Vals vs us → Vals zs ws → Vals (gg vs zs) (gg us ws))
    (h : ∀ (kV doc pm : Value) (an : Option Addr) (cdv ct : Value) (us ws : List Value), (gg us ws).length = ps.length → bindArgs (PySem.W.fnOf x x (defArgs st) (defBody st) (defScope st) .none kV doc pm an cdv ct) ⟨us, ks.zip ws⟩ = pure (ps.zip (gg us ws))) (nd : (x == ("__debug__" : Str)) = false := by decide) :
    Kd P w K mg base x k ps ks gg sp := by
  refine ⟨⟨f, fd, gg, ok, g, F.kp, ?_⟩, nd⟩
  obtain ⟨oc, od, dV, kV, doc, pm, an, cdv, ct, osl, rfl, lk, hcd, hD, hK⟩ := F.ex
  rcases hD with ⟨_, rfl⟩ | ⟨e, _⟩
  · exact ⟨fun s us ws _ hl => .of_eq (h kV doc pm an cdv ct us ws hl), rel⟩
  · exact absurd rfl e
end U
end
section
set_option Elab.async false
set_option linter.all false
set_option maxRecDepth 100000
set_option maxHeartbeats 4000000
/-! zip of a list and a tuple, either way. -/
namespace ZM
open PySem PySem.Spec PyProof.Rows L2 RZ
/-- a tuple (true), a list (false) -/
def SqB (K : PySem.W.Frag) : Bool → Hp → Addr → List V → Prop
  | true => fun H a xs => SqT K H a xs
  | false => fun H a xs => SqL K H a xs
def ItB : Bool → Heap → Addr → Addr → Nat → Prop
  | true => fun h it l i => h.IsTupleIter it l i
  | false => fun h it l i => h.IsListIter it l i
def IsB : Bool → Heap → Addr → Array Value → Prop
  | true => fun h l its => h.IsTuple l its
  | false => fun h l its => h.IsList l its
def obB : Bool → Addr → Obj
  | true => fun l => { cls := .type "tuple_iterator", data := .fields #[.ref l, .int 0 0] }
  | false => fun l => { cls := .type "list_iterator", data := .fields #[.ref l, .int 0 0] }
section
variable {P : Program} {w : World} {X : Cx} {pins : List (Addr × Obj)} {σ : L2.St} {H : Hp} {s : Shared} {t t1 t2 : Bool} {a b : Addr} {xs ys : List V}
theorem invB (I : Inv X pins σ H s) (h : SqB X.K t H a xs) : ∃ its : List Value, Vals xs its ∧ IsB t s.heap a its.toArray := by
  cases t
  · obtain ⟨its, rv, p, _⟩ := I.list h
    exact ⟨its, rv, p.isList⟩
  · obtain ⟨its, rv, p, _⟩ := I.tuple h
    exact ⟨its, rv, p⟩
theorem injB (I : Inv X pins σ H s) (h : SqB X.K t H a xs) (k : SqB X.K t H a ys) : ys = xs := by
  cases t
  · exact I.list_inj k h
  · exact I.tuple_inj k h
theorem drawsB {A : Around} (hh : A.handled = none) (it l : Addr) (ne : l ≠ it) (its : Array Value) : Draws P w A it [it, l] its.size (fun i v => its[i]? = some v) (fun i h => ItB t h it l i ∧ IsB t h l its) := by
  cases t
  · exact Draws.list hh it l ne its
  · exact Draws.tuple hh it l ne its
theorem beginsB (l : Addr) (its : Array Value) : Begins (.ref l) (obB t l) (fun h => IsB t h l its) := by
  cases t
  · exact begins_list l its
  · exact begins_tuple l its
theorem itB_of {h : Heap} {it l : Addr} (e : h.get? it = some (obB t l)) : ItB t h it l 0 := by
  cases t
  · exact ⟨_, e, rfl, rfl⟩
  · exact ⟨_, e, rfl, rfl⟩
theorem itB_obj {h : Heap} {it l : Addr} {i : Nat} (e : ItB t h it l i) : ∃ o, h.get? it = some o ∧ ∀ v, o.data ≠ .cell v := by
  cases t
  · obtain ⟨o, e1, _, d1⟩ := e
    exact ⟨o, e1, fun v q => by rw [d1] at q; cases q⟩
  · obtain ⟨o, e1, _, d1⟩ := e
    exact ⟨o, e1, fun v q => by rw [d1] at q; cases q⟩
theorem itB_at {h h' : Heap} {it l : Addr} {i : Nat} (e : ItB t h it l i) (k : ∀ o, h.get? it = some o → h'.get? it = some o) : ItB t h' it l i := by
  cases t
  · exact Heap.IsListIter.at e k
  · exact Heap.IsTupleIter.at e k
theorem isB_lt {h : Heap} {l : Addr} {its : Array Value} (e : IsB t h l its) : l < h.objs.size := by
  cases t
  · obtain ⟨o, e1, _⟩ := e
    exact Heap.lt_size e1
  · obtain ⟨o, e1, _⟩ := e
    exact Heap.lt_size e1
end
/-- the two sequences as they stand at each turn, the items in new pairs -/
def ItzM (K : PySem.W.Frag) (t1 t2 : Bool) (a b : Addr) : It :=
  ⟨fun i H => ∃ xs ys x y, SqB K t1 H a xs ∧ SqB K t2 H b ys ∧ xs[i]? = some x ∧ ys[i]? = some y,
    fun i H v H' => ∃ T x y, v = .ref T ∧ H T = none ∧ H' = upd H T (.tup [x, y]) ∧ (∀ l, SqB K t1 H a l → l[i]? = some x) ∧ (∀ l, SqB K t2 H b l → l[i]? = some y),
    fun i H => ∃ xs ys, SqB K t1 H a xs ∧ SqB K t2 H b ys ∧ i ≤ xs.length ∧ i ≤ ys.length ∧ (xs.length = i ∨ ys.length = i)⟩
structure Apart (z TI TO i1 i2 a b : Addr) : Prop where
  S : ZipSep2 z TI TO i1 i2 [i1, a] [i2, b]
  a1 : a ≠ i1
  b2 : b ≠ i2
theorem apart_nat : ∀ {n a b : Nat}, a < n → b < n → (n + 2 ≠ n + 4 ∧ n + 3 ≠ n + 4 ∧ n + 2 ≠ n + 3 ∧ n + 2 ≠ n ∧ n + 2 ≠ n + 1) ∧ (n + 4 ≠ n ∧ n + 4 ≠ a ∧ n + 3 ≠ n ∧ n + 3 ≠ a ∧ n + 4 ≠ n + 1 ∧ n + 4 ≠ b ∧ n + 3 ≠ n + 1 ∧ n + 3 ≠ b) ∧ (n ≠ n + 1 ∧ n ≠ b ∧ n + 1 ≠ n ∧ n + 1 ≠ a) ∧ a ≠ n ∧ b ≠ n + 1 := by omega
theorem apart_of {n a b : Addr} (ha : a < n) (hb : b < n) : Apart (n + 4) (n + 2) (n + 3) n (n + 1) a b := by
  obtain ⟨⟨p1, p2, p3, p4, p5⟩, ⟨q1, q2, q3, q4, q5, q6, q7, q8⟩, ⟨r1, r2, r3, r4⟩, u1, u2⟩ := apart_nat (n := n) (a := a) (b := b) ha hb
  have two : ∀ {x y z : Addr}, x ≠ y → x ≠ z → x ∉ [y, z] := fun h1 h2 q => by
    rcases List.mem_cons.mp q with e | e
    · exact h1 e
    · exact h2 (List.mem_singleton.mp e)
  exact ⟨⟨p1, p2, p3, p4, by simp, two q1 q2, two q3 q4, p5, by simp, two q5 q6, two q7 q8, two r1 r2, two r3 r4⟩, u1, u2⟩
theorem turn_zipM {P : Program} {w : World} {K : PySem.W.Frag} {elts : List Expr} {kk : Nat} {tpos : Pos} {t1 t2 : Bool} {a b z TI TO i1 i2 : Addr} (D : Apart z TI TO i1 i2 a b) :
    Turn P w K (.Tuple elts kk tpos) (ItzM K t1 t2 a b) [z, TI, TO, i1, i2] z (fun i h => IsZip h z TI TO .none ∧ (IsTupOf2 h TI (.ref i1) (.ref i2) ∧ ((∃ x y, IsTupOf2 h TO x y) ∧ (ItB t1 h i1 a i ∧ ItB t2 h i2 b i)))) where
  mem := by simp
  obj := fun i h st c hc => by
    obtain ⟨k1, k2, ⟨x, y, k3⟩, k4, k5⟩ := st
    have five : c = z ∨ c = TI ∨ c = TO ∨ c = i1 ∨ c = i2 := by simpa using hc
    rcases five with e | e | e | e | e <;> subst e
    · exact ⟨_, k1, fun v q => nomatch q⟩
    · exact ⟨_, k2, fun v q => nomatch q⟩
    · exact ⟨_, k3, fun v q => nomatch q⟩
    · exact itB_obj k4
    · exact itB_obj k5
  keep := fun i h h' st k => by
    obtain ⟨k1, k2, ⟨x, y, k3⟩, k4, k5⟩ := st
    exact ⟨k z (by simp) _ k1, k TI (by simp) _ k2, ⟨x, y, k TO (by simp) _ k3⟩, itB_at k4 fun o e => k i1 (by simp) o e, itB_at k5 fun o e => k i2 (by simp) o e⟩
  item := by
    intro X eP ew eK hc i pins s σ H E I fr st go
    subst eP ew eK
    obtain ⟨k1, k2, ⟨x0, y0, k3⟩, k4, k5⟩ := st
    obtain ⟨xs, ys, x, y, qa, qb, hx, hy⟩ := go
    obtain ⟨us, ru, pa⟩ := invB I qa
    obtain ⟨vs, rv, pb⟩ := invB I qb
    obtain ⟨u, hu, rxu⟩ := ru.get hx
    obtain ⟨v, hv, ryv⟩ := rv.get hy
    have li : i < us.length := (List.getElem?_eq_some_iff.mp hu).1
    have lj : i < vs.length := (List.getElem?_eq_some_iff.mp hv).1
    have hn : X.A.in1.handled = none := I.ok.hd hc
    have zl : z < s.heap.objs.size := Heap.lt_size k1
    refine wpAny_pyNext_zipD2_item D.S (drawsB hn i1 a D.a1 us.toArray) (drawsB hn i2 b D.b2 vs.toArray) k1 k2 k3 ⟨k4, pa⟩ ⟨k5, pb⟩ (by simpa using li) (by simpa using lj) ?_
    intro c1 c2 h' tk e1 e2 z' TO' st1 st2 new' size' keep'
    have f1 : c1 = u := by
      have q : us[i]? = some c1 := by simpa using e1
      rw [hu] at q
      exact (Option.some.inj q).symm
    have f2 : c2 = v := by
      have q : vs[i]? = some c2 := by simpa using e2
      rw [hv] at q
      exact (Option.some.inj q).symm
    subst f1 f2
    refine ⟨_, rfl, wpAny_letOwnedTupleGo_zip (s := { s with heap := h', toks := tk }) z' fun h'' z'' sb => ?_⟩
    have tup' : h''.get? s.heap.objs.size = some { cls := .type "tuple", data := .seq #[c1, c2] } := (sb.2 _ (Nat.ne_of_gt zl)).trans new'
    have ok : ObjOk X.prog X.w (upd H s.heap.objs.size (.tup [x, y])) h'' s.heap.objs.size (.tup [x, y]) := ⟨by show 2 ≤ sizeLine; decide, [c1, c2], .cons rxu (.cons ryv .nil), ⟨_, tup', rfl, _, rfl⟩⟩
    have J : Inv X pins σ (upd H s.heap.objs.size (.tup [x, y])) { s with heap := h'', toks := tk } := by
      refine I.turnedNew (t' := tk) (ch := [z, TI, TO, i1, i2]) (fun c o hb q => ?_) fr (Nat.le_refl _) ok
      have ne : ∀ d, d ∈ [z, TI, TO, i1, i2] → c ≠ d := fun d hd e => hb (e ▸ hd)
      exact (sb.2 c (ne z (by simp))).trans (keep' c o (ne z (by simp)) (ne TO (by simp)) (ne i1 (by simp)) (ne i2 (by simp)) q)
    have TIz : h''.get? TI = some { cls := .type "tuple", data := .seq #[.ref i1, .ref i2] } := (sb.2 _ D.S.TIz).trans (keep' _ _ D.S.TIz D.S.TITO D.S.TIi1 D.S.TIi2 k2)
    refine ⟨.ref s.heap.objs.size, _, J, rfl, ⟨_, x, y, rfl, I.hok.fresh (Nat.le_refl _), rfl, fun l hl => by rw [injB I qa hl]; exact hx, fun l hl => by rw [injB I qb hl]; exact hy⟩, ⟨z'', TIz, ⟨c1, c2, (sb.2 _ D.S.TOz).trans TO'⟩, itB_at st1.1 fun o q => (sb.2 _ D.S.zi1.symm).trans q, itB_at st2.1 fun o q => (sb.2 _ D.S.zi2.symm).trans q⟩, fun c hcm => ?_⟩
    have lt : c < s.heap.objs.size := by
      have five : c = z ∨ c = TI ∨ c = TO ∨ c = i1 ∨ c = i2 := by simpa using hcm
      rcases five with e | e | e | e | e <;> subst e
      · exact zl
      · exact Heap.lt_size k2
      · exact Heap.lt_size k3
      · exact Heap.lt_size (itB_obj k4).choose_spec.1
      · exact Heap.lt_size (itB_obj k5).choose_spec.1
    rw [upd_ne (Nat.ne_of_lt lt)]
    exact (fr c hcm).1
  done := by
    intro X eP ew eK hc i pins s σ H E I fr st go
    subst eP ew eK
    obtain ⟨k1, k2, ⟨x0, y0, k3⟩, k4, k5⟩ := st
    obtain ⟨xs, ys, qa, qb, l1, l2, le⟩ := go
    obtain ⟨us, ru, pa⟩ := invB I qa
    obtain ⟨vs, rv, pb⟩ := invB I qb
    have e1 := ru.length
    have e2 := rv.length
    have hn : X.A.in1.handled = none := I.ok.hd hc
    refine wpAny_pyNext_zipD2_end D.S (drawsB hn i1 a D.a1 us.toArray) (drawsB hn i2 b D.b2 vs.toArray) k1 k2 k3 ⟨k4, pa⟩ ⟨k5, pb⟩ (by simp; omega) (by simp; omega) (by simp; omega) fun h' tk keep' => ⟨rfl, ?_⟩
    refine I.turnedL (t' := tk) (ch := [z, TI, TO, i1, i2]) (fun c o hb q => ?_) fr
    have ne : ∀ d, d ∈ [z, TI, TO, i1, i2] → c ≠ d := fun d hd e => hb (e ▸ hd)
    exact keep' c o (ne z (by simp)) (ne TO (by simp)) (ne i1 (by simp)) (ne i2 (by simp)) q
  self := fun A i s Q E st h => wpAny_pyIter_zip st.1 h
/-- zip(x, y): each a list or a tuple -/
def iZipU (K : PySem.W.Frag) (ta : TA) : TI := fun σ H R => ta σ H fun vs H1 => ∃ a b t1 t2 xs ys, vs = [.ref a, .ref b] ∧ SqB K t1 H1 a xs ∧ SqB K t2 H1 b ys ∧ R (ItzM K t1 t2 a b) H1
theorem pi_zipU {X : Cx} {e e2 : Expr} {ta : TA} {p pos tpos : Pos} {elts : List Expr} {kk : Nat} (hg : Gl X "zip") (hm : X.mg "zip" = none) (ha : PA X [e, e2] ta)
    (hs : starEach [e, e2] X.env = (false, eval e X.env) :: starEach [e2] X.env := by rfl) (hpl : (backTo pos (starEach [e2] X.env)).any (·.1) = false := by rfl) : PI X (.Tuple elts kk tpos) (.Call (.Name "zip" p) [e, e2] [] pos) (iZipU X.K ta) := by
  refine ⟨fun pins s σ H R I h => Call_ (ld_blt I hg hm PyProof.Rows.boot_zip (PyProof.Rows.callWith_type1 (thn (ha.run pos pins s σ H _ I h) fun us s1 ⟨vs, H1, I1, r1, q1⟩ => ?_) hs hpl))⟩
  obtain ⟨a, b, t1, t2, xs, ys, rfl, qa, qb, q⟩ := q1
  obtain ⟨w1, w2, rfl, c1, c2⟩ := vals2 r1
  obtain rfl : w1 = Value.ref a := c1
  obtain rfl : w2 = Value.ref b := c2
  obtain ⟨us, ru, pa⟩ := invB I1 qa
  obtain ⟨vs, rv, pb⟩ := invB I1 qb
  have fresh : ∀ c, c ∈ [s1.heap.objs.size + 4, s1.heap.objs.size + 2, s1.heap.objs.size + 3, s1.heap.objs.size, s1.heap.objs.size + 1] → FpOk X pins H1 c := fun c hcm => by
    have le : s1.heap.objs.size ≤ c := by
      simp only [List.mem_cons, List.not_mem_nil, or_false] at hcm
      rcases hcm with e | e | e | e | e <;> subst e <;> first | exact Nat.le_refl _ | exact Nat.le_add_right _ _
    exact I1.fpOk le (I1.hok.fresh le)
  refine zip_begins2 (beginsB (t := t1) a us.toArray) (beginsB (t := t2) b vs.toArray) pa pb fun h' kz kTI kTO g1 g2 size' keep' => wpAny_pyIter_zip kz ?_
  have J : Inv X pins σ H1 { s1 with heap := h' } := I1.kept (t' := s1.toks) keep'
  exact ⟨_, _, _, _, H1, rfl, J, turn_zipM (apart_of (isB_lt pa) (isB_lt pb)), ⟨kz, kTI, ⟨_, _, kTO⟩, itB_of g1, itB_of g2⟩, fresh, q⟩
theorem walk_zipM {K : PySem.W.Frag} {t1 t2 : Bool} {a b : Addr} {xs ys : List V} {n : Nat} (hn : n = xs.length) (hm : n = ys.length) : Walk (ItzM K t1 t2 a b) n (fun H => SqB K t1 H a xs ∧ SqB K t2 H b ys) (YPair (fun i => xs[i]?) (fun i => ys[i]?)) := by
  subst hn
  refine ⟨fun i _ hi q => ⟨xs, ys, xs[i], ys[i]'(by omega), q.1, q.2, by simp, by simp⟩, fun _ q => ⟨xs, ys, q.1, q.2, by omega, by omega, by omega⟩, fun i H v H' _ q y => ?_⟩
  obtain ⟨T, x, z, h1, h2, h3, h4, h5⟩ := y
  exact ⟨T, x, z, h1, h2, h3, h4 xs q.1, h5 ys q.2⟩
/-- a sequence of either kind, walked -/
def ItsB (K : PySem.W.Frag) : Bool → Addr → It
  | true => fun a => Itt K a
  | false => fun a => Itl K a
def iSq (K : PySem.W.Frag) (ta : TE) : TI := fun σ H R => ta σ H fun x H1 => ∃ a t xs, x = .ref a ∧ SqB K t H1 a xs ∧ R (ItsB K t a) H1
theorem pi_sq {X : Cx} {tg e : Expr} {ta : TE} (he : PE X e ta) : PI X tg e (iSq X.K ta) := by
  refine ⟨fun pins s σ H R I h => thn (he.run pins s σ H _ I h) fun v s1 ⟨x, H1, I1, rx, a, t, xs, ex, hs, q⟩ => ?_⟩
  subst ex
  obtain rfl : v = Value.ref a := rx
  have fresh : ∀ c, c ∈ [s1.heap.objs.size] → FpOk X pins H1 c := fun c hc => by
    rw [List.mem_singleton.mp hc]
    exact I1.fpOk (Nat.le_refl _) (I1.hok.fresh (Nat.le_refl _))
  cases t
  · obtain ⟨us, ru, pl, _⟩ := I1.list hs
    exact wpAny_pyIter_list pl.isList ⟨_, [s1.heap.objs.size], _, _, H1, rfl, I1.kept (t' := s1.toks) (fun _ _ z => Heap.get?_push_of_some _ z), turn_list a _, ⟨_, Heap.get?_push_size _ rfl, rfl, rfl⟩, fresh, q⟩
  · obtain ⟨us, ru, pl, _⟩ := I1.tuple hs
    exact wpAny_pyIter_tuple (items := us.toArray) pl ⟨_, [s1.heap.objs.size], _, _, H1, rfl, I1.kept (t' := s1.toks) (fun _ _ z => Heap.get?_push_of_some _ z), turn_tuple a _, ⟨_, Heap.get?_push_size _ rfl, rfl, rfl⟩, fresh, q⟩
theorem walk_sq {K : PySem.W.Frag} {t : Bool} {a : Addr} {xs : List V} : Walk (ItsB K t a) xs.length (fun H => SqB K t H a xs) (YAt xs) := by
  cases t
  · exact walk_list
  · exact walk_tup
section
variable {K : PySem.W.Frag} {σ : L2.St} {H H' : Hp} {Q : VK} {D : Ends} {ta : TE} {t : TA} {g : TG} {tb : TS} {a b : Addr} {xs ys : List V} {k k2 : Bool} {R : It → Hp → Prop} {v : V}
theorem same_sqb (e : Same H H') (h : SqB K k H a xs) : SqB K k H' a xs := by
  cases k
  · exact U.same_sql e h
  · exact U.same_sqt e h
def sqK (K : PySem.W.Frag) (R : It → Hp → Prop) : VK := fun x H1 => ∃ a t xs, x = .ref a ∧ SqB K t H1 a xs ∧ R (ItsB K t a) H1
def zuK (K : PySem.W.Frag) (R : It → Hp → Prop) : List V → Hp → Prop := fun vs H1 => ∃ a b t1 t2 xs ys, vs = [.ref a, .ref b] ∧ SqB K t1 H1 a xs ∧ SqB K t2 H1 b ys ∧ R (ItzM K t1 t2 a b) H1
theorem v_sq (q : ta σ H (sqK K R)) : iSq K ta σ H R := q
theorem v_sqr (h : SqB K k H a xs) (q : R (ItsB K k a) H) : sqK K R (.ref a) H := ⟨a, k, xs, rfl, h, q⟩
theorem v_zu (q : t σ H (zuK K R)) : iZipU K t σ H R := q
theorem v_zur (ha : SqB K k H a xs) (hb : SqB K k2 H b ys) (q : R (ItzM K k k2 a b) H) : zuK K R [.ref a, .ref b] H := ⟨a, b, k, k2, xs, ys, rfl, ha, hb, q⟩
theorem v_lenb (h : SqB K k H a xs) (q : Q (.int xs.length) H) : U.rLenU K [.ref a] H Q := by
  cases k
  · exact U.v_lenl h q
  · exact U.v_lent h q
theorem v_ixb {n : Int} (h : SqB K k H a xs) (e : atI xs n = some v) (q : Q v H) : rIx K (.ref a) (.int n) H Q := by
  cases k
  · exact U.v_ixl h e q
  · exact U.v_ixt h e q
theorem v_listb (h : SqB K k H a xs) (q : ∀ l, H l = none → Q (.ref l) (upd H l (.lst xs))) : U.rListOf K [.ref a] H Q := by
  cases k
  · exact U.v_list h q
  · exact U.v_listt h q
theorem v_tupb (h : SqB K k H a xs) (q : ∀ l H', Same H H' → SqT K H' l xs → (H l = none ∧ H' = upd H l (.tup xs) ∨ l = a ∧ H' = H) → Q (.ref l) H') : U.rTupOf K [.ref a] H Q := by
  cases k
  · exact U.v_tuple h fun l hl => q l _ (U.same_new hl) (.inl (.inl upd_same)) (.inl ⟨hl, rfl⟩)
  · exact ⟨a, xs, rfl, .inr ⟨h, q a H (Same.refl H) h (.inr ⟨rfl, rfl⟩)⟩⟩
theorem for_sq (Pv : Nat → L2.St → Hp → Prop) (h0 : Pv 0 σ H) (hG : ∀ i σ H, i ≤ xs.length → Pv i σ H → SqB K k H a xs)
    (hs : ∀ i x σ H, xs[i]? = some x → Pv i σ H → g x σ H fun σ2 H2 => tb { D with nx := Pv (i + 1), ct := Pv (i + 1), bk := D.nx } σ2 H2) (hd : ∀ σ H, Pv xs.length σ H → D.nx σ H) : U.forI (ItsB K k a) g tb D σ H :=
  U.for_w walk_sq Pv h0 hG (fun i x σ H H' hi p ⟨e, q⟩ => by subst e; exact hs i x σ H' q p) hd
theorem sqb_lst (h : H a = some (.lst xs)) : SqB K false H a xs := SqL.of h
theorem sqb_tup (h : H a = some (.tup xs)) : SqB K true H a xs := .inl (.inl h)
end
section
variable {σ : L2.St} {H : Hp} {Q : VK} {r r' : R2} {ta tb tc : TE} {to te : TE} {D : Ends} {t : TA} {i j l : Nat} {v w x : V}
theorem v_chain (q : ta σ H fun x H1 => tb σ H1 fun y H2 => r x y H2 fun z H3 => ∃ k, z = .bl k ∧ (if k = true then tc σ H3 fun w' H4 => r' y w' H4 Q else Q (.bl false) H3)) : tChain r r' ta tb tc σ H Q := q
theorem v_m1 {r : V → List V → Hp → VK → Prop} (q : to σ H fun x H1 => (∃ a, x = .str a) ∧ te σ H1 fun y H2 => r x [y] H2 Q) : tM1 r to te σ H Q := q
theorem v_par3 (q : t σ H fun vs H1 => ∃ u v w, vs = [u, v, w] ∧ D.nx (((σ.set i (some u)).set j (some v)).set l (some w)) H1) : tPar3 i j l t D σ H := q
theorem v_x3 {P : V → V → V → Prop} (q : P v w x) : ∃ a b c, [v, w, x] = [a, b, c] ∧ P a b c := ⟨v, w, x, rfl, q⟩
end
def rJoinL (K : PySem.W.Frag) : V → List V → Hp → VK → Prop := fun x xs H Q => ∃ a p, ∃ ys : List Str, x = .str a ∧ xs = [.ref p] ∧ (SqL K H p (ys.map V.str) ∨ SqT K H p (ys.map V.str)) ∧ (ys.map (·.length)).sum + ys.length * a.length ≤ 16777216 ∧ Q (.str (Txt.join a ys)) H
end ZM
end
section
set_option Elab.async false
set_option linter.all false
set_option maxRecDepth 100000
set_option maxHeartbeats 4000000
/-! Operators of own classes. -/
namespace U
open PySem PySem.Spec PyProof.Rows L2 RZ
/-- x op y by the left one's own method, both of the class at C -/
def rSelf (C : Addr) (sp : Sp) : R2 := fun x y H Q => ∃ a b dx dy fs gs, x = .ref a ∧ y = .ref b ∧ H a = some (.ins C dx fs) ∧ H b = some (.ins C dy gs) ∧ sp [.ref a, .ref b] H Q E0
theorem back_of {X : Cx} {pins : List (Addr × Obj)} {σ : L2.St} {Q : VK} {v : Value} {s : Shared} (h : EP X pins σ Q v s) : PySem.W.CmpBack (EP X pins σ Q) v s := by
  have h' := h
  obtain ⟨x, H', I, r, q⟩ := h
  cases x with
  | non => cases (show v = Value.none from r); exact h'
  | bl b => cases (show v = Value.bool b from r); exact h'
  | int i => obtain ⟨t, e⟩ := (show ∃ t, v = Value.int i t from r); subst e; exact h'
  | str i => obtain ⟨t, e⟩ := (show ∃ t, v = Value.str i t from r); subst e; exact h'
  | byt i => obtain ⟨t, e⟩ := (show ∃ t, v = Value.bytes i t from r); subst e; exact h'
  | flt i => obtain ⟨t, e⟩ := (show ∃ t, v = Value.float i t from r); subst e; exact h'
  | ref a => cases (show v = Value.ref a from r); exact h'
  | ty n => cases (show v = Value.type n from r); exact h'
theorem o_own {X : Cx} {op : Operator} {C : Addr} {m : Str} {k : Nat} {ps : List Str} {sp : Sp} (D : Md X.prog X.w X.K X.mg X.base C m k ps sp) (hr : Room k X.A) (hc : PySem.W.selfFirst X.K C = true) (hm : PySem.dunder op.info.2 = m := by rfl) : OpR X (binaryOp op) (rSelf C sp) := by
  intro pins s σ H x y v u Q I rx ry h
  obtain ⟨a, b, dx, dy, fs, gs, rfl, rfl, ha, hb, q⟩ := h
  obtain ⟨f, fd, F, _, M, B⟩ := D.ex
  obtain rfl : v = Value.ref a := rx
  obtain rfl : u = Value.ref b := ry
  obtain ⟨mA, J, _⟩ := ins_get I.hok ha
  obtain ⟨mB, J', _⟩ := ins_get I.hok hb
  obtain ⟨od, J, _⟩ := J.look
  obtain ⟨od', J', _⟩ := J'.look
  obtain ⟨m', hF⟩ := I.fr
  refine PySem.W.binop_K hF I.ok.mod.kin J J'.type hc (by rw [hm]; exact M.at_) M.fn ?_
  refine thn (run_fn (us := [.ref a, .ref b]) (vs := [.ref a, .ref b]) F hr B .nil pass0 I (.cons rfl (.cons rfl .nil)) (by rw [List.append_nil]; exact q)) fun v s' z => back_of z
end U
namespace U
open PySem PySem.Spec PyProof.Rows L2 RZ
/-- x == y by the left one's own method, both of the class at C -/
theorem o_ownC {X : Cx} {op : CmpOp} {C : Addr} {m : Str} {k : Nat} {ps : List Str} {sp : Sp} (D : Md X.prog X.w X.K X.mg X.base C m k ps sp) (hr : Room k X.A) (hop : ∀ a b, compareOp op a b = richCompare op a b := by intro _ _; rfl) (hm : (cmpInfo op).2.1 = m := by rfl) : OpR X (compareOp op) (rSelf C sp) := by
  intro pins s σ H x y v u Q I rx ry h
  obtain ⟨a, b, dx, dy, fs, gs, rfl, rfl, ha, hb, q⟩ := h
  obtain ⟨f, fd, F, _, M, B⟩ := D.ex
  obtain rfl : v = Value.ref a := rx
  obtain rfl : u = Value.ref b := ry
  obtain ⟨mA, J, _⟩ := ins_get I.hok ha
  obtain ⟨mB, J', _⟩ := ins_get I.hok hb
  obtain ⟨od, J, _⟩ := J.look
  obtain ⟨od', J', _⟩ := J'.look
  obtain ⟨m', hF⟩ := I.fr
  rw [hop]
  refine PySem.W.cmp_K hr.units0 hF I.ok.mod.kin J J'.type (by simp [PySem.W.notFirst]) (by rw [hm]; exact M.at_) M.fn ?_
  refine thn (run_fn (us := [.ref a, .ref b]) (vs := [.ref a, .ref b]) F hr B .nil pass0 I (.cons rfl (.cons rfl .nil)) (by rw [List.append_nil]; exact q)) fun v s' z => back_of z
end U
namespace U
open PySem PySem.Spec PyProof.Rows L2 RZ
/-- math.lcm of two -/
def rLcm : List V → Hp → VK → Prop := fun vs H Q => ∃ a b : Int, vs = [.int a, .int b] ∧ a.natAbs < 2 ^ 13000 ∧ b.natAbs < 2 ^ 13000 ∧ Q (.int ((Nat.lcm a.natAbs b.natAbs : Nat) : Int)) H
theorem log_lt {n k : Nat} (hk : 0 < k) (h : n < 2 ^ k) : n.log2 < k := PySem.Flt.log2_lt_of hk h
theorem cr_lcm {X : Cx} : CallR X (.builtin "math.lcm") rLcm := by
  intro pins s σ H vs us Q I r h
  obtain ⟨a, b, rfl, ha, hb, q⟩ := h
  obtain ⟨t, u, rfl⟩ := Vals.int2 r
  have la : a.natAbs.log2 < 13000 := log_lt (by decide) ha
  have m1 : (max 1 a.natAbs).log2 < 13000 := log_lt (by decide) (by have : 1 < 2 ^ 13000 := Nat.one_lt_two_pow (by decide); omega)
  have m2 : (max a.natAbs b.natAbs).log2 < 13000 := log_lt (by decide) (by omega)
  have e1 : Nat.lcm 1 a.natAbs = a.natAbs := by rw [Nat.lcm_one_left]
  have l : ((((Nat.lcm 1 a.natAbs).lcm b.natAbs : Nat) : Int)).natAbs.log2 < bitsLine := by
    rw [e1, Int.natAbs_natCast]
    have h1 : Nat.lcm a.natAbs b.natAbs ≤ a.natAbs * b.natAbs := Nat.div_le_self _ _
    have h2 : a.natAbs * b.natAbs < 2 ^ 13000 * 2 ^ 13000 := Nat.mul_lt_mul'' ha hb
    rw [← Nat.pow_add] at h2
    have := log_lt (by decide) (Nat.lt_of_le_of_lt h1 h2)
    unfold bitsLine
    omega
  refine PySem.call_function_meets PySem.W.MGF.kind_lcm PySem.W.MGF.plain_lcm PySem.W.MGF.entry_lcm (PySem.W.MGF.args_lcm _ _) (PySem.W.mg_run_lcm a t b u (by omega) (by omega) l).meets ?_
  exact ⟨.int _, H, I.tok _, ⟨_, by rw [e1]⟩, q⟩
end U
end
section
set_option Elab.async false
set_option linter.all false
set_option maxRecDepth 100000
set_option maxHeartbeats 4000000
/-! enumerate of a list or a tuple. -/
namespace ZM
open PySem PySem.Spec PyProof.Rows L2 RZ
set_option maxHeartbeats 4000000 in
theorem meets_enum_new1 {v : Value} {o : Obj} {H : Heap → Prop} (B : Begins v o H) :
    Meets (Builtin.«enumerate.__new__» ⟨[.type "enumerate", v], []⟩) (fun _ R s => H s.heap ∧
      R (.ok (.ret (.ref (s.heap.push o).objs.size))) { s with heap := (s.heap.push o).push { cls := .type "enumerate", data := .fields #[.none, .bool false, .ref s.heap.objs.size, rawInt 0, .none, .none] } }) :=
  .of_wp fun prog w A R s h => by
    obtain ⟨hp, g, d, tk, os⟩ := s; obtain ⟨h1, h⟩ := h
    have hsub := sub_enumerate
    have q1 : ∀ {A' : Around} {E : Value → Shared → Prop} {Q : Value → Shared → Prop}, Q (.ref hp.objs.size) ⟨hp.push o, g, d, tk, os⟩ → wpAny (model prog w) A' (pyIter v) Q E ⟨hp, g, d, tk, os⟩ :=
      fun q => B.iter prog w _ _ ⟨hp, g, d, tk, os⟩ _ h1 q
    wp_walk using q1
    refine wpAny_stack_any fun st => wpAny_pure ?_
    split
    · rename_i c _ _ _ _ _
      cases (c == Value.type "enumerate")
      · wp_walk using q1
        exact ⟨_, rfl, h⟩
      · wp_walk using q1
        exact ⟨_, rfl, h⟩
    · wp_walk using q1
      exact ⟨_, rfl, h⟩
theorem call_enum1 {prog : Program} {w : World} {A : Around} {E : Value → Shared → Prop} {s : Shared} {v : Value} {o : Obj} {H : Heap → Prop} {Q : Value → Shared → Prop} (B : Begins v o H) (h1 : H s.heap)
    (h : ∀ h', IsEnum h' (s.heap.objs.size + 1) s.heap.objs.size 0 .none → h'.get? s.heap.objs.size = some o → h'.objs.size = s.heap.objs.size + 2 →
      (∀ b o, s.heap.get? b = some o → h'.get? b = some o) → Q (.ref (s.heap.objs.size + 1)) { s with heap := h' }) :
    wpAny (model prog w) A (call (.type "enumerate") [v]) Q E s := by
  refine callType_new F.called_enumerate (by decide) (F.typeCall_enumerate_1 _) (F.newCall_enumerate_1 _) (fun obj => F.args_object_init_2 obj _) F.entry_enumerate_new
    (meets_enum_new1 B) ⟨h1, ?_⟩
  have hz : (s.heap.push o).objs.size = s.heap.objs.size + 1 := Heap.size_push ..
  show _ ∧ _
  rw [hz]
  have he : IsEnum ((s.heap.push o).push { cls := .type "enumerate", data := .fields #[.none, .bool false, .ref s.heap.objs.size, rawInt 0, .none, .none] }) (s.heap.objs.size + 1) s.heap.objs.size 0 .none := by
    have := Heap.get?_push_size (s.heap.push o) (o := { cls := .type "enumerate", data := .fields #[.none, .bool false, .ref s.heap.objs.size, rawInt 0, .none, .none] }) rfl
    rw [hz] at this; exact this
  refine ⟨⟨_, he, rfl⟩, h _ he (Heap.get?_push_of_some _ (Heap.get?_push_size _ B.free)) (by rw [Heap.size_push, hz]) fun b o' x => Heap.get?_push_of_some _ (Heap.get?_push_of_some _ x)⟩
/-- the sequence at a as it stands at each turn, each item in a new pair -/
def IteM (K : PySem.W.Frag) (t : Bool) (a : Addr) : It :=
  ⟨fun i H => ∃ (xs : List V) (x : V), SqB K t H a xs ∧ xs[i]? = some x, fun i H v H' => ∃ T x, v = .ref T ∧ H T = none ∧ H' = upd H T (.tup [.int (i : Nat), x]) ∧ ∀ xs, SqB K t H a xs → xs[i]? = some x, fun i H => ∃ xs : List V, SqB K t H a xs ∧ xs.length = i⟩
theorem turn_enumM {P : Program} {w : World} {K : PySem.W.Frag} {elts : List Expr} {kk : Nat} {tpos : Pos} {t : Bool} (a e it : Addr) (hae : a ≠ e) (hai : a ≠ it) :
    Turn P w K (.Tuple elts kk tpos) (IteM K t a) [e, it] e (fun i h => (∃ old, IsEnum h e it ((i : Nat) : Int) old) ∧ ItB t h it a i ∧ e ≠ it) where
  mem := by simp
  obj := fun i h st b hb => by
    obtain ⟨⟨old, he⟩, hi, _⟩ := st
    have e' : b = e ∨ b = it := by simpa using hb
    rcases e' with z | z
    · rw [z]; exact ⟨_, he, fun v q => nomatch q⟩
    · rw [z]; exact itB_obj hi
  keep := fun i h h' st k => let ⟨⟨old, he⟩, hi, hne⟩ := st; ⟨⟨old, k e (by simp) _ he⟩, itB_at hi fun o q => k it (by simp) o q, hne⟩
  item := by
    intro X hP hw hK hc i pins s σ H E I hf st hg
    subst hP hw hK
    obtain ⟨⟨old, he⟩, hit, hne⟩ := st
    obtain ⟨xs, x, hq, hx⟩ := hg
    obtain ⟨its, rv, p⟩ := invB I hq
    obtain ⟨u, hu, ru⟩ := rv.get hx
    have hel : e < s.heap.objs.size := Heap.lt_size he
    have hil : it < s.heap.objs.size := by obtain ⟨_, q, _⟩ := itB_obj hit; exact Heap.lt_size q
    have hn : X.A.in1.handled = none := I.ok.hd hc
    have li : i < its.length := (List.getElem?_eq_some_iff.mp hu).1
    refine wpAny_pyNext_enum_itemD (drawsB hn it a hai its.toArray) he ⟨hit, p⟩ (by simpa using li) hne (by simp [hne, Ne.symm hae]) fun c h' tk pc ho hst hT hsz hk => ?_
    have ec : c = u := by
      have q : its[i]? = some c := by simpa using pc
      rw [hu] at q
      exact (Option.some.inj q).symm
    subst ec
    refine ⟨_, rfl, wpAny_letOwnedTupleGo_enum (s := { s with heap := h', toks := tk + 1 }) ho fun h'' he' sb => ?_⟩
    have hT2 : h''.get? s.heap.objs.size = some { cls := .type "tuple", data := .seq #[.int i tk, c] } := (sb.2 _ (Nat.ne_of_gt hel)).trans hT
    have new : ObjOk X.prog X.w (upd H s.heap.objs.size (.tup [.int (i : Nat), x])) h'' s.heap.objs.size (.tup [.int (i : Nat), x]) :=
      ⟨by show 2 ≤ sizeLine; decide, [.int i tk, c], .cons ⟨_, rfl⟩ (.cons ru .nil), ⟨_, hT2, rfl, _, rfl⟩⟩
    have I1 : Inv X pins σ (upd H s.heap.objs.size (.tup [.int (i : Nat), x])) { s with heap := h'', toks := tk + 1 } :=
      I.turnedNew (ch := [e, it]) (fun b ob hb q => (sb.2 b (fun z => hb (by simp [z]))).trans (hk b ob (fun z => hb (by simp [z])) (fun z => hb (by simp [z])) q)) hf (Nat.le_refl _) new
    refine ⟨.ref s.heap.objs.size, _, I1, rfl, ⟨_, x, rfl, I.hok.fresh (Nat.le_refl _), rfl, fun ys hy => by rw [injB I hq hy]; exact hx⟩, ⟨⟨c, ?_⟩, itB_at hst.1 fun o q => (sb.2 it (Ne.symm hne)).trans q, hne⟩, fun b hb => ?_⟩
    · have e1 : ((i + 1 : Nat) : Int) = (i : Int) + 1 := by omega
      rw [e1]; exact he'
    · have hb' : b < s.heap.objs.size := by
        have e' : b = e ∨ b = it := by simpa using hb
        rcases e' with z | z
        · rw [z]; exact hel
        · rw [z]; exact hil
      rw [upd_ne (Nat.ne_of_lt hb')]
      exact (hf b hb).1
  done := by
    intro X hP hw hK hc i pins s σ H E I hf st hg
    subst hP hw hK
    obtain ⟨⟨old, he⟩, hit, hne⟩ := st
    obtain ⟨xs, hq, hx⟩ := hg
    obtain ⟨its, rv, p⟩ := invB I hq
    obtain ⟨f0, f1, f2, f3, f4, f5⟩ := hf it (by simp)
    have hl := rv.length
    have hn : X.A.in1.handled = none := I.ok.hd hc
    have hst : ItB t s.heap it a its.toArray.size ∧ IsB t s.heap a its.toArray := ⟨by rw [List.size_toArray, ← hl, hx]; exact hit, p⟩
    exact wpAny_pyNext_enum_endD (drawsB hn it a hai its.toArray) he hst fun h' eb => ⟨rfl, I.turned (t' := s.toks) (fun b o hb q => eb b o hb q) f0 f1 f3 f4 f5⟩
  self := fun A i s Q E st h => let ⟨⟨_, he⟩, _⟩ := st; wpAny_pyIter_enum he h
/-- enumerate(x): a list or a tuple -/
def iEnumU (K : PySem.W.Frag) (ta : TA) : TI := fun σ H R => ta σ H fun vs H1 => ∃ a t xs, vs = [.ref a] ∧ SqB K t H1 a xs ∧ R (IteM K t a) H1
theorem pi_enumU {X : Cx} {e : Expr} {ta : TA} {p pos tpos : Pos} {elts : List Expr} {kk : Nat} (hg : Gl X "enumerate") (hm : X.mg "enumerate" = none) (ha : PA X [e] ta) (hs : starEach [e] X.env = [(false, eval e X.env)] := by rfl) :
    PI X (.Tuple elts kk tpos) (.Call (.Name "enumerate" p) [e] [] pos) (iEnumU X.K ta) := by
  refine ⟨fun pins s σ H R I h => ?_⟩
  refine Call_ (ld_blt I hg hm boot_enumerate (PyProof.Rows.callWith_type1 (thn (ha.run pos pins s σ H _ I h) fun us s1 ⟨vs, H1, I1, r1, q1⟩ => ?_) hs rfl))
  obtain ⟨a, t, xs, ex, hq, q⟩ := q1
  subst ex
  cases r1 with
  | cons r rr =>
    cases rr
    cases r
    obtain ⟨its, rv, p'⟩ := invB I1 hq
    have al := isB_lt p'
    refine call_enum1 (beginsB (t := t) a its.toArray) p' fun h' he hit hsz hk => wpAny_pyIter_enum he ?_
    have I2 : Inv X pins σ H1 { s1 with heap := h' } := I1.kept (t' := s1.toks) hk
    refine ⟨s1.heap.objs.size + 1, [s1.heap.objs.size + 1, s1.heap.objs.size], _, _, H1, rfl, I2, turn_enumM a (s1.heap.objs.size + 1) s1.heap.objs.size (Nat.ne_of_lt (Nat.lt_succ_of_lt al)) (Nat.ne_of_lt al), ⟨⟨.none, he⟩, itB_of hit, Nat.succ_ne_self _⟩, fun b hb => ?_, q⟩
    have e' : b = s1.heap.objs.size + 1 ∨ b = s1.heap.objs.size := by simpa using hb
    have hle : s1.heap.objs.size ≤ b := by
      rcases e' with z | z
      · rw [z]; exact Nat.le_add_right _ _
      · rw [z]; exact Nat.le_refl _
    exact I1.fpOk hle (I1.hok.fresh hle)
theorem walk_enumM {K : PySem.W.Frag} {t : Bool} {a : Addr} {xs : List V} : Walk (IteM K t a) xs.length (fun H => SqB K t H a xs) (YPair (fun i => some (.int (i : Nat))) (fun i => xs[i]?)) := by
  refine ⟨fun i _ hi q => ⟨xs, xs[i], q, by simp [hi]⟩, fun _ q => ⟨xs, q, rfl⟩, fun i H v H' _ q y => ?_⟩
  obtain ⟨T, x, h1, h2, h3, h4⟩ := y
  exact ⟨T, .int (i : Nat), x, h1, h2, h3, rfl, h4 xs q⟩
theorem v_eu {K : PySem.W.Frag} {t : TA} {σ : L2.St} {H : Hp} {R : It → Hp → Prop} (q : t σ H fun vs H1 => ∃ a t xs, vs = [.ref a] ∧ SqB K t H1 a xs ∧ R (IteM K t a) H1) : iEnumU K t σ H R := q
end ZM
end
section
set_option Elab.async false
set_option linter.all false
set_option maxRecDepth 100000
set_option maxHeartbeats 4000000
/-! t + u of tuples, t empty: u itself. -/
namespace U
open PySem PySem.Spec PyProof PyProof.Rows L2 RZ
def rCatT0 (K : PySem.W.Frag) : R2 := fun x y H Q => ∃ a b ys, x = .ref a ∧ y = .ref b ∧ SqT K H a [] ∧ SqT K H b ys ∧ Q (.ref b) H
theorem cat_tup0 {prog : Program} {w : World} {A : Around} {E : Value → Shared → Prop} {s : Shared} {t b : Addr} {ws : List Value} {Q : Value → Shared → Prop} (ht : IsTup s.heap t #[]) (hb : IsTup s.heap b ws.toArray) (h : Q (.ref b) s) : wpAny (model prog w) A (binaryOp .Add (.ref t) (.ref b)) Q E s := by
  obtain ⟨⟨cls, dd, data, sl⟩, ho, hc, n, hd⟩ := id ht
  obtain ⟨⟨cls2, dd2, data2, sl2⟩, ho2, hc2, n2, hd2⟩ := id hb
  simp only at hc hd hc2 hd2
  subst hc hd hc2 hd2
  exact concat_meets ⟨_, ho, rfl⟩ ⟨_, ho2, rfl⟩ noFill_tuple_add seq_tuple_add PySem.F.slot_tuple_add PySem.F.entry_tuple_add (PySem.F.args_tuple_add_2 _ _)
    (tuple_addW0 t b #[] ws.toArray n n2 dd dd2 sl sl2 rfl) ⟨ho, ho2, h⟩
theorem op_catT0 {X : Cx} : OpR X (binaryOp .Add) (rCatT0 X.K) := by
  intro pins s σ H x y v u Q I rx ry h
  obtain ⟨a, b, ys, rfl, rfl, ha, hb, q⟩ := h
  cases rx
  cases ry
  obtain ⟨its, r1, p1, _⟩ := I.tuple ha
  obtain ⟨its2, r2, p2, _⟩ := I.tuple hb
  cases r1
  exact cat_tup0 p1 p2 ⟨.ref b, H, I, rfl, q⟩
def rAddV (K : PySem.W.Frag) : R2 := fun x y H Q => rAddU K x y H Q ∨ rCatT0 K x y H Q
theorem o_addV {X : Cx} : OpR X (binaryOp .Add) (rAddV X.K) := OpR.or o_add op_catT0
end U
end
section
set_option Elab.async false
set_option linter.all false
set_option maxRecDepth 100000
set_option maxHeartbeats 4000000
/-! name = {..: .. for ..} on one line, the name a local. -/
namespace U
open PySem PySem.Spec PyProof PyProof.Rows L2 RZ
variable {X : Cx}
theorem ps_setDc {i : Nat} {y : Str} {py : Pos} {kx vx tg iter : Expr} {ifs : List Expr} {scope : Scope} {own : List (Str × Nat)} {pos spos : Pos} {wi : TI} {g : TG} {tt : TT} {tk tv : TE} (hc : X.calm = true) (hN : X.N.Nodup) (hy : X.N[i]? = some y) (hyl : X.env.scope.names.lookup y = some .local)
    (hsw : swapsWith (.DictComp kx vx [⟨tg, iter, ifs, 0⟩] scope pos) (some (.Name y py)) spos.line X.env = pure true) (hi : PI X tg iter wi) (ok : BlkOk X.N X.env.scope scope own)
    (hg : ∀ (s : Shared) (H : Hp) (C : Addr) (cl : List (Str × Addr)) (fp : List Addr), PG (X.blk s H scope (compEnvC scope cl C X.env) fp) tg g) (ht : ∀ (s : Shared) (H : Hp) (C : Addr) (cl : List (Str × Addr)) (fp : List Addr), PTs (X.blk s H scope (compEnvC scope cl C X.env) fp) ifs tt)
    (hk : ∀ (s : Shared) (H : Hp) (C : Addr) (cl : List (Str × Addr)) (fp : List Addr), PE (X.blk s H scope (compEnvC scope cl C X.env) fp) kx tk)
    (he : ∀ (s : Shared) (H : Hp) (C : Addr) (cl : List (Str × Addr)) (fp : List Addr), PE (X.blk s H scope (compEnvC scope cl C X.env) fp) vx tv) (hs : ∀ x, foldedSetIterable iter X.env x = pure x := by intro _; rfl) :
    PS X (.Assign [.Name y py] (.DictComp kx vx [⟨tg, iter, ifs, 0⟩] scope pos) spos) (tAsg (tDc wi g tt tk tv (own.map (·.2))) (gName i)) := by
  refine ⟨fun pins s σ H D I h => ?_⟩
  rw [exec_Assign_Name_used _ _ _ _ hsw]
  refine wpAny_bind (wpAny_standAt (wpAny_bind ?_))
  show wpAny _ X.A (do let _ ← comprehension (.DictComp kx vx [⟨tg, iter, ifs, 0⟩] scope pos) scope X.env (firstIterPos [⟨tg, iter, ifs, 0⟩] pos) newDict false (eval iter X.env) (some (assign (.Name y py) X.env))) _ _ s
  have h : tDc wi g tt tk tv (own.map (·.2)) σ H (fun x H1 => gName i x σ H1 D.nx) := h
  refine wpAny_bind (thn (dc_core (Qf := fun _ s' => SP X pins D .next s') hc hN I hi ok hg ht hk he hs h fun L C s' m H' I' q hn f => ?_) fun _ s' hq => wpAny_pure (wpAny_pure hq))
  show wpAny _ _ (assign (.Name y py) X.env (.ref L)) _ _ _
  refine wpAny_assign_Name (store_ok2 (v := V.ref L) I' hN hy (.inl hyl) rfl (fun s2 I2 ⟨a, sb, ha⟩ => ?_) (.inr hyl))
  obtain ⟨f0, f1, f2, f3, f4, f5⟩ := f
  have haC : C ≠ a := by
    rcases ha with z | z
    · rw [z]; exact f1
    · exact fun e => f4 y a z e.symm
  refine ⟨m, hn.sameBut sb haC, fun h3 sb3 => ?_⟩
  exact ⟨_, H', I2.turned (t' := s2.toks) (fun b o hb e => (sb3.2 b hb).trans e) f0 f1 f3 f4 f5, q⟩
theorem sw_trueD {kx vx : Expr} {gs : List Comprehension} {scope : Scope} {pos py : Pos} {y : Str} {l : Nat} {env : Env} (hk : env.scope.kind = .function) (hy : env.scope.names.lookup y = some .local) (hl : (py.line == pos.line) = true)
    (ha : (scope.names.any fun (n, k) => n == y && (k == .local || k == .cell)) = false) : swapsWith (.DictComp kx vx gs scope pos) (some (.Name y py)) l env = pure true := by
  have ky : env.kindOf y = some .local := hy
  have hb : env.blockKind = .function := by unfold Env.blockKind; rw [hk]; rfl
  unfold swapsWith
  simp only [hb, ky, ha, Expr.pos, hl]
  rfl
end U
end
section
set_option Elab.async false
set_option linter.all false
set_option maxRecDepth 100000
set_option maxHeartbeats 4000000
/-! x in o, x not in o: o's own __contains__. -/
namespace U
open PySem PySem.Spec PyProof.Rows L2 RZ
/-- x in y by y's own method -/
def rInO (C : Addr) (neg : Bool) (sp : Sp) : R2 := fun x y H Q => ∃ b dy gs, y = .ref b ∧ H b = some (.ins C dy gs) ∧ sp [.ref b, x] H (fun v H' => ∃ c : Bool, v = .bl c ∧ Q (.bl (neg != c)) H') E0
section
variable {M : Model} {A : Around} {E : Value → Shared → Prop} {s : Shared} {K : PySem.W.Frag} {x C f : Addr} {ox : Obj} {od : Option Obj} {v : Value}
theorem contains_own {Q : Bool → Shared → Prop} (X : K.In s.heap) (I : PySem.W.InstAt s.heap x ox C od) (hs : PySem.W.findIn K (.ref C) "__contains__" = some (some (.ref f))) (hf : PySem.W.typeIn K (.ref f) = some (.type "function"))
    (h : wpAny M A (call (.ref f) [.ref x, v]) (fun r s' => wpAny M A (truthy r) Q E s') E s) : wpAny M A (contains (.ref x) v) Q E s := by
  unfold contains
  refine wpAny_holding ?_
  refine wpAny_bind (wpAny_bind (I.type.here ((PySem.W.looks_findIn X hs).here ?_)))
  show wpAny M A (if (some (Value.ref f) == some Value.none) = true then _ else _) Q E s
  rw [if_neg (by simp)]
  refine wpAny_bind ?_
  refine wpAny_bind (wpAny_bind (I.type.here ((PySem.W.looks_findIn X hs).here (wpAny_holding (wpAny_bind ((PySem.W.bind_fn X _ hf).here ?_))))))
  show wpAny M A (if (Value.ref f == Value.none) = true then _ else _) _ E s
  rw [if_neg (by simp)]
  exact wpAny_bind (wpAny_mono h (fun _ _ z => wpAny_pure z) fun _ _ z => z)
end
theorem o_inO {X : Cx} {C : Addr} {k : Nat} {ps : List Str} {sp : Sp} (D : Md X.prog X.w X.K X.mg X.base C "__contains__" k ps sp) (hr : Room k X.A) : OpR X (compareOp .In) (rInO C false sp) := by
  intro pins s σ H x y v u Q I rx ry h
  obtain ⟨b, dy, gs, rfl, hb, q⟩ := h
  obtain ⟨f, fd, F, _, M, B⟩ := D.ex
  obtain rfl : u = Value.ref b := ry
  obtain ⟨mB, J, _⟩ := ins_get I.hok hb
  obtain ⟨od, J, _⟩ := J.look
  show wpAny _ _ (do let r ← contains (.ref b) v; pure (Value.bool r)) _ _ s
  refine wpAny_bind (contains_own I.kIn J M.at_ (beq_iff_eq.mp M.fn) ?_)
  refine thn (run_fn (Q := fun v H' => ∃ c : Bool, v = .bl c ∧ Q (.bl (false != c)) H') (us := [.ref b, v]) (vs := [.ref b, x]) F hr B .nil pass0 I (.cons rfl (.cons rx .nil)) (by rw [List.append_nil]; exact q)) fun r s' ⟨z, H', I', rz, c, ez, q'⟩ => ?_
  subst ez
  obtain rfl : r = Value.bool c := rz
  refine wpAny_truthy_bool (wpAny_pure ⟨.bl (false != c), H', I', ?_, q'⟩)
  cases c <;> rfl
theorem o_ninO {X : Cx} {C : Addr} {k : Nat} {ps : List Str} {sp : Sp} (D : Md X.prog X.w X.K X.mg X.base C "__contains__" k ps sp) (hr : Room k X.A) : OpR X (compareOp .NotIn) (rInO C true sp) := by
  intro pins s σ H x y v u Q I rx ry h
  obtain ⟨b, dy, gs, rfl, hb, q⟩ := h
  obtain ⟨f, fd, F, _, M, B⟩ := D.ex
  obtain rfl : u = Value.ref b := ry
  obtain ⟨mB, J, _⟩ := ins_get I.hok hb
  obtain ⟨od, J, _⟩ := J.look
  show wpAny _ _ (do let r ← contains (.ref b) v; pure (Value.bool (!r))) _ _ s
  refine wpAny_bind (contains_own I.kIn J M.at_ (beq_iff_eq.mp M.fn) ?_)
  refine thn (run_fn (Q := fun v H' => ∃ c : Bool, v = .bl c ∧ Q (.bl (true != c)) H') (us := [.ref b, v]) (vs := [.ref b, x]) F hr B .nil pass0 I (.cons rfl (.cons rx .nil)) (by rw [List.append_nil]; exact q)) fun r s' ⟨z, H', I', rz, c, ez, q'⟩ => ?_
  subst ez
  obtain rfl : r = Value.bool c := rz
  refine wpAny_truthy_bool (wpAny_pure ⟨.bl (true != c), H', I', ?_, q'⟩)
  cases c <;> rfl
end U
/-! o.m(k = e, ..): a method by keywords alone. -/
namespace U
open PySem PySem.Spec PyProof.Rows L2 RZ
structure Mkd (P : Program) (w : World) (K : PySem.W.Frag) (mg : Str → Option Value) (base : Heap) (C : Addr) (m : Str) (k : Nat) (ps ks : List Str) (sp : Sp) : Prop where
  ex : ∃ (f : Addr) (fd : FuncData) (g : List Value → List Value → List Value) (gV : List V → List V → List V), FnOk P w K mg base CX0 k f fd ps sp ∧ Cls K C ∧ Meth K C m f ∧ KBinds K fd ps ks g gV ∧ ∀ a zs, (a :: zs).length = ps.length → gV [a] zs = a :: zs
theorem pe_mdk {X : Cx} {m : Str} {pos apos : Pos} {o : Expr} {kws : List Keyword} {tk : TA} {ta : TE} {k : Nat} {ps ks : List Str} {sp : Sp} {C : Addr} {pl : Sem Bool} (D : Mkd X.prog X.w X.K X.mg X.base C m k ps ks sp) (hr : Room k X.A) (he : PE X o ta) (hkw : PK X kws tk)
    (hall : (backToKw pos (keywordEach kws X.env)).all (·.1.isSome) = true := by rfl) (hks : (backToKw pos (keywordEach kws X.env)).filterMap (·.1) = ks := by rfl)
    (hpl : ((backTo pos (starEach [] X.env)).any (·.1) || (backToKw pos (keywordEach kws X.env)).any (·.1.isNone)) = false := by rfl)
    (ht : eval (.Call (.Attribute o m apos) [] kws pos) X.env = (do
      let ov ← eval o X.env
      standAt apos.atName
      let (f, first) ← holding [ov] (getMethod ov m pl)
      callWith pos f first (backTo pos (starEach [] X.env)) (backToKw pos (keywordEach kws X.env))) := by rfl) :
    PE X (.Call (.Attribute o m apos) [] kws pos) (tMd C m sp ta tk) := by
  obtain ⟨f, fd, g, gV, F, c, hm, b, hg⟩ := D.ex
  refine ⟨fun pins s σ H Q I h => ?_⟩
  refine PySem.W.methodCall_KW (pl := pl) (thn (he.run pins s σ H _ I h) fun u s1 ⟨x, H1, I1, rx, a, dx, fs, ex, ea, l, q⟩ => ?_) ht
  subst ex
  obtain rfl : u = Value.ref a := rx
  refine getmeth_ok I1 ea c hm l ?_
  refine PySem.W.callWith_KW0 (h₀ := X.base) (first := [.ref a]) I.ok.mod.kin hm.kp hall (thn (hkw.run pos pins s1 σ H1 _ I1 q) fun ws s2 ⟨zs, H2, I2, rz, q2⟩ => ⟨I2.kIn, ?_⟩) hpl
  rw [hks]
  have q2' : sp (.ref a :: zs) H2 Q E0 := by have z : sp (.ref a :: (zs ++ [])) H2 Q E0 := q2; rw [List.append_nil] at z; exact z
  exact run_fnk (us := [.ref a]) (vs := [.ref a]) F hr b pass0 I2 (.cons rfl .nil) rz (by rw [hg _ _ (F.len _ _ _ _ q2')]; exact q2')
def g11 {α : Type} : List α → List α → List α
  | [a], [b] => [a, b]
  | _, _ => []
theorem rl_g11 {vs : List V} {us : List Value} {zs : List V} {ws : List Value} (r : Vals vs us) (z : Vals zs ws) : Vals (g11 vs zs) (g11 us ws) := by
  cases r with
  | nil => exact .nil
  | cons a r =>
    cases r with
    | cons b r => exact .nil
    | nil =>
      cases z with
      | nil => exact .nil
      | cons c z =>
        cases z with
        | nil => exact .cons a (.cons c .nil)
        | cons d z => exact .nil
theorem mkd_of {P : Program} {w : World} {K : PySem.W.Frag} {mg : Str → Option Value} {base : Heap} {x q p : Str} {k : Nat} {y : Str} {sp : Sp} {st : Stmt} {f : Addr} {fd : FuncData} {C : Addr}
    (F : FunD K x q (defArgs st) (defBody st) (defScope st) [] [] f fd) (ok : FnOk P w K mg base CX0 k f fd [p, y] sp) (c : Cls K C) (hm : Meth K C x f)
    (h : ∀ (kV doc pm : Value) (an : Option Addr) (cdv ct : Value) (a b : Value), bindArgs (PySem.W.fnOf x q (defArgs st) (defBody st) (defScope st) .none kV doc pm an cdv ct) ⟨[a], [(y, b)]⟩ = pure [(p, a), (y, b)]) :
    Mkd P w K mg base C x k [p, y] [y] sp := by
  refine ⟨f, fd, g11, g11, ok, c, hm, ?_, fun a zs hl => ?_⟩
  · obtain ⟨oc, od, dV, kV, doc, pm, an, cdv, ct, osl, rfl, lk, hcd, hD, hK⟩ := F.ex
    rcases hD with ⟨_, rfl⟩ | ⟨e, _⟩
    · refine ⟨fun s us ws _ hl => ?_, rl_g11⟩
      match us, ws, hl with
      | [a], [b], _ => exact .of_eq (h kV doc pm an cdv ct a b)
    · exact absurd rfl e
  · match zs, hl with
    | [z], _ => rfl
end U
end
section
set_option Elab.async false
set_option linter.all false
set_option maxRecDepth 100000
set_option maxHeartbeats 4000000
namespace U
open PySem PySem.Spec PyProof.Rows L2 RZ
theorem tuple_mulW1 (l : Addr) (items : Array Value) (n : Nat) (dd : Option Addr) (sl : Array (Option Value)) (x : Int) (u : Tok) (hx : x = 1) :
    Meets (Builtin.«tuple.__mul__» ⟨[.ref l, .int x u], []⟩) (fun _ R s => s.heap.get? l = some { cls := .type "tuple", dict := dd, data := .seq items n, slots := sl } ∧
      R (.ok (.ret (Value.ref l))) s) :=
  .of_wp fun prog w A R s h => by
    obtain ⟨hp, g, d, tk, os⟩ := s
    obtain ⟨hl, h⟩ := h
    subst hx
    have f1 := AutoSeq1.idx_int
    have c1 : (items.isEmpty || (1 : Int) == 1) = true := by simp
    wp_walk using wpAny_loadPart' hl
    repeat (first
      | (refine wpAny_ite_false (decide_eq_false (by decide)) ?_; wp_walk using wpAny_loadPart' hl)
      | (refine wpAny_ite_true (decide_eq_true (by rw [c1])) ?_; wp_walk using wpAny_loadPart' hl))
    exact ⟨_, rfl, h⟩
theorem tuple_mulW0 (l : Addr) (items : Array Value) (n : Nat) (dd : Option Addr) (sl : Array (Option Value)) (x : Int) (u : Tok) (c0 : (decide (x < -(2 ^ 63)) || decide (x ≥ 2 ^ 63)) = false) (c1 : (items.isEmpty || x == 1) = false) (c2 : (decide (x ≤ 0) || items.isEmpty) = true) :
    Meets (Builtin.«tuple.__mul__» ⟨[.ref l, .int x u], []⟩) (fun _ R s => s.heap.get? l = some { cls := .type "tuple", dict := dd, data := .seq items n, slots := sl } ∧
      R (.ok (.ret (Value.ref s.heap.objs.size))) { s with heap := s.heap.push { cls := Value.type "tuple", data := Data.seq #[] }, toks := s.toks }) :=
  .of_wp fun prog w A R s h => by
    obtain ⟨hp, g, d, tk, os⟩ := s
    obtain ⟨hl, h⟩ := h
    have f1 := AutoSeq1.idx_int
    wp_walk using wpAny_loadPart' hl
    repeat (first
      | (refine wpAny_ite_false (decide_eq_false (by rw [c0]; exact Bool.false_ne_true)) ?_; wp_walk using wpAny_loadPart' hl)
      | (refine wpAny_ite_false (decide_eq_false (by rw [c1]; exact Bool.false_ne_true)) ?_; wp_walk using wpAny_loadPart' hl)
      | (refine wpAny_ite_true (decide_eq_true (by rw [c2])) ?_; wp_walk using wpAny_loadPart' hl))
    exact ⟨_, rfl, h⟩
/-- t * k, t not empty: k = 1 is t itself, k below 1 the empty one -/
def rRepT1 (K : PySem.W.Frag) : R2 := fun x y H Q => ∃ l xs, x = .ref l ∧ y = .int 1 ∧ SqT K H l xs ∧ Q (.ref l) H
def rRepT0 (K : PySem.W.Frag) : R2 := fun x y H Q => ∃ l k xs, x = .ref l ∧ y = .int k ∧ SqT K H l xs ∧ xs ≠ [] ∧ -1000 ≤ k ∧ k ≤ 0 ∧ ∀ p, H p = none → Q (.ref p) (upd H p (.tup []))
theorem op_repT1 {X : Cx} : OpR X (binaryOp .Mult) (rRepT1 X.K) := by
  intro pins s σ H x y v u Q I rx ry h
  obtain ⟨l, xs, rfl, rfl, hT, q⟩ := h
  cases rx
  obtain ⟨t, rfl⟩ := ry
  obtain ⟨its, r, ⟨⟨cls, dd, data, sl⟩, ho, hc, n, hd⟩, hs⟩ := I.tuple hT
  simp only at hc hd
  subst hc hd
  refine wpAny_binaryOp_repeat_ref (T := "tuple") (U := "int") (by decide) ⟨_, ho, rfl⟩ (fun s' => typeIs_int s' 1 t) noFill_tuple_mul F.fills_int_mul F.slot_int_rmul repeat_tuple F.slot_int_index.lookup
    (call_meets F.slot_int_rmul (typeIs_int s 1 t) F.entry_int_rmul (F.args_int_rmul_2 _ _) (int_rmul_tuple 1 t l its.toArray n dd sl)
      ⟨ho, rfl, ⟨_, ho, rfl⟩, call_meets F.slot_tuple_mul ⟨_, ho, rfl⟩ F.entry_tuple_mul (F.args_tuple_mul_2 _ _) (tuple_mulW1 l its.toArray n dd sl 1 t rfl) ⟨ho, ?_⟩⟩)
  exact ⟨.ref l, H, I, rfl, q⟩
theorem op_repT0 {X : Cx} : OpR X (binaryOp .Mult) (rRepT0 X.K) := by
  intro pins s σ H x y v u Q I rx ry h
  obtain ⟨l, k, xs, rfl, rfl, hT, hne, h1, h2, q⟩ := h
  cases rx
  obtain ⟨t, rfl⟩ := ry
  obtain ⟨its, r, ⟨⟨cls, dd, data, sl⟩, ho, hc, n, hd⟩, hs⟩ := I.tuple hT
  simp only at hc hd
  subst hc hd
  have hle : its.length = xs.length := r.length.symm
  have hi : its.toArray.isEmpty = false := by
    cases its with
    | nil => exact absurd (List.eq_nil_of_length_eq_zero hle.symm) hne
    | cons a b => rfl
  have c0 : (decide (k < -(2 ^ 63)) || decide (k ≥ 2 ^ 63)) = false := by
    rw [decide_eq_false (by omega), decide_eq_false (by omega)] <;> rfl
  have c1 : (its.toArray.isEmpty || k == 1) = false := by
    rw [hi, Bool.false_or]
    exact beq_eq_false_iff_ne.mpr (by omega)
  have c2 : (decide (k ≤ 0) || its.toArray.isEmpty) = true := by
    rw [decide_eq_true h2, Bool.true_or]
  refine wpAny_binaryOp_repeat_ref (T := "tuple") (U := "int") (by decide) ⟨_, ho, rfl⟩ (fun s' => typeIs_int s' k t) noFill_tuple_mul F.fills_int_mul F.slot_int_rmul repeat_tuple F.slot_int_index.lookup
    (call_meets F.slot_int_rmul (typeIs_int s k t) F.entry_int_rmul (F.args_int_rmul_2 _ _) (int_rmul_tuple k t l its.toArray n dd sl)
      ⟨ho, rfl, ⟨_, ho, rfl⟩, call_meets F.slot_tuple_mul ⟨_, ho, rfl⟩ F.entry_tuple_mul (F.args_tuple_mul_2 _ _) (tuple_mulW0 l its.toArray n dd sl k t c0 c1 c2) ⟨ho, ?_⟩⟩)
  refine ⟨.ref s.heap.objs.size, _, I.laid (t' := s.toks) (o := .tup []) (fun b ob q => Heap.get?_push_of_some _ q) (Nat.le_refl _) ?_, rfl, q _ (I.hok.fresh (Nat.le_refl _))⟩
  exact ⟨Nat.zero_le _, [], .nil, IsTup.new _ _⟩
def rMulV (K : PySem.W.Frag) : R2 := fun x y H Q => rMulU x y H Q ∨ (rRepT K x y H Q ∨ (rRepT1 K x y H Q ∨ rRepT0 K x y H Q))
theorem o_mulV {X : Cx} : OpR X (binaryOp .Mult) (rMulV X.K) := OpR.or o_mul (OpR.or op_repT (OpR.or op_repT1 op_repT0))
end U
end
section
set_option Elab.async false
set_option linter.all false
set_option maxRecDepth 100000
set_option maxHeartbeats 4000000
/-! str of a whole number below 10 ^ 4300. -/
namespace U
open PySem PySem.Spec PyProof.Rows L2 RZ
theorem ns_none {K : PySem.W.Frag} {h : Heap} {a : Addr} {m : Str → Option Value} {n : Str} (X : K.In h) (G : h.Ns a m) (e : PySem.W.nsIn K a n = some none) : m n = none := by
  obtain ⟨o, es, ep, ho, hd, _, hf⟩ := G
  unfold PySem.W.nsIn at e
  split at e
  · rename_i c d es' n' sl q
    have := X _ _ q
    rw [ho] at this
    cases this
    cases hd
    split at e
    · cases e
    · rename_i he
      rw [← hf]
      unfold nsFind findBy
      rw [← Array.find?_toList, he]
      rfl
  · cases e
/-- what the head says: no limit on digits but the usual one -/
def NoDig (K : PySem.W.Frag) : Prop := PySem.W.nsIn K cStatics "sys.int_max_str_digits" = some none
def rStrB : List V → Hp → VK → Prop := fun xs H Q => ∃ i, xs = [.int i] ∧ i.natAbs < 10 ^ 4300 ∧ Q (.str (toString i)) H
theorem cr_strB {X : Cx} (hd : NoDig X.K) (hc : X.calm = true) : CallR X (.type "str") rStrB := by
  intro pins s σ H xs us Q I r h
  obtain ⟨i, rfl, hz, q⟩ := h
  cases r with
  | cons a r =>
  cases r
  obtain ⟨t, rfl⟩ := a
  obtain ⟨mc, hns, _⟩ := I.nolimit
  refine str_of_int_or (I.ok.hd hc) ⟨mc, hns, ns_none I.kIn hns hd⟩ (fun _ => ⟨.str _, H, I.tok _, ⟨_, rfl⟩, q⟩) fun h2 => absurd hz (Nat.not_lt.mpr h2)
end U
end
section
set_option Elab.async false
set_option linter.all false
set_option maxRecDepth 100000
set_option maxHeartbeats 4000000
/-! def f(a, *v): called by places, or by its one name. -/
namespace U
open PySem PySem.Spec PyProof.Rows L2 RZ
def spSt (sp : Sp) : Sp := fun vs H Q E => ∃ ws rest, vs = ws ++ rest ∧ ws.length = 1 ∧ rest.length ≤ sizeLine ∧ ∀ p, H p = none → sp (ws ++ [.ref p]) (upd H p (.tup rest)) Q E
/-- by its name alone -/
def spSk (sp : Sp) : Sp := fun vs H Q E => vs.length = 1 ∧ ∀ p, H p = none → sp (vs ++ [.ref p]) (upd H p (.tup [])) Q E
def FnK (P : Program) (w : World) (K : PySem.W.Frag) (mg : Str → Option Value) (base : Heap) (k : Nat) (f : Addr) (y : Str) (sp : Sp) : Prop :=
  ∀ (A : Around) (outer : List Env) (s : Shared) (H : Hp) (u : Value) (v : V) (Q : VK) (E : XK), Room k A → Env0 P w K mg base A outer s H → RelV v u → sp [v] H Q E →
    codeAny (model P w) A (.call (.ref f) ⟨[], [(y, u)]⟩) (CR CX0 outer P w H s Q E) s
structure Vd (P : Program) (w : World) (K : PySem.W.Frag) (mg : Str → Option Value) (base : Heap) (x : Str) (k : Nat) (y : Str) (sp : Sp) : Prop where
  ex : ∃ f : Addr, FnR P w K mg base CX0 k f (spSt sp) ∧ FnK P w K mg base k f y (spSk sp) ∧ mg x = some (.ref f) ∧ PySem.W.keepIn K (.ref f) = true
  nd : (x == ("__debug__" : Str)) = false
def tCallV (sp : Sp) (t : TA) : TE := fun σ H Q => t σ H fun vs H1 => sp vs H1 Q E0
theorem vd_of {P : Program} {w : World} {K : PySem.W.Frag} {mg : Str → Option Value} {base : Heap} {x y pv : Str} {k : Nat} {sp : Sp} {st : Stmt} {f : Addr} {fd : FuncData} {N : List Str}
    (F : FunD K x x (defArgs st) (defBody st) (defScope st) [] [] f fd) (S : FnScope N ([y] ++ [pv]) (defScope st)) (g : mg x = some (.ref f))
    (h0 : ∀ (kV doc pm : Value) (an : Option Addr) (cdv ct a : Value), bindArgs (PySem.W.fnOf x x (defArgs st) (defBody st) (defScope st) .none kV doc pm an cdv ct) ⟨[a], []⟩ = (newTuple [] >>= fun t => pure [(y, a), (pv, t)]))
    (h1 : ∀ (kV doc pm : Value) (an : Option Addr) (cdv ct a r : Value) (rs : List Value), bindArgs (PySem.W.fnOf x x (defArgs st) (defBody st) (defScope st) .none kV doc pm an cdv ct) ⟨a :: r :: rs, []⟩ = (newTuple (r :: rs) >>= fun t => pure [(y, a), (pv, t)]))
    (hk : ∀ (kV doc pm : Value) (an : Option Addr) (cdv ct a : Value), bindArgs (PySem.W.fnOf x x (defArgs st) (defBody st) (defScope st) .none kV doc pm an cdv ct) ⟨[], [(y, a)]⟩ = (newTuple [] >>= fun t => pure [(y, a), (pv, t)]))
    (hbody : ∀ (cdv : Value) (A : Around) (outer : List Env) (s : Shared) (H : Hp) (vs : List V) (Q : VK) (E : XK), Room k (A.deeper (envOfC x (defScope st) s.heap.objs.size f cdv)) → sp vs H Q E →
      ∃ t, PSs (cxOf CX0 P w K mg base N x (defScope st) f cdv A outer s H E) (defBody st) t ∧ t { nx := fun _ H' => Q .non H', rt := Q } (start N vs) H) (nd : (x == ("__debug__" : Str)) = false := by decide) :
    Vd P w K mg base x (k + 1) y sp := by
  obtain ⟨oc, od, dV, kV, doc, pm, an, cdv, ct, osl, rfl, lk, hcd, hD, hK⟩ := F.ex
  rcases hD with ⟨_, rfl⟩ | ⟨e, _⟩
  · refine ⟨⟨f, ?_, ?_, g, F.kp⟩, nd⟩
    · exact StX.fn_star (ps := [y]) (pv := pv) lk hcd S StX.cxUp_none (StX.bind_star1 (B := fun us => bindArgs (PySem.W.fnOf x x (defArgs st) (defBody st) (defScope st) .none kV doc pm an cdv ct) ⟨us, []⟩) (fun a => h0 kV doc pm an cdv ct a) fun a r rs => h1 kV doc pm an cdv ct a r rs) fun A outer s H vs Q E hr hsp => hbody cdv A outer s H vs Q E hr hsp
    · intro A outer s H u v Q E hr e0 r hsp
      obtain ⟨_, hq⟩ := hsp
      have hn : H s.heap.objs.size = Option.none := e0.hok.fresh (Nat.le_refl _)
      refine StX.run_bnd lk hcd S hr e0 (G := fun xs H2 => ∃ p, H p = Option.none ∧ xs = [v] ++ [V.ref p] ∧ H2 = upd H p (.tup [])) (fun A' Ex Q' h => ?_) fun s2 H2 xs ⟨p, hp, ex, eH⟩ hr' => ?_
      · rw [hk kV doc pm an cdv ct u]
        refine wpAny_bind (wpAny_newTuple (wpAny_pure ?_) (Nat.zero_le _))
        have new : ObjOk P w (upd H s.heap.objs.size (.tup [])) (s.heap.push ({ cls := .type "tuple", data := .seq #[] } : Obj)) s.heap.objs.size (.tup []) := ⟨Nat.zero_le _, [], .nil, ⟨_, Heap.get?_push_size _ rfl, rfl, _, rfl⟩⟩
        have un := StX.un_laid (fs := frs outer) (s := s) (o := ({ cls := .type "tuple", data := .seq #[] } : Obj)) (u := .tup []) hn
        exact h _ _ ([v] ++ [V.ref s.heap.objs.size]) ([u] ++ [Value.ref s.heap.objs.size]) (StX.env0_laid e0 new) un rfl (fun e s' (z : False) => z.elim) (.cons r (.cons rfl .nil)) rfl ⟨_, hn, rfl, rfl⟩
      · subst ex eH
        exact hbody cdv A outer s2 _ _ Q E hr' (hq p hp)
  · exact absurd rfl e
section
variable {X : Cx} {k : Nat} {sp : Sp} {x y : Str} {e : Expr} {es : List Expr} {t : TA} {te : TE} {p pos : Pos}
theorem pe_vd (D : Vd X.prog X.w X.K X.mg X.base x k y sp) (hr : Room k X.A) (ha : PA X (e :: es) t) (hg : Gl X x := by rfl)
    (he : starEach (e :: es) X.env = (false, eval e X.env) :: starEach es X.env := by rfl) (hpl : (backTo pos (starEach es X.env)).any (·.1) = false := by rfl) :
    PE X (.Call (.Name x p) (e :: es) [] pos) (tCallV (spSt sp) t) := by
  obtain ⟨f, F, _, hm, hk⟩ := D.ex
  refine ⟨fun pins s σ H Q I h => ?_⟩
  refine wpAny_Call_Name_kw (ld_glob I hg hm ?_ D.nd)
  refine PySem.W.callWith_K (h₀ := X.base) (first := []) I.ok.mod.kin hk (thn (ha.run pos pins s σ H _ I h) fun us s1 ⟨vs, H1, I1, r, q⟩ => ⟨I1.kIn, ?_⟩) he hpl
  exact wpAny_call (run_fnR F hr pass0 I1 r q)
theorem pe_vdk_end {f : Addr} {pins : List (Addr × Obj)} {σ : L2.St} {H : Hp} {s : Shared} {Q : VK} {zs : List V} {ws : List Value} (F : FnK X.prog X.w X.K X.mg X.base k f y (spSk sp)) (hr : Room k X.A) (I : Inv X pins σ H s) (rz : Vals zs ws) (q : spSk sp zs H Q E0) :
    wpAny (model X.prog X.w) X.A (call (.ref f) ([] ++ []) ([y].zip ws)) (EP X pins σ Q) X.xe s := by
  have hl := q.1
  cases rz with
  | nil => simp at hl
  | cons r rz =>
    cases rz with
    | cons r2 rz => simp at hl
    | nil =>
      refine wpAny_call (codeAny_mono (F X.A X.stack s H _ _ Q E0 hr I.env0 r q) fun r s' hq => ?_)
      cases r with
      | error e => exact False.elim hq
      | ok fl =>
        cases fl with
        | ret u => exact I.after hq
        | next => exact False.elim hq
        | brk => exact False.elim hq
        | cont => exact False.elim hq
theorem pe_vdk {kw : Keyword} {tk : TA} (D : Vd X.prog X.w X.K X.mg X.base x k y sp) (hr : Room k X.A) (hkw : PK X [kw] tk) (hall : (backToKw pos (keywordEach [kw] X.env)).all (·.1.isSome) = true := by rfl) (hks : (backToKw pos (keywordEach [kw] X.env)).filterMap (·.1) = [y] := by rfl)
    (hg : Gl X x := by rfl) (hpl : ((backTo pos (starEach [] X.env)).any (·.1) || (backToKw pos (keywordEach [kw] X.env)).any (·.1.isNone)) = false := by rfl) :
    PE X (.Call (.Name x p) [] [kw] pos) (tCallV (spSk sp) tk) := by
  obtain ⟨f, _, F, hm, hk⟩ := D.ex
  refine ⟨fun pins s σ H Q I h => ?_⟩
  refine wpAny_Call_Name_kw (ld_glob I hg hm ?_ D.nd)
  refine PySem.W.callWith_KW0 (h₀ := X.base) (first := []) I.ok.mod.kin hk hall (thn (hkw.run pos pins s σ H _ I h) fun ws s2 ⟨zs, H2, I2, rz, q2⟩ => ⟨I2.kIn, ?_⟩) hpl
  rw [hks]
  exact pe_vdk_end F hr I2 rz q2
end
end U
end
section
set_option Elab.async false
set_option linter.all false
set_option maxRecDepth 100000
set_option maxHeartbeats 4000000
/-! len(o): o's own __len__. -/
namespace U
open PySem PySem.Spec PyProof.Rows L2 RZ
def rLenO (C : Addr) (sp : Sp) : List V → Hp → VK → Prop := fun xs H Q => ∃ a dx fs, xs = [.ref a] ∧ H a = some (.ins C dx fs) ∧ sp [.ref a] H (fun v H' => ∃ n : Int, v = .int n ∧ (0 ≤ n ∧ n < 2 ^ 63) ∧ Q (.int n) H') E0
theorem cr_lenO {X : Cx} {C : Addr} {k : Nat} {p : Str} {sp : Sp} (D : Md X.prog X.w X.K X.mg X.base C "__len__" k [p] sp) (hr : Room (k + 1) X.A) : CallR X (.builtin "len") (rLenO C sp) := by
  intro pins s σ H xs us Q I r h
  obtain ⟨a, dx, fs, rfl, ha, q⟩ := h
  obtain ⟨f, fd, F, _, M, B⟩ := D.ex
  cases r with
  | cons ra r =>
  cases r
  obtain rfl := (show _ = Value.ref a from ra)
  obtain ⟨mA, J, _⟩ := ins_get I.hok ha
  obtain ⟨od, J, _⟩ := J.look
  obtain ⟨m', hF⟩ := I.fr
  refine PySem.W.len_K hF I.ok.mod.kin J M.at_ M.fn ?_
  refine wpAny_call (codeAny_mono (F.run X.A.in1 X.stack s H ⟨[.ref a], []⟩ [.ref a] [.ref a] (fun v H' => ∃ n : Int, v = .int n ∧ (0 ≤ n ∧ n < 2 ^ 63) ∧ Q (.int n) H') E0 hr.in1 I.env0.in1 (B s [.ref a] I.kIn rfl) (.cons rfl .nil) q) fun r s' hq => ?_)
  cases r with
  | error e => exact False.elim hq
  | ok fl =>
    cases fl with
    | ret u =>
      obtain ⟨v, H', I', rv, n, rfl, hn, q'⟩ := I.after hq
      obtain ⟨t, rfl⟩ := (show ∃ t, u = Value.int n t from rv)
      exact ⟨hn, .int n, H', I'.tok _, ⟨_, rfl⟩, q'⟩
    | next => exact False.elim hq
    | brk => exact False.elim hq
    | cont => exact False.elim hq
end U
end
section
set_option Elab.async false
set_option linter.all false
set_option maxRecDepth 100000
set_option maxHeartbeats 4000000
/-! try with any clauses, some of them with a name. -/
namespace TY
open PySem PySem.Spec PyProof.Rows L2 RZ U
/-- a clause: its class; the slot of its name, if it has one; what its suite does -/
structure Hd where
  c : Value
  nm : Option Nat
  ts : Addr → Value → Option Addr → TS
/-- behind a suite its name is gone -/
def unD (i : Nat) (D : Ends) : Ends where
  nx σ H := D.nx (σ.set i none) H
  rt := D.rt
  bk σ H := D.bk (σ.set i none) H
  ct σ H := D.ct (σ.set i none) H
def onHd (D : Ends) (nm : Option Nat) (t : TS) (a : Addr) (σ : L2.St) (H : Hp) : Prop := match nm with
  | none => t D σ H
  | some i => t (unD i D) (σ.set i (some (.ref a))) H
/-- what the clauses ask of an exception, from the first on -/
def wHs (K : PySem.W.Frag) (Wout : WX) (D : Ends) : List Hd → WX
  | [] => Wout
  | h :: r => fun cls d σ H => ∃ b, PySem.W.exmOne K cls h.c = some b ∧ (b = true → ∀ a, H a = none → onHd D h.nm (h.ts a cls d) a σ H) ∧ (b = false → wHs K Wout D r cls d σ H)
/-- a clause's suite keeps to its reading -/
def Suite (X : Cx) (body : List Stmt) (ts : Addr → Value → Option Addr → TS) : Prop := ∀ (a : Addr) (oe : Obj) (cls : Value) (d : Option Addr) (pn : List (Addr × Obj)), L2N.Zn cls d oe → (∃ vs, oe.data = .fields vs) → PSs (X.suite a ((a, oe) :: pn)) body (ts a cls d)
inductive Hds (X : Cx) : List ExceptHandler → List Hd → Prop
  | nil : Hds X [] []
  | bare {x : Str} {c : Value} {ts : Addr → Value → Option Addr → TS} {b : Stmt} {bs : List Stmt} {p q : Pos} {hs : List ExceptHandler} {l : List Hd} (hc : Names X x c) (su : Suite X (b :: bs) ts) (r : Hds X hs l) :
      Hds X (.ExceptHandler (some (.Name x p)) none (b :: bs) q :: hs) (⟨c, none, ts⟩ :: l)
  | named {x n : Str} {i : Nat} {c : Value} {ts : Addr → Value → Option Addr → TS} {b : Stmt} {bs : List Stmt} {p q : Pos} {hs : List ExceptHandler} {l : List Hd} (hc : Names X x c) (hi : X.N[i]? = some n) (hl : X.env.kindOf n = some .local) (su : Suite X (b :: bs) ts) (r : Hds X hs l) :
      Hds X (.ExceptHandler (some (.Name x p)) (some n) (b :: bs) q :: hs) (⟨c, some i, ts⟩ :: l)
section
variable {X : Cx} {pins : List (Addr × Obj)} {body : List Stmt} {h₀ : ExceptHandler} {hds : List ExceptHandler} {l : List Hd} {pos : Pos} {tb : WX → TS} {Wout : WX} {D : Ends}
/-- a class's name is read within a suite -/
theorem name_in {a : Addr} {o : Obj} {x : Str} {c : Value} {p : Pos} {σ : L2.St} {H : Hp} {s : Shared} {Q E : Value → Shared → Prop} (hc : Names X x c) (S : Inv (X.suite a ((a, o) :: (X.pn ++ pins))) [] σ H s) (q : Q c s) : wpAny (model X.prog X.w) (X.A.mark (some (.ref a))) (eval (.Name x p) X.env) Q E s := by
  obtain ⟨hg, hd, hm | ⟨hm, hv, hn⟩⟩ := hc
  · exact ld_glob (X := X.suite a ((a, o) :: (X.pn ++ pins))) S hg hm q hd
  · exact ld_blt (X := X.suite a ((a, o) :: (X.pn ++ pins))) S hg hm hv q hn hd
/-- an exception that landed at a -/
structure Land (X : Cx) (pins : List (Addr × Obj)) (B : Heap) (a : Addr) (cls : Value) (d : Option Addr) (σ : L2.St) (H : Hp) (h0 : Heap) (s : Shared) : Prop where
  fl : HandSPX.FlyingZ B (X.env :: X.outer) a (L2N.Zn cls d) s.heap
  inv : Inv X pins σ H s
  na : H a = none
  nl : a ≠ X.env.locals
  nf : a ∉ X.fs
theorem hds_run (hs : X.stack = X.env :: X.outer) (hf : X.env.frame = some X.env.locals) (hN : X.N.Nodup) (ok : X.Ok) {B h0 : Heap} {a : Addr} {cls : Value} {d : Option Addr} {σ : L2.St} {H : Hp} {s : Shared} (L : Land X pins B a cls d σ H h0 s)
    (again : ∀ h4, HandSPX.FlyingZ B (X.env :: X.outer) a (L2N.Zn cls d) h4 → s.heap.UpToSlots h4 → Inv X pins σ H { s with heap := h4 })
    (out : Wout cls d σ H → wpAny (model X.prog X.w) X.A (handleBy (.ref a) X.env []) (SP X pins D) X.xe s) {hds : List ExceptHandler} {l : List Hd} (hk : Hds X hds l) : wHs X.K Wout D l cls d σ H → wpAny (model X.prog X.w) X.A (handleBy (.ref a) X.env hds) (SP X pins D) X.xe s := by
  obtain ⟨oe, vs, he, hz, hd⟩ := L.fl.there
  have S := L.inv.suite he hd L.na L.nl L.nf
  have LT : PySem.W.Looks (model X.prog X.w) s.heap (typeOf (.ref a)) cls := fun A Q E s k q => wpAny_typeOf_ref (k _ _ he) (by rw [hz.1]; exact q)
  induction hk with
  | nil => exact out
  | bare hc su r ih =>
    rintro ⟨b, hb, hy, hn⟩
    refine wpAny_handleBy_cons (codeAny_handlers_test (name_in hc S ((PySem.W.exm_one (M := model X.prog X.w) L.inv.kIn LT hb).here ?_))) (by intro q; cases q)
    cases b with
    | false => exact ih (hn rfl)
    | true =>
      refine codeAny_handlers_suite (HandSPX.lands_againZ L.fl fun h4 fl4 up4 => ?_)
      obtain ⟨o4, v4, e4, z4, d4⟩ := fl4.there
      have J := again h4 fl4 up4
      refine wpAny_mono ((su a o4 cls d (X.pn ++ pins) z4 ⟨_, d4⟩).run [] _ _ H _ (J.suite e4 d4 L.na L.nl L.nf) (hy rfl a L.na)) (fun f s6 q => ?_) fun _ _ z => z.elim
      cases f with
      | ret u =>
        obtain ⟨v, σ6, H6, S6, r6, q6⟩ := q
        exact ⟨_, _, _, S6.unsuite ok, r6, q6⟩
      | _ =>
        obtain ⟨σ6, H6, S6, q6⟩ := q
        exact ⟨_, _, S6.unsuite ok, q6⟩
  | named hc hi hl su r ih =>
    rintro ⟨b, hb, hy, hn⟩
    refine wpAny_handleBy_cons (codeAny_handlers_test (name_in hc S ((PySem.W.exm_one (M := model X.prog X.w) L.inv.kIn LT hb).here ?_))) (by intro q; cases q)
    cases b with
    | false => exact ih (hn rfl)
    | true =>
      refine codeAny_handlers_suite_as (HandSPX.lands_againZ L.fl fun h4 fl4 up4 => ?_)
      obtain ⟨o4, v4, e4, z4, d4⟩ := fl4.there
      have J := again h4 fl4 up4
      refine store_ok (X := X.suite a ((a, o4) :: (X.pn ++ pins))) (v := .ref a) (J.suite e4 d4 L.na L.nl L.nf) hN hi (.inl hl) rfl (fun s5 S5 => ?_) (.inr hl)
      refine wpAny_mono ((su a o4 cls d (X.pn ++ pins) z4 ⟨_, d4⟩).run [] s5 _ H _ S5 (hy rfl a L.na)) (fun f s6 q => ?_) fun _ _ z => z.elim
      cases f with
      | ret u =>
        obtain ⟨v, σ6, H6, S6, r6, q6⟩ := q
        exact gone_ok (S6.unsuite ok) hN hi hl fun s7 J7 => ⟨_, _, _, J7, r6, q6⟩
      | _ =>
        obtain ⟨σ6, H6, S6, q6⟩ := q
        exact gone_ok (S6.unsuite ok) hN hi hl fun s7 J7 => ⟨_, _, J7, q6⟩
/-- try: any clauses -/
theorem ps_try (hs : X.stack = X.env :: X.outer) (hf : X.env.frame = some X.env.locals) (hN : X.N.Nodup) (tk : L2N.Takes X Wout)
    (hb : ∀ (W : WX) (pn : List (Addr × Obj)) (xe : Value → Shared → Prop), L2N.Takes (X.tr pn xe) W → PassesOwn (model X.prog X.w) X.A X.env xe → PSs (X.tr pn xe) body (tb W)) (hh : Hds X (h₀ :: hds) l) :
    PS X (.Try body (h₀ :: hds) [] [] pos) (fun D σ H => tb (wHs X.K Wout D l) D σ H) := by
  refine ⟨fun pins s σ H D I h => ?_⟩
  have ok := I.ok
  refine wpAny_Try_except (wpAny_mono ((hb (wHs X.K Wout D l) (X.pn ++ pins) _ (fun u s' xx => ?_) PassesOwn.looking).run [] s σ H D (I.toTry _) h) (fun f s1 q => ?_) fun e s1 he => he)
  · obtain ⟨a, B, sI, pins', σ', H', cls, d, rfl, J', nb, up, sky, na, os, ag, w⟩ := xx
    have J : Inv X pins σ' H' sI := J'.ofTry ok
    refine L2N.Sky.land L2N.Zn.steady (by rw [ok.frames, hs]) hf (by rw [← hs]; exact sky) fun h3 fl3 up3 => ?_
    obtain ⟨oe, vs, he, hz, hd⟩ := fl3.there
    have nfr : a ∉ frs (X.env :: X.outer) := fun hm => by
      obtain ⟨_, o', e', hnf⟩ := fl3.2.2.1.mem hm
      rw [he] at e'
      cases e'
      exact hnf _ hd
    refine hds_run hs hf hN ok (B := B) (h0 := sI.heap) (d := d) (cls := cls) ⟨fl3, (show Inv X pins σ' H' { s' with heap := h3 } from J.landed nb fl3.1 (up.trans up3) os ag), na, fun z => nfr (List.mem_filterMap.mpr ⟨X.env, List.mem_cons_self, by rw [hf, z]⟩), fun hm => ?_⟩ (fun h4 fl4 up4 => show Inv X pins σ' H' { s' with heap := h4 } from J.landed nb fl4.1 ((up.trans up3).trans (show h3.UpToSlots h4 from up4)) os ag) (fun w => ?_) hh w
    · obtain ⟨e, he, q⟩ := List.mem_filterMap.mp hm
      exact nfr (List.mem_filterMap.mpr ⟨e, List.mem_cons_of_mem _ he, q⟩)
    · refine wpAny_handleBy_nil ?_
      obtain ⟨k1, k2, k3, oe, vs, T, oT, ts', he, hz, hd, h1, hr⟩ := id fl3
      unfold PySem.passOn
      refine wpAny_bind (wpAny_field he hd h1 ?_)
      rw [if_neg (show ¬ ((Value.ref T == Value.none) = true) from by simp)]
      have fin : wpAny (model X.prog X.w) X.A (setFlight (.ref a) X.env.frame) (fun _ s4 => wpAny (model X.prog X.w) X.A (throw (.ref a) : Sem Flow) (SP X pins D) X.xe s4) X.xe { s' with heap := h3 } := by
        rw [hf]
        exact HandSPX.setFlight_upZ fl3 fun h4 hh4 up4 => wpAny_throw (tk _ _ ⟨a, B, sI, pins, σ', H', cls, d, rfl, J, nb, (up.trans up3).trans up4, .inr (.inr (by rw [hs]; exact hh4)), na, os, ag, w⟩)
      first
        | exact wpAny_bind (wpAny_pure (wpAny_bind fin))
        | exact wpAny_bind fin
  · cases f with
    | next =>
      obtain ⟨σ', H', J', q⟩ := q
      exact wpAny_execs_nil ⟨σ', H', J'.ofTry ok, q⟩
    | ret u =>
      obtain ⟨v, σ', H', J', r, q⟩ := q
      exact ⟨v, σ', H', J'.ofTry ok, r, q⟩
    | _ =>
      obtain ⟨σ', H', J', q⟩ := q
      exact ⟨σ', H', J'.ofTry ok, q⟩
end
end TY
end
section
set_option Elab.async false
set_option linter.all false
set_option maxRecDepth 100000
set_option maxHeartbeats 4000000
/-! Defs, methods and makers that raise; raising own errors; what an except suite calls and reads. -/
namespace TY
open PySem PySem.Spec PyProof.Rows L2 RZ U
/-! ### raising -/
section
variable {X : Cx} {x : Str} {C : Addr} {fl : List (Str × FK.Src)} {ps : List Str}
theorem mk_raiseN {pins : List (Addr × Obj)} {σ : L2.St} {H1 : Hp} {s1 : Shared} {h' : Heap} {tk : Nat} {e : Addr} {fs : List (Str × V)} {Q : XK} (T : FK.Flt X.prog X.K X.mg x C fl ps) (I1 : Inv X pins σ H1 s1) (M : FK.Made s1.heap h' e C fs) (q : ∀ d, H1 d = none → Q (.ref C) (some d) (upd H1 d (.xd fs))) :
    L2N.MkP X pins σ Q (.ref e) { s1 with heap := h', toks := tk } := by
  obtain ⟨hp, g, dr, t0, os⟩ := s1
  obtain ⟨t1, d, e1, d1, d2, mA, n1, rel⟩ := M.ex
  obtain ⟨G', g1, g2⟩ := restrict h' fun b => decide (b ≠ e)
  have gk : ∀ b, b ≠ e → G'.get? b = h'.get? b := fun b hb => g1 b (decide_eq_true hb)
  have ge : G'.get? e = none := g2 e (by simp)
  have old : ∀ b o, hp.get? b = some o → G'.get? b = some o := fun b o q => (gk b (Nat.ne_of_lt (Nat.lt_of_lt_of_le (Heap.lt_size q) M.new))).trans (M.keep b o q)
  have ob : ObjOk X.prog X.w (upd H1 d (.xd fs)) G' d (.xd fs) := ⟨_, n1.at (fun o q => (gk d d2).trans q), rel⟩
  have J : Inv X pins σ (upd H1 d (.xd fs)) ⟨G', g, dr, tk, os⟩ := I1.laid (t' := tk) old d1 ob
  refine ⟨e, _, _, ⟨G', g, dr, tk, os⟩, _, .ref C, some d, rfl, J, fun b o q => ?_, ge, e1, ⟨rfl, rfl, fun vs z => by cases z; rfl⟩, rfl, rfl, ?_, rfl, I1.bare, raises_own T.exC T.tyC, q d (I1.hok.fresh d1)⟩
  · by_cases hb : b = e
    · have q' : G'.get? b = some o := q
      rw [hb, ge] at q'
      cases q'
    · exact (gk b hb).symm.trans q
  · rw [upd_ne (Ne.symm d2)]
    exact I1.hok.fresh M.new
theorem ps_raiseN {e : Expr} {es : List Expr} {ta : TA} {W : WX} {p pos pos2 : Pos} {k : Nat} (hc : X.calm = true) (T : FK.Flt X.prog X.K X.mg x C fl ps) (hr : Room (k + 1) X.A) (tk : L2N.Takes X W) (ha : PA X (e :: es) ta) (hps : ps.length ≤ 1000 := by decide) (hg : Gl X x := by rfl)
    (he : starEach (e :: es) X.env = (false, eval e X.env) :: starEach es X.env := by rfl) (hpl : (backTo pos (starEach es X.env)).any (·.1) = false := by rfl) :
    PS X (.Raise (some (.Call (.Name x p) (e :: es) [] pos)) none pos2) (tRaiseF C ps fl W ta) := L2N.ps_raise hc tk (by
  intro pins s σ H Q I h
  refine wpAny_Call_Name_kw (ld_glob I hg T.gC ?_ T.db)
  refine PySem.W.callWith_K (h₀ := X.base) I.ok.mod.kin T.kC (thn (ha.run pos pins s σ H _ I h) fun us s1 ⟨vs, H1, I1, r1, hl, q1⟩ => ⟨I1.kIn, ?_⟩) he hpl
  exact mk_core T hr I1 r1 hl hps fun h' tk e M => mk_raiseN T I1 M q1)
end
/-! ### a promise that may raise, kept where nothing is raised -/
section
variable {P : Program} {w : World} {K : PySem.W.Frag} {mg : Str → Option Value} {base : Heap} {k : Nat} {f C : Addr} {fd : FuncData} {ps : List Str} {sp : Sp} {x m : Str}
theorem fn_calm (F : FnOk P w K mg base (L2N.CX P w) k f fd ps sp) : FnOk P w K mg base CX0 k f fd ps (fun vs H Q _ => sp vs H Q E0) := ⟨fun vs H Q E h => F.len vs H Q E0 h, fun A outer s H args us vs Q E hr e0 hb hv hs => codeAny_mono (F.run A outer s H args us vs Q E0 hr e0 hb hv hs) fun r s' hq => by
  cases r with
  | ok fl => cases fl <;> exact hq
  | error e =>
    obtain ⟨_, _, _, _, _, _, _, _, _, _, _, _, z⟩ := hq
    exact z.elim⟩
/-- a maker that may raise -/
structure Ndx (P : Program) (w : World) (K : PySem.W.Frag) (mg : Str → Option Value) (base : Heap) (x : Str) (C : Addr) (k : Nat) (ps : List Str) (ds : List V) (sp : Sp) : Prop where
  ex : ∃ (f : Addr) (fd : FuncData) (dvs : List Value), FnOk P w K mg base (L2N.CX P w) k f fd ps sp ∧ mg x = some (.ref C) ∧ Mk K C f ∧ Binds K fd ps dvs ∧ Vals ds dvs
  nd : (x == ("__debug__" : Str)) = false
/-- a static method that may raise -/
structure Sdx (P : Program) (w : World) (K : PySem.W.Frag) (mg : Str → Option Value) (base : Heap) (C : Addr) (m : Str) (k : Nat) (ps : List Str) (sp : Sp) : Prop where
  ex : ∃ (f : Addr) (fd : FuncData), FnOk P w K mg base (L2N.CX P w) k f fd ps sp ∧ SMet K C m f ∧ PySem.W.keepIn K (.ref f) = true ∧ Binds K fd ps []
theorem Sdx.calm (D : Sdx P w K mg base C m k ps sp) : Sd P w K mg base C m k ps (fun vs H Q _ => sp vs H Q E0) := by
  obtain ⟨f, fd, F, r⟩ := D.ex
  exact ⟨f, fd, fn_calm F, r⟩
end
section
variable {X : Cx} {x m : Str} {p pos apos : Pos} {e o : Expr} {es : List Expr} {t : TA} {ta : TE} {k : Nat} {ps : List Str} {sp : Sp} {C : Addr} {W : WX} {ds : List V}
/-- f(e, ..), the def may raise -/
theorem pe_fdx (D : Fd X.prog X.w X.K X.mg X.base (L2N.CX X.prog X.w) x k ps sp) (hr : Room k X.A) (tk : L2N.Takes X W) (ha : PA X (e :: es) t) (hg : Gl X x := by rfl)
    (he : starEach (e :: es) X.env = (false, eval e X.env) :: starEach es X.env := by rfl) (hpl : (backTo pos (starEach es X.env)).any (·.1) = false := by rfl) :
    PE X (.Call (.Name x p) (e :: es) [] pos) (tCallS sp (WE W) t) := by
  obtain ⟨f, fd, F, m, kp, b⟩ := D.ex
  exact pe_callS F hr hg m kp b (fun σ => L2N.passAt tk σ) ha D.nd he hpl
/-- C(e, ..), the making may raise -/
def tNdx (C : Addr) (sp : Sp) (ds : List V) (W : WX) (t : TA) : TE := fun σ H Q => t σ H fun vs H1 => ∀ x dx, H1 x = none → H1 dx = none → dx ≠ x → sp (.ref x :: (vs ++ ds)) (upd (upd H1 dx (.own x)) x (.ins C dx [])) (fun v H2 => v = .non ∧ Q (.ref x) H2) (WE W σ)
theorem pe_ndx (D : Ndx X.prog X.w X.K X.mg X.base x C k ps ds sp) (hr : Room (k + 1) X.A) (tk : L2N.Takes X W) (ha : PA X (e :: es) t) (hg : Gl X x := by rfl)
    (he : starEach (e :: es) X.env = (false, eval e X.env) :: starEach es X.env := by rfl) (hpl : (backTo pos (starEach es X.env)).any (·.1) = false := by rfl) :
    PE X (.Call (.Name x p) (e :: es) [] pos) (tNdx C sp ds W t) := by
  obtain ⟨f, fd, dvs, F, hm, M, hb, hd⟩ := D.ex
  refine ⟨fun pins s σ H Q I h => ?_⟩
  refine wpAny_Call_Name_kw (ld_glob I hg hm ?_ D.nd)
  refine PySem.W.callWith_K (h₀ := X.base) I.ok.mod.kin M.kp (thn (ha.run pos pins s σ H _ I h) fun us s1 ⟨vs, H1, I1, r, q⟩ => ⟨I1.kIn, ?_⟩) he hpl
  have n0 := I1.hok.fresh (Nat.le_refl s1.heap.objs.size)
  have hq := q (s1.heap.objs.size + 1) s1.heap.objs.size (I1.hok.fresh (Nat.le_succ _)) n0 (Nat.ne_of_lt (Nat.lt_succ_self _))
  have I2 := Inv.made (C := C) I1
  have r2 : Vals (V.ref (s1.heap.objs.size + 1) :: (vs ++ ds)) (Value.ref (s1.heap.objs.size + 1) :: (us ++ dvs)) := .cons rfl (r.append hd)
  have hl := r2.length
  rw [F.len _ _ _ _ hq] at hl
  have run := F.run _ X.stack _ _ ⟨Value.ref (s1.heap.objs.size + 1) :: us, []⟩ (Value.ref (s1.heap.objs.size + 1) :: (us ++ dvs)) _ _ (WE W σ) (hr.make C us []) (I2.env0.make C us []) (hb _ (Value.ref (s1.heap.objs.size + 1) :: us) I2.kIn hl.symm) r2 hq
  refine wpAny_call (make_map (f := f) I1.kIn M.makes M.init (beq_iff_eq.mp M.fn) (codeAny_mono run fun r s' hq' => ?_))
  cases r with
  | error e => exact L2N.passAt tk σ pins _ _ e s' I2 hq'
  | ok fl =>
    cases fl with
    | ret u =>
      obtain ⟨v, H', I3, rv, ev, q3⟩ := I2.after hq'
      subst ev
      exact ⟨rv, ⟨V.ref (s1.heap.objs.size + 1), H', I3, rfl, q3⟩⟩
    | next => exact False.elim hq'
    | brk => exact False.elim hq'
    | cont => exact False.elim hq'
/-- C.m(e, ..), a static method that may raise -/
def tSdx (C : Addr) (sp : Sp) (W : WX) (ta : TE) (t : TA) : TE := fun σ H Q => ta σ H fun x H1 => x = .ref C ∧ t σ H1 fun vs H2 => sp vs H2 Q (WE W σ)
theorem pe_sdx {pl : Sem Bool} (D : Sdx X.prog X.w X.K X.mg X.base C m k ps sp) (hr : Room k X.A) (tk : L2N.Takes X W) (he : PE X o ta) (ha : PA X (e :: es) t)
    (hst : starEach (e :: es) X.env = (false, eval e X.env) :: starEach es X.env := by rfl) (hpl : (backTo pos (starEach es X.env)).any (·.1) = false := by rfl)
    (ht : eval (.Call (.Attribute o m apos) (e :: es) [] pos) X.env = (do
      let ov ← eval o X.env
      standAt apos.atName
      let (f, first) ← holding [ov] (getMethod ov m pl)
      callWith pos f first (backTo pos (starEach (e :: es) X.env)) (backToKw pos (keywordEach [] X.env))) := by rfl) :
    PE X (.Call (.Attribute o m apos) (e :: es) [] pos) (tSdx C sp W ta t) := by
  obtain ⟨f, fd, F, sm, kp, b⟩ := D.ex
  refine ⟨fun pins s σ H Q I h => ?_⟩
  refine PySem.W.methodCall_KW (pl := pl) (thn (he.run pins s σ H _ I h) fun u s1 ⟨x, H1, I1, rx, ex, q⟩ => ?_) ht
  subst ex
  obtain rfl : u = Value.ref C := rx
  refine getmethsm_ok I1 sm fun s2 I2 => ?_
  refine PySem.W.callWith_K (h₀ := X.base) (first := []) I2.ok.mod.kin kp (thn (ha.run pos pins s2 σ H1 _ I2 q) fun us s3 ⟨vs, H2, I3, rv, q2⟩ => ⟨I3.kIn, ?_⟩) hst hpl
  exact run_fnS F hr b (L2N.passAt tk σ) I3 rv q2
end
/-! ### within an except suite -/
section
variable {X : Cx} {a : Addr} {oe : Obj} {cls : Value} {d : Option Addr} {pn : List (Addr × Obj)}
theorem hot_suite (hz : L2N.Zn cls d oe) (hf : ∃ vs, oe.data = .fields vs) : L2H.HotC (X.suite a ((a, oe) :: pn)) := by
  obtain ⟨vs, e⟩ := hf
  exact ⟨(a, oe), ⟨rfl, vs, e, hz.2.2 vs e⟩, List.mem_cons_self⟩
theorem room_suite {k : Nat} (hr : Room k X.A) : L2H.RoomH k (X.suite a pn).A := ⟨hr.dp, hr.un⟩
end
/-- a def that is called where an exception is handled -/
structure Hfd (P : Program) (w : World) (K : PySem.W.Frag) (mg : Str → Option Value) (base : Heap) (x : Str) (k : Nat) (ps : List Str) (sp : Sp) : Prop where
  ex : ∃ (f : Addr) (fd : FuncData), L2H.FnH P w K mg base CX0 k f fd ps sp ∧ mg x = some (.ref f) ∧ PySem.W.keepIn K (.ref f) = true ∧ Binds K fd ps []
  nd : (x == ("__debug__" : Str)) = false
theorem pe_hfd {X : Cx} {x : Str} {p pos : Pos} {e : Expr} {es : List Expr} {t : TA} {k : Nat} {ps : List Str} {sp : Sp} (D : Hfd X.prog X.w X.K X.mg X.base x k ps sp) (hr : L2H.RoomH k X.A) (hc : L2H.HotC X) (ha : PA X (e :: es) t) (hg : Gl X x := by rfl)
    (he : starEach (e :: es) X.env = (false, eval e X.env) :: starEach es X.env := by rfl) (hpl : (backTo pos (starEach es X.env)).any (·.1) = false := by rfl) :
    PE X (.Call (.Name x p) (e :: es) [] pos) (tCallS sp (fun _ => E0) t) := by
  obtain ⟨f, fd, F, m, kp, b⟩ := D.ex
  exact L2H.pe_callH F hr hc hg m kp b (fun σ pins H s e s' I h => h.elim) ha D.nd he hpl
section
variable {P : Program} {w : World} {K : PySem.W.Frag} {mg : Str → Option Value} {base : Heap} {x qual : Str} {params : Arguments} {body : List Stmt} {scope : Scope} {dvs : List V} {kws : List (Str × V)} {f : Addr} {fd : FuncData}
theorem fnh_of {N ps : List Str} {k : Nat} {sp : Sp} (F : FunD K x qual params body scope dvs kws f fd) (S : FnScope N ps scope) (len : ∀ vs H Q E, sp vs H Q E → vs.length = ps.length)
    (hbody : ∀ (cdv : Value) (A : Around) (outer : List Env) (s : Shared) (H : Hp) (vs : List V) (Q : VK) (E : XK) (p : Addr × Obj), L2H.Hot1 A p → L2H.RoomH k (A.deeper (envOfC qual scope s.heap.objs.size f cdv)) → sp vs H Q E →
      ∃ t, PSs (L2H.cxH CX0 P w K mg base N qual scope f cdv A outer s H E p) body t ∧ t { nx := fun _ H' => Q .non H', rt := Q } (start N vs) H) : L2H.FnH P w K mg base CX0 (k + 1) f fd ps sp := by
  obtain ⟨oc, od, dV, kV, doc, pm, an, cdv, ct, osl, rfl, lk, hcd, _, _⟩ := F.ex
  exact L2H.fn_ofH lk hcd S len fun A outer s H vs Q E p hot hr hsp => hbody cdv A outer s H vs Q E p hot hr hsp
end
/-- the promise where nothing is raised -/
abbrev spC (sp : Sp) : Sp := fun vs H Q _ => sp vs H Q E0
def J0 : WX := fun _ _ _ _ => False
/-- nothing is let out -/
theorem takes0 {X : Cx} : L2N.Takes X J0 := fun _ _ ⟨_, _, _, _, _, _, _, _, _, _, _, _, _, _, _, _, z⟩ => z.elim
def tTry (K : PySem.W.Frag) (Wout : WX) (tb : WX → TS) (l : List Hd) : TS := fun D σ H => tb (wHs K Wout D l) D σ H
theorem flt_no {P : Program} {K : PySem.W.Frag} {mg : Str → Option Value} {x : Str} {C : Addr} {fl : List (Str × FK.Src)} {ps : List Str} (T : FK.Flt P K mg x C fl ps) {f : Str} (h : f ∈ fl.map (·.1)) : PySem.W.findIn K (.ref C) f = some none := by
  obtain ⟨p, hp, rfl⟩ := List.mem_map.mp h
  exact T.no p hp
theorem flt_xf {P : Program} {K : PySem.W.Frag} {mg : Str → Option Value} {x : Str} {C : Addr} {fl : List (Str × FK.Src)} {ps : List Str} (T : FK.Flt P K mg x C fl ps) : XfC K C := ⟨T.ga, T.gg, T.exC, T.dict⟩
/-- a maker whose last parameters have defaults ds -/
structure Ndd (P : Program) (w : World) (K : PySem.W.Frag) (mg : Str → Option Value) (base : Heap) (x : Str) (C : Addr) (k : Nat) (ps : List Str) (ds : List V) (sp : Sp) : Prop where
  ex : ∃ (f : Addr) (fd : FuncData) (dvs : List Value), FnOk P w K mg base CX0 k f fd ps sp ∧ mg x = some (.ref C) ∧ Mk K C f ∧ Binds K fd ps dvs ∧ Vals ds dvs
  nd : (x == ("__debug__" : Str)) = false
theorem Ndx.calm {P : Program} {w : World} {K : PySem.W.Frag} {mg : Str → Option Value} {base : Heap} {x : Str} {C : Addr} {k : Nat} {ps : List Str} {ds : List V} {sp : Sp} (D : Ndx P w K mg base x C k ps ds sp) : Ndd P w K mg base x C k ps ds (spC sp) := by
  obtain ⟨f, fd, dvs, F, r⟩ := D.ex
  exact ⟨⟨f, fd, dvs, fn_calm F, r⟩, D.nd⟩
theorem pe_ndd {X : Cx} {x : Str} {p pos : Pos} {e : Expr} {es : List Expr} {t : TA} {k : Nat} {ps : List Str} {ds : List V} {sp : Sp} {C : Addr} (D : Ndd X.prog X.w X.K X.mg X.base x C k ps ds sp) (hr : Room (k + 1) X.A) (ha : PA X (e :: es) t) (hg : Gl X x := by rfl)
    (he : starEach (e :: es) X.env = (false, eval e X.env) :: starEach es X.env := by rfl) (hpl : (backTo pos (starEach es X.env)).any (·.1) = false := by rfl) :
    PE X (.Call (.Name x p) (e :: es) [] pos) (tMake C sp ds E0 t) := by
  obtain ⟨f, fd, dvs, F, hm, M, b, hd⟩ := D.ex
  exact pe_make M F hr hg hm b hd pass0 ha D.nd he hpl
end TY
end
section
set_option Elab.async false
set_option linter.all false
set_option maxRecDepth 100000
set_option maxHeartbeats 4000000
/-! Texts: their methods, numbers of them, f-strings. -/
namespace ZM
open PySem PySem.Spec PyProof.Rows L2 RZ U
abbrev rStarts : V → List V → Hp → VK → Prop := fun x xs H Q => ∃ a b, x = .str a ∧ xs = [.str b] ∧ Q (.bl (Txt.startswith a b)) H
abbrev rParti : V → List V → Hp → VK → Prop := fun x xs H Q => ∃ a b, x = .str a ∧ xs = [.str b] ∧ (b.length == 0) = false ∧ a.length ≤ sizeLine ∧ ∀ p, H p = none → Q (.ref p) (upd H p (.tup [.str (Txt.partition a b).1, .str (Txt.partition a b).2.1, .str (Txt.partition a b).2.2]))
abbrev rSplitT : V → List V → Hp → VK → Prop := fun x xs H Q => ∃ a b, x = .str a ∧ xs = [.str b] ∧ (b.length == 0) = false ∧ a.length + 2 ≤ sizeLine ∧ rNewStrs (Txt.split a b) H Q
abbrev rDigit : V → List V → Hp → VK → Prop := fun x xs H Q => ∃ a, x = .str a ∧ xs = [] ∧ True ∧ Q (.bl (Txt.isdigit a)) H
abbrev rAscii : V → List V → Hp → VK → Prop := fun x xs H Q => ∃ a, x = .str a ∧ xs = [] ∧ True ∧ Q (.bl (Txt.isascii a)) H
/-- int(x): of an int, a truth, a text of digits -/
def rIntT : List V → Hp → VK → Prop := fun xs H Q => ((∃ i, xs = [.int i] ∧ Q (.int i) H) ∨ ∃ k, xs = [.bl k] ∧ Q (.int (if k then 1 else 0)) H) ∨ ∃ a n, xs = [.str a] ∧ PySem.intText? a = some n ∧ a.length ≤ 640 ∧ Q (.int n) H
theorem c_intT {X : Cx} : CallR X (.type "int") rIntT := CallR.or call_int1 call_int_str
/-- f'..' of two parts or more -/
def tJoined (ts : List TE) : TE := fun σ H Q => tJs ts Str.empty σ H fun out H1 => Q (.str out) H1
theorem pe_joinedU {X : Cx} {v1 v2 : Expr} {rest : List Expr} {ts : List TE} {pos : Pos} (h : PJ X (v1 :: v2 :: rest) ts) : PE X (.JoinedStr (v1 :: v2 :: rest) pos) (tJoined ts) := pe_joined h
end ZM
end
section
set_option Elab.async false
set_option linter.all false
set_option maxRecDepth 100000
set_option maxHeartbeats 4000000
/-! repr(o): o's own __repr__. -/
namespace U
open PySem PySem.Spec PyProof.Rows L2 RZ
def rReprO (C : Addr) (sp : Sp) : List V → Hp → VK → Prop := fun xs H Q => ∃ a dx fs, xs = [.ref a] ∧ H a = some (.ins C dx fs) ∧ sp [.ref a] H (fun v H' => ∃ y : Str, v = .str y ∧ Q (.str y) H') E0
theorem repr_K {prog : Program} {w : World} {A : Around} {E : Value → Shared → Prop} {s : Shared} {K : PySem.W.Frag} {x C f : Addr} {ox : Obj} {od : Option Obj} {Q : Value → Shared → Prop} (hu : A.in1.units < cLine) (X : K.In s.heap) (I : PySem.W.InstAt s.heap x ox C od) (hs : PySem.W.findIn K (.ref C) "__repr__" = some (some (.ref f))) (hf : PySem.W.isFn K (.ref f) = true)
    (h : wpAny (model prog w) A.in1 (call (.ref f) [.ref x]) (fun v s' => ∃ y t, v = .str y t ∧ Q v s') E s) : wpAny (model prog w) A (call (.builtin "repr") [.ref x]) Q E s := by
  refine Calls.call_function_entry PySem.F.kind_repr PySem.F.plain_repr PySem.F.entry_repr (PySem.F.args_repr1 _) ?_
  unfold Builtin.«repr»
  refine wpAny_bind (m := oneArg "repr" _) (wpAny_pure ?_)
  refine wpAny_bind (m := cRoomFor _ _) (wpAny_cRoomFor hu ?_)
  refine wpAny_bind (m := specialOf _ _) ?_
  simp only [specialOf]
  refine wpAny_bind (I.type.here ((PySem.W.looks_findIn X hs).here ?_))
  simp only [Option.isNone_some, Bool.false_eq_true, if_false]
  refine wpAny_bind (m := callSpecialIfBound? (.ref x) (Str.ofString "__repr__") _) (PySem.W.ifBound_K X I hs hf (wpAny_mono h (fun r s' hq => ?_) fun _ _ y => y))
  obtain ⟨y, t, rfl, q⟩ := hq
  refine wpAny_bind (wpAny_isInstance (T := "str") (b := true) (typeIs_str _ _ _) isSubtype_str_str ?_)
  exact wpAny_pure ⟨_, rfl, q⟩
theorem cr_reprO {X : Cx} {C : Addr} {k : Nat} {p : Str} {sp : Sp} (D : Md X.prog X.w X.K X.mg X.base C "__repr__" k [p] sp) (hr : Room (k + 1) X.A) : CallR X (.builtin "repr") (rReprO C sp) := by
  intro pins s σ H xs us Q I r h
  obtain ⟨a, dx, fs, rfl, ha, q⟩ := h
  obtain ⟨f, fd, F, _, M, B⟩ := D.ex
  cases r with
  | cons ra r =>
  cases r
  obtain rfl := (show _ = Value.ref a from ra)
  obtain ⟨mA, J, _⟩ := ins_get I.hok ha
  obtain ⟨od, J, _⟩ := J.look
  have hu : X.A.in1.units < cLine := by
    have := hr.in1.un
    omega
  refine repr_K hu I.kIn J M.at_ M.fn ?_
  refine wpAny_call (codeAny_mono (F.run X.A.in1 X.stack s H ⟨[.ref a], []⟩ [.ref a] [.ref a] (fun v H' => ∃ y : Str, v = .str y ∧ Q (.str y) H') E0 hr.in1 I.env0.in1 (B s [.ref a] I.kIn rfl) (.cons rfl .nil) q) fun r s' hq => ?_)
  cases r with
  | error e => exact False.elim hq
  | ok fl =>
    cases fl with
    | ret u =>
      obtain ⟨v, H', I', rv, y, rfl, q'⟩ := I.after hq
      obtain ⟨t, rfl⟩ := (show ∃ t, u = Value.str y t from rv)
      exact ⟨y, t, rfl, .str y, H', I', ⟨t, rfl⟩, q'⟩
    | next => exact False.elim hq
    | brk => exact False.elim hq
    | cont => exact False.elim hq
end U
end
section
set_option Elab.async false
set_option linter.all false
set_option maxRecDepth 100000
set_option maxHeartbeats 4000000
/-! A token is out (replace of written texts); makers and static methods by keywords; own operators with a number on the right; own -x. -/
namespace RM
open PySem PySem.Spec PyProof.Rows L2 RZ U
/-! ### a token is out -/
section
variable {X : Cx} {e f : Expr} {es : List Expr} {te tf : TE} {ta : TA} {pos c : Pos} {j : Nat} {x : Str}
def PEG (X : Cx) (e : Expr) (t : TE) : Prop := ∀ (pins : List (Addr × Obj)) (s : Shared) (σ : L2.St) (H : Hp) (Q : VK), Inv X pins σ H s → t σ H Q → wpAny (model X.prog X.w) X.A (eval e X.env) (fun v s1 => 1 ≤ s1.toks ∧ EP X pins σ Q v s1) X.xe s
theorem peg_str : PEG X (.Constant (.str x) j c) (tC (.str x)) := fun pins s σ H Q I h => Calls.Constant_str ⟨by show 1 ≤ s.toks + 1; omega, .str x, H, I.tok _, ⟨_, rfl⟩, h⟩
theorem peg_op {op : Operator} {r : R2} (ho : OpR X (binaryOp op) r) (ha : PE X e te) (hb : PEG X f tf) : PEG X (.BinOp e op f pos) (tOp r te tf) := by
  intro pins s σ H Q I h
  refine wpAny_BinOp (thn (ha.run pins s σ H _ I h) fun v s1 ⟨x, H1, I1, r1, q1⟩ => ?_)
  refine thn (hb pins s1 σ H1 _ I1 q1) fun u s2 ⟨k, y, H2, I2, r2, q2⟩ => ?_
  exact wpAny_mono (PySem.wpAny_toks (ho pins s2 σ H2 x y v u Q I2 r1 r2 q2)) (fun _ _ z => ⟨Nat.le_trans k z.1, z.2⟩) fun _ _ z => z.2
def noStar : Expr → Bool
  | .Starred _ _ => false
  | _ => true
theorem star1 {e : Expr} {es : List Expr} {env : PySem.Env} (h : noStar e = true) : starEach (e :: es) env = (false, eval e env) :: starEach es env := by
  cases e <;> first | rfl | cases h
/-- a text is written among the items, behind it are those that want a token -/
theorem pa_tok (ha : PEG X e te) (hr : PAT X es ta) (hs : starEach (e :: es) X.env = (false, eval e X.env) :: starEach es X.env := by rfl) : PA X (e :: es) (tCons te ta) := by
  refine ⟨fun pos pins s σ H Q I h => ?_⟩
  rw [hs]
  show wpAny _ _ (spliced ((false, eval e X.env) :: backTo pos (starEach es X.env))) _ _ s
  refine Calls.spliced_cons (thn (ha pins s σ H _ I h) fun u s1 ⟨k, x, H1, I1, r1, q1⟩ => ?_)
  exact thn (hr pos pins s1 σ H1 _ k I1 q1) fun us s2 ⟨xs, H2, I2, r2, q2⟩ => ⟨x :: xs, H2, I2, .cons r1 r2, q2⟩
theorem pet_of (h : PE X e te) : PET X e te := fun pins s σ H Q _ I q => h.run pins s σ H Q I q
end
/-! ### a static method by keywords, that may raise -/
section
variable {P : Program} {w : World} {K : PySem.W.Frag} {mg : Str → Option Value} {base : Heap} {k : Nat} {f C : Addr} {fd : FuncData} {ps ks : List Str} {sp : Sp} {x m : Str}
structure Sdxk (P : Program) (w : World) (K : PySem.W.Frag) (mg : Str → Option Value) (base : Heap) (C : Addr) (m : Str) (k : Nat) (ps ks : List Str) (sp : Sp) : Prop where
  ex : ∃ (f : Addr) (fd : FuncData) (g : List Value → List Value → List Value) (gV : List V → List V → List V), FnOk P w K mg base (L2N.CX P w) k f fd ps sp ∧ SMet K C m f ∧ PySem.W.keepIn K (.ref f) = true ∧ KBinds K fd ps ks g gV ∧ ∀ zs, gV [] zs = zs
end
section
variable {X : Cx} {x m : Str} {p pos apos : Pos} {e o : Expr} {es : List Expr} {kws : List Keyword} {t tk : TA} {ta : TE} {k : Nat} {ps ks : List Str} {sp : Sp} {C f : Addr} {fd : FuncData} {W : WX} {g : List Value → List Value → List Value} {gV : List V → List V → List V}
theorem run_fnkS {E : L2.St → XK} {CX : CXT} {pins : List (Addr × Obj)} {σ : L2.St} {H : Hp} {s : Shared} {Q : VK} {us ws : List Value} {vs zs : List V} (F : FnOk X.prog X.w X.K X.mg X.base CX k f fd ps sp) (hr : Room k X.A) (hb : KBinds X.K fd ps ks g gV) (hx : PassesAt CX X σ (E σ))
    (I : Inv X pins σ H s) (r : Vals vs us) (rz : Vals zs ws) (h : sp (gV vs zs) H Q (E σ)) : wpAny (model X.prog X.w) X.A (call (.ref f) us (ks.zip ws)) (EP X pins σ Q) X.xe s := by
  have r2 := hb.rel r rz
  have hl : (g us ws).length = ps.length := by rw [← r2.length]; exact F.len _ _ _ _ h
  refine wpAny_call (codeAny_mono (F.run X.A X.stack s H ⟨us, ks.zip ws⟩ (g us ws) (gV vs zs) Q (E σ) hr I.env0 (hb.to s us ws I.kIn hl) r2 h) fun r s' hq => ?_)
  cases r with
  | error e => exact hx pins H s e s' I hq
  | ok fl =>
    cases fl with
    | ret u => exact I.after hq
    | next => exact False.elim hq
    | brk => exact False.elim hq
    | cont => exact False.elim hq
theorem pe_sdxk {pl : Sem Bool} (D : Sdxk X.prog X.w X.K X.mg X.base C m k ps ks sp) (hr : Room k X.A) (tt : L2N.Takes X W) (he : PE X o ta) (hkw : PK X kws tk)
    (hall : (backToKw pos (keywordEach kws X.env)).all (·.1.isSome) = true := by rfl) (hks : (backToKw pos (keywordEach kws X.env)).filterMap (·.1) = ks := by rfl)
    (hpl : ((backTo pos (starEach [] X.env)).any (·.1) || (backToKw pos (keywordEach kws X.env)).any (·.1.isNone)) = false := by rfl)
    (ht : eval (.Call (.Attribute o m apos) [] kws pos) X.env = (do
      let ov ← eval o X.env
      standAt apos.atName
      let (f, first) ← holding [ov] (getMethod ov m pl)
      callWith pos f first (backTo pos (starEach [] X.env)) (backToKw pos (keywordEach kws X.env))) := by rfl) :
    PE X (.Call (.Attribute o m apos) [] kws pos) (TY.tSdx C sp W ta tk) := by
  obtain ⟨f, fd, g, gV, F, sm, kp, b, hg⟩ := D.ex
  refine ⟨fun pins s σ H Q I h => ?_⟩
  refine PySem.W.methodCall_KW (pl := pl) (thn (he.run pins s σ H _ I h) fun u s1 ⟨x, H1, I1, rx, ex, q⟩ => ?_) ht
  subst ex
  obtain rfl : u = Value.ref C := rx
  refine getmethsm_ok I1 sm fun s2 I2 => ?_
  refine PySem.W.callWith_KW0 (h₀ := X.base) (first := []) I.ok.mod.kin kp hall (thn (hkw.run pos pins s2 σ H1 _ I2 q) fun ws s3 ⟨zs, H2, I3, rz, q2⟩ => ⟨I3.kIn, ?_⟩) hpl
  rw [hks]
  have q3 : sp (gV [] zs) H2 Q (WE W σ) := by rw [hg]; exact q2
  exact run_fnkS (us := []) (vs := []) F hr b (L2N.passAt tt σ) I3 .nil rz q3
/-! ### a maker by keywords alone, where nothing is raised -/
structure Ndk (P : Program) (w : World) (K : PySem.W.Frag) (mg : Str → Option Value) (base : Heap) (x : Str) (C : Addr) (k : Nat) (ps ks : List Str) (gV : List V → List V → List V) (sp : Sp) : Prop where
  ex : ∃ (f : Addr) (fd : FuncData) (g : List Value → List Value → List Value), FnOk P w K mg base CX0 k f fd ps sp ∧ mg x = some (.ref C) ∧ Mk K C f ∧ KBn K fd ps 1 ks g gV
  nd : (x == ("__debug__" : Str)) = false
/-- C(k = e, ..) -/
def tNdk (C : Addr) (n : Nat) (sp : Sp) (gV : List V → List V → List V) (tk : TA) : TE := fun σ H Q => tk σ H fun zs H2 => zs.length = n ∧ ∀ x dx, H2 x = none → H2 dx = none → dx ≠ x → sp (gV [.ref x] zs) (upd (upd H2 dx (.own x)) x (.ins C dx [])) (fun v H3 => v = .non ∧ Q (.ref x) H3) E0
theorem pe_ndk (D : Ndk X.prog X.w X.K X.mg X.base x C k ps ks gV sp) (hr : Room (k + 1) X.A) (hkw : PK X kws tk) (hall : (backToKw pos (keywordEach kws X.env)).all (·.1.isSome) = true := by rfl) (hks : (backToKw pos (keywordEach kws X.env)).filterMap (·.1) = ks := by rfl)
    (hg : Gl X x := by rfl) (hpl : ((backTo pos (starEach [] X.env)).any (·.1) || (backToKw pos (keywordEach kws X.env)).any (·.1.isNone)) = false := by rfl) :
    PE X (.Call (.Name x p) [] kws pos) (tNdk C ks.length sp gV tk) := by
  obtain ⟨f, fd, g, F, hm, M, b⟩ := D.ex
  refine ⟨fun pins s σ H Q I h => ?_⟩
  refine wpAny_Call_Name_kw (ld_glob I hg hm ?_ D.nd)
  refine PySem.W.callWith_KW0 (h₀ := X.base) I.ok.mod.kin M.kp hall (thn (hkw.run pos pins s σ H _ I h) fun ws s2 ⟨zs, H2, I2, rz, l2, q2⟩ => ⟨I2.kIn, ?_⟩) hpl
  rw [hks]
  exact run_makeN (n := 0) (us := []) (vs := []) M F hr b pass0 I2 .nil rz rfl l2 q2
end
/-! ### own operators with any right operand -/
/-- x op y by the left one's own method; y of the same class, or a number -/
def rSelfN (C : Addr) (sp : Sp) : R2 := fun x y H Q => ∃ a dx fs, x = .ref a ∧ H a = some (.ins C dx fs) ∧ ((∃ b dy gs, y = .ref b ∧ H b = some (.ins C dy gs)) ∨ ∃ i, y = .int i) ∧ sp [.ref a, y] H Q E0
theorem o_ownN {X : Cx} {op : Operator} {C : Addr} {m : Str} {k : Nat} {ps : List Str} {sp : Sp} (D : Md X.prog X.w X.K X.mg X.base C m k ps sp) (hr : Room k X.A) (hc : PySem.W.selfFirst X.K C = true) (hn : numR X.K C op.info.2 = true) (hm : PySem.dunder op.info.2 = m := by rfl) : OpR X (binaryOp op) (rSelfN C sp) := by
  intro pins s σ H x y v u Q I rx ry h
  obtain ⟨a, dx, fs, rfl, ha, hy, q⟩ := h
  rcases hy with ⟨b, dy, gs, rfl, hb⟩ | ⟨i, rfl⟩
  · exact o_own D hr hc hm pins s σ H _ _ v u Q I rx ry ⟨a, b, dx, dy, fs, gs, rfl, rfl, ha, hb, q⟩
  · obtain ⟨f, fd, F, _, M, B⟩ := D.ex
    obtain rfl : v = Value.ref a := rx
    obtain ⟨t, rfl⟩ := (show ∃ t, u = Value.int i t from ry)
    obtain ⟨mA, J, _⟩ := ins_get I.hok ha
    obtain ⟨od, J, _⟩ := J.look
    obtain ⟨m', hF⟩ := I.fr
    unfold numR at hn
    obtain ⟨hn, h4⟩ := He.ba hn
    obtain ⟨hn, h3⟩ := He.ba hn
    obtain ⟨h1, h2⟩ := He.ba hn
    obtain ⟨fo, h2⟩ := Option.isSome_iff_exists.mp h2
    obtain ⟨ro, h3⟩ := Option.isSome_iff_exists.mp h3
    have h1' : PySem.W.findIn X.K (.ref C) (PySem.dunderR op.info.2) = some none := by
      revert h1
      cases PySem.W.findIn X.K (.ref C) (PySem.dunderR op.info.2) with
      | none => intro z; cases z
      | some r =>
        cases r with
        | none => intro _; rfl
        | some _ => intro z; cases z
    refine PySem.W.ksp_binT (T := "int") hF I.ok.mod.kin J rfl hc (by rw [hm]; exact M.at_) M.fn h1' (.inl rfl) h2 h3 (beq_iff_eq.mp h4) ?_
    refine thn (run_fn (us := [.ref a, .int i t]) (vs := [.ref a, .int i]) F hr B .nil pass0 I (.cons rfl (.cons ⟨t, rfl⟩ .nil)) (by rw [List.append_nil]; exact q)) fun v s' z => back_of z
def rSelfC (C : Addr) (sp : Sp) : R2 := fun x y H Q => ∃ a dx fs, x = .ref a ∧ H a = some (.ins C dx fs) ∧ ((∃ b dy gs, y = .ref b ∧ H b = some (.ins C dy gs)) ∨ (∃ i, y = .int i) ∨ ∃ z, y = .str z) ∧ sp [.ref a, y] H Q E0
theorem o_ownCN {X : Cx} {op : CmpOp} {C : Addr} {m : Str} {k : Nat} {ps : List Str} {sp : Sp} (D : Md X.prog X.w X.K X.mg X.base C m k ps sp) (hr : Room k X.A) (hn : eqR X.K C = true) (hop : ∀ a b, compareOp op a b = richCompare op a b := by intro _ _; rfl) (hm : (cmpInfo op).2.1 = m := by rfl) : OpR X (compareOp op) (rSelfC C sp) := by
  intro pins s σ H x y v u Q I rx ry h
  obtain ⟨a, dx, fs, rfl, ha, hy, q⟩ := h
  rcases hy with ⟨b, dy, gs, rfl, hb⟩ | hy
  · exact o_ownC D hr hop hm pins s σ H _ _ v u Q I rx ry ⟨a, b, dx, dy, fs, gs, rfl, rfl, ha, hb, q⟩
  · obtain ⟨f, fd, F, _, M, B⟩ := D.ex
    obtain rfl : v = Value.ref a := rx
    obtain ⟨mA, J, _⟩ := ins_get I.hok ha
    obtain ⟨od, J, _⟩ := J.look
    obtain ⟨m', hF⟩ := I.fr
    obtain ⟨hn1, hn2⟩ := He.ba hn
    rw [hop]
    rcases hy with ⟨i, rfl⟩ | ⟨z, rfl⟩
    · obtain ⟨t, rfl⟩ := (show ∃ t, u = Value.int i t from ry)
      refine PySem.W.cmp_K hr.units0 hF I.ok.mod.kin J (PySem.W.Looks.of_pure rfl) hn1 (by rw [hm]; exact M.at_) M.fn ?_
      refine thn (run_fn (us := [.ref a, .int i t]) (vs := [.ref a, .int i]) F hr B .nil pass0 I (.cons rfl (.cons ⟨t, rfl⟩ .nil)) (by rw [List.append_nil]; exact q)) fun v s' z => back_of z
    · obtain ⟨t, rfl⟩ := (show ∃ t, u = Value.str z t from ry)
      refine PySem.W.cmp_K hr.units0 hF I.ok.mod.kin J (PySem.W.Looks.of_pure rfl) hn2 (by rw [hm]; exact M.at_) M.fn ?_
      refine thn (run_fn (us := [.ref a, .str z t]) (vs := [.ref a, .str z]) F hr B .nil pass0 I (.cons rfl (.cons ⟨t, rfl⟩ .nil)) (by rw [List.append_nil]; exact q)) fun v s' z => back_of z
/-! ### own -x -/
def rNegO (C : Addr) (sp : Sp) : V → Hp → VK → Prop := fun x H Q => ∃ a dx fs, x = .ref a ∧ H a = some (.ins C dx fs) ∧ sp [.ref a] H Q E0
theorem o_negO {X : Cx} {C : Addr} {k : Nat} {ps : List Str} {sp : Sp} (D : Md X.prog X.w X.K X.mg X.base C "__neg__" k ps sp) (hr : Room k X.A) : UnR X (unaryOp .USub) (rNegO C sp) := by
  intro pins s σ H x v Q I rx h
  obtain ⟨a, dx, fs, rfl, ha, q⟩ := h
  obtain ⟨f, fd, F, _, M, B⟩ := D.ex
  obtain rfl : v = Value.ref a := rx
  obtain ⟨mA, J, _⟩ := ins_get I.hok ha
  obtain ⟨od, J, _⟩ := J.look
  obtain ⟨m', hF⟩ := I.fr
  refine PySem.W.ksp_neg hF I.ok.mod.kin J M.at_ M.fn ?_
  exact run_fn (us := [.ref a]) (vs := [.ref a]) F hr B .nil pass0 I (.cons rfl .nil) (by rw [List.append_nil]; exact q)
end RM
end
section
set_option Elab.async false
set_option linter.all false
set_option maxRecDepth 100000
set_option maxHeartbeats 4000000
/-! Texts turned round, repeated, walked. -/
namespace TR
open PySem PySem.Spec PyProof.Rows L2 RZ U
/-- x[::-1] of a text: a text as long -/
def tRevS (te : TE) : TE := fun σ H Q => te σ H fun x H1 => ∃ z, x = .str z ∧ z.length ≤ sizeLine ∧ ∀ y : Str, y.length = z.length → Q (.str y) H1
theorem pe_revS {X : Cx} {e : Expr} {te : TE} {k : Nat} {p1 p2 p3 pos : Pos} (he : PE X e te) : PE X (.Subscript e (.Slice none none (some (.UnaryOp .USub (.Constant (.int 1) k p1) p2)) p3) pos) (tRevS te) := by
  refine ⟨fun pins s σ H Q I h => ?_⟩
  refine Subscript_ (thn (he.run pins s σ H _ I h) fun v s1 ⟨x, H1, I1, r1, q1⟩ => ?_)
  obtain ⟨z, ex, hz, q⟩ := q1
  subst ex
  obtain ⟨t, rfl⟩ := r1
  have hst : PO X (some (.UnaryOp .USub (.Constant (.int 1) k p1) p2)) (tPart (tUn (rU fun i => .int (-i)) (tC (.int 1)))) := po_some (pe_un un_neg pe_int)
  refine wpAny_Slice (thn (po_none.run pins s1 σ H1 (fun o H2 => o = none ∧ H2 = H1) I1 ⟨rfl, rfl⟩) fun vl s2 ⟨l, H2, I2, pl, el, e2⟩ => ?_)
  subst el e2
  refine thn (po_none.run pins s2 σ H2 (fun o H3 => o = none ∧ H3 = H2) I2 ⟨rfl, rfl⟩) fun vu s3 ⟨u, H3, I3, pu, eu, e3⟩ => ?_
  subst eu e3
  refine thn (hst.run pins s3 σ H3 (fun o H4 => o = some (-1) ∧ H4 = H3) I3 ⟨1, rfl, -1, rfl, rfl, rfl⟩) fun vs s4 ⟨o, H4, I4, ps, eo, e4⟩ => ?_
  subst eo e4
  have I5 : Inv X pins σ H4 { s4 with heap := s4.heap.push { cls := .type "slice", data := .fields #[vl, vu, vs] } } := I4.kept (t' := s4.toks) fun b ob q => Heap.get?_push_of_some _ q
  obtain ⟨l, rfl, hl⟩ := IsPart.raw pl
  obtain ⟨u, rfl, hu⟩ := IsPart.raw pu
  obtain ⟨st, rfl, hs⟩ := IsPart.raw ps
  show wpAny (model X.prog X.w) X.A (subscriptTail e (.Slice none none (some (.UnaryOp .USub (.Constant (.int 1) k p1) p2)) p3) (.str z t) (.ref s4.heap.objs.size)) (EP X pins σ Q) X.xe { s4 with heap := s4.heap.push { cls := .type "slice", data := .fields #[partValue l, partValue u, partValue st] } }
  refine tail_any (ops := [.str z t, .ref s4.heap.objs.size]) (typeIs_str _ z t) (F.slot_str_getitem.lookup) ?_ (by with_unfolding_all rfl)
  refine wpAny_getItem_str_slice (l := l) (u := u) (st := st) ⟨_, Heap.get?_push_size _ rfl, rfl, rfl⟩ (by rw [hs]; rfl) ?_
  have e : sliceMade z t l u st = Made.str ⟨((Builtin.Str.strSliceIndices none none (-1) z.length).filterMap (z.cps[·]?)).toArray⟩ := by
    unfold sliceMade slicePicked
    rw [hl, hu, hs]
    rfl
  rw [e]
  have el : (⟨((Builtin.Str.strSliceIndices none none (-1) z.length).filterMap (z.cps[·]?)).toArray⟩ : Str).length = z.length := by
    show (((Builtin.Str.strSliceIndices none none (-1) z.length).filterMap (z.cps[·]?)).toArray).size = z.length
    rw [picked_rev, List.size_toArray, filterMap_get, List.length_map, List.length_map, List.length_range]
    intro i hi
    obtain ⟨k, hk, rfl⟩ := List.mem_map.mp hi
    have hk' : k < z.length := List.mem_range.mp hk
    show z.length - 1 - k < z.length
    omega
  exact ⟨by rw [el]; exact hz, .str _, H4, I5.tok _, ⟨_, rfl⟩, q _ el⟩
/-- a text n times -/
def repS (z : Str) (n : Nat) : Str := ⟨(List.replicate n z.cps).foldl (· ++ ·) #[]⟩
theorem repS_tl (z : Str) (n : Nat) : TL.tl (repS z n) = (List.replicate n (TL.tl z)).flatten := by
  have key : ∀ (n : Nat) (a : Array Nat), ((List.replicate n z.cps).foldl (· ++ ·) a).toList = a.toList ++ (List.replicate n z.cps.toList).flatten := by
    intro n
    induction n with
    | zero => intro a; simp
    | succ n ih =>
      intro a
      rw [List.replicate_succ, List.foldl_cons, ih, List.replicate_succ, List.flatten_cons, Array.toList_append, List.append_assoc]
  exact key n #[]
theorem repS_len (z : Str) (n : Nat) : (repS z n).length = n * z.length := by
  rw [TL.len_tl, repS_tl, List.length_flatten, List.map_replicate, List.sum_replicate_nat, TL.len_tl]
def rMulS : R2 := fun x y H Q => ∃ z n, x = .str z ∧ y = .int n ∧ 1 < n ∧ n < 2 ^ 40 ∧ 0 < z.length ∧ z.length * n.toNat ≤ 16777216 ∧ Q (.str (repS z n.toNat)) H
theorem o_mulS {X : Cx} : OpR X (binaryOp .Mult) rMulS := by
  intro pins s σ H x y v u Q I rx ry h
  obtain ⟨z, n, rfl, rfl, h1, h2, hz, hl, q⟩ := h
  obtain ⟨t, rfl⟩ := (show ∃ t, v = Value.str z t from rx)
  obtain ⟨t', rfl⟩ := (show ∃ t, u = Value.int n t from ry)
  have a1 : decide (n < -(2 ^ 63 : Int)) = false := decide_eq_false (by omega)
  have a2 : decide (n ≥ 2 ^ 63) = false := decide_eq_false (by omega)
  have hle : ((z.length : Nat) : Int) * n ≤ 16777216 := by
    have e : n = ((n.toNat : Nat) : Int) := by omega
    have g := Int.ofNat_le.mpr hl
    rw [Int.natCast_mul, ← e] at g
    exact g
  refine P.mul_str (by rw [a1, a2]; rfl) (fun _ _ c => ?_) (fun _ _ => decide_eq_false (by unfold sizeLine; omega)) ?_
  · have : ((z.length : Nat) : Int) ≤ (2 ^ 63 - 1) / n := (Int.le_ediv_iff_mul_le (by omega)).mpr (by omega)
    omega
  · have c1 : ¬ n < 1 := by omega
    have c2 : ¬ (n == 1 || z.length == 0) = true := by
      rw [Bool.or_eq_true, beq_iff_eq, beq_iff_eq]
      omega
    rw [if_neg c1, if_neg c2]
    refine ⟨?_, .str _, H, I.tok _, ⟨_, rfl⟩, q⟩
    have := repS_len z n.toNat
    show (repS z n.toNat).length ≤ sizeLine
    rw [this, Nat.mul_comm]
    exact hl
theorem walk_its {x : Str} : Walk (Its x) x.cps.size (fun _ => True) fun i H v H' => H' = H ∧ ∃ c, x.cps[i]? = some c ∧ v = .str ⟨#[c]⟩ := ⟨fun _ _ h _ => h, fun _ _ => Nat.le_refl _, fun _ _ _ _ _ _ y => y⟩
end TR
end
section
set_option maxHeartbeats 4000000
namespace C
open PySem PySem.Spec PyProof.Rows L2 RZ U ZM
local macro_rules | `(tactic| walk_at "vc1") => `(tactic| first
  | (with_reducible refine v_seq ?_) | (with_reducible refine v_asg ?_) | ((with_reducible refine' v_var ?vch ?_); (case vch => exact rfl)) | (with_reducible refine v_c ?_) | (with_reducible refine v_op ?_)
  | (with_reducible refine v_cons ?_) | (with_reducible refine v_nil ?_) | (with_reducible refine v_name ?_) | (with_reducible refine v_cb ?_) | (with_reducible refine v_test ?_) | (with_reducible refine v_b ?_)
  | (with_reducible refine v_bl ?_) | (with_reducible refine v_ifs ?_) | (with_reducible refine v_if ?_) | (with_reducible refine v_ret ?_) | (with_reducible refine v_next ?_) | (with_reducible refine v_drop ?_)
  | (with_reducible refine v_and ?_) | (with_reducible refine v_or ?_) | (with_reducible refine v_not ?_) | (with_reducible refine v_andV ?_) | (with_reducible refine v_orV ?_) | (with_reducible refine v_notV ?_)
  | (with_reducible refine v_sub ?_) | (with_reducible refine v_un ?_) | (with_reducible refine v_tup ?_) | (with_reducible refine v_lst ?_) | (with_reducible refine v_call ?_) | (with_reducible refine v_sl ?_) | (with_reducible refine v_nopart ?_)
  | (with_reducible refine v_part ?_) | (with_reducible refine v_xi ?_) | (with_reducible refine v_par ?_) | (with_reducible refine v_x2 ?_) | (with_reducible refine v_bm ?_) | (with_reducible refine v_bm0 ?_) | (with_reducible refine v_retn ?_) | (with_reducible refine v_truth ?_)
  | (with_reducible refine v_addi ?_) | (with_reducible refine v_subi ?_) | (with_reducible refine v_lti ?_) | (with_reducible refine v_lei ?_) | (with_reducible refine v_gti ?_) | (with_reducible refine v_gei ?_) | (with_reducible refine v_eqi ?_) | (with_reducible refine v_eqs ?_) | (with_reducible refine v_nei ?_) | (with_reducible refine v_nes ?_)
  | (with_reducible refine v_int ?_) | (with_reducible refine v_neg ?_) | (with_reducible refine v_isn ?_) | (with_reducible refine v_notn ?_) | (with_reducible refine v_abs ?_) | (with_reducible refine v_min2 ?_) | (with_reducible refine v_max2 ?_) | (with_reducible refine v_gnil ?_) | (with_reducible refine v_gcons ?_)
  | (with_reducible refine v_for ?_) | (with_reducible refine v_lc ?_) | (with_reducible refine v_il ?_) | (with_reducible refine v_it ?_) | (with_reducible refine v_ir ?_) | (with_reducible refine v_iz ?_)
  | ((with_reducible refine' v_ilr ?vch ?_); (case vch => walk_at "sql")) | ((with_reducible refine' v_sll ?vch ?_); (case vch => walk_at "sql")) | ((with_reducible refine' v_list ?vch ?_); (case vch => walk_at "sql"))
  | ((with_reducible refine' v_muli ?vcm ?_); (case vcm => first | exact cmul_r (by decide) (by decide) | exact cmul_l (by decide) (by decide)))
  | ((with_reducible refine' v_modi ?vcm ?_); (case vcm => first | decide | assumption))
  | ((with_reducible refine' v_divi ?vcm ?_); (case vcm => first | exact cdiv_small (by decide) (by decide) | assumption))
  | ((with_reducible refine' v_pow ?vcm ?_); (case vcm => exact ⟨by decide, by decide, by decide⟩))
  | ((with_reducible refine' v_ixl ?vch ?vci ?_); (case vch => walk_at "sql"); (case vci => exact rfl))
  | ((with_reducible refine' v_setl ?vch ?vci ?_); (case vch => walk_at "hat"); (case vci => exact rfl))
  | ((with_reducible refine' v_lenl ?vch ?_); (case vch => walk_at "sql")))
local macro_rules | `(tactic| walk_at "hat") => `(tactic| first | assumption | exact upd_same | ((with_reducible refine' h_ne ?vcn ?vcq); (case vcq => walk_at "hat"); (case vcn => walk_at "ne")))
local macro_rules | `(tactic| walk_at "ne") => `(tactic| first | assumption | exact Ne.symm (by assumption) | exact ne_new (by assumption) (by assumption) | exact ne_new' (by assumption) (by assumption))
local macro_rules | `(tactic| walk_at "sql") => `(tactic| first | assumption | exact SqL.of (by walk_at "hat"))
local macro_rules | `(tactic| walk_at "vc") => `(tactic| repeat (walk_at "vc1"))
local macro_rules | `(tactic| walk_at "vc1") => `(tactic| first | (with_reducible refine v_sq ?_) | (with_reducible refine v_zu ?_) | (with_reducible refine v_fldo ?_) | (with_reducible refine v_sfld ?_) | (with_reducible refine v_nd ?_) | (with_reducible refine v_sd ?_) | (with_reducible refine v_yes ?_) | (with_reducible refine v_chain ?_) | (with_reducible refine v_par3 ?_) | (with_reducible refine v_x3 ?_))
local macro_rules | `(tactic| walk_at "dl") => `(tactic| ((conv => whnf); try dsimp only))
local macro_rules | `(tactic| walk_at "dg") => `(tactic| (walk_at "dl"; repeat (first | (refine ⟨rfl, ?_⟩; walk_at "dl") | (refine ⟨Nat.le_of_ble_eq_true rfl, ?_⟩; walk_at "dl"))))

section

/-- the bag at b: its cells, the next one's place, the rest of a great one, the mixed number, the draws -/
structure BagAt (K : PySem.W.Frag) (H : Hp) (b c : Addr) (p r m n : Int) (xs : List Int) : Prop where
  at_ : H b = some (.lst [.ref c, .int p, .int r, .int m, .int n])
  cells : SqL K (wo [b] H) c (xs.map V.int)
  p0 : 0 ≤ p
  r0 : 0 ≤ r
  m0 : 0 ≤ m
  m1 : m < 2147483647
/-- g: where the cells stand, which they are -/
def Bag (K : PySem.W.Frag) (H : Hp) (b : Addr) (g : Addr × List Int) : Prop := ∃ p r m n, BagAt K H b g.1 p r m n g.2
abbrev Kp (b : Addr) (H H' : Hp) : Prop := Same (wo [b] H) (wo [b] H')
theorem BagAt.put {K : PySem.W.Frag} {H : Hp} {b c : Addr} {p r m n : Int} {xs : List Int} {p' r' m' n' : Int} (B : BagAt K H b c p r m n xs) (p0 : 0 ≤ p') (r0 : 0 ≤ r') (m0 : 0 ≤ m') (m1 : m' < 2147483647) :
    BagAt K (upd H b (.lst [.ref c, .int p', .int r', .int m', .int n'])) b c p' r' m' n' xs :=
  ⟨upd_same, same_sql (wo_upd (by simp)) B.cells, p0, r0, m0, m1⟩
theorem kp_upd {b : Addr} {H H' : Hp} {o : HO} (k : Kp b H H') : Kp b H (upd H' b o) := k.trans (wo_upd (by simp))
theorem atI_in {xs : List Int} {i : Int} (h0 : 0 ≤ i) (h1 : i < xs.length) : ∃ z, atI (xs.map V.int) i = some (.int z) := by
  have hl : i.toNat < xs.length := by omega
  refine ⟨xs[i.toNat], ?_⟩
  unfold atI ixN
  rw [if_pos h0, if_pos (by rw [List.length_map]; exact h1), Option.bind_some, List.getElem?_map, List.getElem?_eq_getElem hl]
  rfl

theorem kp_get {b a : Addr} {H H' : Hp} {o : HO} (k : Kp b H H') (ne : a ≠ b) (h : H a = some o) : H' a = some o := by
  have q := k a o (by rw [wo_out (by simpa using ne)]; exact h)
  exact (wo_get q).2
theorem kp_trans {b : Addr} {H H1 H2 : Hp} (a : Kp b H H1) (c : Kp b H1 H2) : Kp b H H2 := a.trans c
theorem kp_same {b : Addr} {H H' : Hp} (h : Same H H') : Kp b H H' := wo_mono h
theorem kp_new {b a : Addr} {H H' : Hp} {o : HO} (k : Kp b H H') (h : H' a = none) : Kp b H (upd H' a o) := k.trans (wo_new h)
/-- a write to what H did not know -/
theorem kp_mut {b a : Addr} {H H' : Hp} {o : HO} (k : Kp b H H') (h : H a = none) : Kp b H (upd H' a o) := wo_same fun x hx u e => by
  rw [upd_ne (ne_of_none e h)]
  exact kp_get k (by simpa using hx) e
theorem Bag.ne {K : PySem.W.Frag} {H : Hp} {b : Addr} {g : Addr × List Int} (B : Bag K H b g) {a : Addr} (h : H a = none) : a ≠ b := fun z => by
  obtain ⟨p, r, m, n, B⟩ := B
  rw [z, B.at_] at h
  cases h
theorem Bag.get {K : PySem.W.Frag} {H : Hp} {b : Addr} {g : Addr × List Int} (B : Bag K H b g) : ∃ o, H b = some o := by
  obtain ⟨p, r, m, n, B⟩ := B
  exact ⟨_, B.at_⟩
theorem Bag.cells {K : PySem.W.Frag} {H : Hp} {b : Addr} {g : Addr × List Int} (B : Bag K H b g) : SqL K (wo [b] H) g.1 (g.2.map V.int) := by
  obtain ⟨p, r, m, n, B⟩ := B
  exact B.cells
/-- the bag elsewhere: as it was at b, its cells by an elder heap -/
theorem Bag.move {K : PySem.W.Frag} {H0 H H' : Hp} {b : Addr} {g : Addr × List Int} (B : Bag K H b g) (hc : SqL K (wo [b] H0) g.1 (g.2.map V.int)) (k : Kp b H0 H') (e : H' b = H b) : Bag K H' b g := by
  obtain ⟨p, r, m, n, B⟩ := B
  exact ⟨p, r, m, n, e.trans B.at_, same_sql k hc, B.p0, B.r0, B.m0, B.m1⟩
theorem Bag.new {K : PySem.W.Frag} {H : Hp} {b a : Addr} {g : Addr × List Int} {o : HO} (B : Bag K H b g) (h : H a = none) : Bag K (upd H a o) b g :=
  B.move B.cells (wo_new h) (upd_ne (Ne.symm (B.ne h)))
/-- a write to a place that an elder heap (with the bag's cells) does not know -/
theorem Bag.mut {K : PySem.W.Frag} {H0 H : Hp} {b a : Addr} {g : Addr × List Int} {o : HO} (B : Bag K H b g) (hc : SqL K (wo [b] H0) g.1 (g.2.map V.int)) (k : Kp b H0 H) (h : H0 a = none) (ne : a ≠ b) : Bag K (upd H a o) b g :=
  B.move hc (kp_mut k h) (upd_ne (Ne.symm ne))
theorem size_small2 {n : Nat} (h : n ≤ 1000000000) : (n : Int) < 4149515568880992958512407863691161151012446232242436899995657329690652811412908146399707048947103794288197886611300789182395151075411775307886874834113963687061181803401509523685376 := by omega

end
section

/-! ### data: kinds, depth, likeness -/
def tyD : PyData → String
  | .none => "NoneType"
  | .bool _ => "bool"
  | .int _ => "int"
  | .str _ => "str"
  | .list _ => "list"
  | .tuple _ => "tuple"
  | .dict _ => "dict"
theorem sql_ty {K : PySem.W.Frag} {H : Hp} {a : Addr} {xs : List V} (h : SqL K H a xs) : TyX K H (.ref a) (.type "list") := by
  rcases h with (h | ⟨o, h⟩) | ⟨o, its, n, h1, h2, _⟩
  · exact .base (.lst h)
  · exact .base (.frz h)
  · exact .kList h1 h2
theorem sqt_ty {K : PySem.W.Frag} {H : Hp} {a : Addr} {xs : List V} (h : SqT K H a xs) : TyX K H (.ref a) (.type "tuple") := by
  rcases h with (h | ⟨o, h⟩) | ⟨o, its, n, h1, h2, _⟩
  · exact .base (.tup h)
  · exact .fTuple h
  · exact .kTuple h1 h2
theorem dp_ty {K : PySem.W.Frag} {H : Hp} {v : V} {d : PyData} (h : Dp K H v d) : TyX K H v (.type (tyD d)) := by
  cases h with
  | non => exact .base .non
  | bl b => exact .base (.bl b)
  | int i => exact .base (.int i)
  | str x => exact .base (.str x)
  | lst h _ => exact sql_ty h
  | tup h _ => exact sqt_ty h
theorem v_isi {K : PySem.W.Frag} {H : Hp} {Q : VK} {x : V} {d : PyData} {T : String} {b : Bool} (h : Dp K H x d) (hk : kitB (tyD d) T = some b) (q : Q (.bl b) H) : rIsiU K [x, .ty T] H Q :=
  .inl ⟨x, .ty T, _, .type T, b, rfl, .ty T, dp_ty h, kit_ty hk, q⟩
def isInt : PyData → Bool
  | .int _ => true
  | _ => false
def isBool : PyData → Bool
  | .bool _ => true
  | _ => false
def isStr : PyData → Bool
  | .str _ => true
  | _ => false
def isList : PyData → Bool
  | .list _ => true
  | _ => false
def isTuple : PyData → Bool
  | .tuple _ => true
  | _ => false
theorem kit_int (d : PyData) : kitB (tyD d) "int" = some (isInt d || isBool d) := by
  cases d
  · exact (show kitB "NoneType" "int" = some false by decide +kernel)
  · exact (show kitB "bool" "int" = some true by decide +kernel)
  · exact (show kitB "int" "int" = some true by decide +kernel)
  · exact (show kitB "str" "int" = some false by decide +kernel)
  · exact (show kitB "list" "int" = some false by decide +kernel)
  · exact (show kitB "tuple" "int" = some false by decide +kernel)
  · exact (show kitB "dict" "int" = some false by decide +kernel)
theorem kit_bool (d : PyData) : kitB (tyD d) "bool" = some (isBool d) := by
  cases d
  · exact (show kitB "NoneType" "bool" = some false by decide +kernel)
  · exact (show kitB "bool" "bool" = some true by decide +kernel)
  · exact (show kitB "int" "bool" = some false by decide +kernel)
  · exact (show kitB "str" "bool" = some false by decide +kernel)
  · exact (show kitB "list" "bool" = some false by decide +kernel)
  · exact (show kitB "tuple" "bool" = some false by decide +kernel)
  · exact (show kitB "dict" "bool" = some false by decide +kernel)
theorem kit_str (d : PyData) : kitB (tyD d) "str" = some (isStr d) := by
  cases d
  · exact (show kitB "NoneType" "str" = some false by decide +kernel)
  · exact (show kitB "bool" "str" = some false by decide +kernel)
  · exact (show kitB "int" "str" = some false by decide +kernel)
  · exact (show kitB "str" "str" = some true by decide +kernel)
  · exact (show kitB "list" "str" = some false by decide +kernel)
  · exact (show kitB "tuple" "str" = some false by decide +kernel)
  · exact (show kitB "dict" "str" = some false by decide +kernel)
theorem kit_list (d : PyData) : kitB (tyD d) "list" = some (isList d) := by
  cases d
  · exact (show kitB "NoneType" "list" = some false by decide +kernel)
  · exact (show kitB "bool" "list" = some false by decide +kernel)
  · exact (show kitB "int" "list" = some false by decide +kernel)
  · exact (show kitB "str" "list" = some false by decide +kernel)
  · exact (show kitB "list" "list" = some true by decide +kernel)
  · exact (show kitB "tuple" "list" = some false by decide +kernel)
  · exact (show kitB "dict" "list" = some false by decide +kernel)
theorem kit_tuple (d : PyData) : kitB (tyD d) "tuple" = some (isTuple d) := by
  cases d
  · exact (show kitB "NoneType" "tuple" = some false by decide +kernel)
  · exact (show kitB "bool" "tuple" = some false by decide +kernel)
  · exact (show kitB "int" "tuple" = some false by decide +kernel)
  · exact (show kitB "str" "tuple" = some false by decide +kernel)
  · exact (show kitB "list" "tuple" = some false by decide +kernel)
  · exact (show kitB "tuple" "tuple" = some true by decide +kernel)
  · exact (show kitB "dict" "tuple" = some false by decide +kernel)
mutual
def dep : PyData → Nat
  | .list xs => depAll xs + 1
  | .tuple xs => depAll xs + 1
  | _ => 0
def depAll : List PyData → Nat
  | [] => 0
  | d :: r => max (dep d) (depAll r)
end
theorem dep_mem {d : PyData} : ∀ {xs : List PyData}, d ∈ xs → dep d ≤ depAll xs
  | a :: r, h => by
    show dep d ≤ max (dep a) (depAll r)
    rcases List.mem_cons.mp h with h | h
    · subst h
      omega
    · have := dep_mem h
      omega
mutual
/-- the same value, of the same kinds -/
def like : PyData → PyData → Bool
  | .none, .none => true
  | .bool a, .bool b => a == b
  | .int a, .int b => a == b
  | .str a, .str b => a == b
  | .list xs, .list ys => likeAll xs ys
  | .tuple xs, .tuple ys => likeAll xs ys
  | _, _ => false
def likeAll : List PyData → List PyData → Bool
  | [], [] => true
  | x :: xs, y :: ys => like x y && likeAll xs ys
  | _, _ => false
end
mutual
def dictFree : PyData → Bool
  | .list xs => dictFreeAll xs
  | .tuple xs => dictFreeAll xs
  | .dict _ => false
  | _ => true
def dictFreeAll : List PyData → Bool
  | [] => true
  | d :: r => dictFree d && dictFreeAll r
end
mutual
theorem like_refl : ∀ d : PyData, (∀ kvs, d ≠ .dict kvs) → dictFree d = true → like d d = true
  | .none, _, _ => rfl
  | .bool a, _, _ => by simp [like]
  | .int a, _, _ => by simp [like]
  | .str a, _, _ => by simp [like]
  | .list xs, _, h => likeAll_refl xs h
  | .tuple xs, _, h => likeAll_refl xs h
  | .dict kvs, h, _ => absurd rfl (h kvs)
theorem likeAll_refl : ∀ xs : List PyData, dictFreeAll xs = true → likeAll xs xs = true
  | [], _ => rfl
  | d :: r, h => by
    have h2 : (dictFree d && dictFreeAll r) = true := h
    rw [Bool.and_eq_true] at h2
    show (like d d && likeAll r r) = true
    rw [like_refl d (fun kvs e => by rw [e] at h2; exact absurd h2.1 (by simp [dictFree])) h2.1, likeAll_refl r h2.2]
    rfl
end
mutual
theorem dp_free {K : PySem.W.Frag} {H : Hp} : ∀ {v : V} {d : PyData}, Dp K H v d → dictFree d = true
  | _, _, .non => rfl
  | _, _, .bl _ => rfl
  | _, _, .int _ => rfl
  | _, _, .str _ => rfl
  | _, _, .lst _ r => dps_free r
  | _, _, .tup _ r => dps_free r
theorem dps_free {K : PySem.W.Frag} {H : Hp} : ∀ {vs : List V} {ds : List PyData}, DpAll K H vs ds → dictFreeAll ds = true
  | _, _, .nil => rfl
  | _, _, .cons h r => by
    show (dictFree _ && dictFreeAll _) = true
    rw [dp_free h, dps_free r]
    rfl
end
theorem like_self {K : PySem.W.Frag} {H : Hp} {v : V} {d : PyData} (h : Dp K H v d) : like d d = true := like_refl d (fun kvs e => by subst e; cases h) (dp_free h)
theorem dps_get {K : PySem.W.Frag} {H : Hp} : ∀ {vs : List V} {ds : List PyData} {i : Nat} {v : V}, DpAll K H vs ds → vs[i]? = some v → ∃ d, ds[i]? = some d ∧ Dp K H v d
  | _, _, i, v, .nil, h => by simp at h
  | _, _, 0, v, .cons h r, e => by
    simp at e
    subst e
    exact ⟨_, rfl, h⟩
  | _, _, i + 1, v, .cons h r, e => by
    obtain ⟨d, h1, h2⟩ := dps_get (i := i) r (by simpa using e)
    exact ⟨d, by simpa using h1, h2⟩
theorem dps_len {K : PySem.W.Frag} {H : Hp} : ∀ {vs : List V} {ds : List PyData}, DpAll K H vs ds → vs.length = ds.length
  | _, _, .nil => rfl
  | _, _, .cons _ r => congrArg Nat.succ (dps_len r)
theorem likeAll_zip : ∀ (xs ys : List PyData), likeAll xs ys = (decide (xs.length = ys.length) && (List.zipWith like xs ys).all id)
  | [], [] => rfl
  | [], _ :: _ => rfl
  | _ :: _, [] => rfl
  | x :: xs, y :: ys => by
    show (like x y && likeAll xs ys) = _
    rw [likeAll_zip xs ys]
    simp only [List.length_cons, List.zipWith_cons_cons, List.all_cons, id_eq, Nat.add_right_cancel_iff]
    cases like x y <;> simp
theorem walk_zipT {K : PySem.W.Frag} {a b : Addr} {xs ys : List V} {n : Nat} (hn : n = min xs.length ys.length) : Walk (ItzT K a b) n (fun H => SqT K H a xs ∧ SqT K H b ys) (YPair (fun i => xs[i]?) (fun i => ys[i]?)) := by
  subst hn
  refine ⟨fun i _ hi q => ?_, fun _ q => ⟨xs, ys, q.1, q.2, by omega⟩, fun i H v H' _ q y => ?_⟩
  · have h1 : i < xs.length := by omega
    have h2 : i < ys.length := by omega
    exact ⟨xs, ys, xs[i], ys[i], q.1, q.2, by simp [h1], by simp [h2]⟩
  · obtain ⟨T, x, z, h1, h2, h3, h4, h5⟩ := y
    exact ⟨T, x, z, h1, h2, h3, h4 xs q.1, h5 ys q.2⟩

/-- at most n deep, no sequence too long -/
def fit : Nat → PyData → Prop
  | 0, _ => False
  | n + 1, .list xs => xs.length ≤ 1000000 ∧ ∀ d, d ∈ xs → fit n d
  | n + 1, .tuple xs => xs.length ≤ 1000000 ∧ ∀ d, d ∈ xs → fit n d
  | _ + 1, _ => True
theorem fit_up : ∀ {n : Nat} {d : PyData}, fit n d → fit (n + 1) d
  | 0, _, h => h.elim
  | n + 1, .none, _ => trivial
  | n + 1, .bool _, _ => trivial
  | n + 1, .int _, _ => trivial
  | n + 1, .str _, _ => trivial
  | n + 1, .dict _, _ => trivial
  | n + 1, .list xs, h => ⟨h.1, fun d hd => fit_up (h.2 d hd)⟩
  | n + 1, .tuple xs, h => ⟨h.1, fun d hd => fit_up (h.2 d hd)⟩
theorem fit_mono {n m : Nat} {d : PyData} (h : n ≤ m) (f : fit n d) : fit m d := by
  obtain ⟨k, rfl⟩ := Nat.le.dest h
  induction k with
  | zero => exact f
  | succ k ih => exact fit_up (ih (Nat.le_add_right _ _))
theorem same_mut {H H' : Hp} {a : Addr} {o : HO} (e : Same H H') (h : H a = none) : Same H (upd H' a o) := fun b u q => by
  rw [upd_ne (ne_of_none q h)]
  exact e b u q
theorem sqt_of {K : PySem.W.Frag} {H : Hp} {a : Addr} {xs : List V} (h : H a = some (.tup xs)) : SqT K H a xs := .inl (.inl h)
theorem v_yes {σ : L2.St} {H : Hp} {Qb : Bool → Hp → Prop} (q : Qb true H) : tYes σ H Qb := q
theorem take_succ_get {α : Type} {xs : List α} {i : Nat} {x : α} (h : xs[i]? = some x) : xs.take (i + 1) = xs.take i ++ [x] := by
  rw [List.take_add_one, h]
  rfl
theorem iT {c A B : Prop} [Decidable c] (h : c) (q : A) : if c then A else B := by
  rw [if_pos h]
  exact q
theorem iF {c A B : Prop} [Decidable c] (h : ¬c) (q : B) : if c then A else B := by
  rw [if_neg h]
  exact q
theorem nt {b : Bool} (h : b = false) : ¬b = true := by rw [h]; decide

end
section
abbrev N_law_int : List Str := ["v"]
def t_law_int (K : PySem.W.Frag) : TS :=
  (tRet (tAndV (tCB (rIsiU K) (tCons (tVar 0) (tCons (tC (.ty "int")) tNil))) (tNotV (tCB (rIsiU K) (tCons (tVar 0) (tCons (tC (.ty "bool")) tNil))))))
def sp_law_int (K : PySem.W.Frag) : Sp := fun vs H Q _ => ∃ x d, vs = [x] ∧ Dp K H x d ∧ Q (.bl (isInt d)) H
theorem pure_law_int {K : PySem.W.Frag} (vs : List V) (H : Hp) (Q : VK) (E : XK) (h : sp_law_int K vs H Q E) : t_law_int K { nx := fun _ H' => Q .non H', rt := Q } (start N_law_int vs) H := by
  obtain ⟨x, d, rfl, h, k⟩ := h
  show t_law_int K _ [some x] H
  unfold t_law_int
  walk_at "vc"
  refine v_isi h (kit_int d) ⟨_, rfl, ?_⟩
  have e : isInt d = ((isInt d || isBool d) && !isBool d) := by cases d <;> rfl
  refine ite2 (fun c => ?_) (fun c => ?_)
  · walk_at "vc"
    refine v_isi h (kit_bool d) ⟨_, rfl, ?_⟩
    rw [e, c] at k
    exact k
  · rw [e, Bool.eq_false_iff.mpr c] at k
    exact k

end
section

def sp_law_like (K : PySem.W.Frag) (n : Nat) : Sp := fun vs H Q _ => ∃ x y d e, vs = [x, y] ∧ Dp K H x d ∧ Dp K H y e ∧ fit n e ∧ ∀ H', Same H H' → Q (.bl (like d e)) H'
abbrev N_law_like : List Str := ["told", "due", "x", "y"]
def t_law_like (K : PySem.W.Frag) (n : Nat) : TS :=
  (tSeq (tIfS (tTest (tOp rIsN (tVar 1) (tC .non))) (tRet (tOp rIsN (tVar 0) (tC .non))) tNext)
    (tSeq (tIfS (tB (tCB (rIsiU K) (tCons (tVar 1) (tCons (tC (.ty "bool")) tNil)))) (tRet (tAndV (tCB (rIsiU K) (tCons (tVar 0) (tCons (tC (.ty "bool")) tNil))) (tOp (rEqU K) (tVar 0) (tVar 1)))) tNext)
    (tSeq (tIfS (tB (tCall (sp_law_int K) [] E0 (tCons (tVar 1) tNil))) (tRet (tAndV (tCall (sp_law_int K) [] E0 (tCons (tVar 0) tNil)) (tOp (rEqU K) (tVar 0) (tVar 1)))) tNext)
    (tSeq (tIfS (tB (tCB (rIsiU K) (tCons (tVar 1) (tCons (tC (.ty "str")) tNil)))) (tRet (tAndV (tCB (rIsiU K) (tCons (tVar 0) (tCons (tC (.ty "str")) tNil))) (tOp (rEqU K) (tVar 0) (tVar 1)))) tNext)
    (tSeq (tIfS (tOr (tAnd (tB (tCB (rIsiU K) (tCons (tVar 1) (tCons (tC (.ty "list")) tNil)))) (tNot (tB (tCB (rIsiU K) (tCons (tVar 0) (tCons (tC (.ty "list")) tNil)))))) (tAnd (tB (tCB (rIsiU K) (tCons (tVar 1) (tCons (tC (.ty "tuple")) tNil)))) (tNot (tB (tCB (rIsiU K) (tCons (tVar 0) (tCons (tC (.ty "tuple")) tNil))))))) (tRet (tC (.bl false))) tNext)
    (tRet (tAndV (tOp (rEqU K) (tCB (rLenU K) (tCons (tVar 0) tNil)) (tCB (rLenU K) (tCons (tVar 1) tNil))) (tCB (rAll K) (tCons (tLc (iZipA K (tCons (tVar 0) (tCons (tVar 1) tNil))) (gTup K 2 (gCons (gName 2) (gCons (gName 3) gNil))) tYes (tCall (sp_law_like K n) [] E0 (tCons (tVar 2) (tCons (tVar 3) tNil))) [2, 3]) tNil)))))))))
theorem no_law_like {K : PySem.W.Frag} {vs : List V} {H : Hp} {Q : VK} {E : XK} (h : sp_law_like K 0 vs H Q E) : False := by
  obtain ⟨_, _, _, _, _, _, _, h, _⟩ := h
  exact h
theorem like_lc {K : PySem.W.Frag} {n m : Nat} {J : It} {G : Hp → Prop} {xs ys : List V} {ds es : List PyData} {H : Hp} {a b : V} {Q : VK} (w : Walk J m G (YPair (fun i => xs[i]?) (fun i => ys[i]?))) (hG : ∀ H', Same H H' → G H') (hx : DpAll K H xs ds) (hy : DpAll K H ys es)
    (hm : m = ds.length) (hm2 : es.length = ds.length) (hl : ds.length ≤ 1000000) (hn : ∀ e, e ∈ es → fit n e) (k : ∀ l H', Same H H' → H' l = some (.lst ((List.zipWith like ds es).map V.bl)) → Q (.ref l) H') :
    lcI J (gTup K 2 (gCons (gName 2) (gCons (gName 3) gNil))) tYes (tCall (sp_law_like K n) [] E0 (tCons (tVar 2) (tCons (tVar 3) tNil))) [2, 3] [some a, some b, none, none] H Q := by
  refine lc_w w (fun D i H' => Same H H' ∧ H D = none ∧ H' D = some (.lst (((List.zipWith like ds es).take i).map V.bl))) (fun D hD => ⟨same_new hD, hD, upd_same⟩) (fun D i H' _ h => hG H' h.1) ?_ ?_
  · rintro D i x H1 H' hD hi ⟨s1, _, h2⟩ ⟨T, u, v, rfl, hT, rfl, hu, hv⟩
    obtain ⟨d, hd, du⟩ := dps_get hx hu
    obtain ⟨e, he, dv⟩ := dps_get hy hv
    have nTD := ne_new' h2 hT
    refine v_gtup (sqt_of upd_same) rfl ?_
    walk_at "vc"
    refine ⟨rfl, v_yes ?_⟩
    refine iT rfl ?_
    walk_at "vc"
    have s2 : Same H (upd H1 T (.tup [u, v])) := s1.trans (same_new hT)
    refine ⟨u, v, d, e, rfl, same_dp s2 du, same_dp s2 dv, hn e (List.mem_of_getElem? he), fun H4 s4 => ?_⟩
    have h4 := s4 _ _ (h_ne (Ne.symm nTD) h2)
    refine ⟨_, h4, ?_, same_mut (s2.trans s4) hD, hD, ?_⟩
    · rw [sizeLine_eq]
      simp
      omega
    · rw [upd_same, take_succ_get (x := like d e) (by rw [List.getElem?_zipWith, hd, he]), List.map_append]
      rfl
  · rintro D H1 hD ⟨s1, _, h2⟩
    refine k D H1 s1 ?_
    rw [h2, List.take_of_length_le (by rw [List.length_zipWith]; omega)]
theorem pure_law_like {K : PySem.W.Frag} (n : Nat) (vs : List V) (H : Hp) (Q : VK) (E : XK) (h : sp_law_like K (n + 1) vs H Q E) : t_law_like K n { nx := fun _ H' => Q .non H', rt := Q } (start N_law_like vs) H := by
  obtain ⟨x, y, d, e, rfl, hd, he, hn, k⟩ := h
  show t_law_like K n _ [some x, some y, none, none] H
  have k0 := k H (Same.refl H)
  unfold t_law_like
  walk_at "vc"
  cases he with
  | non =>
    refine iT (by decide) ?_
    walk_at "vc"
    show Q _ _
    cases hd <;> exact k0
  | bl b =>
    refine iF (by simp) ?_
    walk_at "vc"
    refine v_isi (.bl b) (kit_bool _) ⟨_, rfl, ?_⟩
    refine iT rfl ?_
    walk_at "vc"
    refine v_isi hd (kit_bool _) ⟨_, rfl, ?_⟩
    refine ite2 (fun c => ?_) (fun c => ?_)
    · cases hd <;> first | cases c | skip
      walk_at "vc"
      exact v_eqb k0
    · have z : like d (.bool b) = isBool d := by cases d <;> first | rfl | exact absurd rfl c
      rw [z, Bool.eq_false_iff.mpr c] at k0
      exact k0
  | int i =>
    refine iF (by simp) ?_
    walk_at "vc"
    refine v_isi (.int i) (kit_bool _) ⟨_, rfl, ?_⟩
    refine iF (nt rfl) ?_
    walk_at "vc"
    refine ⟨_, _, rfl, .int i, _, rfl, ?_⟩
    refine iT rfl ?_
    walk_at "vc"
    refine ⟨_, _, rfl, hd, _, rfl, ?_⟩
    refine ite2 (fun c => ?_) (fun c => ?_)
    · cases hd <;> first | cases c | skip
      walk_at "vc"
      exact k0
    · have z : like d (.int i) = isInt d := by cases d <;> first | rfl | exact absurd rfl c
      rw [z, Bool.eq_false_iff.mpr c] at k0
      exact k0
  | str z =>
    refine iF (by simp) ?_
    walk_at "vc"
    refine v_isi (.str z) (kit_bool _) ⟨_, rfl, ?_⟩
    refine iF (nt rfl) ?_
    walk_at "vc"
    refine ⟨_, _, rfl, .str z, _, rfl, ?_⟩
    refine iF (nt rfl) ?_
    walk_at "vc"
    refine v_isi (.str z) (kit_str _) ⟨_, rfl, ?_⟩
    refine iT rfl ?_
    walk_at "vc"
    refine v_isi hd (kit_str _) ⟨_, rfl, ?_⟩
    refine ite2 (fun c => ?_) (fun c => ?_)
    · cases hd <;> first | cases c | skip
      walk_at "vc"
      exact k0
    · have z : like d (.str z) = isStr d := by cases d <;> first | rfl | exact absurd rfl c
      rw [z, Bool.eq_false_iff.mpr c] at k0
      exact k0
  | lst hs ha =>
    rename_i q ys es
    have he := Dp.lst hs ha
    refine iF (by simp) ?_
    walk_at "vc"
    refine v_isi he (kit_bool _) ⟨_, rfl, ?_⟩
    refine iF (nt rfl) ?_
    walk_at "vc"
    refine ⟨_, _, rfl, he, _, rfl, ?_⟩
    refine iF (nt rfl) ?_
    walk_at "vc"
    refine v_isi he (kit_str _) ⟨_, rfl, ?_⟩
    refine iF (nt rfl) ?_
    walk_at "vc"
    refine v_isi he (kit_list _) ⟨_, rfl, ?_⟩
    refine iT rfl ?_
    walk_at "vc"
    refine v_isi hd (kit_list _) ⟨_, rfl, ?_⟩
    refine ite2 (fun c => ?_) (fun c => ?_)
    · walk_at "vc"
      have z : like d (.list es) = isList d := by cases d <;> first | rfl | cases c
      rw [z, show isList d = false from by simpa using c] at k0
      exact k0
    · walk_at "vc"
      refine v_isi he (kit_tuple _) ⟨_, rfl, ?_⟩
      refine iF (nt rfl) ?_
      walk_at "vc"
      refine iF (nt rfl) ?_
      cases hd <;> first | exact absurd rfl c | skip
      rename_i p xs ds hx hp
      have lx := dps_len hp
      have ly := dps_len ha
      walk_at "vc"
      have kz := likeAll_zip ds es
      refine ite2 (fun c2 => ?_) (fun c2 => ?_)
      · have c3 : xs.length = ys.length := by have := of_decide_eq_true c2; omega
        rw [decide_eq_true (by omega), Bool.true_and] at kz
        walk_at "vc"
        refine v_izl hx hs ?_
        refine like_lc (walk_zip rfl) (fun H' e => ⟨same_sql e hx, same_sql e hs⟩) hp ha (by omega) (by omega) (by have := hn.1; omega) hn.2 fun l H' e hl => ?_
        walk_at "vc"
        refine ⟨l, _, rfl, SqL.of hl, ?_⟩
        have k1 := k H' e
        rw [show like (.list ds) (.list es) = likeAll ds es from rfl, kz] at k1
        exact k1
      · rw [decide_eq_false (by intro c3; exact c2 (by simp; omega)), Bool.false_and] at kz
        rw [show like (.list ds) (.list es) = likeAll ds es from rfl, kz] at k0
        exact k0
  | tup hs ha =>
    rename_i q ys es
    have he := Dp.tup hs ha
    refine iF (by simp) ?_
    walk_at "vc"
    refine v_isi he (kit_bool _) ⟨_, rfl, ?_⟩
    refine iF (nt rfl) ?_
    walk_at "vc"
    refine ⟨_, _, rfl, he, _, rfl, ?_⟩
    refine iF (nt rfl) ?_
    walk_at "vc"
    refine v_isi he (kit_str _) ⟨_, rfl, ?_⟩
    refine iF (nt rfl) ?_
    walk_at "vc"
    refine v_isi he (kit_list _) ⟨_, rfl, ?_⟩
    refine iF (nt rfl) ?_
    refine iF (nt rfl) ?_
    walk_at "vc"
    refine v_isi he (kit_tuple _) ⟨_, rfl, ?_⟩
    refine iT rfl ?_
    walk_at "vc"
    refine v_isi hd (kit_tuple _) ⟨_, rfl, ?_⟩
    refine ite2 (fun c => ?_) (fun c => ?_)
    · walk_at "vc"
      have z : like d (.tuple es) = isTuple d := by cases d <;> first | rfl | cases c
      rw [z, show isTuple d = false from by simpa using c] at k0
      exact k0
    · walk_at "vc"
      cases hd <;> first | exact absurd rfl c | skip
      rename_i p xs ds hx hp
      have lx := dps_len hp
      have ly := dps_len ha
      walk_at "vc"
      refine v_lent hx ?_
      walk_at "vc"
      refine v_lent hs ?_
      walk_at "vc"
      have kz := likeAll_zip ds es
      refine ite2 (fun c2 => ?_) (fun c2 => ?_)
      · have c3 : xs.length = ys.length := by have := of_decide_eq_true c2; omega
        rw [decide_eq_true (by omega), Bool.true_and] at kz
        walk_at "vc"
        refine v_izt hx hs ?_
        refine like_lc (walk_zipT rfl) (fun H' e => ⟨same_sqt e hx, same_sqt e hs⟩) hp ha (by omega) (by omega) (by have := hn.1; omega) hn.2 fun l H' e hl => ?_
        walk_at "vc"
        refine ⟨l, _, rfl, SqL.of hl, ?_⟩
        have k1 := k H' e
        rw [show like (.tuple ds) (.tuple es) = likeAll ds es from rfl, kz] at k1
        exact k1
      · rw [decide_eq_false (by intro c3; exact c2 (by simp; omega)), Bool.false_and] at kz
        rw [show like (.tuple ds) (.tuple es) = likeAll ds es from rfl, kz] at k0
        exact k0

end
section
abbrev N_law_draw : List Str := ["bag", "size", "item", "digit", "mix"]
def t_law_draw (K : PySem.W.Frag) : TS :=
  (tSeq (tIfS (tTest (tOp rLtI (tVar 1) (tC (.int 2)))) (tRet (tC (.int 0))) tNext)
    (tSeq (tAsg (tOp (rAddU K) (tOp (rIx K) (tVar 0) (tC (.int 4))) (tC (.int 1))) (gSub (tVar 0) (tC (.int 4)) rSetL))
    (tMid (tIfS (tAnd (tTest (tOp (rEqU K) (tOp (rIx K) (tVar 0) (tC (.int 2))) (tC (.int 0)))) (tTest (tOp rLtI (tOp (rIx K) (tVar 0) (tC (.int 1))) (tCB (rLenU K) (tCons (tOp (rIx K) (tVar 0) (tC (.int 0))) tNil))))) (tSeq (tAsg (tCB rInt1 (tCons (tOp (rIx K) (tOp (rIx K) (tVar 0) (tC (.int 0))) (tOp (rIx K) (tVar 0) (tC (.int 1)))) tNil)) (gName 2))
    (tSeq (tAsg (tOp (rAddU K) (tOp (rIx K) (tVar 0) (tC (.int 1))) (tC (.int 1))) (gSub (tVar 0) (tC (.int 1)) rSetL))
    (tIfS (tTest (tOp rGeI (tVar 2) (tOp rPowU (tC (.int 10)) (tC (.int 18))))) (tAsg (tVar 2) (gSub (tVar 0) (tC (.int 2)) rSetL)) (tAsg (tOp rModU (tCB rInt1 (tCons (tOp (rAddU K) (tOp (rAddU K) (tOp rMulU (tOp (rIx K) (tVar 0) (tC (.int 3))) (tC (.int 50021))) (tOp rMulU (tOp rModU (tCB rInt1 (tCons (tVar 2) tNil)) (tC (.int 2147483563))) (tC (.int 30013)))) (tC (.int 223))) tNil)) (tC (.int 2147483647))) (gSub (tVar 0) (tC (.int 3)) rSetL))))) tNext)
    (tSeq (tIfS (tTest (tOp rGtI (tOp (rIx K) (tVar 0) (tC (.int 2))) (tC (.int 0)))) (tSeq (tAsg (tOp rModU (tCB rInt1 (tCons (tOp (rIx K) (tVar 0) (tC (.int 2))) tNil)) (tVar 1)) (gName 3))
    (tSeq (tAsg (tOp rDivU (tCB rInt1 (tCons (tOp (rIx K) (tVar 0) (tC (.int 2))) tNil)) (tVar 1)) (gSub (tVar 0) (tC (.int 2)) rSetL))
    (tRet (tVar 3)))) tNext)
    (tSeq (tAsg (tCB rInt1 (tCons (tOp (rIx K) (tVar 0) (tC (.int 3))) tNil)) (gName 4))
    (tSeq (tAsg (tOp rModU (tCB rInt1 (tCons (tOp (rAddU K) (tOp (rAddU K) (tOp (rAddU K) (tOp rPowU (tVar 4) (tC (.int 3))) (tOp rMulU (tVar 4) (tC (.int 49999)))) (tOp rMulU (tOp (rIx K) (tVar 0) (tC (.int 4))) (tC (.int 1299721)))) (tC (.int 70001))) tNil)) (tC (.int 2147483647))) (gSub (tVar 0) (tC (.int 3)) rSetL))
    (tRet (tOp rModU (tCB rInt1 (tCons (tOp (rAddU K) (tOp rDivU (tOp (rIx K) (tVar 0) (tC (.int 3))) (tC (.int 103))) (tOp rMulU (tOp rModU (tCB rInt1 (tCons (tOp (rIx K) (tVar 0) (tC (.int 3))) tNil)) (tC (.int 7901))) (tC (.int 71)))) tNil)) (tVar 1)))))))))
def sp_law_draw (K : PySem.W.Frag) : Sp := fun vs H Q _ => ∃ b n g, vs = [.ref b, .int n] ∧ Bag K H b g ∧ n < 4149515568880992958512407863691161151012446232242436899995657329690652811412908146399707048947103794288197886611300789182395151075411775307886874834113963687061181803401509523685376 ∧ ∀ d H', 0 ≤ d → (d < n ∨ d = 0) → Bag K H' b g → Kp b H H' → Q (.int d) H'
theorem pure_law_draw {K : PySem.W.Frag} (vs : List V) (H : Hp) (Q : VK) (E : XK) (h : sp_law_draw K vs H Q E) : t_law_draw K { nx := fun _ H' => Q .non H', rt := Q } (start N_law_draw vs) H := by
  obtain ⟨b, z, ⟨c, xs⟩, rfl, ⟨p, r, m, n, B⟩, hz, k⟩ := h
  simp only at B
  have hb2 := B.at_
  show t_law_draw K _ [some (.ref b), some (.int z), none, none, none] H
  unfold t_law_draw
  walk_at "vc"
  refine ite2 (fun h0 => ?_) (fun h0 => ?_)
  · walk_at "vc"
    exact k 0 H (by decide) (.inr rfl) ⟨p, r, m, n, B⟩ (Same.refl _)
  have hz2 : 2 ≤ z := by simpa using h0
  have hz0 : 0 < z := by omega
  have hdz : CDivW (0 : Int) z := cdiv_small hz0 hz
  walk_at "vc"
  refine v_mid (fun σ' H' => ∃ x p' r' m', σ' = [some (.ref b), some (.int z), x, none, none] ∧ BagAt K H' b c p' r' m' (n + 1) xs ∧ Kp b H H') ?_ ?_
  · have B1 := B.put (n' := n + 1) B.p0 B.r0 B.m0 B.m1
    have K1 : Kp b H (upd H b (.lst [.ref c, .int p, .int r, .int m, .int (n + 1)])) := wo_upd (by simp)
    generalize hH : upd H b (HO.lst ([V.ref c, V.int p, V.int r, V.int m, V.int n].set (Int.toNat 4) (V.int (n + 1)))) = H1
    have B2 : BagAt K H1 b c p r m (n + 1) xs := hH ▸ B1
    have K2 : Kp b H H1 := hH ▸ K1
    have hb3 := B2.at_
    have hc3 : SqL K H1 c (xs.map V.int) := same_sql wo_le B2.cells
    clear hH B1 K1
    walk_at "vc"
    refine ite2 (fun h1 => ?_) (fun h1 => ?_)
    · walk_at "vc"
      refine ite2 (fun h2 => ?_) (fun h2 => ?_)
      · walk_at "vc"
        obtain ⟨it, hit⟩ := atI_in B2.p0 (by simpa using h2)
        refine v_ixl hc3 hit ?_
        walk_at "vc"
        refine ite2 (fun h3 => ?_) (fun h3 => ?_)
        · walk_at "vc"
          have h4 : (10 : Int) ^ (18 : Int).toNat ≤ it := of_decide_eq_true h3
          have h5 : (0 : Int) ≤ it := Int.le_trans (by decide) h4
          refine ⟨some (.int it), p + 1, it, m, rfl, ?_, kp_upd (kp_upd K2)⟩
          exact (B2.put (by have := B2.p0; omega) B2.r0 B2.m0 B2.m1).put (by have := B2.p0; omega) h5 B2.m0 B2.m1
        · walk_at "vc"
          refine ⟨some (.int it), p + 1, r, (m * 50021 + it % 2147483563 * 30013 + 223) % 2147483647, rfl, ?_, kp_upd (kp_upd K2)⟩
          exact (B2.put (by have := B2.p0; omega) B2.r0 B2.m0 B2.m1).put (by have := B2.p0; omega) B2.r0 (Int.emod_nonneg _ (by decide)) (Int.emod_lt_of_pos _ (by decide))
      · walk_at "vc"
        exact ⟨none, p, r, m, rfl, B2, K2⟩
    · walk_at "vc"
      refine ite2 (fun h2 => absurd h2 (by decide)) (fun h2 => ?_)
      walk_at "vc"
      exact ⟨none, p, r, m, rfl, B2, K2⟩
  · rintro σ' H1 ⟨x, p', r', m', rfl, B2, K2⟩
    have hb3 := B2.at_
    walk_at "vc"
    refine ite2 (fun h1 => ?_) (fun h1 => ?_)
    · walk_at "vc"
      refine k (r' % z) _ (Int.emod_nonneg _ (by omega)) (.inl (Int.emod_lt_of_pos _ hz0)) ⟨p', r' / z, m', n + 1, B2.put B2.p0 (Int.ediv_nonneg B2.r0 (by omega)) B2.m0 B2.m1⟩ (kp_upd K2)
    · walk_at "vc"
      have hm0 := B2.m0
      have hm1 := B2.m1
      refine v_pow ⟨by decide, by decide, by omega⟩ ?_
      walk_at "vc"
      exact k _ _ (Int.emod_nonneg _ (by omega)) (.inl (Int.emod_lt_of_pos _ hz0)) ⟨p', r', _, n + 1, B2.put B2.p0 B2.r0 (Int.emod_nonneg _ (by decide)) (Int.emod_lt_of_pos _ (by decide))⟩ (kp_upd K2)

end
section
abbrev N_law_of : List Str := ["bag", "things"]
def t_law_of (K : PySem.W.Frag) : TS :=
  (tRet (tOp (rIx K) (tVar 1) (tCall (sp_law_draw K) [] E0 (tCons (tVar 0) (tCons (tCB (rLenU K) (tCons (tVar 1) tNil)) tNil)))))
theorem atI_of {xs : List V} {i : Int} (h0 : 0 ≤ i) (h1 : i < xs.length) : ∃ y, atI xs i = some y ∧ xs[i.toNat]? = some y := by
  have hl : i.toNat < xs.length := by omega
  refine ⟨xs[i.toNat], ?_, List.getElem?_eq_getElem hl⟩
  unfold atI ixN
  rw [if_pos h0, if_pos h1, Option.bind_some, List.getElem?_eq_getElem hl]
theorem size_small {n : Nat} (h : n ≤ sizeLine) : (n : Int) < 4149515568880992958512407863691161151012446232242436899995657329690652811412908146399707048947103794288197886611300789182395151075411775307886874834113963687061181803401509523685376 := by
  rw [sizeLine_eq] at h
  omega
def sp_law_of (K : PySem.W.Frag) : Sp := fun vs H Q _ => ∃ b x g, vs = [.ref b, x] ∧ Bag K H b g ∧
  ((∃ t xs, x = .ref t ∧ (SqL K (wo [b] H) t xs ∨ SqT K (wo [b] H) t xs) ∧ 0 < xs.length ∧ xs.length ≤ sizeLine ∧ ∀ (i : Nat) y H', xs[i]? = some y → Bag K H' b g → Kp b H H' → Q y H') ∨
   ∃ z : Str, x = .str z ∧ 0 < z.length ∧ z.length ≤ sizeLine ∧ ∀ (i : Nat) c H', z.cps.toList[i]? = some c → Bag K H' b g → Kp b H H' → Q (.str ⟨#[c]⟩) H')
theorem pure_law_of {K : PySem.W.Frag} (vs : List V) (H : Hp) (Q : VK) (E : XK) (h : sp_law_of K vs H Q E) : t_law_of K { nx := fun _ H' => Q .non H', rt := Q } (start N_law_of vs) H := by
  obtain ⟨b, x, g, rfl, B, h⟩ := h
  show t_law_of K _ [some (.ref b), some x] H
  unfold t_law_of
  walk_at "vc"
  rcases h with ⟨t, xs, rfl, hs, h0, h1, k⟩ | ⟨z, rfl, h0, h1, k⟩
  · have hb : ∀ {P : Prop}, (SqL K H t xs → P) → (SqT K H t xs → P) → P := fun a b => hs.elim (fun h => a (same_sql wo_le h)) (fun h => b (same_sqt wo_le h))
    have ln : ∀ {Q : VK}, Q (.int xs.length) H → rLenU K [.ref t] H Q := fun q => hb (fun h => v_lenl h q) fun h => v_lent h q
    refine ln ?_
    walk_at "vc"
    refine ⟨b, _, g, rfl, B, size_small h1, fun d H' d0 d1 B' KP => ?_⟩
    have d2 : d < xs.length := by omega
    obtain ⟨y, hy, hy2⟩ := atI_of d0 d2
    rcases hs with hs | hs
    · exact v_ixl (same_sql (KP.trans wo_le) hs) hy (k _ y H' hy2 B' KP)
    · exact v_ixt (same_sqt (KP.trans wo_le) hs) hy (k _ y H' hy2 B' KP)
  · refine v_lens h1 ?_
    walk_at "vc"
    refine ⟨b, _, g, rfl, B, size_small h1, fun d H' d0 d1 B' KP => ?_⟩
    have d2 : d < z.length := by omega
    have hl : d.toNat < z.cps.toList.length := by
      have : z.cps.toList.length = z.length := by simp [Str.length]
      omega
    have e : z.cps.toList[d.toNat]? = some z.cps.toList[d.toNat] := List.getElem?_eq_getElem hl
    refine .inr (.inr ⟨z, d, z.cps.toList[d.toNat], rfl, rfl, h1, ?_, k _ _ H' e B' KP⟩)
    unfold atI ixN
    have hz : z.cps.toList.length = z.length := by simp [Str.length]
    rw [if_pos d0, if_pos (by rw [hz]; exact d2), Option.bind_some, e]

end
section

/-! ### what is new in a heap -/
/-- what H' has and H has not -/
def nw (H H' : Hp) : Hp := fun a => match H a with
  | none => H' a
  | some _ => none
def Em : Hp := fun _ => none
theorem nw_em {H : Hp} : nw Em H = H := rfl
theorem nw_get {H H' : Hp} {a : Addr} {o : HO} (h : nw H H' a = some o) : H a = none ∧ H' a = some o := by
  unfold nw at h
  cases e : H a with
  | none => rw [e] at h; exact ⟨rfl, h⟩
  | some u => rw [e] at h; cases h
theorem nw_at {H H' : Hp} {a : Addr} (h : H a = none) : nw H H' a = H' a := by
  unfold nw
  rw [h]
theorem nw_le {H H' : Hp} : Same (nw H H') H' := fun a o h => (nw_get h).2
/-- the known places do not go -/
def Gr (H H' : Hp) : Prop := ∀ a, H' a = none → H a = none
theorem Gr.refl {H : Hp} : Gr H H := fun _ h => h
theorem Gr.trans {A B C : Hp} (h : Gr A B) (k : Gr B C) : Gr A C := fun a e => h a (k a e)
theorem gr_em {H : Hp} : Gr Em H := fun _ _ => rfl
theorem gr_upd {H : Hp} {a : Addr} {o : HO} : Gr H (upd H a o) := fun b h => by
  by_cases e : b = a
  · subst e
    rw [upd_same] at h
    cases h
  · rwa [upd_ne e] at h
theorem gr_same {H H' : Hp} (h : Same H H') : Gr H H' := fun a e => by
  cases q : H a with
  | none => rfl
  | some o => rw [h a o q] at e; cases e
theorem gr_kp {b : Addr} {H H' : Hp} (h : Kp b H H') (hb : H' b ≠ none) : Gr H H' := fun a e => by
  cases q : H a with
  | none => rfl
  | some o =>
    by_cases z : a = b
    · subst z
      exact absurd e hb
    · rw [kp_get h z q] at e
      cases e
theorem Bag.some {K : PySem.W.Frag} {H : Hp} {b : Addr} {g : Addr × List Int} (B : Bag K H b g) : H b ≠ none := by
  obtain ⟨o, h⟩ := B.get
  rw [h]
  exact fun z => nomatch z
theorem ne_some {H : Hp} {a : Addr} {o : HO} (h : H a = some o) : H a ≠ none := by
  rw [h]
  exact fun z => nomatch z
theorem ne_up {H H' : Hp} {a : Addr} (h : Gr H H') (e : H a ≠ none) : H' a ≠ none := fun z => e (h a z)
/-- the new of H1 to H2 stands in the new of H0 to H3, without S -/
theorem nw_into {S : List Addr} {H0 H1 H2 : Hp} (g : Gr H0 H1) (hs : ∀ a, a ∈ S → H1 a ≠ none) : Same (nw H1 H2) (wo S (nw H0 H2)) := fun a o h => by
  obtain ⟨h1, h2⟩ := nw_get h
  rw [wo_out fun z => hs a z h1, nw_at (g a h1)]
  exact h2
theorem nw_step {S : List Addr} {b : Addr} {H0 H1 H2 : Hp} (k : Kp b H1 H2) (hb : b ∈ S ∨ H0 b ≠ none) : Same (wo S (nw H0 H1)) (wo S (nw H0 H2)) := wo_same fun a ha o h => by
  obtain ⟨h1, h2⟩ := nw_get h
  have ne : a ≠ b := fun z => by
    subst z
    exact hb.elim ha fun q => q h1
  rw [nw_at h1]
  exact kp_get k ne h2
theorem nw_stepW {b : Addr} {H0 H1 H2 : Hp} (k : Kp b H1 H2) (hb : H0 b ≠ none) : Same (nw H0 H1) (nw H0 H2) := fun a o h => by
  obtain ⟨h1, h2⟩ := nw_get h
  have ne : a ≠ b := fun z => by
    subst z
    exact hb h1
  rw [nw_at h1]
  exact kp_get k ne h2
theorem nw_upd {S : List Addr} {H0 H1 : Hp} {a : Addr} {o : HO} (h : a ∈ S) : Same (wo S (nw H0 H1)) (wo S (nw H0 (upd H1 a o))) := wo_same fun x hx u e => by
  obtain ⟨h1, h2⟩ := nw_get e
  have ne : x ≠ a := fun z => by
    subst z
    exact hx h
  rw [nw_at h1, upd_ne ne]
  exact h2
theorem same_sub {S T : List Addr} {H : Hp} (h : ∀ a, a ∈ T → a ∈ S) : Same (wo S H) (wo T H) := wo_sub h
theorem kp_new1 {b a : Addr} {H : Hp} {o : HO} (h : H a = none) : Kp b H (upd H a o) := kp_new (Same.refl _) h
/-- the bag in a greater heap -/
theorem Bag.same {K : PySem.W.Frag} {H H' : Hp} {b : Addr} {g : Addr × List Int} (B : Bag K H b g) (e : Same H H') : Bag K H' b g := by
  obtain ⟨o, h⟩ := B.get
  exact B.move B.cells (kp_same e) (by rw [e _ _ h, h])
/-- a comprehension over range(n), its item drawn from the bag at b: El tells of the items -/
theorem lc_bag {K : PySem.W.Frag} {El : Nat → V → Hp → Prop} {H0 H : Hp} {b : Addr} {g : Addr × List Int} {n v : Nat} {te : TE} {σ : L2.St} {Q : VK} (mono : ∀ i x A B, Same A B → El i x A → El i x B) (B : Bag K H b g) (g0 : Gr H0 H) (hn : n ≤ 1000000)
    (hs : ∀ D i H1, i < n → H D = none → H1 D ≠ none → Bag K H1 b g → Kp b H H1 → ∀ R : VK, (∀ y H2, El i y (wo [b, D] (nw H0 H2)) → Bag K H2 b g → Kp b H1 H2 → R y H2) → te ((wipe σ [v]).set v (some (.int (0 + (i : Nat))))) H1 R)
    (hw : ∀ x : V, wipe ((wipe σ [v]).set v (some x)) [v] = wipe σ [v])
    (hd : ∀ D H' vs, H D = none → Bag K H' b g → Kp b H H' → H' D = some (.lst vs) → vs.length = n → (∀ i x, vs[i]? = some x → El i x (wo [b, D] (nw H0 H'))) → Q (.ref D) H') :
    lcI (Itr 0 n) (gName v) tYes te [v] σ H Q := by
  have hc := B.cells
  refine lc_w walk_range (fun D i H1 => H D = none ∧ Bag K H1 b g ∧ Kp b H H1 ∧ ∃ vs, H1 D = some (.lst vs) ∧ vs.length = i ∧ ∀ i x, vs[i]? = some x → El i x (wo [b, D] (nw H0 H1))) (fun D hD => ⟨hD, B.new hD, kp_new1 hD, ([] : List V), upd_same, rfl, fun i x h => by simp at h⟩) (fun _ _ _ _ _ => trivial) ?_ ?_
  · rintro D i x H1 H' hD hi ⟨_, B1, K1, vs, h1, h2, h3⟩ ⟨rfl, rfl⟩
    refine v_name ⟨hw _, v_yes (iT rfl ?_)⟩
    refine hs D i H' hi hD (ne_some h1) B1 K1 _ fun y H2 e1 B2 K2 => ?_
    have nDb := B.ne hD
    have h4 := kp_get K2 nDb h1
    refine ⟨vs, h4, by rw [sizeLine_eq]; omega, hD, B2.mut hc (K1.trans K2) hD nDb, kp_mut (K1.trans K2) hD, vs ++ [y], upd_same, by simp [h2], fun j z hj => ?_⟩
    have up : Same (wo [b, D] (nw H0 H2)) (wo [b, D] (nw H0 (upd H2 D (.lst (vs ++ [y]))))) := nw_upd (by simp)
    rw [List.getElem?_append] at hj
    split at hj
    · exact mono _ _ _ _ ((nw_step K2 (.inl (by simp))).trans up) (h3 j z hj)
    · rename_i hlt
      have e : j = i := by
        by_cases q : j - vs.length = 0
        · omega
        · rw [List.getElem?_eq_none (by simp; omega)] at hj
          cases hj
      subst e
      have ez : z = y := by simpa [h2] using hj.symm
      subst ez
      exact mono _ _ _ _ up e1
  · rintro D H1 hD ⟨_, B1, K1, vs, h1, h2, h3⟩
    exact hd D H1 vs hD B1 K1 h1 h2 h3
theorem str_of {ys : List Str} {i : Nat} {y : V} (h : (ys.map V.str)[i]? = some y) : ∃ s, y = .str s := by
  rw [List.getElem?_map] at h
  cases e : ys[i]? with
  | none => rw [e] at h; cases h
  | some s =>
    rw [e] at h
    exact ⟨s, (Option.some.inj h).symm⟩
/-- items one by one -/
theorem dps_of {K : PySem.W.Frag} {H : Hp} {P : PyData → Prop} : ∀ {vs : List V}, (∀ (i : Nat) (x : V), vs[i]? = some x → ∃ d, Dp K H x d ∧ P d) → ∃ ds, DpAll K H vs ds ∧ ∀ d, d ∈ ds → P d
  | [], _ => ⟨[], .nil, fun _ h => nomatch h⟩
  | v :: r, h => by
    obtain ⟨d, hd, p⟩ := h 0 v rfl
    obtain ⟨ds, hs, ps⟩ := dps_of (vs := r) fun i x e => h (i + 1) x (by simpa using e)
    refine ⟨d :: ds, .cons hd hs, fun e he => ?_⟩
    rcases List.mem_cons.mp he with z | z
    · subst z; exact p
    · exact ps e z
theorem upd_upd {H : Hp} {a : Addr} {o u : HO} : upd (upd H a o) a u = upd H a u := by
  funext x
  by_cases e : x = a
  · subst e
    rw [upd_same, upd_same]
  · rw [upd_ne e, upd_ne e, upd_ne e]
/-- a comprehension over range(n) whose items touch no heap -/
theorem lc_fn {H : Hp} {n v : Nat} {te : TE} {σ : L2.St} {Q : VK} (f : Nat → V) (hn : n ≤ 1000000) (hs : ∀ (i : Nat) (H1 : Hp) (R : VK), i < n → R (f i) H1 → te ((wipe σ [v]).set v (some (.int (0 + (i : Nat))))) H1 R)
    (hw : ∀ x : V, wipe ((wipe σ [v]).set v (some x)) [v] = wipe σ [v]) (hd : ∀ D, H D = none → Q (.ref D) (upd H D (.lst ((List.range n).map f)))) : lcI (Itr 0 n) (gName v) tYes te [v] σ H Q := by
  refine lc_w walk_range (fun D i H1 => H1 = upd H D (.lst ((List.range i).map f))) (fun D hD => rfl) (fun _ _ _ _ _ => trivial) ?_ ?_
  · rintro D i x H1 H' hD hi rfl ⟨rfl, rfl⟩
    refine v_name ⟨hw _, v_yes (iT rfl ?_)⟩
    refine hs i _ _ hi ⟨_, upd_same, by rw [sizeLine_eq]; simp; omega, ?_⟩
    rw [upd_upd, List.range_succ, List.map_append]
    rfl
  · rintro D H1 hD rfl
    exact hd D hD
theorem dps_bl {K : PySem.W.Frag} {H : Hp} : ∀ {bs : List Bool}, DpAll K H (bs.map V.bl) (bs.map PyData.bool)
  | [] => .nil
  | b :: r => .cons (.bl b) dps_bl
theorem like_true {K : PySem.W.Frag} {n : Nat} {H : Hp} {x y : V} {d : PyData} {Q : VK} {E : XK} (hx : Dp K H x d) (hy : Dp K H y d) (f : fit n d) (q : ∀ H', Same H H' → Q (.bl true) H') : sp_law_like K n [x, y] H Q E :=
  ⟨x, y, d, d, rfl, hx, hy, f, by rw [like_self hx]; exact q⟩
theorem like_bls {K : PySem.W.Frag} {n : Nat} {H : Hp} {x y : Addr} {bs : List Bool} {Q : VK} {E : XK} (hx : SqL K H x (bs.map V.bl)) (hy : SqL K H y (bs.map V.bl)) (l : bs.length ≤ 1000000) (q : ∀ H', Same H H' → Q (.bl true) H') : sp_law_like K (n + 2) [.ref x, .ref y] H Q E :=
  like_true (.lst hx dps_bl) (.lst hy dps_bl) ⟨by rw [List.length_map]; exact l, fun d hd => by
    obtain ⟨b, _, rfl⟩ := List.mem_map.mp hd
    trivial⟩ q
theorem dps_take {K : PySem.W.Frag} {H : Hp} : ∀ {vs : List V} {ds : List PyData} (n : Nat), DpAll K H vs ds → DpAll K H (vs.take n) (ds.take n)
  | _, _, 0, _ => .nil
  | _, _, _ + 1, .nil => .nil
  | _, _, n + 1, .cons h r => .cons h (dps_take n r)
theorem atI_nat {xs : List V} {i : Nat} {x : V} (h : xs[i]? = some x) : atI xs (i : Int) = some x := by
  have hl : i < xs.length := (List.getElem?_eq_some_iff.mp h).1
  unfold atI ixN
  rw [if_pos (by omega), if_pos (by omega), Option.bind_some]
  exact h
theorem v_lrg {ta : TE} {σ : L2.St} {H : Hp} {Q : VK} (q : ta σ H fun x H1 => ∃ n : Nat, x = .int n ∧ n ≤ 1000000 ∧ ∀ q, H1 q = none → Q (.ref q) (upd H1 q (.lst ((List.range n).map fun i => .int (i : Nat))))) (m : ∀ (H : Hp) (P P' : VK), (∀ y H2, P y H2 → P' y H2) → ta σ H P → ta σ H P') : tLstRg (tRg1 ta) σ H Q := by
  refine m _ _ _ ?_ q
  rintro y H2 ⟨n, rfl, hn, h⟩
  refine ⟨n, rfl, RgOk.of_le (by omega) (by omega) (by omega) (by omega), fun p hp => ?_⟩
  have e : rgV 0 (n : Int) = (List.range n).map fun i => V.int (i : Nat) := by
    unfold rgV
    rw [show ((n : Int) - 0).toNat = n by omega]
    refine List.map_congr_left fun i _ => ?_
    rw [Int.zero_add]
  rw [e]
  exact h p hp
theorem v_lrgc {n : Nat} {σ : L2.St} {H : Hp} {Q : VK} (hn : n ≤ 1000000) (q : ∀ q, H q = none → Q (.ref q) (upd H q (.lst ((List.range n).map fun i => .int (i : Nat))))) : tLstRg (tRg1 (tC (.int (n : Nat)))) σ H Q :=
  v_lrg ⟨n, rfl, hn, q⟩ fun _ _ _ h q => h _ _ q
theorem wo_at {S : List Addr} {H : Hp} {a : Addr} {o : HO} (h : H a = some o) (hs : a ∉ S) : wo S H a = some o := by rw [wo_out hs]; exact h
theorem not_two {H : Hp} {a b c : Addr} (ha : H a = none) (hb : H b ≠ none) (hc : H c ≠ none) : a ∉ [b, c] := fun z => by
  rcases List.mem_cons.mp z with e | e
  · subst e; exact hb ha
  · rw [List.mem_singleton.mp e] at ha
    exact hc ha

end
section

/-! ### the data layer: values as data, slots by what is known of them, readings over both -/
inductive Dt where
  | non | bl (b : Bool) | int (i : Int) | str (s : Str) | ty (n : String) | cls (x : Str) | bag
  | lst (l : List Dt) | tup (l : List Dt)
  | obj (C : Str) (fs : List (Str × Dt))
  | err (C : Str) (fs : List (Str × Dt))
  | dk (kvs : List (Key × Dt))
/-- the bag that may be drawn from -/
abbrev Wd : Type := Option (Addr × (Addr × List Int))
def BagI (K : PySem.W.Frag) (W : Wd) (H : Hp) : Prop := ∀ b g, W = some (b, g) → Bag K H b g
def mt (W : Wd) (a : Addr) : Prop := ∃ g, W = some (a, g)
/-- the heap grows: what stands stays, but the bag's cell -/
structure Gw (K : PySem.W.Frag) (W : Wd) (H H' : Hp) : Prop where
  keep : ∀ a o, ¬mt W a → H a = some o → H' a = some o
  bag : BagI K W H'
  ne : ∀ a, H a ≠ none → H' a ≠ none
open Classical in
/-- the heap without what S says -/
noncomputable def hd (S : Addr → Prop) (H : Hp) : Hp := fun a => if S a then none else H a
section
variable {S T : Addr → Prop} {H H' : Hp} {a : Addr} {o : HO}
theorem hd_in (h : S a) : hd S H a = none := if_pos h
theorem hd_out (h : ¬S a) : hd S H a = H a := if_neg h
theorem hd_get (h : hd S H a = some o) : ¬S a ∧ H a = some o := by
  by_cases c : S a
  · rw [hd_in c] at h
    cases h
  · rw [hd_out c] at h
    exact ⟨c, h⟩
theorem hd_at (h : H a = some o) (n : ¬S a) : hd S H a = some o := by rw [hd_out n]; exact h
theorem hd_le : Same (hd S H) H := fun a o h => (hd_get h).2
theorem hd_sub (h : ∀ a, T a → S a) : Same (hd S H) (hd T H) := fun a o e => by
  obtain ⟨h1, h2⟩ := hd_get e
  exact hd_at h2 fun z => h1 (h a z)
theorem hd_mono (h : Same H H') : Same (hd S H) (hd S H') := fun a o e => by
  obtain ⟨h1, h2⟩ := hd_get e
  exact hd_at (h a o h2) h1
theorem hd_new (h : H a = none) : Same (hd S H) (hd S (upd H a o)) := hd_mono (same_new h)
theorem hd_set (h : S a) : Same (hd S H) (hd S (upd H a o)) := fun b u e => by
  obtain ⟨h1, h2⟩ := hd_get e
  have ne : b ≠ a := fun z => h1 (z ▸ h)
  exact hd_at (by rw [upd_ne ne]; exact h2) h1
end
section
variable {K : PySem.W.Frag} {W : Wd} {H H1 H2 : Hp} {a : Addr} {o : HO}
theorem Gw.refl (b : BagI K W H) : Gw K W H H := ⟨fun _ _ _ h => h, b, fun _ h => h⟩
theorem Gw.trans (x : Gw K W H H1) (y : Gw K W H1 H2) : Gw K W H H2 := ⟨fun a o n h => y.keep a o n (x.keep a o n h), y.bag, fun a h => y.ne a (x.ne a h)⟩
theorem BagI.same (b : BagI K W H) (e : Same H H1) : BagI K W H1 := fun x g h => (b x g h).same e
theorem Gw.of (b : BagI K W H) (e : Same H H1) : Gw K W H H1 := ⟨fun a o _ h => e a o h, b.same e, fun a h z => h (gr_same e a z)⟩
theorem Gw.new (b : BagI K W H) (h : H a = none) : Gw K W H (upd H a o) := .of b (same_new h)
theorem Gw.hd (x : Gw K W H H1) {S : Addr → Prop} (m : ∀ a, mt W a → S a) : Same (C.hd S H) (C.hd S H1) := fun a o e => by
  obtain ⟨h1, h2⟩ := hd_get e
  exact hd_at (x.keep a o (fun z => h1 (m a z)) h2) h1
/-- a write to what an elder heap does not know -/
theorem BagI.mut' (b0 : BagI K W H) (b : BagI K W H1) (g : Gw K W H H1) (h : H a = none) : BagI K W (upd H1 a o) := fun x gg e => by
  have B0 := b0 x gg e
  refine (b x gg e).mut B0.cells (wo_same fun c hc u q => g.keep c u (fun ⟨g2, z⟩ => ?_) q) h (B0.ne h)
  rw [e] at z
  cases z
  exact hc (by simp)
theorem Gw.put (b0 : BagI K W H) (g : Gw K W H H1) (h : H a = none) : Gw K W H (upd H1 a o) := ⟨fun c u n e => by rw [upd_ne (ne_of_none e h)]; exact g.keep c u n e, b0.mut' g.bag g h, fun c e => by
  by_cases z : c = a
  · subst z
    exact absurd h e
  · rw [upd_ne z]
    exact g.ne c e⟩
end
/-! ### values -/
mutual
/-- v is the datum d -/
inductive Dv (K : PySem.W.Frag) (W : Wd) (H : Hp) : V → Dt → Prop
  | non : Dv K W H .non .non
  | bl (b : Bool) : Dv K W H (.bl b) (.bl b)
  | int (i : Int) : Dv K W H (.int i) (.int i)
  | str (s : Str) : Dv K W H (.str s) (.str s)
  | ty (n : String) : Dv K W H (.ty n) (.ty n)
  | cls (x : Str) : Dv K W H (.ref (He.ga K x)) (.cls x)
  | bag {b : Addr} {g : Addr × List Int} : W = some (b, g) → Dv K W H (.ref b) .bag
  | lst {a : Addr} {xs : List V} {ds : List Dt} : H a = some (.lst xs) → DvA K W H xs ds → Dv K W H (.ref a) (.lst ds)
  | tup {a : Addr} {xs : List V} {ds : List Dt} : SqT K H a xs → DvA K W H xs ds → Dv K W H (.ref a) (.tup ds)
  | obj {a dx : Addr} {C : Str} {fs : List (Str × V)} {ds : List (Str × Dt)} : H a = some (.ins (He.ga K C) dx fs) → DvF K W H fs ds → (∀ f, ds.lookup f = none → fs.lookup f = none) → Dv K W H (.ref a) (.obj C ds)
  | dk {a : Addr} {kvs : List (Key × V)} {ds : List (Key × Dt)} : H a = some (.dK kvs) → DvK K W H kvs ds → Dv K W H (.ref a) (.dk ds)
inductive DvA (K : PySem.W.Frag) (W : Wd) (H : Hp) : List V → List Dt → Prop
  | nil : DvA K W H [] []
  | cons {v : V} {d : Dt} {vs : List V} {ds : List Dt} : Dv K W H v d → DvA K W H vs ds → DvA K W H (v :: vs) (d :: ds)
inductive DvK (K : PySem.W.Frag) (W : Wd) (H : Hp) : List (Key × V) → List (Key × Dt) → Prop
  | nil : DvK K W H [] []
  | cons {k : Key} {v : V} {d : Dt} {vs : List (Key × V)} {ds : List (Key × Dt)} : Dv K W H v d → DvK K W H vs ds → DvK K W H ((k, v) :: vs) ((k, d) :: ds)
inductive DvF (K : PySem.W.Frag) (W : Wd) (H : Hp) : List (Str × V) → List (Str × Dt) → Prop
  | nil {fs : List (Str × V)} : DvF K W H fs []
  | cons {fs : List (Str × V)} {f : Str} {v : V} {d : Dt} {ds : List (Str × Dt)} : fs.lookup f = some v → Dv K W H v d → DvF K W H fs ds → DvF K W H fs ((f, d) :: ds)
end
section
variable {K : PySem.W.Frag} {W : Wd} {A B : Hp}
mutual
theorem Dv.same (e : Same A B) : ∀ {v : V} {d : Dt}, Dv K W A v d → Dv K W B v d
  | _, _, .non => .non
  | _, _, .bl b => .bl b
  | _, _, .int i => .int i
  | _, _, .str s => .str s
  | _, _, .ty n => .ty n
  | _, _, .cls x => .cls x
  | _, _, .bag h => .bag h
  | _, _, .lst h r => .lst (e _ _ h) (DvA.same e r)
  | _, _, .tup h r => .tup (same_sqt e h) (DvA.same e r)
  | _, _, .obj h r n => .obj (e _ _ h) (DvF.same e r) n
  | _, _, .dk h r => .dk (e _ _ h) (DvK.same e r)
theorem DvA.same (e : Same A B) : ∀ {vs : List V} {ds : List Dt}, DvA K W A vs ds → DvA K W B vs ds
  | _, _, .nil => .nil
  | _, _, .cons h r => .cons (Dv.same e h) (DvA.same e r)
theorem DvK.same (e : Same A B) : ∀ {vs : List (Key × V)} {ds : List (Key × Dt)}, DvK K W A vs ds → DvK K W B vs ds
  | _, _, .nil => .nil
  | _, _, .cons h r => .cons (Dv.same e h) (DvK.same e r)
theorem DvF.same (e : Same A B) : ∀ {fs : List (Str × V)} {ds : List (Str × Dt)}, DvF K W A fs ds → DvF K W B fs ds
  | _, _, .nil => .nil
  | _, _, .cons l h r => .cons l (Dv.same e h) (DvF.same e r)
end
theorem DvA.len : ∀ {vs : List V} {ds : List Dt}, DvA K W A vs ds → vs.length = ds.length
  | _, _, .nil => rfl
  | _, _, .cons _ r => by rw [List.length_cons, List.length_cons, DvA.len r]
theorem DvA.get : ∀ {vs : List V} {ds : List Dt} {i : Nat} {v : V}, DvA K W A vs ds → vs[i]? = some v → ∃ d, ds[i]? = some d ∧ Dv K W A v d
  | _, _, 0, _, .cons h _, e => by
    cases e
    exact ⟨_, rfl, h⟩
  | _ :: vs, _ :: _, i + 1, v, .cons _ r, e => DvA.get (vs := vs) (i := i) (v := v) r (by simpa using e)
theorem DvA.get' {vs : List V} {ds : List Dt} {i : Nat} {d : Dt} (h : DvA K W A vs ds) (e : ds[i]? = some d) : ∃ v, vs[i]? = some v ∧ Dv K W A v d := by
  have l : i < vs.length := by rw [h.len]; exact (List.getElem?_eq_some_iff.mp e).1
  obtain ⟨d', h1, h2⟩ := h.get (List.getElem?_eq_getElem l)
  rw [e] at h1
  cases h1
  exact ⟨_, List.getElem?_eq_getElem l, h2⟩
theorem DvA.app : ∀ {vs us : List V} {ds es : List Dt}, DvA K W A vs ds → DvA K W A us es → DvA K W A (vs ++ us) (ds ++ es)
  | _, _, _, _, .nil, k => k
  | _, _, _, _, .cons h r, k => .cons h (DvA.app r k)
theorem DvA.take : ∀ {vs : List V} {ds : List Dt} (n : Nat), DvA K W A vs ds → DvA K W A (vs.take n) (ds.take n)
  | _, _, 0, _ => by rw [List.take_zero, List.take_zero]; exact .nil
  | _, _, _ + 1, .nil => .nil
  | _, _, n + 1, .cons h r => .cons h (DvA.take n r)
theorem DvA.drop : ∀ {vs : List V} {ds : List Dt} (n : Nat), DvA K W A vs ds → DvA K W A (vs.drop n) (ds.drop n)
  | _, _, 0, h => h
  | _, _, _ + 1, .nil => .nil
  | _, _, n + 1, .cons _ r => DvA.drop n r
theorem DvA.set : ∀ {vs : List V} {ds : List Dt} {v : V} {d : Dt} (n : Nat), DvA K W A vs ds → Dv K W A v d → DvA K W A (vs.set n v) (ds.set n d)
  | _, _, _, _, _, .nil, _ => .nil
  | _, _, _, _, 0, .cons _ r, k => .cons k r
  | _, _, _, _, n + 1, .cons h r, k => .cons h (DvA.set n r k)
theorem DvA.rev : ∀ {vs : List V} {ds : List Dt}, DvA K W A vs ds → DvA K W A vs.reverse ds.reverse
  | _, _, .nil => .nil
  | _, _, .cons h r => by
    rw [List.reverse_cons, List.reverse_cons]
    exact (DvA.rev r).app (.cons h .nil)
theorem DvA.ints : ∀ {vs : List V} {ns : List Int}, DvA K W A vs (ns.map Dt.int) → vs = ns.map V.int
  | _, [], .nil => rfl
  | _, _ :: ns, .cons (.int i) r => by rw [DvA.ints r]; rfl
theorem DvA.of_ints : ∀ {ns : List Int}, DvA K W A (ns.map V.int) (ns.map Dt.int)
  | [] => .nil
  | n :: _ => .cons (.int n) DvA.of_ints
theorem DvA.bls : ∀ {vs : List V} {ns : List Bool}, DvA K W A vs (ns.map Dt.bl) → vs = ns.map V.bl
  | _, [], .nil => rfl
  | _, _ :: ns, .cons (.bl i) r => by rw [DvA.bls r]; rfl
theorem DvA.strs : ∀ {vs : List V} {ns : List Str}, DvA K W A vs (ns.map Dt.str) → vs = ns.map V.str
  | _, [], .nil => rfl
  | _, _ :: ns, .cons (.str i) r => by rw [DvA.strs r]; rfl
theorem DvA.one {v : V} {d : Dt} (h : Dv K W A v d) : DvA K W A [v] [d] := .cons h .nil
theorem DvF.get : ∀ {fs : List (Str × V)} {ds : List (Str × Dt)} {f : Str} {d : Dt}, DvF K W A fs ds → ds.lookup f = some d → ∃ v, fs.lookup f = some v ∧ Dv K W A v d
  | _, _, f, d, .cons (f := g) l h r, e => by
    rw [List.lookup_cons] at e
    split at e
    · rename_i q
      have : f = g := by simpa using q
      subst this
      cases e
      exact ⟨_, l, h⟩
    · exact DvF.get r e
end
/-! ### slots -/
inductive Sl where
  | no | val (d : Dt) | own (l : List Dt) | ins (x : Addr) (C : Str) (fs : List (Str × Dt)) | exn (a dd : Addr) (C : Str) (fs : List (Str × Dt))
abbrev Ro : Type := List Sl
def gt : Ro → Nat → Sl
  | [], _ => .no
  | s :: _, 0 => s
  | _ :: r, n + 1 => gt r n
def pt : Ro → Nat → Sl → Ro
  | [], _, _ => []
  | _ :: r, 0, s => s :: r
  | x :: r, n + 1, s => x :: pt r n s
theorem pt_len : ∀ (ρ : Ro) (i : Nat) (s : Sl), (pt ρ i s).length = ρ.length
  | [], _, _ => rfl
  | _ :: _, 0, _ => rfl
  | _ :: r, n + 1, s => by show (pt r n s).length + 1 = r.length + 1; rw [pt_len r n s]
theorem gt_pt_ne : ∀ {ρ : Ro} {i j : Nat} {s : Sl}, j ≠ i → gt (pt ρ i s) j = gt ρ j
  | [], _, _, _, _ => rfl
  | _ :: _, 0, 0, _, h => absurd rfl h
  | _ :: _, 0, _ + 1, _, _ => rfl
  | _ :: _, _ + 1, 0, _, _ => rfl
  | _ :: r, i + 1, j + 1, s, h => gt_pt_ne (ρ := r) (i := i) (j := j) fun e => h (by rw [e])
theorem gt_pt : ∀ {ρ : Ro} {i : Nat} {s : Sl}, i < ρ.length → gt (pt ρ i s) i = s
  | [], _, _, h => absurd h (Nat.not_lt_zero _)
  | _ :: _, 0, _, _ => rfl
  | _ :: r, i + 1, s, h => gt_pt (ρ := r) (i := i) (by simpa using h)
theorem gt_out : ∀ {ρ : Ro} {i : Nat}, ρ.length ≤ i → gt ρ i = .no
  | [], _, _ => rfl
  | _ :: _, 0, h => absurd h (by simp)
  | _ :: r, i + 1, h => gt_out (ρ := r) (i := i) (by simpa using h)
theorem gt_pt_out : ∀ {ρ : Ro} {i : Nat} {s : Sl}, ρ.length ≤ i → pt ρ i s = ρ
  | [], _, _, _ => rfl
  | _ :: _, 0, _, h => absurd h (by simp)
  | x :: r, i + 1, s, h => by show x :: pt r i s = x :: r; rw [gt_pt_out (ρ := r) (by simpa using h)]
/-- the slot's thing is the frame's own -/
def Sl.owned : Sl → Bool
  | .own _ => true
  | .ins _ _ _ => true
  | _ => false
/-- what the frame hides: what is hidden from it, and its own things -/
def hid (S : Addr → Prop) (α : Nat → Addr) (ρ : Ro) (a : Addr) : Prop := S a ∨ ∃ i, (gt ρ i).owned = true ∧ α i = a
def SlR (K : PySem.W.Frag) (W : Wd) (S : Addr → Prop) (H : Hp) (a : Addr) (ov : Option (Option V)) : Sl → Prop
  | .no => True
  | .val d => ∃ v, ov = some (some v) ∧ Dv K W (hd S H) v d
  | .own l => ov = some (some (.ref a)) ∧ ∃ vs, H a = some (.lst vs) ∧ DvA K W (hd S H) vs l
  | .ins x C ds => ov = some (some (.ref a)) ∧ a = x ∧ ∃ dx fs, H a = some (.ins (He.ga K C) dx fs) ∧ DvF K W (hd S H) fs ds ∧ (∀ f, ds.lookup f = none → fs.lookup f = none) ∧ fs.length ≤ ds.length
  | .exn b dd C ds => ov = some (some (.ref b)) ∧ ∃ gs, hd S H dd = some (.xd gs) ∧ DvF K W (hd S H) gs ds
/-- the frame: S0 hidden from it, H0 the heap at its entry, α where its own things stand -/
structure Env (K : PySem.W.Frag) (W : Wd) (S0 : Addr → Prop) (H0 : Hp) (α : Nat → Addr) (H : Hp) (σ : L2.St) (ρ : Ro) : Prop where
  len : σ.length = ρ.length
  bag0 : BagI K W H0
  gw : Gw K W H0 H
  kn : ∀ a, S0 a → H a ≠ none
  ms : ∀ a, mt W a → S0 a
  new : ∀ i, (gt ρ i).owned = true → H0 (α i) = none ∧ ¬S0 (α i)
  inj : ∀ i j, (gt ρ i).owned = true → (gt ρ j).owned = true → α i = α j → i = j
  sl : ∀ i, SlR K W (hid S0 α ρ) H (α i) σ[i]? (gt ρ i)
section
variable {K : PySem.W.Frag} {W : Wd} {S0 S : Addr → Prop} {H0 H H' : Hp} {α : Nat → Addr} {σ : L2.St} {ρ : Ro}
theorem SlR.ex {S S' : Addr → Prop} {H H' : Hp} {a : Addr} {ov : Option (Option V)} {s : Sl} (e : Same (hd S H) (hd S' H')) (ea : s.owned = true → H' a = H a) (h : SlR K W S H a ov s) : SlR K W S' H' a ov s := by
  cases s with
  | no => trivial
  | val d =>
    obtain ⟨v, h1, h2⟩ := h
    exact ⟨v, h1, h2.same e⟩
  | own l =>
    obtain ⟨h1, vs, h2, h3⟩ := h
    exact ⟨h1, vs, (ea rfl).trans h2, h3.same e⟩
  | ins x C ds =>
    obtain ⟨h1, hx, dx, fs, h2, h3, h4⟩ := h
    exact ⟨h1, hx, dx, fs, (ea rfl).trans h2, h3.same e, h4⟩
  | exn b dd C ds =>
    obtain ⟨h1, gs, h2, h3⟩ := h
    exact ⟨h1, gs, e _ _ h2, h3.same e⟩
theorem SlR.some {S : Addr → Prop} {a : Addr} {ov : Option (Option V)} {s : Sl} (o : s.owned = true) (h : SlR K W S H a ov s) : ∃ u, H a = some u := by
  cases s with
  | no => cases o
  | val d => cases o
  | own l =>
    obtain ⟨h1, vs, h2, h3⟩ := h
    exact ⟨_, h2⟩
  | ins x C ds =>
    obtain ⟨h1, hx, dx, fs, h2, h3⟩ := h
    exact ⟨_, h2⟩
  | exn b dd C ds => cases o
theorem Env.hms (I : Env K W S0 H0 α H σ ρ) : ∀ a, mt W a → hid S0 α ρ a := fun a h => .inl (I.ms a h)
theorem Env.hkn (I : Env K W S0 H0 α H σ ρ) : ∀ a, hid S0 α ρ a → H a ≠ none := fun a h => by
  rcases h with h | ⟨i, h1, rfl⟩
  · exact I.kn a h
  · obtain ⟨u, hu⟩ := (I.sl i).some h1
    rw [hu]
    exact fun z => nomatch z
/-- more in the heap -/
theorem Env.grow (I : Env K W S0 H0 α H σ ρ) (g : Gw K W H H') : Env K W S0 H0 α H' σ ρ where
  len := I.len
  bag0 := I.bag0
  gw := I.gw.trans g
  kn := fun a h => g.ne a (I.kn a h)
  ms := I.ms
  new := I.new
  inj := I.inj
  sl := fun i => (I.sl i).ex (g.hd I.hms) fun o => by
    obtain ⟨u, hu⟩ := (I.sl i).some o
    rw [hu]
    exact g.keep _ _ (fun z => (I.new i o).2 (I.ms _ z)) hu
/-- a slot gets a value -/
theorem Env.set (I : Env K W S0 H0 α H σ ρ) {i : Nat} {v : V} {d : Dt} (h : Dv K W (hd (hid S0 α ρ) H) v d) : Env K W S0 H0 α H (σ.set i (some v)) (pt ρ i (.val d)) ∧ Same (hd (hid S0 α ρ) H) (hd (hid S0 α (pt ρ i (.val d))) H) := by
  have le : ∀ j, (gt (pt ρ i (.val d)) j).owned = true → j ≠ i ∧ (gt ρ j).owned = true := fun j hj => by
    by_cases e : j = i
    · subst e
      by_cases l : j < ρ.length
      · rw [gt_pt l] at hj
        cases hj
      · rw [gt_pt_out (by omega), gt_out (by omega)] at hj
        cases hj
    · rw [gt_pt_ne e] at hj
      exact ⟨e, hj⟩
  have sub : ∀ a, hid S0 α (pt ρ i (.val d)) a → hid S0 α ρ a := fun a q => by
    rcases q with q | ⟨j, h1, h2⟩
    · exact .inl q
    · exact .inr ⟨j, (le j h1).2, h2⟩
  have sm : Same (hd (hid S0 α ρ) H) (hd (hid S0 α (pt ρ i (.val d))) H) := hd_sub sub
  refine ⟨⟨by rw [List.length_set, pt_len, I.len], I.bag0, I.gw, I.kn, I.ms, fun j hj => I.new j (le j hj).2, fun j k hj hk => I.inj j k (le j hj).2 (le k hk).2, fun j => ?_⟩, sm⟩
  by_cases e : j = i
  · subst e
    by_cases l : j < ρ.length
    · rw [gt_pt l]
      exact ⟨v, by rw [List.getElem?_set_self (by rw [I.len]; exact l)], h.same sm⟩
    · rw [gt_pt_out (by omega), gt_out (by omega)]
      trivial
  · rw [gt_pt_ne e, List.getElem?_set_ne (by omega)]
    exact (I.sl j).ex sm fun _ => rfl
def upα (α : Nat → Addr) (i : Nat) (p : Addr) (j : Nat) : Addr := if j = i then p else α j
theorem upα_eq {i j : Nat} {p : Addr} (e : j = i) : upα α i p j = p := if_pos e
theorem upα_ne {i j : Nat} {p : Addr} (e : ¬j = i) : upα α i p j = α j := if_neg e
/-- a slot gets a thing of its own: o at the new place p -/
theorem Env.setOwn (I : Env K W S0 H0 α H σ ρ) {i : Nat} {p : Addr} {s : Sl} {u : HO} (hp : H p = none) (hs : s.owned = true) (h : ∀ S : Addr → Prop, (∀ a, S a → hid S0 α ρ a ∨ a = p) → SlR K W S (upd H p u) p (some (some (.ref p))) s) :
    Env K W S0 H0 (upα α i p) (upd H p u) (σ.set i (some (.ref p))) (pt ρ i s) ∧ Same (hd (hid S0 α ρ) H) (hd (hid S0 (upα α i p) (pt ρ i s)) (upd H p u)) := by
  have hp0 : H0 p = none := by
    cases q : H0 p with
    | none => rfl
    | some w => exact absurd hp (I.gw.ne p (by rw [q]; exact fun z => nomatch z))
  have le : ∀ j, j ≠ i → (gt (pt ρ i s) j).owned = true → (gt ρ j).owned = true := fun j e hj => by rwa [gt_pt_ne e] at hj
  have sub : ∀ a, hid S0 (upα α i p) (pt ρ i s) a → hid S0 α ρ a ∨ a = p := fun a q => by
    rcases q with q | ⟨j, h1, h2⟩
    · exact .inl (.inl q)
    · by_cases e : j = i
      · rw [upα_eq e] at h2
        exact .inr h2.symm
      · rw [upα_ne e] at h2
        exact .inl (.inr ⟨j, le j e h1, h2⟩)
  have g : Gw K W H (upd H p u) := .new I.gw.bag hp
  have sm : Same (hd (hid S0 α ρ) H) (hd (hid S0 (upα α i p) (pt ρ i s)) (upd H p u)) := fun a w e => by
    obtain ⟨h1, h2⟩ := hd_get e
    have ne : a ≠ p := ne_of_none h2 hp
    exact hd_at (by rw [upd_ne ne]; exact h2) fun z => (sub a z).elim h1 ne
  have αp : ∀ j, (gt ρ j).owned = true → α j ≠ p := fun j hj e => by
    obtain ⟨w, hw⟩ := (I.sl j).some hj
    rw [e, hp] at hw
    cases hw
  refine ⟨⟨by rw [List.length_set, pt_len, I.len], I.bag0, I.gw.trans g, fun a q => g.ne a (I.kn a q), I.ms, fun j hj => ?_, fun j k hj hk e => ?_, fun j => ?_⟩, sm⟩
  · by_cases e : j = i
    · rw [upα_eq e]
      exact ⟨hp0, fun z => I.kn p z hp⟩
    · rw [upα_ne e]
      exact I.new j (le j e hj)
  · by_cases e1 : j = i
    · by_cases e2 : k = i
      · rw [e1, e2]
      · rw [upα_eq e1, upα_ne e2] at e
        exact absurd e.symm (αp k (le k e2 hk))
    · by_cases e2 : k = i
      · rw [upα_ne e1, upα_eq e2] at e
        exact absurd e (αp j (le j e1 hj))
      · rw [upα_ne e1, upα_ne e2] at e
        exact I.inj j k (le j e1 hj) (le k e2 hk) e
  · by_cases e : j = i
    · subst e
      rw [upα_eq rfl]
      by_cases l : j < ρ.length
      · rw [gt_pt l, List.getElem?_set_self (by rw [I.len]; exact l)]
        exact h _ sub
      · rw [gt_pt_out (by omega), gt_out (by omega)]
        trivial
    · rw [upα_ne e, gt_pt_ne e, List.getElem?_set_ne (by omega)]
      refine (I.sl j).ex sm fun o => ?_
      rw [upd_ne (αp j o)]
/-- an own thing is changed -/
theorem Env.put (I : Env K W S0 H0 α H σ ρ) {i : Nat} {s : Sl} {u : HO} (o : (gt ρ i).owned = true) (hs : s.owned = true) (h : SlR K W (hid S0 α ρ) (upd H (α i) u) (α i) (some (some (.ref (α i)))) s) (hσ : σ[i]? = some (some (.ref (α i)))) :
    Env K W S0 H0 α (upd H (α i) u) σ (pt ρ i s) ∧ Same (hd (hid S0 α ρ) H) (hd (hid S0 α (pt ρ i s)) (upd H (α i) u)) := by
  have li : i < ρ.length := by
    apply Classical.byContradiction
    intro q
    rw [gt_out (by omega)] at o
    cases o
  have ow : ∀ j, (gt (pt ρ i s) j).owned = (gt ρ j).owned := fun j => by
    by_cases e : j = i
    · subst e
      rw [gt_pt li, hs, o]
    · rw [gt_pt_ne e]
  have hh : hid S0 α (pt ρ i s) = hid S0 α ρ := by
    funext a
    unfold hid
    simp only [ow]
  obtain ⟨n1, n2⟩ := I.new i o
  have sm : Same (hd (hid S0 α ρ) H) (hd (hid S0 α ρ) (upd H (α i) u)) := hd_set (.inr ⟨i, o, rfl⟩)
  have g : Gw K W H0 (upd H (α i) u) := .put I.bag0 I.gw n1
  refine ⟨⟨by rw [pt_len, I.len], I.bag0, g, fun a q => ?_, I.ms, fun j hj => I.new j (ow j ▸ hj), fun j k hj hk => I.inj j k (ow j ▸ hj) (ow k ▸ hk), fun j => ?_⟩, by rw [hh]; exact sm⟩
  · by_cases e : a = α i
    · subst e
      exact absurd q n2
    · rw [upd_ne e]
      exact I.kn a q
  · rw [hh]
    by_cases e : j = i
    · subst e
      rw [gt_pt li, hσ]
      exact h
    · rw [gt_pt_ne e]
      refine (I.sl j).ex sm fun oj => ?_
      rw [upd_ne fun z => e (I.inj j i oj o z)]
/-- an own list is no more changed -/
theorem Env.freeze (I : Env K W S0 H0 α H σ ρ) {i : Nat} {l : List Dt} (e : gt ρ i = .own l) : Env K W S0 H0 α H σ (pt ρ i (.val (.lst l))) ∧ Same (hd (hid S0 α ρ) H) (hd (hid S0 α (pt ρ i (.val (.lst l)))) H) := by
  have li : i < ρ.length := by
    apply Classical.byContradiction
    intro q
    rw [gt_out (by omega)] at e
    cases e
  have le : ∀ j, (gt (pt ρ i (.val (.lst l))) j).owned = true → j ≠ i ∧ (gt ρ j).owned = true := fun j hj => by
    by_cases e : j = i
    · subst e
      rw [gt_pt li] at hj
      cases hj
    · rw [gt_pt_ne e] at hj
      exact ⟨e, hj⟩
  have sub : ∀ a, hid S0 α (pt ρ i (.val (.lst l))) a → hid S0 α ρ a := fun a q => by
    rcases q with q | ⟨j, h1, h2⟩
    · exact .inl q
    · exact .inr ⟨j, (le j h1).2, h2⟩
  have sm : Same (hd (hid S0 α ρ) H) (hd (hid S0 α (pt ρ i (.val (.lst l)))) H) := hd_sub sub
  have oi : (gt ρ i).owned = true := by rw [e]; rfl
  refine ⟨⟨by rw [pt_len, I.len], I.bag0, I.gw, I.kn, I.ms, fun j hj => I.new j (le j hj).2, fun j k hj hk => I.inj j k (le j hj).2 (le k hk).2, fun j => ?_⟩, sm⟩
  by_cases ej : j = i
  · subst ej
    rw [gt_pt li]
    have q := I.sl j
    rw [e] at q
    obtain ⟨q1, vs, q2, q3⟩ := q
    refine ⟨_, q1, .lst (hd_at q2 fun z => ?_) (q3.same sm)⟩
    rcases z with z | ⟨k, h1, h2⟩
    · exact (I.new j oi).2 z
    · exact (le k h1).1 (I.inj k j (le k h1).2 oi h2)
  · rw [gt_pt_ne ej]
    exact (I.sl j).ex sm fun _ => rfl
/-- a new place is hidden from the frame -/
theorem Env.hide (I : Env K W S0 H0 α H σ ρ) {p : Addr} (g : Gw K W H H') (h : H p = none) (h' : H' p ≠ none) : Env K W (fun a => S0 a ∨ a = p) H0 α H' σ ρ ∧ Same (hd (hid S0 α ρ) H) (hd (hid (fun a => S0 a ∨ a = p) α ρ) H') := by
  have αp : ∀ j, (gt ρ j).owned = true → α j ≠ p := fun j hj e => by
    obtain ⟨w, hw⟩ := (I.sl j).some hj
    rw [e, h] at hw
    cases hw
  have sub : ∀ a, hid (fun a => S0 a ∨ a = p) α ρ a → hid S0 α ρ a ∨ a = p := fun a z => by
    rcases z with (z | z) | z
    · exact .inl (.inl z)
    · exact .inr z
    · exact .inl (.inr z)
  have sm : Same (hd (hid S0 α ρ) H) (hd (hid (fun a => S0 a ∨ a = p) α ρ) H') := fun a o e => by
    obtain ⟨h1, h2⟩ := hd_get e
    exact hd_at (g.keep a o (fun z => h1 (I.hms a z)) h2) fun z => (sub a z).elim h1 (ne_of_none h2 h)
  refine ⟨⟨I.len, I.bag0, I.gw.trans g, fun a z => ?_, fun a z => .inl (I.ms a z), fun i hi => ⟨(I.new i hi).1, fun z => z.elim (I.new i hi).2 (αp i hi)⟩, I.inj, fun i => (I.sl i).ex sm fun o => ?_⟩, sm⟩
  · rcases z with z | z
    · exact g.ne a (I.kn a z)
    · rw [z]; exact h'
  · obtain ⟨u, hu⟩ := (I.sl i).some o
    rw [hu]
    exact g.keep _ _ (fun z => (I.new i o).2 (I.ms _ z)) hu
/-- what was hidden becomes a slot's own -/
theorem Env.adopt {p : Addr} (I : Env K W (fun a => S0 a ∨ a = p) H0 α H σ ρ) (h0 : H0 p = none) (hS : ¬S0 p) {i : Nat} {s : Sl} (hs : s.owned = true) (h : SlR K W (hid (fun a => S0 a ∨ a = p) α ρ) H p (some (some (.ref p))) s) :
    Env K W S0 H0 (upα α i p) H (σ.set i (some (.ref p))) (pt ρ i s) ∧ Same (hd (hid (fun a => S0 a ∨ a = p) α ρ) H) (hd (hid S0 (upα α i p) (pt ρ i s)) H) := by
  have le : ∀ j, j ≠ i → (gt (pt ρ i s) j).owned = true → (gt ρ j).owned = true := fun j e hj => by rwa [gt_pt_ne e] at hj
  have sub : ∀ a, hid S0 (upα α i p) (pt ρ i s) a → hid (fun a => S0 a ∨ a = p) α ρ a := fun a q => by
    rcases q with q | ⟨j, h1, h2⟩
    · exact .inl (.inl q)
    · by_cases e : j = i
      · rw [upα_eq e] at h2
        exact .inl (.inr h2.symm)
      · rw [upα_ne e] at h2
        exact .inr ⟨j, le j e h1, h2⟩
  have sm := hd_sub (H := H) sub
  have αp : ∀ j, (gt ρ j).owned = true → α j ≠ p := fun j hj e => (I.new j hj).2 (.inr e)
  refine ⟨⟨by rw [List.length_set, pt_len, I.len], I.bag0, I.gw, fun a z => I.kn a (.inl z), fun a z => ?_, fun j hj => ?_, fun j k hj hk e => ?_, fun j => ?_⟩, sm⟩
  · rcases I.ms a z with q | q
    · exact q
    · obtain ⟨g, hg⟩ := z
      have := (I.bag0 a g hg).some
      rw [q] at this
      exact absurd h0 this
  · by_cases e : j = i
    · rw [upα_eq e]
      exact ⟨h0, hS⟩
    · rw [upα_ne e]
      have := I.new j (le j e hj)
      exact ⟨this.1, fun z => this.2 (.inl z)⟩
  · by_cases e1 : j = i
    · by_cases e2 : k = i
      · rw [e1, e2]
      · rw [upα_eq e1, upα_ne e2] at e
        exact absurd e.symm (αp k (le k e2 hk))
    · by_cases e2 : k = i
      · rw [upα_ne e1, upα_eq e2] at e
        exact absurd e (αp j (le j e1 hj))
      · rw [upα_ne e1, upα_ne e2] at e
        exact I.inj j k (le j e1 hj) (le k e2 hk) e
  · by_cases e : j = i
    · subst e
      rw [upα_eq rfl]
      by_cases l : j < ρ.length
      · rw [gt_pt l, List.getElem?_set_self (by rw [I.len]; exact l)]
        exact h.ex sm fun _ => rfl
      · rw [gt_pt_out (by omega), gt_out (by omega)]
        trivial
    · rw [upα_ne e, gt_pt_ne e, List.getElem?_set_ne (by omega)]
      exact (I.sl j).ex sm fun _ => rfl
theorem Env.none0 (I : Env K W S0 H0 α H σ ρ) {p : Addr} (h : H p = none) : H0 p = none ∧ ¬S0 p := by
  refine ⟨?_, fun z => I.kn p z h⟩
  cases q : H0 p with
  | none => rfl
  | some w => exact absurd h (I.gw.ne p (by rw [q]; exact fun z => nomatch z))
end
def wp (ρ : Ro) : List Nat → Ro
  | [] => ρ
  | v :: vs => pt (wp ρ vs) v .no
/-- no slot of ws is the frame's own -/
def clr (ρ : Ro) (ws : List Nat) : Prop := ∀ i, i ∈ ws → (gt ρ i).owned = false
theorem wp_len (ρ : Ro) : ∀ ws, (wp ρ ws).length = ρ.length
  | [] => rfl
  | v :: vs => by show (pt (wp ρ vs) v .no).length = _; rw [pt_len, wp_len ρ vs]
theorem wp_owned {ρ : Ro} {i : Nat} : ∀ {ws : List Nat}, (gt (wp ρ ws) i).owned = true → gt (wp ρ ws) i = gt ρ i ∧ i ∉ ws
  | [], h => ⟨rfl, by simp⟩
  | v :: vs, h => by
    have h' : (gt (pt (wp ρ vs) v .no) i).owned = true := h
    show gt (pt (wp ρ vs) v .no) i = gt ρ i ∧ _
    by_cases e : i = v
    · subst e
      by_cases l : i < (wp ρ vs).length
      · rw [gt_pt l] at h'
        cases h'
      · rw [gt_pt_out (by omega), gt_out (by omega)] at h'
        cases h'
    · rw [gt_pt_ne e] at h' ⊢
      obtain ⟨h1, h2⟩ := wp_owned h'
      exact ⟨h1, by simp [e, h2]⟩
theorem wp_or {ρ : Ro} {i : Nat} : ∀ {ws : List Nat}, gt (wp ρ ws) i = .no ∨ gt (wp ρ ws) i = gt ρ i ∧ i ∉ ws
  | [] => .inr ⟨rfl, by simp⟩
  | v :: vs => by
    show gt (pt (wp ρ vs) v .no) i = _ ∨ gt (pt (wp ρ vs) v .no) i = _ ∧ _
    by_cases e : i = v
    · subst e
      left
      by_cases l : i < (wp ρ vs).length
      · rw [gt_pt l]
      · rw [gt_pt_out (by omega), gt_out (by omega)]
    · rw [gt_pt_ne e]
      rcases wp_or (ws := vs) with h | ⟨h1, h2⟩
      · exact .inl h
      · exact .inr ⟨h1, by simp [e, h2]⟩
theorem wipe_out {σ : L2.St} {i : Nat} : ∀ {ws : List Nat}, i ∉ ws → (wipe σ ws)[i]? = σ[i]?
  | [], _ => rfl
  | v :: vs, h => by
    show ((wipe σ vs).set v none)[i]? = _
    rw [List.getElem?_set_ne (fun e => h (by simp [e])), wipe_out fun e => h (by simp [e])]
section
variable {K : PySem.W.Frag} {W : Wd} {S0 : Addr → Prop} {H0 H H' : Hp} {α : Nat → Addr} {σ : L2.St} {ρ : Ro} {ws : List Nat}
theorem Env.wipe (I : Env K W S0 H0 α H σ ρ) (c : clr ρ ws) : Env K W S0 H0 α H (L2.wipe σ ws) (wp ρ ws) ∧ hid S0 α (wp ρ ws) = hid S0 α ρ := by
  have ow : ∀ i, (gt (wp ρ ws) i).owned = (gt ρ i).owned := fun i => by
    by_cases m : i ∈ ws
    · rw [c i m]
      rcases wp_or (ρ := ρ) (ws := ws) (i := i) with h | ⟨_, h⟩
      · rw [h]; rfl
      · exact absurd m h
    · rcases wp_or (ρ := ρ) (ws := ws) (i := i) with h | ⟨h, _⟩
      · cases e : (gt ρ i).owned with
        | false => rw [h]; rfl
        | true =>
          exfalso
          have : ∀ ws : List Nat, i ∉ ws → gt (wp ρ ws) i = gt ρ i := by
            intro ws
            induction ws with
            | nil => intro _; rfl
            | cons v vs ih =>
              intro hm
              show gt (pt (wp ρ vs) v .no) i = _
              rw [gt_pt_ne fun e => hm (by simp [e]), ih fun e => hm (by simp [e])]
          rw [← this ws m, h] at e
          cases e
      · rw [h]
  have hh : hid S0 α (wp ρ ws) = hid S0 α ρ := by
    funext a
    unfold hid
    simp only [ow]
  refine ⟨⟨by rw [wipe_length, wp_len, I.len], I.bag0, I.gw, I.kn, I.ms, fun i hi => I.new i (ow i ▸ hi), fun i j hi hj => I.inj i j (ow i ▸ hi) (ow j ▸ hj), fun i => ?_⟩, hh⟩
  rw [hh]
  rcases wp_or (ρ := ρ) (ws := ws) (i := i) with h | ⟨h, m⟩
  · rw [h]
    trivial
  · rw [h, wipe_out m]
    exact I.sl i
end
/-! ### what is raised -/
abbrev XD : Type := Dt → Ro → Prop
/-- the exception d: its class, its own dict -/
def ExR (K : PySem.W.Frag) (W : Wd) (S : Addr → Prop) (H : Hp) (cls : Value) (dd : Option Addr) : Dt → Prop
  | .err C ds => cls = .ref (He.ga K C) ∧ ∃ a gs, dd = some a ∧ hd S H a = some (.xd gs) ∧ DvF K W (hd S H) gs ds
  | _ => False
structure EnvX (K : PySem.W.Frag) (Jx : WX) (Xd : XD) (W : Wd) (S0 : Addr → Prop) (H0 : Hp) (α : Nat → Addr) (H : Hp) (σ : L2.St) (ρ : Ro) : Prop extends Env K W S0 H0 α H σ ρ where
  xr : ∀ α' H' σ' ρ' d cls dd, Xd d ρ' → Env K W S0 H0 α' H' σ' ρ' → Same (hd (hid S0 α ρ) H) (hd (hid S0 α' ρ') H') → ExR K W (hid S0 α' ρ') H' cls dd d → Jx cls dd σ' H'
section
variable {K : PySem.W.Frag} {Jx : WX} {Xd : XD} {W : Wd} {S0 S : Addr → Prop} {H0 H H' : Hp} {α α' : Nat → Addr} {σ σ' : L2.St} {ρ ρ' : Ro}
theorem EnvX.next (I : EnvX K Jx Xd W S0 H0 α H σ ρ) (I' : Env K W S0 H0 α' H' σ' ρ') (e : Same (hd (hid S0 α ρ) H) (hd (hid S0 α' ρ') H')) : EnvX K Jx Xd W S0 H0 α' H' σ' ρ' :=
  ⟨I', fun α2 H2 σ2 ρ2 d cls dd x I2 e2 r => I.xr α2 H2 σ2 ρ2 d cls dd x I2 (e.trans e2) r⟩
theorem EnvX.grow (I : EnvX K Jx Xd W S0 H0 α H σ ρ) (g : Gw K W H H') : EnvX K Jx Xd W S0 H0 α H' σ ρ := I.next (I.toEnv.grow g) (g.hd I.hms)
theorem ExR.same {S S' : Addr → Prop} {H H' : Hp} {cls : Value} {dd : Option Addr} {d : Dt} (e : Same (hd S H) (hd S' H')) (h : ExR K W S H cls dd d) : ExR K W S' H' cls dd d := by
  cases d with
  | err C ds =>
    obtain ⟨h1, a, gs, h2, h3, h4⟩ := h
    exact ⟨h1, a, gs, h2, e _ _ h3, h4.same e⟩
  | _ => exact h.elim
/-- what was hidden need not be -/
theorem Env.unhide {p : Addr} (I : Env K W (fun a => S0 a ∨ a = p) H0 α H σ ρ) (n : ¬mt W p) : Env K W S0 H0 α H σ ρ ∧ Same (hd (hid (fun a => S0 a ∨ a = p) α ρ) H) (hd (hid S0 α ρ) H) := by
  have sm : Same (hd (hid (fun a => S0 a ∨ a = p) α ρ) H) (hd (hid S0 α ρ) H) := hd_sub fun a z => z.elim (fun y => .inl (.inl y)) .inr
  refine ⟨⟨I.len, I.bag0, I.gw, fun a z => I.kn a (.inl z), fun a z => ?_, fun i hi => ⟨(I.new i hi).1, fun z => (I.new i hi).2 (.inl z)⟩, I.inj, fun i => (I.sl i).ex sm fun _ => rfl⟩, sm⟩
  rcases I.ms a z with q | q
  · exact q
  · rw [q] at z
    exact absurd z n
theorem EnvX.hide (I : EnvX K Jx Xd W S0 H0 α H σ ρ) {p : Addr} (g : Gw K W H H') (h : H p = none) (h' : H' p ≠ none) (n : ¬mt W p) : EnvX K Jx Xd W (fun a => S0 a ∨ a = p) H0 α H' σ ρ ∧ Same (hd (hid S0 α ρ) H) (hd (hid (fun a => S0 a ∨ a = p) α ρ) H') := by
  obtain ⟨I2, s2⟩ := I.toEnv.hide g h h'
  refine ⟨⟨I2, fun α2 H2 σ2 ρ2 d cls dd x I3 e2 r => ?_⟩, s2⟩
  obtain ⟨I4, s4⟩ := I3.unhide n
  exact I.xr α2 H2 σ2 ρ2 d cls dd x I4 ((s2.trans e2).trans s4) (r.same s4)
theorem EnvX.wipe {ws : List Nat} (I : EnvX K Jx Xd W S0 H0 α H σ ρ) (c : clr ρ ws) : EnvX K Jx Xd W S0 H0 α H (L2.wipe σ ws) (wp ρ ws) ∧ hid S0 α (wp ρ ws) = hid S0 α ρ := by
  obtain ⟨I2, h2⟩ := I.toEnv.wipe c
  exact ⟨I.next I2 (by rw [h2]; exact Same.refl _), h2⟩
theorem Env.noMt (I : Env K W S0 H0 α H σ ρ) {p : Addr} (h : H p = none) : ¬mt W p := fun ⟨g, z⟩ => (I.gw.bag p g z).some h
end

end
section

/-! ### readings over data -/
abbrev DE : Type := Ro → (Dt → Prop) → Prop
abbrev DT : Type := Ro → (Bool → Prop) → Prop
abbrev DA : Type := Ro → (List Dt → Prop) → Prop
abbrev DO : Type := Ro → (Option Int → Prop) → Prop
abbrev DG : Type := Dt → Ro → (Ro → Prop) → Prop
abbrev DGs : Type := List Dt → Ro → (Ro → Prop) → Prop
abbrev DOp : Type := Dt → Dt → (Dt → Prop) → Prop
abbrev DUn : Type := Dt → (Dt → Prop) → Prop
abbrev DC : Type := List Dt → (Dt → Prop) → Prop
abbrev DSp : Type := List Dt → (Dt → Prop) → Prop
structure DEnds where
  nx : Ro → Prop
  rt : Dt → Prop
  bk : Ro → Prop := fun _ => False
  ct : Ro → Prop := fun _ => False
abbrev DS : Type := DEnds → Ro → Prop
/-- a heap and what is hidden in it -/
structure Ok (K : PySem.W.Frag) (W : Wd) (S : Addr → Prop) (H : Hp) : Prop where
  bag : BagI K W H
  kn : ∀ a, S a → H a ≠ none
  ms : ∀ a, mt W a → S a
/-- what is wanted of a value that comes -/
def Cn (K : PySem.W.Frag) (W : Wd) (S : Addr → Prop) (H : Hp) (Qd : Dt → Prop) (Q : VK) : Prop := ∀ d v H', Qd d → Gw K W H H' → Dv K W (hd S H') v d → Q v H'
/-- a value read: its outer part may be the frame's own -/
def Sh (K : PySem.W.Frag) (W : Wd) (S : Addr → Prop) (H : Hp) (v : V) : Dt → Prop
  | .lst l => ∃ a vs, v = .ref a ∧ ¬mt W a ∧ H a = some (.lst vs) ∧ DvA K W (hd S H) vs l
  | .obj C fs => ∃ a dx gs, v = .ref a ∧ ¬mt W a ∧ H a = some (.ins (He.ga K C) dx gs) ∧ DvF K W (hd S H) gs fs ∧ ∀ f, fs.lookup f = none → gs.lookup f = none
  | d => Dv K W (hd S H) v d
inductive ShA (K : PySem.W.Frag) (W : Wd) (S : Addr → Prop) (H : Hp) : List V → List Dt → Prop
  | nil : ShA K W S H [] []
  | cons {v : V} {d : Dt} {vs : List V} {ds : List Dt} : Sh K W S H v d → ShA K W S H vs ds → ShA K W S H (v :: vs) (d :: ds)
def CnB (K : PySem.W.Frag) (W : Wd) (S : Addr → Prop) (H : Hp) (Qd : Dt → Prop) (Q : VK) : Prop := ∀ d v H', Qd d → Gw K W H H' → Sh K W S H' v d → Q v H'
def CnA (K : PySem.W.Frag) (W : Wd) (S : Addr → Prop) (H : Hp) (Qd : List Dt → Prop) (Q : List V → Hp → Prop) : Prop := ∀ ds vs H', Qd ds → Gw K W H H' → DvA K W (hd S H') vs ds → Q vs H'
def CnX (K : PySem.W.Frag) (W : Wd) (S : Addr → Prop) (H : Hp) (Qd : List Dt → Prop) (Q : List V → Hp → Prop) : Prop := ∀ ds vs H', Qd ds → Gw K W H H' → ShA K W S H' vs ds → Q vs H'
def CnT (K : PySem.W.Frag) (W : Wd) (H : Hp) {α : Type} (Qd : α → Prop) (Q : α → Hp → Prop) : Prop := ∀ b H', Qd b → Gw K W H H' → Q b H'
def RefE (K : PySem.W.Frag) (Jx : WX) (Xd : XD) (te : TE) (de : DE) : Prop := ∀ W S0 H0 α H σ ρ Qd Q, EnvX K Jx Xd W S0 H0 α H σ ρ → Cn K W (hid S0 α ρ) H Qd Q → de ρ Qd → te σ H Q
def RefB (K : PySem.W.Frag) (Jx : WX) (Xd : XD) (te : TE) (de : DE) : Prop := ∀ W S0 H0 α H σ ρ Qd Q, EnvX K Jx Xd W S0 H0 α H σ ρ → CnB K W (hid S0 α ρ) H Qd Q → de ρ Qd → te σ H Q
def RefT (K : PySem.W.Frag) (Jx : WX) (Xd : XD) (tt : TT) (dt : DT) : Prop := ∀ W S0 H0 α H σ ρ Qd Q, EnvX K Jx Xd W S0 H0 α H σ ρ → CnT K W H Qd Q → dt ρ Qd → tt σ H Q
def RefO (K : PySem.W.Frag) (Jx : WX) (Xd : XD) (to : TO) (do' : DO) : Prop := ∀ W S0 H0 α H σ ρ Qd Q, EnvX K Jx Xd W S0 H0 α H σ ρ → CnT K W H Qd Q → do' ρ Qd → to σ H Q
def RefA (K : PySem.W.Frag) (Jx : WX) (Xd : XD) (ta : TA) (da : DA) : Prop := ∀ W S0 H0 α H σ ρ Qd Q, EnvX K Jx Xd W S0 H0 α H σ ρ → CnA K W (hid S0 α ρ) H Qd Q → da ρ Qd → ta σ H Q
def RefX (K : PySem.W.Frag) (Jx : WX) (Xd : XD) (ta : TA) (da : DA) : Prop := ∀ W S0 H0 α H σ ρ Qd Q, EnvX K Jx Xd W S0 H0 α H σ ρ → CnX K W (hid S0 α ρ) H Qd Q → da ρ Qd → ta σ H Q
def RefOp (K : PySem.W.Frag) (r : R2) (o : DOp) : Prop := ∀ W S H x y d e Qd Q, Ok K W S H → Sh K W S H x d → Sh K W S H y e → Cn K W S H Qd Q → o d e Qd → r x y H Q
def RefUn (K : PySem.W.Frag) (r : V → Hp → VK → Prop) (o : DUn) : Prop := ∀ W S H x d Qd Q, Ok K W S H → Sh K W S H x d → Cn K W S H Qd Q → o d Qd → r x H Q
def RefC (K : PySem.W.Frag) (r : List V → Hp → VK → Prop) (o : DC) : Prop := ∀ W S H xs ds Qd Q, Ok K W S H → ShA K W S H xs ds → Cn K W S H Qd Q → o ds Qd → r xs H Q
section
variable {K : PySem.W.Frag} {Jx : WX} {Xd : XD} {W : Wd} {S S0 : Addr → Prop} {H0 H H' H2 : Hp} {α : Nat → Addr} {σ : L2.St} {ρ : Ro} {Qd : Dt → Prop} {Q : VK} {v : V} {d : Dt}
theorem Env.ok (I : Env K W S0 H0 α H σ ρ) : Ok K W (hid S0 α ρ) H := ⟨I.gw.bag, I.hkn, I.hms⟩
theorem Ok.grow (O : Ok K W S H) (g : Gw K W H H') : Ok K W S H' := ⟨g.bag, fun a h => g.ne a (O.kn a h), O.ms⟩
theorem Cn.grow (c : Cn K W S H Qd Q) (g : Gw K W H H') : Cn K W S H' Qd Q := fun d v H2 q g2 h => c d v H2 q (g.trans g2) h
theorem CnB.grow (c : CnB K W S H Qd Q) (g : Gw K W H H') : CnB K W S H' Qd Q := fun d v H2 q g2 h => c d v H2 q (g.trans g2) h
theorem CnA.grow {Qd : List Dt → Prop} {Q : List V → Hp → Prop} (c : CnA K W S H Qd Q) (g : Gw K W H H') : CnA K W S H' Qd Q := fun d v H2 q g2 h => c d v H2 q (g.trans g2) h
theorem CnX.grow {Qd : List Dt → Prop} {Q : List V → Hp → Prop} (c : CnX K W S H Qd Q) (g : Gw K W H H') : CnX K W S H' Qd Q := fun d v H2 q g2 h => c d v H2 q (g.trans g2) h
theorem CnT.grow {β : Type} {Qd : β → Prop} {Q : β → Hp → Prop} (c : CnT K W H Qd Q) (g : Gw K W H H') : CnT K W H' Qd Q := fun b H2 q g2 => c b H2 q (g.trans g2)
theorem Dv.sh (O : Ok K W S H) (h : Dv K W (hd S H) v d) : Sh K W S H v d := by
  cases h with
  | lst h r =>
    obtain ⟨h1, h2⟩ := hd_get h
    exact ⟨_, _, rfl, fun z => h1 (O.ms _ z), h2, r⟩
  | obj h r n =>
    obtain ⟨h1, h2⟩ := hd_get h
    exact ⟨_, _, _, rfl, fun z => h1 (O.ms _ z), h2, r, n⟩
  | non => exact .non
  | bl b => exact .bl b
  | int b => exact .int b
  | str b => exact .str b
  | ty b => exact .ty b
  | cls b => exact .cls b
  | bag h => exact .bag h
  | tup h r => exact .tup h r
  | dk h r => exact .dk h r
theorem Sh.grow (O : Ok K W S H) (g : Gw K W H H') (h : Sh K W S H v d) : Sh K W S H' v d := by
  cases d with
  | lst l =>
    obtain ⟨a, vs, h1, h2, h3, h4⟩ := h
    exact ⟨a, vs, h1, h2, g.keep _ _ h2 h3, h4.same (g.hd O.ms)⟩
  | obj C fs =>
    obtain ⟨a, dx, gs, h1, h2, h3, h4, h5⟩ := h
    exact ⟨a, dx, gs, h1, h2, g.keep _ _ h2 h3, h4.same (g.hd O.ms), h5⟩
  | _ => exact Dv.same (g.hd O.ms) h
theorem ShA.grow (O : Ok K W S H) (g : Gw K W H H') : ∀ {vs : List V} {ds : List Dt}, ShA K W S H vs ds → ShA K W S H' vs ds
  | _, _, .nil => .nil
  | _, _, .cons h r => .cons (h.grow O g) (ShA.grow O g r)
theorem RefE.b {te : TE} {de : DE} (r : RefE K Jx Xd te de) : RefB K Jx Xd te de := fun W S0 H0 α H σ ρ Qd Q I c h => r W S0 H0 α H σ ρ Qd Q I (fun d v H' q g hv => c d v H' q g (hv.sh (I.ok.grow g))) h
theorem Cn.now (c : Cn K W S H Qd Q) (O : Ok K W S H) (q : Qd d) (h : Dv K W (hd S H) v d) : Q v H := c d v H q (.refl O.bag) h
/-- a new thing -/
theorem Cn.new (c : Cn K W S H Qd Q) (O : Ok K W S H) {p : Addr} {o : HO} (hp : H p = none) (q : Qd d) (h : Dv K W (hd S (upd H p o)) (.ref p) d) : Q (.ref p) (upd H p o) := c d _ _ q (.new O.bag hp) h
theorem Ok.out (O : Ok K W S H) {p : Addr} (hp : H p = none) : ¬S p := fun z => O.kn p z hp
theorem dv_newL (O : Ok K W S H) {p : Addr} {xs : List V} {ds : List Dt} (hp : H p = none) (h : DvA K W (hd S H) xs ds) : Dv K W (hd S (upd H p (.lst xs))) (.ref p) (.lst ds) := .lst (hd_at upd_same (O.out hp)) (h.same (hd_new hp))
theorem dv_newT (O : Ok K W S H) {p : Addr} {xs : List V} {ds : List Dt} (hp : H p = none) (h : DvA K W (hd S H) xs ds) : Dv K W (hd S (upd H p (.tup xs))) (.ref p) (.tup ds) := .tup (.inl (.inl (hd_at upd_same (O.out hp)))) (h.same (hd_new hp))
end
/-! ### slots, constants -/
def dVar (i : Nat) : DE := fun ρ Q => match gt ρ i with
  | .val d => Q d
  | _ => False
/-- read, not handed on -/
def dRd (i : Nat) : DE := fun ρ Q => match gt ρ i with
  | .val d => Q d
  | .own l => Q (.lst l)
  | .ins _ C fs => Q (.obj C fs)
  | _ => False
def dC (d : Dt) : DE := fun _ Q => Q d
def dOp (o : DOp) (da db : DE) : DE := fun ρ Q => da ρ fun x => db ρ fun y => o x y Q
def dUn (o : DUn) (da : DE) : DE := fun ρ Q => da ρ fun x => o x Q
def dTest (da : DE) : DT := fun ρ Q => da ρ fun x => match x with
  | .bl b => Q b
  | _ => False
def dIf (dt : DT) (da db : DE) : DE := fun ρ Q => dt ρ fun c => (c = true → da ρ Q) ∧ (c = false → db ρ Q)
def dAndV (da db : DE) : DE := fun ρ Q => da ρ fun x => match x with
  | .bl b => (b = true → db ρ Q) ∧ (b = false → Q (.bl false))
  | _ => False
def dOrV (da db : DE) : DE := fun ρ Q => da ρ fun x => match x with
  | .bl b => (b = true → Q (.bl true)) ∧ (b = false → db ρ Q)
  | _ => False
def dNotV (da : DE) : DE := fun ρ Q => da ρ fun x => match x with
  | .bl b => Q (.bl (!b))
  | _ => False
def dAnd (da db : DT) : DT := fun ρ Q => da ρ fun c => (c = true → db ρ Q) ∧ (c = false → Q false)
def dOr (da db : DT) : DT := fun ρ Q => da ρ fun c => (c = true → Q true) ∧ (c = false → db ρ Q)
def dNot (da : DT) : DT := fun ρ Q => da ρ fun c => Q (!c)
def dNil : DA := fun _ Q => Q []
def dCons (da : DE) (dr : DA) : DA := fun ρ Q => da ρ fun x => dr ρ fun xs => Q (x :: xs)
def dTup (da : DA) : DE := fun ρ Q => da ρ fun xs => xs.length ≤ 16777216 ∧ Q (.tup xs)
def dLst (da : DA) : DE := fun ρ Q => da ρ fun xs => xs.length ≤ 16777216 ∧ Q (.lst xs)
def dNoPart : DO := fun _ Q => Q none
def dPart (da : DE) : DO := fun ρ Q => da ρ fun x => match x with
  | .int i => Q (some i)
  | _ => False
def dCB (o : DC) (da : DA) : DE := fun ρ Q => da ρ fun ds => o ds Q
def dCall (sp : DSp) (da : DA) : DE := fun ρ Q => da ρ fun ds => sp ds Q
section
variable {K : PySem.W.Frag} {Jx : WX} {Xd : XD} {ta tb te tc : TE} {da db de dc : DE} {tt tu : TT} {dt du : DT} {t : TA} {dl : DA}
theorem rVar (i : Nat) : RefE K Jx Xd (tVar i) (dVar i) := fun W S0 H0 α H σ ρ Qd Q I c h => by
  have q := I.sl i
  unfold dVar at h
  generalize gt ρ i = s at h q
  cases s with
  | val d =>
    obtain ⟨v, h1, h2⟩ := q
    exact ⟨v, h1, c.now I.ok h h2⟩
  | _ => exact h.elim
theorem rRd (i : Nat) : RefB K Jx Xd (tVar i) (dRd i) := fun W S0 H0 α H σ ρ Qd Q I c h => by
  have q := I.sl i
  have nw := I.new i
  unfold dRd at h
  generalize gt ρ i = s at h q nw
  cases s with
  | val d =>
    obtain ⟨v, h1, h2⟩ := q
    exact ⟨v, h1, c d v H h (.refl I.gw.bag) (h2.sh I.ok)⟩
  | own l =>
    obtain ⟨h1, vs, h2, h3⟩ := q
    exact ⟨_, h1, c _ _ H h (.refl I.gw.bag) ⟨_, vs, rfl, fun z => (nw rfl).2 (I.ms _ z), h2, h3⟩⟩
  | ins x C fs =>
    obtain ⟨h1, hx, dx, gs, h2, h3, h4, _⟩ := q
    exact ⟨_, h1, c _ _ H h (.refl I.gw.bag) ⟨_, dx, gs, rfl, fun z => (nw rfl).2 (I.ms _ z), h2, h3, h4⟩⟩
  | _ => exact h.elim
theorem rInt (i : Int) : RefE K Jx Xd (tC (.int i)) (dC (.int i)) := fun W S0 H0 α H σ ρ Qd Q I c h => c.now I.ok h (.int i)
theorem rBl (b : Bool) : RefE K Jx Xd (tC (.bl b)) (dC (.bl b)) := fun W S0 H0 α H σ ρ Qd Q I c h => c.now I.ok h (.bl b)
theorem rNon : RefE K Jx Xd (tC .non) (dC .non) := fun W S0 H0 α H σ ρ Qd Q I c h => c.now I.ok h .non
theorem rStr' (s : Str) : RefE K Jx Xd (tC (.str s)) (dC (.str s)) := fun W S0 H0 α H σ ρ Qd Q I c h => c.now I.ok h (.str s)
theorem rTy (s : String) : RefE K Jx Xd (tC (.ty s)) (dC (.ty s)) := fun W S0 H0 α H σ ρ Qd Q I c h => c.now I.ok h (.ty s)
theorem rCls (x : Str) : RefE K Jx Xd (tC (.ref (He.ga K x))) (dC (.cls x)) := fun W S0 H0 α H σ ρ Qd Q I c h => c.now I.ok h (.cls x)
theorem rOp {r : R2} {o : DOp} (ro : RefOp K r o) (ra : RefB K Jx Xd ta da) (rb : RefB K Jx Xd tb db) : RefE K Jx Xd (tOp r ta tb) (dOp o da db) := fun W S0 H0 α H σ ρ Qd Q I c h =>
  ra W S0 H0 α H σ ρ _ _ I (fun d v H1 q g hv => rb W S0 H0 α H1 σ ρ _ _ (I.grow g) (fun e u H2 q2 g2 hu => ro W _ H2 v u d e Qd Q (I.ok.grow (g.trans g2)) (hv.grow (I.ok.grow g) g2) hu (c.grow (g.trans g2)) q2) q) h
theorem rUn {r : V → Hp → VK → Prop} {o : DUn} (ro : RefUn K r o) (ra : RefB K Jx Xd ta da) : RefE K Jx Xd (tUn r ta) (dUn o da) := fun W S0 H0 α H σ ρ Qd Q I c h =>
  ra W S0 H0 α H σ ρ _ _ I (fun d v H1 q g hv => ro W _ H1 v d Qd Q (I.ok.grow g) hv (c.grow g) q) h
theorem rTest (ra : RefE K Jx Xd ta da) : RefT K Jx Xd (tTest ta) (dTest da) := fun W S0 H0 α H σ ρ Qd Q I c h =>
  ra W S0 H0 α H σ ρ _ _ I (fun d v H1 q g hv => by
    cases hv with
    | bl b => exact ⟨b, rfl, c b H1 q g⟩
    | _ => exact q.elim) h
theorem rB (ra : RefE K Jx Xd ta da) : RefT K Jx Xd (tB ta) (dTest da) := rTest ra
theorem rIf (rt : RefT K Jx Xd tt dt) (ra : RefE K Jx Xd ta da) (rb : RefE K Jx Xd tb db) : RefE K Jx Xd (tIf tt ta tb) (dIf dt da db) := fun W S0 H0 α H σ ρ Qd Q I c h =>
  rt W S0 H0 α H σ ρ _ _ I (fun b H1 q g => by
    cases b with
    | true => exact (if_pos rfl).mpr (ra W S0 H0 α H1 σ ρ Qd Q (I.grow g) (c.grow g) (q.1 rfl))
    | false => exact (if_neg Bool.false_ne_true).mpr (rb W S0 H0 α H1 σ ρ Qd Q (I.grow g) (c.grow g) (q.2 rfl))) h
theorem rAndV (ra : RefE K Jx Xd ta da) (rb : RefE K Jx Xd tb db) : RefE K Jx Xd (tAndV ta tb) (dAndV da db) := fun W S0 H0 α H σ ρ Qd Q I c h =>
  ra W S0 H0 α H σ ρ _ _ I (fun d v H1 q g hv => by
    cases hv with
    | bl b =>
      refine ⟨b, rfl, ?_⟩
      cases b with
      | true => exact (if_pos rfl).mpr (rb W S0 H0 α H1 σ ρ Qd Q (I.grow g) (c.grow g) (q.1 rfl))
      | false => exact (if_neg Bool.false_ne_true).mpr (c _ _ H1 (q.2 rfl) g (.bl false))
    | _ => exact q.elim) h
theorem rOrV (ra : RefE K Jx Xd ta da) (rb : RefE K Jx Xd tb db) : RefE K Jx Xd (tOrV ta tb) (dOrV da db) := fun W S0 H0 α H σ ρ Qd Q I c h =>
  ra W S0 H0 α H σ ρ _ _ I (fun d v H1 q g hv => by
    cases hv with
    | bl b =>
      refine ⟨b, rfl, ?_⟩
      cases b with
      | true => exact (if_pos rfl).mpr (c _ _ H1 (q.1 rfl) g (.bl true))
      | false => exact (if_neg Bool.false_ne_true).mpr (rb W S0 H0 α H1 σ ρ Qd Q (I.grow g) (c.grow g) (q.2 rfl))
    | _ => exact q.elim) h
theorem rNotV (ra : RefE K Jx Xd ta da) : RefE K Jx Xd (tNotV ta) (dNotV da) := fun W S0 H0 α H σ ρ Qd Q I c h =>
  ra W S0 H0 α H σ ρ _ _ I (fun d v H1 q g hv => by
    cases hv with
    | bl b => exact ⟨b, rfl, c _ _ H1 q g (.bl _)⟩
    | _ => exact q.elim) h
theorem rAnd (ra : RefT K Jx Xd tt dt) (rb : RefT K Jx Xd tu du) : RefT K Jx Xd (tAnd tt tu) (dAnd dt du) := fun W S0 H0 α H σ ρ Qd Q I c h =>
  ra W S0 H0 α H σ ρ _ _ I (fun b H1 q g => by
    cases b with
    | true => exact (if_pos rfl).mpr (rb W S0 H0 α H1 σ ρ Qd Q (I.grow g) (c.grow g) (q.1 rfl))
    | false => exact (if_neg Bool.false_ne_true).mpr (c _ H1 (q.2 rfl) g)) h
theorem rOr (ra : RefT K Jx Xd tt dt) (rb : RefT K Jx Xd tu du) : RefT K Jx Xd (tOr tt tu) (dOr dt du) := fun W S0 H0 α H σ ρ Qd Q I c h =>
  ra W S0 H0 α H σ ρ _ _ I (fun b H1 q g => by
    cases b with
    | true => exact (if_pos rfl).mpr (c _ H1 (q.1 rfl) g)
    | false => exact (if_neg Bool.false_ne_true).mpr (rb W S0 H0 α H1 σ ρ Qd Q (I.grow g) (c.grow g) (q.2 rfl))) h
theorem rNot (ra : RefT K Jx Xd tt dt) : RefT K Jx Xd (tNot tt) (dNot dt) := fun W S0 H0 α H σ ρ Qd Q I c h => ra W S0 H0 α H σ ρ _ _ I (fun b H1 q g => c _ H1 q g) h
theorem rYes : RefT K Jx Xd tYes (fun _ Q => Q true) := fun W S0 H0 α H σ ρ Qd Q I c h => c _ H h (.refl I.gw.bag)
theorem rNil : RefA K Jx Xd tNil dNil := fun W S0 H0 α H σ ρ Qd Q I c h => c _ _ H h (.refl I.gw.bag) .nil
theorem rCons (ra : RefE K Jx Xd ta da) (rr : RefA K Jx Xd t dl) : RefA K Jx Xd (tCons ta t) (dCons da dl) := fun W S0 H0 α H σ ρ Qd Q I c h =>
  ra W S0 H0 α H σ ρ _ _ I (fun d v H1 q g hv => rr W S0 H0 α H1 σ ρ _ _ (I.grow g) (fun ds vs H2 q2 g2 hs => c _ _ H2 q2 (g.trans g2) (.cons (hv.same (g2.hd (I.ok.grow g).ms)) hs)) q) h
theorem rNilX : RefX K Jx Xd tNil dNil := fun W S0 H0 α H σ ρ Qd Q I c h => c _ _ H h (.refl I.gw.bag) .nil
theorem rConsX (ra : RefB K Jx Xd ta da) (rr : RefX K Jx Xd t dl) : RefX K Jx Xd (tCons ta t) (dCons da dl) := fun W S0 H0 α H σ ρ Qd Q I c h =>
  ra W S0 H0 α H σ ρ _ _ I (fun d v H1 q g hv => rr W S0 H0 α H1 σ ρ _ _ (I.grow g) (fun ds vs H2 q2 g2 hs => c _ _ H2 q2 (g.trans g2) (.cons (hv.grow (I.ok.grow g) g2) hs)) q) h
theorem rTup (ra : RefA K Jx Xd t dl) : RefE K Jx Xd (tTup t) (dTup dl) := fun W S0 H0 α H σ ρ Qd Q I c h =>
  ra W S0 H0 α H σ ρ _ _ I (fun ds vs H1 q g hs => ⟨by rw [sizeLine_eq, hs.len]; exact Nat.le_trans q.1 (by decide), fun p hp => (c.grow g).new (I.ok.grow g) hp q.2 (dv_newT (I.ok.grow g) hp hs)⟩) h
theorem rLst (ra : RefA K Jx Xd t dl) : RefE K Jx Xd (tLst t) (dLst dl) := fun W S0 H0 α H σ ρ Qd Q I c h =>
  ra W S0 H0 α H σ ρ _ _ I (fun ds vs H1 q g hs => ⟨by rw [sizeLine_eq, hs.len]; exact Nat.le_trans q.1 (by decide), fun p hp => (c.grow g).new (I.ok.grow g) hp q.2 (dv_newL (I.ok.grow g) hp hs)⟩) h
theorem rNoPart : RefO K Jx Xd tNoPart dNoPart := fun W S0 H0 α H σ ρ Qd Q I c h => c _ H h (.refl I.gw.bag)
theorem rPart (ra : RefE K Jx Xd ta da) : RefO K Jx Xd (tPart ta) (dPart da) := fun W S0 H0 α H σ ρ Qd Q I c h =>
  ra W S0 H0 α H σ ρ _ _ I (fun d v H1 q g hv => by
    cases hv with
    | int i => exact ⟨i, rfl, c _ H1 q g⟩
    | _ => exact q.elim) h
theorem rCB {r : List V → Hp → VK → Prop} {o : DC} (ro : RefC K r o) (ra : RefX K Jx Xd t dl) : RefE K Jx Xd (tCB r t) (dCB o dl) := fun W S0 H0 α H σ ρ Qd Q I c h =>
  ra W S0 H0 α H σ ρ _ _ I (fun ds vs H1 q g hs => ro W _ H1 vs ds Qd Q (I.ok.grow g) hs (c.grow g) q) h
/-! ### promises -/
/-- a promise over the heap from one over data -/
def spD (K : PySem.W.Frag) (sp : DSp) : Sp := fun vs H Q _ => ∃ W S ds Qd, Ok K W S H ∧ DvA K W (hd S H) vs ds ∧ sp ds Qd ∧ Cn K W S H Qd Q
theorem rCall {sp : Sp} {sd : DSp} (hw : ∀ vs H Q, spD K sd vs H Q E0 → sp vs H Q E0) (ra : RefA K Jx Xd t dl) : RefE K Jx Xd (tCall sp [] E0 t) (dCall sd dl) := fun W S0 H0 α H σ ρ Qd Q I c h =>
  v_call (ra W S0 H0 α H σ ρ _ _ I (fun ds vs H1 q g hs => hw vs H1 Q ⟨W, _, ds, Qd, I.ok.grow g, hs, q, c.grow g⟩) h)
end

end
section

/-! ### statements over data -/
def CnS (K : PySem.W.Frag) (W : Wd) (S0 : Addr → Prop) (H0 M : Hp) (P : Ro → Prop) (Q : L2.St → Hp → Prop) : Prop := ∀ α' H' σ' ρ', P ρ' → Env K W S0 H0 α' H' σ' ρ' → Same M (hd (hid S0 α' ρ') H') → Q σ' H'
structure EnR (K : PySem.W.Frag) (W : Wd) (S0 : Addr → Prop) (H0 M : Hp) (D : Ends) (Dd : DEnds) : Prop where
  nx : CnS K W S0 H0 M Dd.nx D.nx
  rt : ∀ d v H', Dd.rt d → Gw K W H0 H' → Dv K W (hd S0 H') v d → D.rt v H'
  bk : CnS K W S0 H0 M Dd.bk D.bk
  ct : CnS K W S0 H0 M Dd.ct D.ct
def RefS (K : PySem.W.Frag) (Jx : WX) (Xd : XD) (ts : TS) (ds : DS) : Prop := ∀ W S0 H0 α H σ ρ D Dd, EnvX K Jx Xd W S0 H0 α H σ ρ → EnR K W S0 H0 (hd (hid S0 α ρ) H) D Dd → ds Dd ρ → ts D σ H
def RefG (K : PySem.W.Frag) (Jx : WX) (Xd : XD) (g : TG) (dg : DG) : Prop := ∀ W S0 H0 α H σ ρ d v Qd Q, EnvX K Jx Xd W S0 H0 α H σ ρ → Dv K W (hd (hid S0 α ρ) H) v d → CnS K W S0 H0 (hd (hid S0 α ρ) H) Qd Q → dg d ρ Qd → g v σ H Q
def RefGs (K : PySem.W.Frag) (Jx : WX) (Xd : XD) (g : TGs) (dg : DGs) : Prop := ∀ W S0 H0 α H σ ρ ds vs Qd Q, EnvX K Jx Xd W S0 H0 α H σ ρ → DvA K W (hd (hid S0 α ρ) H) vs ds → CnS K W S0 H0 (hd (hid S0 α ρ) H) Qd Q → dg ds ρ Qd → g vs σ H Q
section
variable {K : PySem.W.Frag} {Jx : WX} {Xd : XD} {W : Wd} {S0 : Addr → Prop} {H0 H H' M M' : Hp} {α : Nat → Addr} {σ : L2.St} {ρ : Ro} {D : Ends} {Dd : DEnds}
theorem CnS.wk {P : Ro → Prop} {Q : L2.St → Hp → Prop} (c : CnS K W S0 H0 M P Q) (e : Same M M') : CnS K W S0 H0 M' P Q := fun α' H' σ' ρ' p I s => c α' H' σ' ρ' p I (e.trans s)
theorem EnR.wk (c : EnR K W S0 H0 M D Dd) (e : Same M M') : EnR K W S0 H0 M' D Dd := ⟨c.nx.wk e, c.rt, c.bk.wk e, c.ct.wk e⟩
theorem EnR.grow (c : EnR K W S0 H0 (hd (hid S0 α ρ) H) D Dd) (I : Env K W S0 H0 α H σ ρ) (g : Gw K W H H') : EnR K W S0 H0 (hd (hid S0 α ρ) H') D Dd := c.wk (g.hd I.hms)
theorem EnR.now (c : EnR K W S0 H0 (hd (hid S0 α ρ) H) D Dd) (I : Env K W S0 H0 α H σ ρ) (g : Gw K W H H') (q : Dd.nx ρ) : D.nx σ H' := c.nx α H' σ ρ q (I.grow g) (g.hd I.hms)
end
def dNext : DS := fun D ρ => D.nx ρ
def dSeq (s u : DS) : DS := fun D ρ => s { D with nx := u D } ρ
def dBreak : DS := fun D ρ => D.bk ρ
def dCont : DS := fun D ρ => D.ct ρ
def dDrop (de : DE) : DS := fun D ρ => de ρ fun _ => D.nx ρ
def dRet (de : DE) : DS := fun D ρ => de ρ D.rt
def dRetN : DS := fun D _ => D.rt .non
def dIfS (dt : DT) (s u : DS) : DS := fun D ρ => dt ρ fun b => (b = true → s D ρ) ∧ (b = false → u D ρ)
def dMid (s r : DS) : DS := fun D ρ => ∃ P : Ro → Prop, s { D with nx := P } ρ ∧ ∀ ρ', P ρ' → r D ρ'
def dAsg (de : DE) (g : DG) : DS := fun D ρ => de ρ fun d => g d ρ D.nx
def dFrz (i : Nat) (s : DS) : DS := fun D ρ => match gt ρ i with
  | .own l => s D (pt ρ i (.val (.lst l)))
  | .val _ => s D ρ
  | _ => False
def gN (i : Nat) : DG := fun d ρ Q => Q (pt ρ i (.val d))
def gsNil : DGs := fun ds ρ Q => match ds with
  | [] => Q ρ
  | _ => False
def gsCons (g : DG) (gs : DGs) : DGs := fun ds ρ Q => match ds with
  | d :: r => g d ρ fun ρ' => gs r ρ' Q
  | _ => False
def gT (n : Nat) (gs : DGs) : DG := fun d ρ Q => match d with
  | .tup l => l.length = n ∧ gs l ρ Q
  | _ => False
/-- x[k] = d, x the frame's own list -/
def gSet (i : Nat) (di : DE) : DG := fun d ρ Q => match gt ρ i with
  | .own l => di ρ fun k => match k with
    | .int k => match ixN l.length k with
      | some j => Q (pt ρ i (.own (l.set j d)))
      | none => False
    | _ => False
  | _ => False
def dAppend (i : Nat) (de : DE) : DS := fun D ρ => match gt ρ i with
  | .own l => de ρ fun d => l.length < 16777216 ∧ D.nx (pt ρ i (.own (l ++ [d])))
  | _ => False
section
variable {K : PySem.W.Frag} {Jx : WX} {Xd : XD} {te : TE} {de : DE} {tt : TT} {dt : DT} {s u : TS} {ds du : DS} {g : TG} {dg : DG} {gs : TGs} {dgs : DGs}
theorem rNext : RefS K Jx Xd tNext dNext := fun W S0 H0 α H σ ρ D Dd I c h => c.now I.toEnv (.refl I.gw.bag) h
theorem rSeq (a : RefS K Jx Xd s ds) (b : RefS K Jx Xd u du) : RefS K Jx Xd (tSeq s u) (dSeq ds du) := fun W S0 H0 α H σ ρ D Dd I c h =>
  a W S0 H0 α H σ ρ { D with nx := u D } { Dd with nx := du Dd } I ⟨fun α' H' σ' ρ' p I' e => b W S0 H0 α' H' σ' ρ' D Dd (I.next I' e) (c.wk e) p, c.rt, c.bk, c.ct⟩ h
theorem rBreak : RefS K Jx Xd tBreak dBreak := fun W S0 H0 α H σ ρ D Dd I c h => c.bk α H σ ρ h I.toEnv (Same.refl _)
theorem rCont : RefS K Jx Xd tCont dCont := fun W S0 H0 α H σ ρ D Dd I c h => c.ct α H σ ρ h I.toEnv (Same.refl _)
theorem rDrop (a : RefE K Jx Xd te de) : RefS K Jx Xd (tDrop te) (dDrop de) := fun W S0 H0 α H σ ρ D Dd I c h => a W S0 H0 α H σ ρ _ _ I (fun d v H1 q g _ => c.now I.toEnv g q) h
theorem rRet (a : RefE K Jx Xd te de) : RefS K Jx Xd (tRet te) (dRet de) := fun W S0 H0 α H σ ρ D Dd I c h => a W S0 H0 α H σ ρ _ _ I (fun d v H1 q g hv => c.rt d v H1 q (I.gw.trans g) (hv.same (hd_sub fun a z => .inl z))) h
theorem rRetN : RefS K Jx Xd tRetN dRetN := fun W S0 H0 α H σ ρ D Dd I c h => c.rt _ _ H h I.gw .non
theorem rIfS (a : RefT K Jx Xd tt dt) (b : RefS K Jx Xd s ds) (d : RefS K Jx Xd u du) : RefS K Jx Xd (tIfS tt s u) (dIfS dt ds du) := fun W S0 H0 α H σ ρ D Dd I c h =>
  a W S0 H0 α H σ ρ _ _ I (fun k H1 q g => by
    cases k with
    | true => exact (if_pos rfl).mpr (b W S0 H0 α H1 σ ρ D Dd (I.grow g) (c.grow I.toEnv g) (q.1 rfl))
    | false => exact (if_neg Bool.false_ne_true).mpr (d W S0 H0 α H1 σ ρ D Dd (I.grow g) (c.grow I.toEnv g) (q.2 rfl))) h
theorem rMid (a : RefS K Jx Xd s ds) (b : RefS K Jx Xd u du) : RefS K Jx Xd (tMid s u) (dMid ds du) := fun W S0 H0 α H σ ρ D Dd I c ⟨P, h1, h2⟩ =>
  ⟨fun σ' H' => ∃ α' ρ', P ρ' ∧ Env K W S0 H0 α' H' σ' ρ' ∧ Same (hd (hid S0 α ρ) H) (hd (hid S0 α' ρ') H'), a W S0 H0 α H σ ρ _ { Dd with nx := P } I ⟨fun α' H' σ' ρ' p I' e => ⟨α', ρ', p, I', e⟩, c.rt, c.bk, c.ct⟩ h1,
    fun σ' H' ⟨α', ρ', p, I', e⟩ => b W S0 H0 α' H' σ' ρ' D Dd (I.next I' e) (c.wk e) (h2 ρ' p)⟩
theorem rAsg (a : RefE K Jx Xd te de) (b : RefG K Jx Xd g dg) : RefS K Jx Xd (tAsg te g) (dAsg de dg) := fun W S0 H0 α H σ ρ D Dd I c h =>
  a W S0 H0 α H σ ρ _ _ I (fun d v H1 q g1 hv => b W S0 H0 α H1 σ ρ d v _ _ (I.grow g1) hv ((c.grow I.toEnv g1).nx) q) h
theorem rFrz (i : Nat) (a : RefS K Jx Xd s ds) : RefS K Jx Xd s (dFrz i ds) := fun W S0 H0 α H σ ρ D Dd I c h => by
  unfold dFrz at h
  cases e : gt ρ i with
  | own l =>
    rw [e] at h
    obtain ⟨I2, e2⟩ := I.freeze e
    exact a W S0 H0 α H σ _ D Dd (I.next I2 e2) (c.wk e2) h
  | val d =>
    rw [e] at h
    exact a W S0 H0 α H σ _ D Dd I c h
  | _ =>
    rw [e] at h
    exact h.elim
theorem rgN (i : Nat) : RefG K Jx Xd (gName i) (gN i) := fun W S0 H0 α H σ ρ d v Qd Q I hv c h => by
  obtain ⟨I2, e2⟩ := I.set hv
  exact c _ _ _ _ h I2 e2
theorem rgsNil : RefGs K Jx Xd gNil gsNil := fun W S0 H0 α H σ ρ ds vs Qd Q I hv c h => by
  cases hv with
  | nil => exact ⟨rfl, c _ _ _ _ h I.toEnv (Same.refl _)⟩
  | cons _ _ => exact h.elim
theorem rgsCons (a : RefG K Jx Xd g dg) (b : RefGs K Jx Xd gs dgs) : RefGs K Jx Xd (gCons g gs) (gsCons dg dgs) := fun W S0 H0 α H σ ρ ds vs Qd Q I hv c h => by
  cases hv with
  | nil => exact h.elim
  | cons h1 h2 => exact ⟨_, _, rfl, a W S0 H0 α H σ ρ _ _ _ _ I h1 (fun α' H' σ' ρ' p I' e => b W S0 H0 α' H' σ' ρ' _ _ Qd Q (I.next I' e) (h2.same e) (c.wk e) p) h⟩
theorem rgT (n : Nat) (a : RefGs K Jx Xd gs dgs) : RefG K Jx Xd (gTup K n gs) (gT n dgs) := fun W S0 H0 α H σ ρ d v Qd Q I hv c h => by
  cases hv with
  | tup h1 h2 => exact ⟨_, _, rfl, same_sqt hd_le h1, h2.len.trans h.1, a W S0 H0 α H σ ρ _ _ Qd Q I h2 c h.2⟩
  | _ => exact h.elim
theorem at_owned {W : Wd} {S0 : Addr → Prop} {H0 H : Hp} {α : Nat → Addr} {σ : L2.St} {ρ : Ro} {i : Nat} {l : List Dt} (I : Env K W S0 H0 α H σ ρ) (e : gt ρ i = .own l) : σ[i]? = some (some (.ref (α i))) ∧ (∃ vs, H (α i) = some (.lst vs) ∧ DvA K W (hd (hid S0 α ρ) H) vs l) ∧ (gt ρ i).owned = true := by
  have q := I.sl i
  rw [e] at q
  exact ⟨q.1, q.2, by rw [e]; rfl⟩
theorem hid_pt {S0 : Addr → Prop} {α : Nat → Addr} {ρ : Ro} {i : Nat} {s : Sl} (o : (gt ρ i).owned = true) (hs : s.owned = true) : hid S0 α (pt ρ i s) = hid S0 α ρ := by
  have li : i < ρ.length := by
    apply Classical.byContradiction
    intro q
    rw [gt_out (by omega)] at o
    cases o
  have ow : ∀ j, (gt (pt ρ i s) j).owned = (gt ρ j).owned := fun j => by
    by_cases e : j = i
    · subst e
      rw [gt_pt li, hs, o]
    · rw [gt_pt_ne e]
  funext a
  unfold hid
  simp only [ow]
theorem rgSet {ti : TE} {di : DE} (i : Nat) (a : RefE K Jx Xd ti di) : RefG K Jx Xd (gSub (tVar i) ti rSetL) (gSet i di) := fun W S0 H0 α H σ ρ d v Qd Q I hv c h => by
  unfold gSet at h
  cases e : gt ρ i with
  | own l =>
    rw [e] at h
    obtain ⟨e1, ⟨vs, e2, e3⟩, o⟩ := at_owned I.toEnv e
    refine ⟨_, e1, a W S0 H0 α H σ ρ _ _ I (fun k u H1 q g hk => ?_) h⟩
    cases hk with
    | int k =>
      dsimp only at q
      cases ej : ixN l.length k with
      | none =>
        rw [ej] at q
        exact q.elim
      | some j =>
        rw [ej] at q
        have I1 := I.grow g
        obtain ⟨f1, ⟨ws, f2, f3⟩, _⟩ := at_owned I1.toEnv e
        have hh : hid S0 α (pt ρ i (.own (l.set j d))) = hid S0 α ρ := hid_pt o rfl
        have sm := hd_set (S := hid S0 α ρ) (H := H1) (o := .lst (ws.set j v)) (a := α i) (.inr ⟨i, o, rfl⟩)
        obtain ⟨I2, s2⟩ := I1.put (s := .own (l.set j d)) (u := .lst (ws.set j v)) o rfl ⟨rfl, _, upd_same, (f3.same sm).set j (hv.same ((g.hd I.hms).trans sm))⟩ f1
        exact ⟨_, ws, k, j, rfl, rfl, f2, by rw [f3.len]; exact ej, c _ _ _ _ q I2 ((g.hd I.hms).trans s2)⟩
    | _ => exact q.elim
  | _ =>
    rw [e] at h
    exact h.elim
theorem rAppend' (i : Nat) (a : RefE K Jx Xd te de) : RefS K Jx Xd (tDrop (tBM K "list" rAppend (tVar i) (tCons te tNil))) (dAppend i de) := fun W S0 H0 α H σ ρ D Dd I c h => by
  unfold dAppend at h
  cases e : gt ρ i with
  | own l =>
    rw [e] at h
    obtain ⟨e1, ⟨vs, e2, e3⟩, o⟩ := at_owned I.toEnv e
    refine ⟨_, e1, .inl ⟨rfl, vs, SqL.of e2⟩, a W S0 H0 α H σ ρ _ _ I (fun d v H1 q g hv => ?_) h⟩
    have I1 := I.grow g
    obtain ⟨f1, ⟨ws, f2, f3⟩, _⟩ := at_owned I1.toEnv e
    have sm := hd_set (S := hid S0 α ρ) (H := H1) (o := .lst (ws ++ [v])) (a := α i) (.inr ⟨i, o, rfl⟩)
    obtain ⟨I2, s2⟩ := I1.put (s := .own (l ++ [d])) (u := .lst (ws ++ [v])) o rfl ⟨rfl, _, upd_same, (f3.same sm).app (.one (hv.same sm))⟩ f1
    exact ⟨_, ws, v, rfl, rfl, f2, by rw [sizeLine_eq, f3.len]; exact Nat.lt_of_lt_of_le q.1 (by decide), c.nx _ _ _ _ q.2 I2 ((g.hd I.hms).trans s2)⟩
  | _ =>
    rw [e] at h
    exact h.elim
end
/-! ### new things of the frame -/
abbrev DF : Type := Ro → (List Dt → Prop) → Prop
/-- a new list -/
def RefF (K : PySem.W.Frag) (Jx : WX) (Xd : XD) (te : TE) (df : DF) : Prop := ∀ W S0 H0 α H σ ρ Qd Q, EnvX K Jx Xd W S0 H0 α H σ ρ → (∀ l p vs H', Qd l → Gw K W H H' → H p = none → H' p = some (.lst vs) → DvA K W (hd (hid (fun a => S0 a ∨ a = p) α ρ) H') vs l → Q (.ref p) H') → df ρ Qd → te σ H Q
def dOwn (i : Nat) (df : DF) : DS := fun D ρ => df ρ fun l => D.nx (pt ρ i (.own l))
theorem rOwn {K : PySem.W.Frag} {Jx : WX} {Xd : XD} {te : TE} {df : DF} (i : Nat) (a : RefF K Jx Xd te df) : RefS K Jx Xd (tAsg te (gName i)) (dOwn i df) := fun W S0 H0 α H σ ρ D Dd I c h =>
  a W S0 H0 α H σ ρ _ _ I (fun l p vs H' q g hp hp' hv => by
    obtain ⟨I2, s2⟩ := I.hide g hp (by rw [hp']; exact fun z => nomatch z) (I.noMt hp)
    obtain ⟨n0, nS⟩ := I.none0 hp
    obtain ⟨I3, s3⟩ := I2.adopt (i := i) (s := .own l) n0 nS rfl ⟨rfl, vs, hp', hv⟩
    exact c.nx _ _ _ _ q I3 (s2.trans s3)) h
def fLst (da : DA) : DF := fun ρ Q => da ρ fun xs => xs.length ≤ 16777216 ∧ Q xs
theorem hid_new {S0 : Addr → Prop} {H : Hp} {α : Nat → Addr} {ρ : Ro} {p : Addr} {o : HO} (hp : H p = none) : Same (hd (hid S0 α ρ) H) (hd (hid (fun a => S0 a ∨ a = p) α ρ) (upd H p o)) := fun a u e => by
  obtain ⟨h1, h2⟩ := hd_get e
  have ne := ne_of_none h2 hp
  refine hd_at (by rw [upd_ne ne]; exact h2) fun z => ?_
  rcases z with (z | z) | z
  · exact h1 (.inl z)
  · exact ne z
  · exact h1 (.inr z)
theorem rfLst {K : PySem.W.Frag} {Jx : WX} {Xd : XD} {t : TA} {da : DA} (a : RefA K Jx Xd t da) : RefF K Jx Xd (tLst t) (fLst da) := fun W S0 H0 α H σ ρ Qd Q I c h =>
  a W S0 H0 α H σ ρ _ _ I (fun ds vs H1 q g hs => ⟨by rw [sizeLine_eq, hs.len]; exact Nat.le_trans q.1 (by decide), fun p hp => by
    have hp0 : H p = none := by
      cases z : H p with
      | none => rfl
      | some w => exact absurd hp (g.ne p (by rw [z]; exact fun q => nomatch q))
    exact c ds p vs _ q.2 (g.trans (.new g.bag hp)) hp0 upd_same (hs.same (hid_new hp))⟩) h

end
section

/-! ### what is walked; for, while, comprehensions -/
/-- J walks the items ds while Pm holds -/
structure Wk (K : PySem.W.Frag) (W : Wd) (J : It) (ds : List Dt) (Pm : (Addr → Prop) → Hp → Prop) : Prop where
  ex : ∃ (n : Nat) (G : Hp → Prop) (Y : Nat → Hp → V → Hp → Prop), n = ds.length ∧ Walk J n G Y ∧ (∀ S H, Pm S H → G H) ∧
    ∀ S i H1 x H2, i < n → Pm S H1 → (∀ a, S a → H1 a ≠ none) → Y i H1 x H2 → (∃ d, ds[i]? = some d ∧ Dv K W (hd S H2) x d) ∧ (H2 = H1 ∨ ∃ T o, H1 T = none ∧ H2 = upd H1 T o)
/-- as long as what was seen stands -/
def Pst (M : Hp) : (Addr → Prop) → Hp → Prop := fun S H => Same M (hd S H)
/-- as long as the heap but grows -/
def Pgr (K : PySem.W.Frag) (W : Wd) (M H0 : Hp) : (Addr → Prop) → Hp → Prop := fun S H => Same M (hd S H) ∧ Same (hd (mt W) H0) H
abbrev DI : Type := Ro → (List Dt → Prop) → Prop
def RefI (K : PySem.W.Frag) (Jx : WX) (Xd : XD) (wi : TI) (di : DI) : Prop := ∀ W S0 H0 α H σ ρ Qd R, EnvX K Jx Xd W S0 H0 α H σ ρ → (∀ ds J H', Qd ds → Gw K W H H' → Wk K W J ds (Pst (hd (hid S0 α ρ) H')) → R J H') → di ρ Qd → wi σ H R
def RefJ (K : PySem.W.Frag) (Jx : WX) (Xd : XD) (wi : TI) (di : DI) : Prop := ∀ W S0 H0 α H σ ρ Qd R, EnvX K Jx Xd W S0 H0 α H σ ρ → (∀ ds J H', Qd ds → Gw K W H H' → Wk K W J ds (Pgr K W (hd (hid S0 α ρ) H') H') → R J H') → di ρ Qd → wi σ H R
theorem RefI.j {K : PySem.W.Frag} {Jx : WX} {Xd : XD} {wi : TI} {di : DI} (r : RefI K Jx Xd wi di) : RefJ K Jx Xd wi di := fun W S0 H0 α H σ ρ Qd R I c h => r W S0 H0 α H σ ρ Qd R I (fun ds J H' q g w => c ds J H' q g (by
  obtain ⟨n, G, Y, e, wk, a, b⟩ := w.ex
  exact ⟨⟨n, G, Y, e, wk, fun S H p => a S H p.1, fun S i H1 x H2 hi p => b S i H1 x H2 hi p.1⟩⟩)) h
def dSeqOf (d : Dt) (Q : List Dt → Prop) : Prop := match d with
  | .lst l => Q l
  | .tup l => Q l
  | _ => False
def jSq (da : DE) : DI := fun ρ Q => da ρ fun d => dSeqOf d Q
section
variable {K : PySem.W.Frag} {Jx : WX} {Xd : XD} {W : Wd} {S : Addr → Prop} {H : Hp}
/-- a sequence read: what stands there -/
theorem sh_seq {v : V} {d : Dt} {Q : List Dt → Prop} (O : Ok K W S H) (h : Sh K W S H v d) (q : dSeqOf d Q) : ∃ a t xs l, v = .ref a ∧ SqB K t H a xs ∧ DvA K W (hd S H) xs l ∧ Q l ∧ ∀ H', Same (hd (mt W) H) H' → SqB K t H' a xs := by
  cases d with
  | lst l =>
    obtain ⟨a, vs, rfl, h1, h2, h3⟩ := h
    exact ⟨a, false, vs, l, rfl, SqL.of h2, h3, q, fun H' e => SqL.of (e _ _ (hd_at h2 h1))⟩
  | tup l =>
    have h' : Dv K W (hd S H) v (.tup l) := h
    cases h' with
    | tup h1 h2 => exact ⟨_, true, _, l, rfl, same_sqt hd_le h1, h2, q, fun H' e => same_sqt ((hd_sub O.ms).trans e) h1⟩
  | _ => exact q.elim
theorem dv_seq {v : V} {d : Dt} {Q : List Dt → Prop} (h : Dv K W (hd S H) v d) (q : dSeqOf d Q) : ∃ a t xs l, v = .ref a ∧ SqB K t (hd S H) a xs ∧ DvA K W (hd S H) xs l ∧ Q l := by
  cases h with
  | lst h1 h2 => exact ⟨_, false, _, _, rfl, SqL.of h1, h2, q⟩
  | tup h1 h2 => exact ⟨_, true, _, _, rfl, h1, h2, q⟩
  | _ => exact q.elim
end
theorem riSq {K : PySem.W.Frag} {Jx : WX} {Xd : XD} {te : TE} {de : DE} (a : RefE K Jx Xd te de) : RefI K Jx Xd (iSq K te) (jSq de) := fun W S0 H0 α H σ ρ Qd R I c h =>
  v_sq (a W S0 H0 α H σ ρ _ _ I (fun d v H1 q g hv => by
    obtain ⟨p, t, xs, l, rfl, h1, h2, h3⟩ := dv_seq hv q
    refine v_sqr (same_sqb hd_le h1) (c l _ H1 h3 g ⟨_, _, _, by rw [← h2.len], walk_sq, fun S H e => same_sqb (e.trans hd_le) h1, fun S i H2 x H3 hi e _ y => ?_⟩)
    obtain ⟨rfl, hx⟩ := y
    obtain ⟨d, e1, e2⟩ := h2.get hx
    exact ⟨⟨d, e1, e2.same e⟩, .inl rfl⟩) h)
theorem rjSq {K : PySem.W.Frag} {Jx : WX} {Xd : XD} {te : TE} {de : DE} (a : RefB K Jx Xd te de) : RefJ K Jx Xd (iSq K te) (jSq de) := fun W S0 H0 α H σ ρ Qd R I c h =>
  v_sq (a W S0 H0 α H σ ρ _ _ I (fun d v H1 q g hv => by
    obtain ⟨p, t, xs, l, rfl, h1, h2, h3, h4⟩ := sh_seq (I.ok.grow g) hv q
    refine v_sqr h1 (c l _ H1 h3 g ⟨_, _, _, by rw [← h2.len], walk_sq, fun S H e => h4 _ e.2, fun S i H2 x H3 hi e _ y => ?_⟩)
    obtain ⟨rfl, hx⟩ := y
    obtain ⟨d, e1, e2⟩ := h2.get hx
    exact ⟨⟨d, e1, e2.same e.1⟩, .inl rfl⟩) h)
def rngD (lo : Int) (n : Nat) : List Dt := (List.range n).map fun (i : Nat) => .int (lo + (i : Int))
def jRng1 (da : DA) : DI := fun ρ Q => da ρ fun ds => match ds with
  | [.int j] => (-4611686018427387904 ≤ j ∧ j < 4611686018427387904) ∧ Q (rngD 0 j.toNat)
  | _ => False
def jRng2 (da : DA) : DI := fun ρ Q => da ρ fun ds => match ds with
  | [.int i, .int j] => (-4611686018427387904 ≤ i ∧ i < 4611686018427387904 ∧ -4611686018427387904 ≤ j ∧ j < 4611686018427387904) ∧ Q (rngD i (j - i).toNat)
  | _ => False
theorem rng_get {lo : Int} {n i : Nat} (h : i < n) : (rngD lo n)[i]? = some (.int (lo + i)) := by
  unfold rngD
  rw [List.getElem?_map, List.getElem?_range h]
  rfl
theorem wk_rng {K : PySem.W.Frag} {W : Wd} {lo : Int} {n : Nat} {Pm : (Addr → Prop) → Hp → Prop} : Wk K W (Itr lo n) (rngD lo n) Pm :=
  ⟨n, _, _, by simp [rngD], walk_range, fun _ _ _ => trivial, fun S i H1 x H2 hi _ _ y => by
    obtain ⟨rfl, rfl⟩ := y
    exact ⟨⟨_, rng_get hi, .int _⟩, .inl rfl⟩⟩
theorem shA1 {K : PySem.W.Frag} {W : Wd} {S : Addr → Prop} {H : Hp} {vs : List V} {i : Int} (h : ShA K W S H vs [.int i]) : vs = [.int i] := by
  cases h with
  | cons h r =>
    cases r
    cases (show Dv K W (hd S H) _ (.int i) from h)
    rfl
theorem shA2 {K : PySem.W.Frag} {W : Wd} {S : Addr → Prop} {H : Hp} {vs : List V} {i j : Int} (h : ShA K W S H vs [.int i, .int j]) : vs = [.int i, .int j] := by
  cases h with
  | cons h r =>
    rw [shA1 r]
    cases (show Dv K W (hd S H) _ (.int i) from h)
    rfl
theorem two62 : (2 : Int) ^ 62 = 4611686018427387904 := by decide
theorem riRng1 {K : PySem.W.Frag} {Jx : WX} {Xd : XD} {t : TA} {da : DA} (a : RefX K Jx Xd t da) : RefI K Jx Xd (iRng1 t) (jRng1 da) := fun W S0 H0 α H σ ρ Qd R I c h =>
  a W S0 H0 α H σ ρ _ _ I (fun ds vs H1 q g hs => by
    match ds, q, hs with
    | [.int j], q, hs =>
      obtain rfl := shA1 hs
      exact ⟨j, rfl, by rw [two62]; exact q.1.1, by rw [two62]; exact q.1.2, c _ _ H1 q.2 g wk_rng⟩) h
theorem riRng2 {K : PySem.W.Frag} {Jx : WX} {Xd : XD} {t : TA} {da : DA} (a : RefX K Jx Xd t da) : RefI K Jx Xd (iRng2 t) (jRng2 da) := fun W S0 H0 α H σ ρ Qd R I c h =>
  a W S0 H0 α H σ ρ _ _ I (fun ds vs H1 q g hs => by
    match ds, q, hs with
    | [.int i, .int j], q, hs =>
      obtain rfl := shA2 hs
      exact ⟨i, j, rfl, by rw [two62]; exact q.1, c _ _ H1 q.2 g wk_rng⟩) h
/-! pairs -/
theorem dv_pair {K : PySem.W.Frag} {W : Wd} {S : Addr → Prop} {H : Hp} {T : Addr} {x y : V} {d e : Dt} (kn : ∀ a, S a → H a ≠ none) (hT : H T = none) (h1 : Dv K W (hd S H) x d) (h2 : Dv K W (hd S H) y e) : Dv K W (hd S (upd H T (.tup [x, y]))) (.ref T) (.tup [d, e]) :=
  .tup (.inl (.inl (hd_at upd_same fun z => kn T z hT))) (.cons (h1.same (hd_new hT)) (.cons (h2.same (hd_new hT)) .nil))
def zipD (l m : List Dt) : List Dt := List.zipWith (fun x y => .tup [x, y]) l m
def jZip (da : DA) : DI := fun ρ Q => da ρ fun ds => match ds with
  | [x, y] => dSeqOf x fun l => dSeqOf y fun m => l.length = m.length ∧ Q (zipD l m)
  | _ => False
theorem wk_zip {K : PySem.W.Frag} {W : Wd} {S : Addr → Prop} {H : Hp} {a b : Addr} {t1 t2 : Bool} {xs ys : List V} {l m : List Dt} {Pm : (Addr → Prop) → Hp → Prop} (hP : ∀ S' H', Pm S' H' → Same (hd S H) (hd S' H')) (hG : ∀ S' H', Pm S' H' → SqB K t1 H' a xs ∧ SqB K t2 H' b ys) (h1 : DvA K W (hd S H) xs l) (h2 : DvA K W (hd S H) ys m) (e : l.length = m.length) :
    Wk K W (ItzM K t1 t2 a b) (zipD l m) Pm :=
  ⟨l.length, _, _, by unfold zipD; rw [List.length_zipWith]; omega, walk_zipM (xs := xs) (ys := ys) h1.len.symm (by rw [h2.len]; exact e), hG, fun S' i H1 x H2 hi p kn y => by
    obtain ⟨T, u, v, rfl, hT, rfl, hu, hv⟩ := y
    obtain ⟨d, e1, e2⟩ := h1.get hu
    obtain ⟨d', f1, f2⟩ := h2.get hv
    exact ⟨⟨.tup [d, d'], by unfold zipD; rw [List.getElem?_zipWith, e1, f1], dv_pair kn hT (e2.same (hP _ _ p)) (f2.same (hP _ _ p))⟩, .inr ⟨T, _, hT, rfl⟩⟩⟩
theorem rjZip {K : PySem.W.Frag} {Jx : WX} {Xd : XD} {t : TA} {da : DA} (a : RefX K Jx Xd t da) : RefJ K Jx Xd (iZipU K t) (jZip da) := fun W S0 H0 α H σ ρ Qd R I c h =>
  v_zu (a W S0 H0 α H σ ρ _ _ I (fun ds vs H1 q g hs => by
    match ds, q, hs with
    | [x, y], q, .cons hx (.cons hy .nil) =>
      have O := I.ok.grow g
      obtain ⟨p1, t1, xs, l, rfl, a1, a2, a3, a4⟩ := sh_seq O hx q
      obtain ⟨p2, t2, ys, m, rfl, b1, b2, b3, b4⟩ := sh_seq O hy a3
      exact v_zur a1 b1 (c _ _ H1 b3.2 g (wk_zip (fun S' H' p => p.1) (fun S' H' p => ⟨a4 _ p.2, b4 _ p.2⟩) a2 b2 b3.1))) h)
theorem riZip {K : PySem.W.Frag} {Jx : WX} {Xd : XD} {t : TA} {da : DA} (a : RefA K Jx Xd t da) : RefI K Jx Xd (iZipU K t) (jZip da) := fun W S0 H0 α H σ ρ Qd R I c h =>
  v_zu (a W S0 H0 α H σ ρ _ _ I (fun ds vs H1 q g hs => by
    match ds, q, hs with
    | [x, y], q, .cons hx (.cons hy .nil) =>
      obtain ⟨p1, t1, xs, l, rfl, a1, a2, a3⟩ := dv_seq hx q
      obtain ⟨p2, t2, ys, m, rfl, b1, b2, b3⟩ := dv_seq hy a3
      exact v_zur (same_sqb hd_le a1) (same_sqb hd_le b1) (c _ _ H1 b3.2 g (wk_zip (fun S' H' p => p) (fun S' H' p => ⟨same_sqb (p.trans hd_le) a1, same_sqb (p.trans hd_le) b1⟩) a2 b2 b3.1))) h)
/-! loops -/
def dForGo (dg : DG) (db : DS) (D : DEnds) : List Dt → Ro → Prop
  | [], ρ => D.nx ρ
  | x :: xs, ρ => dg x ρ fun ρ' => db { D with nx := dForGo dg db D xs, ct := dForGo dg db D xs, bk := D.nx } ρ'
def dFor (di : DI) (dg : DG) (db : DS) : DS := fun D ρ => di ρ fun ds => dForGo dg db D ds ρ
theorem gw_turn {K : PySem.W.Frag} {W : Wd} {H1 H2 : Hp} (b : BagI K W H1) (h : H2 = H1 ∨ ∃ T o, H1 T = none ∧ H2 = upd H1 T o) : Gw K W H1 H2 := by
  rcases h with rfl | ⟨T, o, hT, rfl⟩
  · exact .refl b
  · exact .new b hT
theorem rFor {K : PySem.W.Frag} {Jx : WX} {Xd : XD} {wi : TI} {di : DI} {g : TG} {dg : DG} {s : TS} {ds : DS} (a : RefI K Jx Xd wi di) (b : RefG K Jx Xd g dg) (c : RefS K Jx Xd s ds) : RefS K Jx Xd (tFor wi g s) (dFor di dg ds) := fun W S0 H0 α H σ ρ D Dd I r h =>
  v_for (a W S0 H0 α H σ ρ _ _ I (fun items J H' q gw w => by
    have I1 := I.grow gw
    have r1 := r.grow I.toEnv gw
    obtain ⟨n, G, Y, en, wk, hG, hY⟩ := w.ex
    refine for_w wk (fun i σ1 H1 => ∃ α1 ρ1, EnvX K Jx Xd W S0 H0 α1 H1 σ1 ρ1 ∧ Same (hd (hid S0 α ρ) H') (hd (hid S0 α1 ρ1) H1) ∧ dForGo dg ds Dd (items.drop i) ρ1) ⟨α, ρ, I1, Same.refl _, q⟩ (fun i σ1 H1 _ ⟨α1, ρ1, I2, e2, _⟩ => hG _ _ e2) ?_ ?_
    · rintro i x σ1 H1 H2 hi ⟨α1, ρ1, I2, e2, go⟩ y
      obtain ⟨⟨d, hd1, hd2⟩, tn⟩ := hY _ i H1 x H2 hi e2 I2.hkn y
      have il : i < items.length := by omega
      have ed : items.drop i = d :: items.drop (i + 1) := by
        rw [List.drop_eq_getElem_cons il]
        rw [List.getElem?_eq_getElem il] at hd1
        rw [Option.some.inj hd1]
      rw [ed] at go
      have g2 := gw_turn I2.gw.bag tn
      have e3 := e2.trans (g2.hd I2.hms)
      refine b W S0 H0 α1 H2 σ1 ρ1 d x _ _ (I2.grow g2) hd2 (fun α3 H3 σ3 ρ3 go3 I3 e4 => ?_) go
      have e5 := e3.trans e4
      exact c W S0 H0 α3 H3 σ3 ρ3 _ { Dd with nx := dForGo dg ds Dd (items.drop (i + 1)), ct := dForGo dg ds Dd (items.drop (i + 1)), bk := Dd.nx } (I1.next I3 e5)
        ⟨fun α4 H4 σ4 ρ4 p I4 e6 => ⟨α4, ρ4, I1.next I4 (e5.trans e6), e5.trans e6, p⟩, r.rt, fun α4 H4 σ4 ρ4 p I4 e6 => r1.nx α4 H4 σ4 ρ4 p I4 (e5.trans e6), fun α4 H4 σ4 ρ4 p I4 e6 => ⟨α4, ρ4, I1.next I4 (e5.trans e6), e5.trans e6, p⟩⟩ go3
    · rintro σ1 H1 ⟨α1, ρ1, I2, e2, go⟩
      rw [en, List.drop_length] at go
      exact r1.nx α1 H1 σ1 ρ1 go I2.toEnv e2) h)
def dWhGo (dt : DT) (db : DS) (D : DEnds) : Nat → Ro → Prop
  | 0, _ => False
  | n + 1, ρ => dt ρ fun b => (b = true → db { D with nx := dWhGo dt db D n, ct := dWhGo dt db D n, bk := D.nx } ρ) ∧ (b = false → D.nx ρ)
def dWhile (dt : DT) (db : DS) : DS := fun D ρ => ∃ n, dWhGo dt db D n ρ
theorem rWhile {K : PySem.W.Frag} {Jx : WX} {Xd : XD} {tt : TT} {dt : DT} {s : TS} {ds : DS} (a : RefT K Jx Xd tt dt) (c : RefS K Jx Xd s ds) : RefS K Jx Xd (tWhile tt s) (dWhile dt ds) := fun W S0 H0 α H σ ρ D Dd I r ⟨n0, h⟩ => by
  refine ⟨fun n σ1 H1 => ∃ α1 ρ1, EnvX K Jx Xd W S0 H0 α1 H1 σ1 ρ1 ∧ Same (hd (hid S0 α ρ) H) (hd (hid S0 α1 ρ1) H1) ∧ dWhGo dt ds Dd n ρ1, ⟨n0, α, ρ, I, Same.refl _, h⟩, ?_⟩
  rintro n σ1 H1 ⟨α1, ρ1, I2, e2, go⟩
  cases n with
  | zero => exact go.elim
  | succ n =>
    refine a W S0 H0 α1 H1 σ1 ρ1 _ _ I2 (fun k H2 q g => ?_) go
    have e3 := e2.trans (g.hd I2.hms)
    cases k with
    | true =>
      refine (if_pos rfl).mpr ⟨fun σ' H' => ∃ α1 ρ1, EnvX K Jx Xd W S0 H0 α1 H' σ' ρ1 ∧ Same (hd (hid S0 α ρ) H) (hd (hid S0 α1 ρ1) H') ∧ dWhGo dt ds Dd n ρ1, fun σ' H' p => ⟨n, Nat.lt_succ_self _, p⟩, ?_⟩
      exact c W S0 H0 α1 H2 σ1 ρ1 _ { Dd with nx := dWhGo dt ds Dd n, ct := dWhGo dt ds Dd n, bk := Dd.nx } (I2.grow g) ⟨fun α4 H4 σ4 ρ4 p I4 e6 => ⟨α4, ρ4, I.next I4 (e3.trans e6), e3.trans e6, p⟩, r.rt, fun α4 H4 σ4 ρ4 p I4 e6 => r.nx α4 H4 σ4 ρ4 p I4 (e3.trans e6), fun α4 H4 σ4 ρ4 p I4 e6 => ⟨α4, ρ4, I.next I4 (e3.trans e6), e3.trans e6, p⟩⟩ (q.1 rfl)
    | false => exact (if_neg Bool.false_ne_true).mpr (r.nx α1 H2 σ1 ρ1 (q.2 rfl) (I2.grow g).toEnv e3)
/-! comprehensions -/
def RefGc (K : PySem.W.Frag) (Jx : WX) (Xd : XD) (ws : List Nat) (g : TG) (dg : DG) : Prop := ∀ W S0 H0 α H σ ρ d v Qd Q, EnvX K Jx Xd W S0 H0 α H σ ρ → clr ρ ws → Dv K W (hd (hid S0 α ρ) H) v d → (∀ σ' ρ', Qd ρ' → Env K W S0 H0 α H σ' ρ' → clr ρ' ws → hid S0 α ρ' = hid S0 α ρ → wipe σ' ws = wipe σ ws → Q σ' H) → dg d ρ Qd → g v σ H Q
def RefGsc (K : PySem.W.Frag) (Jx : WX) (Xd : XD) (ws : List Nat) (g : TGs) (dg : DGs) : Prop := ∀ W S0 H0 α H σ ρ ds vs Qd Q, EnvX K Jx Xd W S0 H0 α H σ ρ → clr ρ ws → DvA K W (hd (hid S0 α ρ) H) vs ds → (∀ σ' ρ', Qd ρ' → Env K W S0 H0 α H σ' ρ' → clr ρ' ws → hid S0 α ρ' = hid S0 α ρ → wipe σ' ws = wipe σ ws → Q σ' H) → dg ds ρ Qd → g vs σ H Q
theorem wipe_set {σ : L2.St} {x : Option V} : ∀ {ws : List Nat} {i : Nat}, i ∈ ws → wipe (σ.set i x) ws = wipe σ ws
  | v :: vs, i, h => by
    show (wipe (σ.set i x) vs).set v none = (wipe σ vs).set v none
    by_cases m : i ∈ vs
    · rw [wipe_set m]
    · have e : i = v := by
        rcases List.mem_cons.mp h with e | e
        · exact e
        · exact absurd e m
      subst e
      have sw : ∀ {us : List Nat}, i ∉ us → wipe (σ.set i x) us = (wipe σ us).set i x := by
        intro us
        induction us with
        | nil => intro _; rfl
        | cons u us ih =>
          intro hm
          show (wipe (σ.set i x) us).set u none = ((wipe σ us).set u none).set i x
          rw [ih fun e => hm (by simp [e]), List.set_comm _ _ fun e => hm (by simp [e])]
      rw [sw m, List.set_set]
theorem pt_own {ρ : Ro} {i j : Nat} {d : Dt} (c : (gt ρ i).owned = false) : (gt (pt ρ i (.val d)) j).owned = (gt ρ j).owned := by
  by_cases e : j = i
  · subst e
    by_cases l : j < ρ.length
    · rw [gt_pt l, c]
      rfl
    · rw [gt_pt_out (by omega)]
  · rw [gt_pt_ne e]
theorem rcN {K : PySem.W.Frag} {Jx : WX} {Xd : XD} {ws : List Nat} (i : Nat) (h : i ∈ ws) : RefGc K Jx Xd ws (gName i) (gN i) := fun W S0 H0 α H σ ρ d v Qd Q I cl hv c q => by
  obtain ⟨I2, e2⟩ := I.set hv
  refine c _ _ q I2 (fun j hj => by rw [pt_own (cl i h)]; exact cl j hj) ?_ (wipe_set h)
  funext a
  unfold hid
  simp only [pt_own (cl i h)]
theorem rcsNil {K : PySem.W.Frag} {Jx : WX} {Xd : XD} {ws : List Nat} : RefGsc K Jx Xd ws gNil gsNil := fun W S0 H0 α H σ ρ ds vs Qd Q I cl hv c h => by
  cases hv with
  | nil => exact ⟨rfl, c _ _ h I.toEnv cl rfl rfl⟩
  | cons _ _ => exact h.elim
theorem rcsCons {K : PySem.W.Frag} {Jx : WX} {Xd : XD} {ws : List Nat} {g : TG} {dg : DG} {gs : TGs} {dgs : DGs} (a : RefGc K Jx Xd ws g dg) (b : RefGsc K Jx Xd ws gs dgs) : RefGsc K Jx Xd ws (gCons g gs) (gsCons dg dgs) := fun W S0 H0 α H σ ρ ds vs Qd Q I cl hv c h => by
  cases hv with
  | nil => exact h.elim
  | cons h1 h2 => exact ⟨_, _, rfl, a W S0 H0 α H σ ρ _ _ _ _ I cl h1 (fun σ' ρ' p I' cl' e w => b W S0 H0 α H σ' ρ' _ _ Qd Q (I.next I' (by rw [e]; exact Same.refl _)) cl' (by rw [e]; exact h2) (fun σ2 ρ2 p2 I2 cl2 e2 w2 => c σ2 ρ2 p2 I2 cl2 (e2.trans e) (w2.trans w)) p) h⟩
theorem rcT {K : PySem.W.Frag} {Jx : WX} {Xd : XD} {ws : List Nat} {gs : TGs} {dgs : DGs} (n : Nat) (a : RefGsc K Jx Xd ws gs dgs) : RefGc K Jx Xd ws (gTup K n gs) (gT n dgs) := fun W S0 H0 α H σ ρ d v Qd Q I cl hv c h => by
  cases hv with
  | tup h1 h2 => exact ⟨_, _, rfl, same_sqt hd_le h1, h2.len.trans h.1, a W S0 H0 α H σ ρ _ _ Qd Q I cl h2 c h.2⟩
  | _ => exact h.elim
theorem wipe_wipe_sub {σ : L2.St} {ws : List Nat} : ∀ us : List Nat, (∀ i, i ∈ us → i ∈ ws) → wipe (wipe σ us) ws = wipe σ ws
  | [], _ => rfl
  | u :: us, h => by
    show wipe ((wipe σ us).set u none) ws = _
    rw [wipe_set (h u (by simp)), wipe_wipe_sub us fun i hi => h i (by simp [hi])]
theorem wipe_wipe' {σ : L2.St} {ws : List Nat} : wipe (wipe σ ws) ws = wipe σ ws := wipe_wipe_sub ws fun _ h => h
def if2 (b : Bool) (p q : Prop) : Prop := match b with
  | true => p
  | false => q
def dLcGo (dg : DG) (dt : DT) (de : DE) (ρ : Ro) (Q : List Dt → Prop) : List Dt → List Dt → Prop
  | [], acc => Q acc
  | x :: xs, acc => dg x ρ fun ρ' => dt ρ' fun b => if2 b (de ρ' fun y => dLcGo dg dt de ρ Q xs (acc ++ [y])) (dLcGo dg dt de ρ Q xs acc)
def fLc (di : DI) (dg : DG) (dt : DT) (de : DE) (ws : List Nat) : DF := fun ρ Q => (ws.all fun i => !(gt ρ i).owned) = true ∧ di ρ fun items => items.length ≤ 1000000 ∧ dLcGo dg dt de (wp ρ ws) Q items []
def dLc (di : DI) (dg : DG) (dt : DT) (de : DE) (ws : List Nat) : DE := fun ρ Q => fLc di dg dt de ws ρ fun l => Q (.lst l)
theorem rfLc {K : PySem.W.Frag} {Jx : WX} {Xd : XD} {wi : TI} {di : DI} {g : TG} {dg : DG} {tt : TT} {dt : DT} {te : TE} {de : DE} {ws : List Nat} (a : RefJ K Jx Xd wi di) (b : RefGc K Jx Xd ws g dg) (c : RefT K Jx Xd tt dt) (e : RefE K Jx Xd te de) : RefF K Jx Xd (tLc wi g tt te ws) (fLc di dg dt de ws) := fun W S0 H0 α H σ ρ Qd Q I r ⟨hc, h⟩ =>
  v_lc (a W S0 H0 α H σ ρ _ _ I (fun items J H' q gw w => by
    have cl : clr ρ ws := fun i hi => by
      have := List.all_eq_true.mp hc i hi
      simpa using this
    have I1 := I.grow gw
    obtain ⟨n, G, Y, en, wk, hG, hY⟩ := w.ex
    have up0 : ∀ {D : Addr} {X : Hp} {o : HO}, Same (hd (mt W) H') X → H' D = none → ¬mt W D → Same (hd (mt W) H') (upd X D o) := fun s hD nD a o e => by
      rw [upd_ne (ne_of_none (hd_get e).2 hD)]
      exact s a o e
    refine lc_w wk (fun D i H1 => H' D = none ∧ H1 D ≠ none ∧ Gw K W H' H1 ∧ ∃ vs acc, H1 D = some (.lst vs) ∧ vs.length ≤ i ∧ DvA K W (hd (hid (fun a => S0 a ∨ a = D) α ρ) H1) vs acc ∧ dLcGo dg dt de (wp ρ ws) Qd (items.drop i) acc) (fun D hD => ?_) (fun D i H1 _ ⟨hD, _, g1, _⟩ => ?_) ?_ ?_
    · exact ⟨hD, (by rw [upd_same]; exact fun z => nomatch z), Gw.new I1.gw.bag hD, [], [], upd_same, Nat.le_refl _, .nil, q.2⟩
    · exact hG (hid S0 α ρ) H1 ⟨g1.hd I1.hms, fun a o e => g1.keep a o (hd_get e).1 (hd_get e).2⟩
    · rintro D i x H1 H2 hD0 hi ⟨hD, hD1, g1, vs, acc, e1, e2, e3, go⟩ y
      have sMh : Same (hd (hid S0 α ρ) H') (hd (hid (fun a => S0 a ∨ a = D) α ρ) H1) := fun a o e => by
        obtain ⟨h1, h2⟩ := hd_get e
        refine hd_at (g1.keep a o (fun z => h1 (I1.hms a z)) h2) fun z => ?_
        rcases z with (z | z) | z
        · exact h1 (.inl z)
        · exact ne_of_none h2 hD z
        · exact h1 (.inr z)
      obtain ⟨Ih, _⟩ := I1.hide g1 hD hD1 (I1.noMt hD)
      obtain ⟨⟨d, hd1, hd2⟩, tn⟩ := hY (hid (fun a => S0 a ∨ a = D) α ρ) i H1 x H2 hi ⟨sMh, fun a o e => g1.keep a o (hd_get e).1 (hd_get e).2⟩ Ih.hkn y
      have g2 := gw_turn Ih.gw.bag tn
      obtain ⟨Iw, hw⟩ := (Ih.grow g2).wipe cl
      have il : i < items.length := by omega
      have ed : items.drop i = d :: items.drop (i + 1) := by
        rw [List.drop_eq_getElem_cons il]
        rw [List.getElem?_eq_getElem il] at hd1
        rw [Option.some.inj hd1]
      rw [ed] at go
      have nD : ¬mt W D := fun ⟨z, hz⟩ => by
        have := (I1.gw.bag D z hz).some
        exact this hD
      have stay : ∀ {H4 : Hp}, Gw K W H2 H4 → H4 D = some (.lst vs) := fun g4 => (g2.trans g4).keep _ _ nD e1
      have cw : clr (wp ρ ws) ws := fun i hi => by
        rcases wp_or (ρ := ρ) (ws := ws) (i := i) with h | ⟨_, h⟩
        · rw [h]; rfl
        · exact absurd hi h
      have gUp : ∀ {H4 : Hp} {o : HO}, Gw K W H1 H4 → Gw K W H' (upd H4 D o) := fun g4 => .put I1.gw.bag (g1.trans g4) hD
      refine b W _ H0 α H2 _ (wp ρ ws) d x _ _ Iw cw (by rw [hw]; exact hd2) (fun σ3 ρ3 go3 I3 cl3 h3 w3 => ⟨by rw [w3, wipe_wipe'], ?_⟩) go
      have I3 := Iw.next I3 (by rw [h3]; exact Same.refl _)
      refine c W _ H0 α H2 σ3 ρ3 _ _ I3 (fun k H3 q3 g3 => ?_) go3
      cases k with
      | true =>
        refine (if_pos rfl).mpr (e W _ H0 α H3 σ3 ρ3 _ _ (I3.grow g3) (fun dy y4 H4 q4 g4 hy => ?_) q3)
        have g34 := g3.trans g4
        have eD := stay g34
        have smU := hd_set (S := hid (fun a => S0 a ∨ a = D) α ρ) (H := H4) (o := .lst (vs ++ [y4])) (a := D) (.inl (.inr rfl))
        rw [h3, hw] at hy
        exact ⟨vs, eD, by rw [sizeLine_eq]; exact Nat.lt_of_le_of_lt e2 (Nat.lt_of_lt_of_le hi (by rw [en]; exact Nat.le_trans q.1 (by decide))), hD, (by rw [upd_same]; exact fun z => nomatch z), gUp (g2.trans g34), _, acc ++ [dy], upd_same, (by simp; omega),
          ((e3.same ((g2.trans g34).hd Ih.hms)).same smU).app (.one (hy.same smU)), q4⟩
      | false =>
        refine (if_neg Bool.false_ne_true).mpr ?_
        exact ⟨hD, (g2.trans g3).ne D hD1, g1.trans (g2.trans g3), vs, acc, stay g3, by omega, e3.same ((g2.trans g3).hd Ih.hms), q3⟩
    · rintro D H1 hD0 ⟨hD, hD1, g1, vs, acc, e1, e2, e3, go⟩
      rw [en, List.drop_length] at go
      have hDH : H D = none := by
        cases z : H D with
        | none => rfl
        | some u => exact absurd hD (gw.ne D (by rw [z]; exact fun q => nomatch q))
      exact r acc D vs H1 go (gw.trans g1) hDH e1 e3) h)
/-- a new list as a value -/
theorem RefF.e {K : PySem.W.Frag} {Jx : WX} {Xd : XD} {te : TE} {df : DF} (a : RefF K Jx Xd te df) : RefE K Jx Xd te (fun ρ Q => df ρ fun l => Q (.lst l)) := fun W S0 H0 α H σ ρ Qd Q I c h =>
  a W S0 H0 α H σ ρ _ _ I (fun l p vs H' q g hp hp' hv => c _ _ H' q g (.lst (hd_at hp' (I.ok.out hp)) (hv.same (hd_sub fun a z => z.elim (fun y => .inl (.inl y)) .inr)))) h
theorem rLc {K : PySem.W.Frag} {Jx : WX} {Xd : XD} {wi : TI} {di : DI} {g : TG} {dg : DG} {tt : TT} {dt : DT} {te : TE} {de : DE} {ws : List Nat} (a : RefJ K Jx Xd wi di) (b : RefGc K Jx Xd ws g dg) (c : RefT K Jx Xd tt dt) (e : RefE K Jx Xd te de) : RefE K Jx Xd (tLc wi g tt te ws) (dLc di dg dt de ws) := (rfLc a b c e).e

end
section

/-! ### operators over data -/
mutual
def plain : Dt → Bool
  | .non => true
  | .bl _ => true
  | .int _ => true
  | .str _ => true
  | .lst l => plainAll l
  | .tup l => plainAll l
  | _ => false
def plainAll : List Dt → Bool
  | [] => true
  | d :: r => plain d && plainAll r
end
mutual
def pyD : Dt → PyData
  | .bl b => .bool b
  | .int i => .int i
  | .str s => .str s
  | .lst l => .list (pyAll l)
  | .tup l => .tuple (pyAll l)
  | _ => .none
def pyAll : List Dt → List PyData
  | [] => []
  | d :: r => pyD d :: pyAll r
end
section
variable {K : PySem.W.Frag} {W : Wd} {A : Hp}
mutual
theorem Dv.dp : ∀ {v : V} {d : Dt}, Dv K W A v d → plain d = true → Dp K A v (pyD d)
  | _, _, .non, _ => .non
  | _, _, .bl b, _ => .bl b
  | _, _, .int i, _ => .int i
  | _, _, .str s, _ => .str s
  | _, _, .lst h r, p => .lst (SqL.of h) (DvA.dp r p)
  | _, _, .tup h r, p => .tup h (DvA.dp r p)
theorem DvA.dp : ∀ {vs : List V} {ds : List Dt}, DvA K W A vs ds → plainAll ds = true → DpAll K A vs (pyAll ds)
  | _, _, .nil, _ => .nil
  | _, _, .cons h r, p => .cons (Dv.dp h (Bool.and_eq_true_iff.mp p).1) (DvA.dp r (Bool.and_eq_true_iff.mp p).2)
end
end
theorem plainAll_iff : ∀ {l : List Dt}, plainAll l = true ↔ ∀ d, d ∈ l → plain d = true
  | [] => ⟨fun _ _ h => (nomatch h), fun _ => rfl⟩
  | a :: r => by
    show (plain a && plainAll r) = true ↔ _
    rw [Bool.and_eq_true, plainAll_iff]
    simp
theorem pyAll_map : ∀ {l : List Dt}, pyAll l = l.map pyD
  | [] => rfl
  | a :: r => by
    show pyD a :: pyAll r = _
    rw [pyAll_map]
    rfl
/-- x == y of scalars, of plain data -/
def eqQ (x y : Dt) (Q : Bool → Prop) : Prop := match x, y with
  | .int i, .int j => Q (decide (i = j))
  | .str i, .str j => Q (decide (i = j))
  | .bl i, .bl j => Q (decide (i = j))
  | x, y => plain x = true ∧ plain y = true ∧ SeqAt.shaped (pyD x) = true ∧ SeqAt.shaped (pyD y) = true ∧ Q (PyData.eqv (pyD x) (pyD y))
def oAdd : DOp := fun x y Q => match x, y with
  | .int i, .int j => Q (.int (i + j))
  | .str a, .str b => a.length + b.length ≤ 16777216 ∧ Q (.str (a ++ b))
  | .lst a, .lst b => a.length + b.length ≤ 16777216 ∧ Q (.lst (a ++ b))
  | .tup a, .tup b => (a ≠ [] ∧ a.length + b.length ≤ 16777216) ∧ Q (.tup (a ++ b))
  | _, _ => False
def oInt (f : Int → Int → Dt) : DOp := fun x y Q => match x, y with
  | .int i, .int j => Q (f i j)
  | _, _ => False
def oIntC (C : Int → Int → Prop) (f : Int → Int → Dt) : DOp := fun x y Q => match x, y with
  | .int i, .int j => C i j ∧ Q (f i j)
  | _, _ => False
def oSub : DOp := oInt fun i j => .int (i - j)
def cMul (i j : Int) : Prop := CMul i j ∨ CMulW i j
def oMul : DOp := fun x y Q => match x, y with
  | .int i, .int j => cMul i j ∧ Q (.int (i * j))
  | .lst l, .int k => (-(2 ^ 63) ≤ k ∧ k < 2 ^ 63 ∧ l.length * k.toNat ≤ 16777216) ∧ Q (.lst (List.replicate k.toNat l).flatten)
  | _, _ => False
def oDivv : DOp := oIntC CDivV fun i j => .int (i.fdiv j)
def oMod : DOp := oIntC (fun _ j => j ≠ 0) fun i j => .int (i.fmod j)
def oPow : DOp := oIntC CPow fun i j => .int (i ^ j.toNat)
def oLt : DOp := oInt fun i j => .bl (decide (i < j))
def oLe : DOp := oInt fun i j => .bl (decide (i ≤ j))
def oGt : DOp := oInt fun i j => .bl (decide (j < i))
def oGe : DOp := oInt fun i j => .bl (decide (j ≤ i))
def oEq : DOp := fun x y Q => eqQ x y fun b => Q (.bl b)
def oNe : DOp := fun x y Q => eqQ x y fun b => Q (.bl (!b))
def isNonD : Dt → Bool
  | .non => true
  | _ => false
def oIs : DOp := fun x y Q => match y with
  | .non => Q (.bl (isNonD x))
  | _ => False
def oNot : DOp := fun x y Q => match y with
  | .non => Q (.bl (!isNonD x))
  | _ => False
def inQ (x y : Dt) (Q : Bool → Prop) : Prop := match y with
  | .lst l => plain x = true ∧ plainAll l = true ∧ SeqAt.shaped (pyD x) = true ∧ SeqAt.shaped (pyD (.lst l)) = true ∧ Q ((pyAll l).any fun z => PyData.eqv z (pyD x))
  | .str b => match x with
    | .str a => Q (!(Builtin.Str.occurrences b a 0 b.length 1).isEmpty)
    | _ => False
  | _ => False
def oIn : DOp := fun x y Q => inQ x y fun b => Q (.bl b)
def oNin : DOp := fun x y Q => inQ x y fun b => Q (.bl (!b))
def oIx : DOp := fun x y Q => match y with
  | .int k => dSeqOf x fun l => match atI l k with
    | some d => Q d
    | none => False
  | _ => False
def uNeg : DUn := fun x Q => match x with
  | .int i => Q (.int (-i))
  | _ => False
section
variable {K : PySem.W.Frag} {W : Wd} {S : Addr → Prop} {H : Hp}
theorem sh_dp {v : V} {d : Dt} (h : Sh K W S H v d) (p : plain d = true) : Dp K H v (pyD d) := by
  cases d with
  | lst l =>
    obtain ⟨a, vs, rfl, h1, h2, h3⟩ := h
    exact .lst (SqL.of h2) (DvA.dp (h3.same hd_le) p)
  | obj C fs => cases p
  | _ => exact Dv.dp (Dv.same hd_le h) p
theorem shInt {v : V} {i : Int} (h : Sh K W S H v (.int i)) : v = .int i := by
  cases (show Dv K W (hd S H) v (.int i) from h)
  rfl
theorem shStr {v : V} {i : Str} (h : Sh K W S H v (.str i)) : v = .str i := by
  cases (show Dv K W (hd S H) v (.str i) from h)
  rfl
theorem shBl {v : V} {i : Bool} (h : Sh K W S H v (.bl i)) : v = .bl i := by
  cases (show Dv K W (hd S H) v (.bl i) from h)
  rfl
theorem foI {f : Int → Int → V} {g : Int → Int → Dt} (hf : ∀ i j H, Dv K W H (f i j) (g i j)) : ∀ W' S H x y d e Qd Q, W' = W → Ok K W' S H → Sh K W' S H x d → Sh K W' S H y e → Cn K W' S H Qd Q → oInt g d e Qd → rI0 f x y H Q := fun W' S H x y d e Qd Q ew O hx hy c h => by
  subst ew
  match d, e, h, hx, hy with
  | .int i, .int j, h, hx, hy =>
    rw [shInt hx, shInt hy]
    exact v_i0 (c.now O h (hf i j _))
theorem foC {f : Int → Int → V} {g : Int → Int → Dt} {C : Int → Int → Prop} (hf : ∀ i j W H, Dv K W H (f i j) (g i j)) : RefOp K (rI C f) (oIntC C g) := fun W S H x y d e Qd Q O hx hy c h => by
  match d, e, h, hx, hy with
  | .int i, .int j, h, hx, hy =>
    rw [shInt hx, shInt hy]
    exact v_i h.1 (c.now O h.2 (hf i j W _))
theorem fo0 {f : Int → Int → V} {g : Int → Int → Dt} (hf : ∀ i j W H, Dv K W H (f i j) (g i j)) : RefOp K (rI0 f) (oInt g) := fun W S H x y d e Qd Q O hx hy c h => foI (fun i j H => hf i j W H) W S H x y d e Qd Q rfl O hx hy c h
theorem foSub : RefOp K rSubI oSub := fo0 fun i j W H => .int _
theorem foLt : RefOp K rLtI oLt := fo0 fun i j W H => .bl _
theorem foLe : RefOp K rLeI oLe := fo0 fun i j W H => .bl _
theorem foGt : RefOp K rGtI oGt := fo0 fun i j W H => .bl _
theorem foGe : RefOp K rGeI oGe := fo0 fun i j W H => .bl _
theorem foDivv : RefOp K rDivV oDivv := foC fun i j W H => .int _
theorem foPow : RefOp K rPowU oPow := foC fun i j W H => .int _
theorem foMod : RefOp K rModU oMod := fun W S H x y d e Qd Q O hx hy c h => .inr (foC (C := fun _ j => j ≠ 0) (f := fun i j => .int (i.fmod j)) (g := fun i j => .int (i.fmod j)) (fun i j W H => .int _) W S H x y d e Qd Q O hx hy c h)
theorem foMul : RefOp K rMulU oMul := fun W S H x y d e Qd Q O hx hy c h => by
  match d, e, h, hx, hy with
  | .int i, .int j, h, hx, hy =>
    rw [shInt hx, shInt hy]
    rcases h.1 with m | m
    · exact v_muli m (c.now O h.2 (.int _))
    · exact v_mulw m (c.now O h.2 (.int _))
  | .lst l, .int k, h, hx, hy =>
    obtain ⟨a, vs, rfl, h1, h2, h3⟩ := hx
    rw [shInt hy]
    refine .inr (.inr ⟨a, k, vs, rfl, rfl, h2, h.1.1, h.1.2.1, by rw [h3.len, sizeLine_eq]; exact Nat.le_trans h.1.2.2 (by decide), fun p hp => c.new O hp h.2 (dv_newL O hp ?_)⟩)
    generalize k.toNat = n
    induction n with
    | zero => exact .nil
    | succ n ih =>
      rw [List.replicate_succ, List.replicate_succ, List.flatten_cons, List.flatten_cons]
      exact h3.app ih
theorem foAdd : RefOp K (rAddU K) oAdd := fun W S H x y d e Qd Q O hx hy c h => by
  match d, e, h, hx, hy with
  | .int i, .int j, h, hx, hy =>
    rw [shInt hx, shInt hy]
    exact v_addi (c.now O h (.int _))
  | .str i, .str j, h, hx, hy =>
    rw [shStr hx, shStr hy]
    exact v_adds (by rw [sizeLine_eq]; exact Nat.le_trans h.1 (by decide)) (c.now O h.2 (.str _))
  | .lst l, .lst m, h, hx, hy =>
    obtain ⟨a, vs, rfl, h1, h2, h3⟩ := hx
    obtain ⟨b, us, rfl, k1, k2, k3⟩ := hy
    exact v_addl h2 k2 (by rw [h3.len, k3.len, sizeLine_eq]; exact Nat.le_trans h.1 (by decide)) fun p hp => c.new O hp h.2 (dv_newL O hp (h3.app k3))
  | .tup l, .tup m, h, hx, hy =>
    cases (show Dv K W (hd S H) x (.tup l) from hx) with
    | @tup _ xs _ h1 h2 =>
      cases (show Dv K W (hd S H) y (.tup m) from hy) with
      | @tup _ ys _ k1 k2 =>
        have ne : xs ≠ [] := fun z => h.1.1 (List.eq_nil_of_length_eq_zero (by rw [← h2.len, z]; rfl))
        refine .inr (.inr (.inr ⟨_, _, xs, ys, rfl, rfl, same_sqt hd_le h1, same_sqt hd_le k1, ne, by rw [h2.len, k2.len, sizeLine_eq]; exact Nat.le_trans h.1.2 (by decide), fun z => ?_, fun _ p hp => c.new O hp h.2 (dv_newT O hp (h2.app k2))⟩))
        have zm : m = [] := List.eq_nil_of_length_eq_zero (by rw [← k2.len, z]; rfl)
        subst zm
        have q := h.2
        rw [List.append_nil] at q
        exact c.now O q (.tup h1 h2)
theorem eqQ_ok {x y : V} {d e : Dt} {Qb : Bool → Prop} (hx : Sh K W S H x d) (hy : Sh K W S H y e) (h : eqQ d e Qb) : ∃ b, Qb b ∧ ∀ Q : VK, (Q (.bl b) H → rEqU K x y H Q) ∧ (Q (.bl (!b)) H → rNeU K x y H Q) := by
  have gen : plain d = true ∧ plain e = true ∧ SeqAt.shaped (pyD d) = true ∧ SeqAt.shaped (pyD e) = true ∧ Qb (PyData.eqv (pyD d) (pyD e)) → ∃ b, Qb b ∧ ∀ Q : VK, (Q (.bl b) H → rEqU K x y H Q) ∧ (Q (.bl (!b)) H → rNeU K x y H Q) := fun ⟨p1, p2, s1, s2, q⟩ =>
    ⟨_, q, fun Q => ⟨fun k => v_eqd (sh_dp hx p1) (sh_dp hy p2) s1 s2 k, fun k => .inr ⟨_, _, sh_dp hx p1, sh_dp hy p2, s1, s2, k⟩⟩⟩
  unfold eqQ at h
  split at h
  · rw [shInt hx, shInt hy]
    exact ⟨_, h, fun Q => ⟨fun k => v_eqi k, fun k => v_nei k⟩⟩
  · rw [shStr hx, shStr hy]
    exact ⟨_, h, fun Q => ⟨fun k => v_eqs k, fun k => v_nes k⟩⟩
  · rename_i i j
    rw [shBl hx, shBl hy]
    refine ⟨_, h, fun Q => ⟨fun k => v_eqb k, fun k => .inl ⟨rfl, ?_⟩⟩⟩
    rw [show decide (V.bl i = V.bl j) = decide (i = j) from by rw [decide_eq_decide]; exact ⟨fun z => V.bl.inj z, fun z => by rw [z]⟩]
    exact k
  · exact gen h
theorem foEq : RefOp K (rEqU K) oEq := fun W S H x y d e Qd Q O hx hy c h => by
  obtain ⟨b, q, k⟩ := eqQ_ok hx hy h
  exact (k Q).1 (c.now O q (.bl b))
theorem foNe : RefOp K (rNeU K) oNe := fun W S H x y d e Qd Q O hx hy c h => by
  obtain ⟨b, q, k⟩ := eqQ_ok hx hy h
  exact (k Q).2 (c.now O q (.bl (!b)))
theorem sh_non {v : V} {d : Dt} (h : Sh K W S H v d) : decide (v = .non) = isNonD d := by
  cases d with
  | lst l =>
    obtain ⟨a, vs, rfl, _⟩ := h
    exact decide_eq_false (fun z => nomatch z)
  | obj C fs =>
    obtain ⟨a, dx, gs, rfl, _⟩ := h
    exact decide_eq_false (fun z => nomatch z)
  | non => cases (show Dv K W (hd S H) v .non from h); rfl
  | _ => cases (show Dv K W (hd S H) v _ from h) <;> exact decide_eq_false (fun z => nomatch z)
theorem foIs : RefOp K rIsN oIs := fun W S H x y d e Qd Q O hx hy c h => by
  match e, h, hy with
  | .non, h, hy =>
    cases (show Dv K W (hd S H) y .non from hy)
    refine ⟨rfl, ?_⟩
    rw [sh_non hx]
    exact c.now O h (.bl _)
theorem foNot : RefOp K rNotN oNot := fun W S H x y d e Qd Q O hx hy c h => by
  match e, h, hy with
  | .non, h, hy =>
    cases (show Dv K W (hd S H) y .non from hy)
    refine ⟨rfl, ?_⟩
    rw [sh_non hx]
    exact c.now O h (.bl _)
theorem inQ_ok {x y : V} {d e : Dt} {Qb : Bool → Prop} (hx : Sh K W S H x d) (hy : Sh K W S H y e) (h : inQ d e Qb) : ∃ b, Qb b ∧ ∀ Q : VK, (Q (.bl b) H → rInU K x y H Q) ∧ (Q (.bl (!b)) H → rNInU K x y H Q) := by
  match e, h, hy with
  | .lst l, h, hy =>
    obtain ⟨p1, p2, s1, s2, q⟩ := h
    exact ⟨_, q, fun Q => ⟨fun k => .inr (.inr ⟨_, _, sh_dp hx p1, sh_dp (d := .lst l) hy p2, s1, s2, k⟩), fun k => .inr (.inr ⟨_, _, sh_dp hx p1, sh_dp (d := .lst l) hy p2, s1, s2, k⟩)⟩⟩
  | .str b, h, hy =>
    match d, h, hx with
    | .str a, h, hx =>
      rw [shStr hx, shStr hy]
      exact ⟨_, h, fun Q => ⟨fun k => .inr (.inl ⟨a, b, rfl, rfl, k⟩), fun k => .inr (.inl ⟨a, b, rfl, rfl, k⟩)⟩⟩
theorem foIn : RefOp K (rInU K) oIn := fun W S H x y d e Qd Q O hx hy c h => by
  obtain ⟨b, q, k⟩ := inQ_ok hx hy h
  exact (k Q).1 (c.now O q (.bl b))
theorem foNin : RefOp K (rNInU K) oNin := fun W S H x y d e Qd Q O hx hy c h => by
  obtain ⟨b, q, k⟩ := inQ_ok hx hy h
  exact (k Q).2 (c.now O q (.bl (!b)))
theorem dva_atI {xs : List V} {l : List Dt} {k : Int} {d : Dt} {A : Hp} (h : DvA K W A xs l) (e : atI l k = some d) : ∃ v, atI xs k = some v ∧ Dv K W A v d := by
  unfold atI at e ⊢
  rw [h.len]
  cases q : ixN l.length k with
  | none => rw [q] at e; cases e
  | some j =>
    rw [q] at e
    exact h.get' e
theorem foIx : RefOp K (rIx K) oIx := fun W S H x y d e Qd Q O hx hy c h => by
  match e, h, hy with
  | .int k, h, hy =>
    rw [shInt hy]
    obtain ⟨a, t, xs, l, rfl, h1, h2, h3, _⟩ := sh_seq O hx h
    cases q : atI l k with
    | none => rw [q] at h3; exact h3.elim
    | some d' =>
      rw [q] at h3
      obtain ⟨v, e1, e2⟩ := dva_atI h2 q
      exact v_ixb h1 e1 (c.now O h3 e2)
theorem fuNeg : RefUn K rNegI uNeg := fun W S H x d Qd Q O hx c h => by
  match d, h, hx with
  | .int i, h, hx =>
    rw [shInt hx]
    exact v_neg (c.now O h (.int _))
end
/-! built-ins -/
def c1 (o : DUn) : DC := fun ds Q => match ds with
  | [x] => o x Q
  | _ => False
def lenQ (x : Dt) (Q : Nat → Prop) : Prop := match x with
  | .str z => z.length ≤ 16777216 ∧ Q z.length
  | x => dSeqOf x fun l => Q l.length
def uLen : DUn := fun x Q => lenQ x fun n => Q (.int n)
def uAbs : DUn := fun x Q => match x with
  | .int i => Q (.int (if i < 0 then -i else i))
  | _ => False
def uInt1 : DUn := fun x Q => match x with
  | .int i => Q (.int i)
  | .bl k => Q (.int (if k then 1 else 0))
  | _ => False
def uStr : DUn := fun x Q => match x with
  | .int i => i.natAbs.log2 < 1920 ∧ Q (.str (toString i))
  | _ => False
def uList : DUn := fun x Q => dSeqOf x fun l => Q (.lst l)
def uTuple : DUn := fun x Q => dSeqOf x fun l => Q (.tup l)
def cMin2 : DC := fun ds Q => match ds with
  | [.int i, .int j] => Q (.int (if j < i then j else i))
  | _ => False
def cMax2 : DC := fun ds Q => match ds with
  | [.int i, .int j] => Q (.int (if j > i then j else i))
  | _ => False
def cGcd : DC := fun ds Q => match ds with
  | [.int i, .int j] => Q (.int (Int.gcd i j))
  | _ => False
def uAll : DUn := fun x Q => ∃ bs : List Bool, x = .lst (bs.map Dt.bl) ∧ Q (.bl (bs.all id))
def uAny : DUn := fun x Q => (∃ bs : List Bool, x = .lst (bs.map Dt.bl) ∧ Q (.bl (bs.any id))) ∨ ∃ ns : List Int, x = .lst (ns.map Dt.int) ∧ Q (.bl (ns.any fun n => n != 0))
def uSum : DUn := fun x Q => ∃ ns : List Int, x = .lst (ns.map Dt.int) ∧ Q (.int ns.sum)
section
variable {K : PySem.W.Frag} {W : Wd} {S : Addr → Prop} {H : Hp}
theorem fc1 {r : List V → Hp → VK → Prop} {o : DUn} (h : ∀ W S H x d Qd Q, Ok K W S H → Sh K W S H x d → Cn K W S H Qd Q → o d Qd → r [x] H Q) : RefC K r (c1 o) := fun W S H xs ds Qd Q O hs c q => by
  match ds, q, hs with
  | [d], q, .cons hx .nil => exact h W S H _ d Qd Q O hx c q
theorem fc2 {r : List V → Hp → VK → Prop} {o : DC} (h : ∀ W S H x y d e Qd Q, Ok K W S H → Sh K W S H x d → Sh K W S H y e → Cn K W S H Qd Q → o [d, e] Qd → r [x, y] H Q) (n : ∀ ds Q, o ds Q → ds.length = 2) : RefC K r o := fun W S H xs ds Qd Q O hs c q => by
  match ds, n _ _ q, q, hs with
  | [d, e], _, q, .cons hx (.cons hy .nil) => exact h W S H _ _ d e Qd Q O hx hy c q
theorem fcLen : RefC K (rLenU K) (c1 uLen) := fc1 fun W S H x d Qd Q O hx c h => by
  by_cases s : ∃ z, d = .str z
  · obtain ⟨z, rfl⟩ := s
    rw [shStr hx]
    have h' : z.length ≤ 16777216 ∧ Qd (.int z.length) := h
    exact v_lens (by rw [sizeLine_eq]; exact Nat.le_trans h'.1 (by decide)) (c.now O h'.2 (.int _))
  · have h' : dSeqOf d fun l => Qd (.int l.length) := by
      cases d with
      | str z => exact absurd ⟨z, rfl⟩ s
      | _ => exact h
    obtain ⟨a, t, xs, l, rfl, h1, h2, h3, _⟩ := sh_seq O hx h'
    refine v_lenb h1 ?_
    rw [h2.len]
    exact c.now O h3 (.int _)
theorem fcAbs : RefC K rAbs (c1 uAbs) := fc1 fun W S H x d Qd Q O hx c h => by
  match d, h, hx with
  | .int i, h, hx =>
    rw [shInt hx]
    exact v_abs (c.now O h (.int _))
theorem fcInt1 : RefC K rInt1 (c1 uInt1) := fc1 fun W S H x d Qd Q O hx c h => by
  match d, h, hx with
  | .int i, h, hx =>
    rw [shInt hx]
    exact v_int (c.now O h (.int _))
  | .bl i, h, hx =>
    rw [shBl hx]
    exact .inr ⟨i, rfl, c.now O h (.int _)⟩
theorem fcStr : RefC K rStr (c1 uStr) := fc1 fun W S H x d Qd Q O hx c h => by
  match d, h, hx with
  | .int i, h, hx =>
    rw [shInt hx]
    exact ⟨i, rfl, h.1, c.now O h.2 (.str _)⟩
theorem fcList : RefC K (rListOf K) (c1 uList) := fc1 fun W S H x d Qd Q O hx c h => by
  obtain ⟨a, t, xs, l, rfl, h1, h2, h3, _⟩ := sh_seq O hx h
  exact v_listb h1 fun p hp => c.new O hp h3 (dv_newL O hp h2)
theorem fcTuple : RefC K (rTupOf K) (c1 uTuple) := fc1 fun W S H x d Qd Q O hx c h => by
  cases d with
  | lst l =>
    obtain ⟨a, vs, rfl, h1, h2, h3⟩ := hx
    exact v_tuple (SqL.of h2) fun p hp => c.new O hp h (dv_newT O hp h3)
  | tup l =>
    cases (show Dv K W (hd S H) x (.tup l) from hx) with
    | tup h1 h2 => exact ⟨_, _, rfl, .inr ⟨same_sqt hd_le h1, c.now O h (.tup h1 h2)⟩⟩
  | _ => exact h.elim
theorem fcMin2 : RefC K rMin2 cMin2 := fc2 (fun W S H x y d e Qd Q O hx hy c h => by
  match d, e, h, hx, hy with
  | .int i, .int j, h, hx, hy =>
    rw [shInt hx, shInt hy]
    exact v_min2 (c.now O h (.int _))) fun ds Q h => by
  unfold cMin2 at h
  split at h
  · rfl
  · exact h.elim
theorem fcMax2 : RefC K rMax2 cMax2 := fc2 (fun W S H x y d e Qd Q O hx hy c h => by
  match d, e, h, hx, hy with
  | .int i, .int j, h, hx, hy =>
    rw [shInt hx, shInt hy]
    exact v_max2 (c.now O h (.int _))) fun ds Q h => by
  unfold cMax2 at h
  split at h
  · rfl
  · exact h.elim
theorem fcGcd : RefC K rGcd cGcd := fc2 (fun W S H x y d e Qd Q O hx hy c h => by
  match d, e, h, hx, hy with
  | .int i, .int j, h, hx, hy =>
    rw [shInt hx, shInt hy]
    exact ⟨i, j, rfl, c.now O h (.int _)⟩) fun ds Q h => by
  unfold cGcd at h
  split at h
  · rfl
  · exact h.elim
theorem fcAll : RefC K (rAll K) (c1 uAll) := fc1 fun W S H x d Qd Q O hx c h => by
  obtain ⟨bs, rfl, q⟩ := h
  obtain ⟨a, vs, rfl, h1, h2, h3⟩ := hx
  exact ⟨a, bs, rfl, by rw [← h3.bls]; exact SqL.of h2, c.now O q (.bl _)⟩
theorem fcAny : RefC K (U.rAnyU K) (c1 uAny) := fc1 fun W S H x d Qd Q O hx c h => by
  rcases h with ⟨bs, rfl, q⟩ | ⟨bs, rfl, q⟩
  · obtain ⟨a, vs, rfl, h1, h2, h3⟩ := hx
    exact .inl ⟨a, bs, rfl, by rw [← h3.bls]; exact SqL.of h2, c.now O q (.bl _)⟩
  · obtain ⟨a, vs, rfl, h1, h2, h3⟩ := hx
    exact .inr ⟨a, bs, rfl, by rw [← h3.ints]; exact SqL.of h2, c.now O q (.bl _)⟩
theorem fcSum : RefC K (rSum K) (c1 uSum) := fc1 fun W S H x d Qd Q O hx c h => by
  obtain ⟨ns, rfl, q⟩ := h
  obtain ⟨a, vs, rfl, h1, h2, h3⟩ := hx
  exact ⟨a, ns, rfl, by rw [← h3.ints]; exact SqL.of h2, c.now O q (.int _)⟩
end

end
section

/-! ### own classes over data -/
structure ClsF (L : CL) (K : PySem.W.Frag) : Prop where
  k2 : PySem.W.specialIn K (.builtin "object.__class__") "__get__" = some (some (.builtin "getset_descriptor.__get__"))
  k3 : PySem.W.takesIn K (.builtin "object.__class__") = some true
  cl : ∀ p, p ∈ L → Cls K (He.ga K p.1)
  no : ∀ p, p ∈ L → ∀ f, f ∈ p.2 → NoAttr K (He.ga K p.1) f
  k1 : ∀ p, p ∈ L → PySem.W.findIn K (.ref (He.ga K p.1)) "__class__" = some (some (.builtin "object.__class__"))
  k4 : ∀ p, p ∈ L → PySem.W.mroIn K (He.ga K p.1) (.type "object") = some true
  is : ∀ p, p ∈ L → ∀ q, q ∈ L → PySem.W.kitOne K (.ref (He.ga K p.1)) (.ref (He.ga K q.1)) = some (p.1 == q.1)
  ib : ∀ p, p ∈ L → ∀ T, T ∈ bTys → PySem.W.kitOne K (.type T) (.ref (He.ga K p.1)) = some false
  it : ∀ p, p ∈ L → ∀ T, T ∈ bTys → PySem.W.kitOne K (.ref (He.ga K p.1)) (.type T) = some false
theorem cls_of {L : CL} {K : PySem.W.Frag} (h : clsB L K = true) : ClsF L K := by
  obtain ⟨h1, h⟩ := He.ba h
  obtain ⟨h2, h⟩ := He.ba h
  have g := fun p hp => He.ba (List.all_eq_true.mp h p hp)
  refine ⟨He.eqO_ok h1, of_decide_eq_true h2, fun p hp => He.cls_ok (g p hp).1, fun p hp f hf => He.eqO_ok (List.all_eq_true.mp (He.ba (g p hp).2).1 f hf), fun p hp => He.eqO_ok (He.ba (He.ba (g p hp).2).2).1, fun p hp => of_decide_eq_true (He.ba (He.ba (He.ba (g p hp).2).2).2).1, fun p hp q hq => ?_, fun p hp T hT => ?_, fun p hp T hT => ?_⟩
  · exact of_decide_eq_true (List.all_eq_true.mp (He.ba (He.ba (He.ba (He.ba (g p hp).2).2).2).2).1 q hq)
  · exact of_decide_eq_true (He.ba (List.all_eq_true.mp (He.ba (He.ba (He.ba (He.ba (g p hp).2).2).2).2).2 T hT)).1
  · exact of_decide_eq_true (He.ba (List.all_eq_true.mp (He.ba (He.ba (He.ba (He.ba (g p hp).2).2).2).2).2 T hT)).2
/-- the fields of the class C -/
def flds (L : CL) (C : Str) : Option (List Str) := L.lookup C
theorem flds_mem {L : CL} {C : Str} {fs : List Str} (h : flds L C = some fs) : (C, fs) ∈ L := by
  unfold flds at h
  induction L with
  | nil => cases h
  | cons p L ih =>
    rw [List.lookup_cons] at h
    split at h
    · rename_i e
      cases h
      have : C = p.1 := by simpa using e
      rw [this]
      exact List.mem_cons_self ..
    · exact List.mem_cons_of_mem _ (ih h)
/-- C has the field f -/
def hasF (L : CL) (C f : Str) : Bool := match flds L C with
  | some fs => fs.contains f
  | none => false
theorem ClsF.fld {L : CL} {K : PySem.W.Frag} (c : ClsF L K) {C f : Str} (h : hasF L C f = true) : Cls K (He.ga K C) ∧ NoAttr K (He.ga K C) f := by
  unfold hasF at h
  split at h
  · rename_i fs e
    exact ⟨c.cl _ (flds_mem e), c.no _ (flds_mem e) f (by simpa using h)⟩
  · cases h
def dFld (L : CL) (da : DE) (f : Str) : DE := fun ρ Q => da ρ fun x => match x with
  | .obj C fs => hasF L C f = true ∧ match fs.lookup f with
    | some d => Q d
    | none => False
  | _ => False
/-- self.f = e, self being made -/
def dSetF (L : CL) (i : Nat) (de : DE) (f : Str) : DS := fun D ρ => de ρ fun d => match gt ρ i with
  | .ins x C fs => (hasF L C f = true ∧ fs.length < 900 ∧ fs.lookup f = none) ∧ D.nx (pt ρ i (.ins x C (fs ++ [(f, d)])))
  | _ => False
def tyT : Dt → Option String
  | .non => some "NoneType"
  | .bl _ => some "bool"
  | .int _ => some "int"
  | .str _ => some "str"
  | .lst _ => some "list"
  | .tup _ => some "tuple"
  | _ => none
def kbQ (o : Option Bool) (Q : Bool → Prop) : Prop := match o with
  | some b => Q b
  | none => False
def tbQ (o : Option String) (T : String) (Q : Bool → Prop) : Prop := match o with
  | some t => kbQ (kitB t T) Q
  | none => False
def isiQ (L : CL) (x c : Dt) (Q : Bool → Prop) : Prop := match c with
  | .ty T => match x with
    | .obj C _ => ((flds L C).isSome = true ∧ bTys.contains T = true) ∧ Q false
    | x => tbQ (tyT x) T Q
  | .cls D => (flds L D).isSome = true ∧ match x with
    | .obj C _ => (flds L C).isSome = true ∧ Q (C == D)
    | x => (tyT x).isSome = true ∧ Q false
  | _ => False
def cIsi (L : CL) : DC := fun ds Q => match ds with
  | [x, c] => isiQ L x c fun b => Q (.bl b)
  | _ => False
def dMd (C m : Str) (sd : DSp) (da : DE) (dl : DA) : DE := fun ρ Q => da ρ fun x => match x with
  | .obj D fs => (D = C ∧ fs.lookup m = none) ∧ dl ρ fun ds => sd (.obj D fs :: ds) Q
  | _ => False
def dSd (x : Str) (sd : DSp) (da : DE) (dl : DA) : DE := fun ρ Q => da ρ fun c => match c with
  | .cls y => y = x ∧ dl ρ fun ds => sd ds Q
  | _ => False
def dNew (sd : DSp) (dl : DA) : DE := fun ρ Q => dl ρ fun ds => sd ds Q
def dCallK (sd : DSp) (g : List Dt → List Dt) (dl : DA) : DE := fun ρ Q => dl ρ fun ds => sd (g ds) Q
/-- the promise of an __init__ over the heap -/
def spN (K : PySem.W.Frag) (C : Str) (sd : DSp) : Sp := fun vs H Q _ => ∃ W S x dx ws ds Qd, vs = .ref x :: ws ∧ H x = some (.ins (He.ga K C) dx []) ∧ ¬S x ∧ Ok K W S H ∧ BagI K W (hd (fun a => a = x) H) ∧ DvA K W (hd (fun a => S a ∨ a = x) H) ws ds ∧ sd ds Qd ∧
  ∀ d H', Qd d → Gw K W (hd (fun a => a = x) H) H' → Dv K W (hd S H') (.ref x) d → Q .non H'
section
variable {K : PySem.W.Frag} {Jx : WX} {Xd : XD} {L : CL} {ta tv : TE} {da dv : DE} {t : TA} {dl : DA}
theorem rFld (c : ClsF L K) (f : Str) (a : RefB K Jx Xd ta da) : RefE K Jx Xd (tFld K ta f) (dFld L da f) := fun W S0 H0 α H σ ρ Qd Q I r h =>
  v_fldo (a W S0 H0 α H σ ρ _ _ I (fun d v H1 q g hv => by
    cases d with
    | obj C fs =>
      obtain ⟨q1, q2⟩ := q
      obtain ⟨p, dx, gs, rfl, h1, h2, h3, h4⟩ := hv
      split at q2
      · rename_i d' e
        obtain ⟨v', e1, e2⟩ := h3.get e
        obtain ⟨c1, c2⟩ := c.fld q1
        exact ⟨p, _, dx, gs, v', rfl, h2, c1, c2, e1, r _ _ H1 q2 g e2⟩
      · exact q2.elim
    | _ => exact q.elim) h)
theorem DvF.put {W : Wd} {A : Hp} {gs : List (Str × V)} {fs : List (Str × Dt)} {f : Str} {v : V} {d : Dt} (h : DvF K W A gs fs) (n : fs.lookup f = none) (hv : Dv K W A v d) : DvF K W A (putF f v gs) (fs ++ [(f, d)]) := by
  have key : ∀ {fs : List (Str × Dt)}, DvF K W A gs fs → fs.lookup f = none → DvF K W A (putF f v gs) (fs ++ [(f, d)]) := by
    intro fs
    induction fs with
    | nil => intro _ _; exact .cons (by rw [lookup_putF]; exact if_pos rfl) hv .nil
    | cons p fs ih =>
      intro h n
      cases h with
      | @cons _ g u e _ l hu r =>
        have ne : g ≠ f := fun z => by
          subst z
          rw [List.lookup_cons] at n
          simp at n
        refine .cons (by rw [lookup_putF, if_neg ne]; exact l) hu (ih r ?_)
        rw [List.lookup_cons] at n
        split at n
        · cases n
        · exact n
  exact key h n
theorem lookup_app {β : Type} {f g : Str} {fs : List (Str × β)} {d : β} : (fs ++ [(g, d)]).lookup f = none → fs.lookup f = none ∧ f ≠ g := by
  induction fs with
  | nil =>
    intro h
    refine ⟨rfl, fun z => ?_⟩
    subst z
    simp at h
  | cons p fs ih =>
    intro h
    rw [List.cons_append, List.lookup_cons] at h
    rw [List.lookup_cons]
    split at h
    · cases h
    · rename_i e
      exact ih h
theorem rSetF (c : ClsF L K) (i : Nat) (f : Str) (a : RefE K Jx Xd tv dv) : RefS K Jx Xd (sFld K (tVar i) tv f) (dSetF L i dv f) := fun W S0 H0 α H σ ρ D Dd I r h =>
  v_sfld (a W S0 H0 α H σ ρ _ _ I (fun d v H1 q g hv => by
    cases e : gt ρ i with
    | ins x C fs =>
      rw [e] at q
      obtain ⟨⟨q1, q2, q3⟩, q4⟩ := q
      have I1 := I.grow g
      have sl := I1.sl i
      have o : (gt ρ i).owned = true := by rw [e]; rfl
      rw [e] at sl
      obtain ⟨e1, ex, dx, gs, e2, e3, e4, e5⟩ := sl
      obtain ⟨c1, c2⟩ := c.fld q1
      have sm := hd_set (S := hid S0 α ρ) (H := H1) (o := .ins (He.ga K C) dx (putF f v gs)) (a := α i) (.inr ⟨i, o, rfl⟩)
      have e6 := e3.put q3 hv
      obtain ⟨I2, s2⟩ := I1.put (s := .ins x C (fs ++ [(f, d)])) (u := .ins (He.ga K C) dx (putF f v gs)) o rfl ⟨rfl, ex, dx, _, upd_same, e6.same sm, fun f' hf => by
        obtain ⟨n1, n2⟩ := lookup_app hf
        rw [lookup_putF, if_neg n2]
        exact e4 f' n1, by
        have := length_putF f v gs
        rw [List.length_append]
        simp only [List.length_singleton]
        omega⟩ e1
      exact ⟨_, e1, α i, _, dx, gs, rfl, e2, c1, c2, by omega, r.nx _ _ _ _ q4 I2 ((g.hd I.hms).trans s2)⟩
    | _ =>
      rw [e] at q
      exact q.elim) h)
theorem sh_ty {W : Wd} {S : Addr → Prop} {H : Hp} {v : V} {d : Dt} {t : String} (h : Sh K W S H v d) (e : tyT d = some t) : TyX K H v (.type t) := by
  cases d with
  | lst l =>
    obtain ⟨a, vs, rfl, _, h2, _⟩ := h
    cases e
    exact .base (.lst h2)
  | tup l =>
    cases (show Dv K W (hd S H) v (.tup l) from h) with
    | tup h1 h2 =>
      cases e
      exact sqt_ty (same_sqt hd_le h1)
  | non => cases (show Dv K W (hd S H) v .non from h); cases e; exact .base .non
  | bl b => cases (show Dv K W (hd S H) v (.bl b) from h); cases e; exact .base (.bl b)
  | int b => cases (show Dv K W (hd S H) v (.int b) from h); cases e; exact .base (.int b)
  | str b => cases (show Dv K W (hd S H) v (.str b) from h); cases e; exact .base (.str b)
  | _ => cases e
theorem ty_bTys {d : Dt} {t : String} (e : tyT d = some t) : t ∈ bTys := by
  cases d <;> cases e <;> decide
theorem fcIsi (c : ClsF L K) : RefC K (rIsiU K) (cIsi L) := fc2 (fun W S H x y d e Qd Q O hx hy cn h => by
  cases e with
  | ty T =>
    cases (show Dv K W (hd S H) y (.ty T) from hy)
    by_cases ob : ∃ C fs, d = .obj C fs
    · obtain ⟨C, fs, rfl⟩ := ob
      obtain ⟨⟨h1, h2⟩, h3⟩ := (show ((flds L C).isSome = true ∧ bTys.contains T = true) ∧ Qd (.bl false) from h)
      obtain ⟨a, dx, gs, rfl, _, g2, _⟩ := hx
      obtain ⟨fs', e1⟩ := Option.isSome_iff_exists.mp h1
      have m := flds_mem e1
      exact .inl ⟨_, _, _, .type T, false, rfl, .ty T, .base (.ins g2 (c.cl _ m) (c.k1 _ m) c.k2 c.k3 (c.k4 _ m)), c.it _ m T (by simpa using h2), cn.now O h3 (.bl _)⟩
    · have h' : tbQ (tyT d) T fun b => Qd (.bl b) := by
        cases d with
        | obj C fs => exact absurd ⟨C, fs, rfl⟩ ob
        | _ => exact h
      unfold tbQ at h'
      split at h'
      · rename_i t et
        unfold kbQ at h'
        split at h'
        · rename_i b eb
          exact .inl ⟨_, _, _, .type T, b, rfl, .ty T, sh_ty hx et, kit_ty eb, cn.now O h' (.bl _)⟩
        · exact h'.elim
      · exact h'.elim
  | cls D =>
    cases (show Dv K W (hd S H) y (.cls D) from hy)
    obtain ⟨h1, h2⟩ := (show (flds L D).isSome = true ∧ _ from h)
    obtain ⟨fs', e1⟩ := Option.isSome_iff_exists.mp h1
    have m := flds_mem e1
    by_cases ob : ∃ C fs, d = .obj C fs
    · obtain ⟨C, fs, rfl⟩ := ob
      obtain ⟨h3, h4⟩ := (show (flds L C).isSome = true ∧ Qd (.bl (C == D)) from h2)
      obtain ⟨a, dx, gs, rfl, _, g2, _⟩ := hx
      obtain ⟨fs2, e2⟩ := Option.isSome_iff_exists.mp h3
      have m2 := flds_mem e2
      exact .inl ⟨_, _, _, _, (C == D), rfl, .own _, .base (.ins g2 (c.cl _ m2) (c.k1 _ m2) c.k2 c.k3 (c.k4 _ m2)), c.is _ m2 _ m, cn.now O h4 (.bl _)⟩
    · have h' : (tyT d).isSome = true ∧ Qd (.bl false) := by
        cases d with
        | obj C fs => exact absurd ⟨C, fs, rfl⟩ ob
        | _ => exact h2
      obtain ⟨t, et⟩ := Option.isSome_iff_exists.mp h'.1
      exact .inl ⟨_, _, _, _, false, rfl, .own _, sh_ty hx et, c.ib _ m t (ty_bTys et), cn.now O h'.2 (.bl _)⟩
  | _ => exact h.elim) fun ds Q h => by
  unfold cIsi at h
  split at h
  · rfl
  · exact h.elim
theorem rMd {sp : Sp} {sd : DSp} {C m : Str} (hw : ∀ vs H Q, spD K sd vs H Q E0 → sp vs H Q E0) (a : RefE K Jx Xd ta da) (b : RefA K Jx Xd t dl) : RefE K Jx Xd (tMd (He.ga K C) m sp ta t) (dMd C m sd da dl) := fun W S0 H0 α H σ ρ Qd Q I r h => by
  show ta σ H fun x H1 => ∃ a dx fs, x = .ref a ∧ H1 a = some (.ins (He.ga K C) dx fs) ∧ fs.lookup m = none ∧ t σ H1 fun vs H2 => sp (x :: (vs ++ [])) H2 Q E0
  refine a W S0 H0 α H σ ρ _ _ I (fun d v H1 q g hv => ?_) h
  cases d with
  | obj D fs =>
    obtain ⟨⟨rfl, q1⟩, q2⟩ := q
    have hv' := hv
    cases hv with
    | obj h1 h2 h3 =>
      refine ⟨_, _, _, rfl, (hd_get h1).2, h3 m q1, b W S0 H0 α H1 σ ρ _ _ (I.grow g) (fun ds vs H2 q3 g2 hs => ?_) q2⟩
      rw [List.append_nil]
      exact hw _ H2 Q ⟨W, _, _, Qd, I.ok.grow (g.trans g2), .cons (hv'.same (g2.hd I.hms)) hs, q3, r.grow (g.trans g2)⟩
  | _ => exact q.elim
theorem rMd0 {sp : Sp} {sd : DSp} {C m : Str} (hw : ∀ vs H Q, spD K sd vs H Q E0 → sp vs H Q E0) (a : RefE K Jx Xd ta da) : RefE K Jx Xd (tMeth (He.ga K C) m sp [] E0 ta tNil) (dMd C m sd da dNil) := rMd hw a rNil
theorem rSd {sp : Sp} {sd : DSp} {x : Str} (hw : ∀ vs H Q, spD K sd vs H Q E0 → sp vs H Q E0) (a : RefE K Jx Xd ta da) (b : RefA K Jx Xd t dl) : RefE K Jx Xd (tSd (He.ga K x) sp ta t) (dSd x sd da dl) := fun W S0 H0 α H σ ρ Qd Q I r h =>
  v_sd (a W S0 H0 α H σ ρ _ _ I (fun d v H1 q g hv => by
    cases hv with
    | cls y =>
      obtain ⟨rfl, q2⟩ := q
      exact ⟨rfl, b W S0 H0 α H1 σ ρ _ _ (I.grow g) (fun ds vs H2 q3 g2 hs => hw _ H2 Q ⟨W, _, _, Qd, I.ok.grow (g.trans g2), hs, q3, r.grow (g.trans g2)⟩) q2⟩
    | _ => exact q.elim) h)
theorem rCallK {sp : Sp} {sd : DSp} {gV : List V → List V → List V} {gD : List Dt → List Dt} (hw : ∀ vs H Q, spD K sd vs H Q E0 → sp vs H Q E0) (rel : ∀ {W : Wd} {A : Hp} {vs : List V} {ds : List Dt}, DvA K W A vs ds → DvA K W A (gV [] vs) (gD ds)) (b : RefA K Jx Xd t dl) : RefE K Jx Xd (tCallK sp gV E0 tNil t) (dCallK sd gD dl) := fun W S0 H0 α H σ ρ Qd Q I r h => by
  show t σ H fun zs H2 => sp (gV [] zs) H2 Q E0
  exact b W S0 H0 α H σ ρ _ _ I (fun ds vs H2 q3 g2 hs => hw _ H2 Q ⟨W, _, _, Qd, I.ok.grow g2, rel hs, q3, r.grow g2⟩) h
theorem rNew {sp : Sp} {sd : DSp} {C : Str} (hw : ∀ vs H Q, spN K C sd vs H Q E0 → sp vs H Q E0) (b : RefA K Jx Xd t dl) : RefE K Jx Xd (tNd (He.ga K C) sp t) (dNew sd dl) := fun W S0 H0 α H σ ρ Qd Q I r h =>
  v_nd (b W S0 H0 α H σ ρ _ _ I (fun ds vs H1 q g hs x dx hx hdx ne => by
    have O := I.ok.grow g
    have g1 : Gw K W H1 (upd H1 dx (.own x)) := .new g.bag hdx
    have hx' : upd H1 dx (HO.own x) x = none := by rw [upd_ne (Ne.symm ne)]; exact hx
    have g2 : Gw K W (upd H1 dx (.own x)) (upd (upd H1 dx (.own x)) x (.ins (He.ga K C) dx [])) := .new g1.bag hx'
    have O2 := O.grow (g1.trans g2)
    have nS := O.out hx
    have s0 : Same H1 (hd (fun a => a = x) (upd (upd H1 dx (.own x)) x (.ins (He.ga K C) dx []))) := fun a o e => by
      have n1 := ne_of_none e hx
      exact hd_at (by rw [upd_ne n1, upd_ne (ne_of_none e hdx)]; exact e) n1
    refine hw _ _ _ ⟨W, _, x, dx, vs, ds, Qd, rfl, upd_same, nS, O2, g.bag.same s0, hs.same fun a o e => ?_, q, fun d H' qd gg hd' => ⟨rfl, r d _ H' qd (g.trans ((Gw.of g.bag s0).trans gg)) hd'⟩⟩
    obtain ⟨e1, e2⟩ := hd_get e
    have n1 := ne_of_none e2 hx
    exact hd_at (by rw [upd_ne n1, upd_ne (ne_of_none e2 hdx)]; exact e2) fun z => z.elim e1 n1) h)
end
/-! ### a def by its body over data -/
def vals (ds : List Dt) : Ro := ds.map Sl.val
theorem env_start {K : PySem.W.Frag} {W : Wd} {S : Addr → Prop} {H : Hp} {N : List Str} {vs : List V} {ds : List Dt} (O : Ok K W S H) (h : DvA K W (hd S H) vs ds) (hl : ds.length ≤ N.length) : Env K W S H (fun _ => 0) H (L2.start N vs) (vals ds ++ List.replicate (N.length - ds.length) .no) := by
  have gn : ∀ i, (gt (vals ds ++ List.replicate (N.length - ds.length) .no) i) = .no ∨ ∃ d, ds[i]? = some d ∧ gt (vals ds ++ List.replicate (N.length - ds.length) .no) i = .val d := by
    have rep : ∀ n i, gt (List.replicate n .no) i = .no := fun n => by
      induction n with
      | zero => intro i; rfl
      | succ n ih =>
        intro i
        cases i with
        | zero => rfl
        | succ i => exact ih i
    generalize N.length - ds.length = n
    clear h hl
    induction ds with
    | nil => intro i; exact .inl (rep n i)
    | cons d ds ih =>
      intro i
      cases i with
      | zero => exact .inr ⟨d, rfl, rfl⟩
      | succ i =>
        rcases ih i with e | ⟨d', e1, e2⟩
        · exact .inl e
        · exact .inr ⟨d', by simpa using e1, e2⟩
  have no : ∀ i, (gt (vals ds ++ List.replicate (N.length - ds.length) .no) i).owned = true → False := fun i hi => by
    rcases gn i with e | ⟨d, _, e⟩ <;> rw [e] at hi <;> cases hi
  have hh : hid S (fun _ => 0) (vals ds ++ List.replicate (N.length - ds.length) .no) = S := by
    funext a
    exact propext ⟨fun z => z.elim id fun ⟨i, hi, _⟩ => (no i hi).elim, .inl⟩
  refine ⟨?_, O.bag, .refl O.bag, O.kn, O.ms, fun i hi => (no i hi).elim, fun i j hi _ _ => (no i hi).elim, fun i => ?_⟩
  · unfold L2.start vals
    rw [List.length_append, List.length_append, List.length_map, List.length_map, List.length_replicate, List.length_replicate, h.len]
  · rw [hh]
    rcases gn i with e | ⟨d, e1, e2⟩
    · rw [e]
      trivial
    · rw [e2]
      obtain ⟨v, f1, f2⟩ := h.get' e1
      refine ⟨v, ?_, f2⟩
      unfold L2.start
      have il : i < vs.length := (List.getElem?_eq_some_iff.mp f1).1
      rw [List.getElem?_append_left (by rw [List.length_map]; exact il), List.getElem?_map, f1]
      rfl
/-- no exception leaves -/
def X0 : XD := fun _ _ => False
/-- a def keeps its promise over data if its body over data does -/
theorem fnD {K : PySem.W.Frag} {Jx : WX} {N : List Str} {ts : TS} {a : DS} {sd : DSp} {vs : List V} {H : Hp} {Q : VK} {E : XK} (r : RefS K Jx X0 ts a) (h : spD K sd vs H Q E) (p : ∀ ds Qd, sd ds Qd → ds.length ≤ N.length ∧ a ⟨fun _ => Qd .non, Qd, fun _ => False, fun _ => False⟩ (vals ds ++ List.replicate (N.length - ds.length) .no)) :
    ts { nx := fun _ H' => Q .non H', rt := Q } (L2.start N vs) H := by
  obtain ⟨W, S, ds, Qd, O, hs, hq, c⟩ := h
  obtain ⟨hl, q⟩ := p ds Qd hq
  have I := env_start O hs hl
  exact r W S H (fun _ => 0) H _ _ { nx := fun _ H' => Q .non H', rt := Q } ⟨fun _ => Qd .non, Qd, fun _ => False, fun _ => False⟩ ⟨I, fun _ _ _ _ _ _ _ (z : False) => z.elim⟩ ⟨fun α' H' σ' ρ' q I' e => c _ _ H' q I'.gw .non, fun d v H' q g hv => c d v H' q g hv, fun _ _ _ _ (z : False) => z.elim, fun _ _ _ _ (z : False) => z.elim⟩ q
theorem fnD_len {K : PySem.W.Frag} {sd : DSp} {n : Nat} {vs : List V} {H : Hp} {Q : VK} {E : XK} (h : spD K sd vs H Q E) (p : ∀ ds Qd, sd ds Qd → ds.length = n) : vs.length = n := by
  obtain ⟨W, S, ds, Qd, O, hs, hq, c⟩ := h
  rw [hs.len]
  exact p ds Qd hq
theorem env_startN {K : PySem.W.Frag} {W : Wd} {S : Addr → Prop} {C : Str} {H : Hp} {N : List Str} {x dx : Addr} {ws : List V} {ds : List Dt} (hx : H x = some (.ins (He.ga K C) dx [])) (nS : ¬S x) (O : Ok K W S H) (b0 : BagI K W (hd (fun a => a = x) H)) (hs : DvA K W (hd (fun a => S a ∨ a = x) H) ws ds) (hl : ds.length + 1 ≤ N.length) :
    Env K W S (hd (fun a => a = x) H) (fun _ => x) H (L2.start N (.ref x :: ws)) (Sl.ins x C [] :: (vals ds ++ List.replicate (N.length - (ds.length + 1)) .no)) := by
  have nm : ¬mt W x := fun z => nS (O.ms x z)
  have O' : Ok K W (fun a => S a ∨ a = x) H := ⟨O.bag, fun a z => z.elim (O.kn a) fun y => (by rw [y, hx]; exact fun q => nomatch q), fun a z => .inl (O.ms a z)⟩
  have J := env_start (N := N.tail) O' hs (by rw [List.length_tail]; omega)
  have g0 : Gw K W (hd (fun a => a = x) H) H := ⟨fun a o _ e => (hd_get e).2, O.bag, fun a e z => e (by
    by_cases y : a = x
    · exact hd_in (S := fun a => a = x) y
    · rw [hd_out (S := fun a => a = x) y]; exact z)⟩
  have eρ : N.tail.length - ds.length = N.length - (ds.length + 1) := by rw [List.length_tail]; omega
  rw [eρ] at J
  have own : ∀ i, (gt (Sl.ins x C [] :: (vals ds ++ List.replicate (N.length - (ds.length + 1)) .no)) i).owned = true → i = 0 := fun i hi => by
    cases i with
    | zero => rfl
    | succ i =>
      have : (gt (vals ds ++ List.replicate (N.length - (ds.length + 1)) .no) i).owned = true := hi
      exfalso
      have rep : ∀ n i, (gt (List.replicate n Sl.no) i).owned = false := fun n => by
        induction n with
        | zero => intro i; rfl
        | succ n ih =>
          intro i
          cases i with
          | zero => rfl
          | succ i => exact ih i
      have all : ∀ (ds : List Dt) n i, (gt (vals ds ++ List.replicate n .no) i).owned = false := fun ds n => by
        induction ds with
        | nil => intro i; exact rep n i
        | cons d ds ih =>
          intro i
          cases i with
          | zero => rfl
          | succ i => exact ih i
      rw [all] at this
      cases this
  have hh : hid S (fun _ => x) (Sl.ins x C [] :: (vals ds ++ List.replicate (N.length - (ds.length + 1)) .no)) = fun a => S a ∨ a = x := by
    funext a
    refine propext ⟨fun z => z.elim .inl fun ⟨i, _, e⟩ => .inr e.symm, fun z => z.elim .inl fun e => .inr ⟨0, rfl, e.symm⟩⟩
  have I : Env K W S (hd (fun a => a = x) H) (fun _ => x) H (L2.start N (.ref x :: ws)) (Sl.ins x C [] :: (vals ds ++ List.replicate (N.length - (ds.length + 1)) .no)) := by
    have es : L2.start N (.ref x :: ws) = some (.ref x) :: L2.start N.tail ws := by
      unfold L2.start
      rw [List.map_cons, List.length_cons, List.length_tail, List.cons_append, show N.length - (ws.length + 1) = N.length - 1 - ws.length by omega]
    rw [es]
    refine ⟨by have := J.len; simp only [List.length_cons, this], b0, g0, O.kn, O.ms, fun i hi => ⟨hd_in rfl, nS⟩, fun i j hi hj _ => by rw [own i hi, own j hj], fun i => ?_⟩
    rw [hh]
    cases i with
    | zero => exact ⟨rfl, rfl, dx, [], hx, .nil, fun _ _ => rfl, Nat.le_refl _⟩
    | succ i =>
      have js := J.sl i
      have : hid (fun a => S a ∨ a = x) (fun _ => 0) (vals ds ++ List.replicate (N.length - (ds.length + 1)) .no) = fun a => S a ∨ a = x := by
        funext a
        refine propext ⟨fun z => z.elim id fun ⟨k, hk, _⟩ => ?_, .inl⟩
        exact absurd (own (k + 1) hk) (by omega)
      rw [this] at js
      have sl : ∀ {p q : Addr}, SlR K W (fun a => S a ∨ a = x) H p (L2.start N.tail ws)[i]? (gt (vals ds ++ List.replicate (N.length - (ds.length + 1)) .no) i) → SlR K W (fun a => S a ∨ a = x) H q (L2.start N.tail ws)[i]? (gt (vals ds ++ List.replicate (N.length - (ds.length + 1)) .no) i) := fun {p q} z => by
        have nw : (gt (vals ds ++ List.replicate (N.length - (ds.length + 1)) .no) i).owned = false := by
          cases e : (gt (vals ds ++ List.replicate (N.length - (ds.length + 1)) .no) i).owned with
          | false => rfl
          | true => exact absurd (own (i + 1) e) (by omega)
        generalize gt (vals ds ++ List.replicate (N.length - (ds.length + 1)) .no) i = s at z nw ⊢
        cases s with
        | own l => cases nw
        | ins y C fs => cases nw
        | _ => exact z
      exact sl js
  exact I
/-- an __init__ -/
theorem fnN {K : PySem.W.Frag} {Jx : WX} {N : List Str} {ts : TS} {a : DS} {sd : DSp} {C : Str} {vs : List V} {H : Hp} {Q : VK} {E : XK} (r : RefS K Jx X0 ts a) (h : spN K C sd vs H Q E)
    (p : ∀ ds Qd, sd ds Qd → ds.length + 1 ≤ N.length ∧ ∀ x, a ⟨fun ρ => match gt ρ 0 with | .ins y D fs => y = x ∧ D = C ∧ Qd (.obj C fs) | _ => False, fun _ => False, fun _ => False, fun _ => False⟩ (.ins x C [] :: (vals ds ++ List.replicate (N.length - (ds.length + 1)) .no))) :
    ts { nx := fun _ H' => Q .non H', rt := Q } (L2.start N vs) H := by
  obtain ⟨W, S, x, dx, ws, ds, Qd, rfl, hx, nS, O, b0, hs, hq, c⟩ := h
  obtain ⟨hl, q⟩ := p ds Qd hq
  have I := env_startN hx nS O b0 hs hl
  refine r W S _ (fun _ => x) H _ _ { nx := fun _ H' => Q .non H', rt := Q } ⟨fun ρ => match gt ρ 0 with | .ins y D fs => y = x ∧ D = C ∧ Qd (.obj C fs) | _ => False, fun _ => False, fun _ => False, fun _ => False⟩ ⟨I, fun _ _ _ _ _ _ _ (z : False) => z.elim⟩ ⟨fun α' H' σ' ρ' q I' e => ?_, fun d v H' (z : False) => z.elim, fun _ _ _ _ (z : False) => z.elim, fun _ _ _ _ (z : False) => z.elim⟩ (q x)
  have sl := I'.sl 0
  have ow := I'.new 0
  dsimp only at q
  cases e0 : gt ρ' 0 with
  | ins y D fs =>
    rw [e0] at sl q ow
    obtain ⟨rfl, rfl, q⟩ := q
    obtain ⟨e1, ex, dx', gs, e2, e3, e4, _⟩ := sl
    subst ex
    exact c _ H' q I'.gw (.obj (hd_at e2 nS) (e3.same (hd_sub fun a z => .inl z)) e4)
  | _ =>
    rw [e0] at q
    exact q.elim

end
section

/-! ### more statements and expressions over data -/
def truQ (x : Dt) (Q : Bool → Prop) : Prop := match x with
  | .non => Q false
  | .bl b => Q b
  | .int i => Q (i != 0)
  | .str z => z.length ≤ 16777216 ∧ Q ((z.length : Int) != 0)
  | .lst l => Q (!l.isEmpty)
  | .tup l => Q (!l.isEmpty)
  | _ => False
def dTruth (da : DE) : DT := fun ρ Q => da ρ fun x => truQ x Q
def dChain (o o' : DOp) (da db dc : DE) : DE := fun ρ Q => da ρ fun x => db ρ fun y => o x y fun z => match z with
  | .bl k => (k = true → dc ρ fun w => o' y w Q) ∧ (k = false → Q (.bl false))
  | _ => False
def cutG {β : Type} (xs : List β) (lo hi : Option Int) : List β := (xs.drop (HT.sIx xs.length 0 lo)).take (HT.sIx xs.length xs.length hi - HT.sIx xs.length 0 lo)
def slQ (x : Dt) (lo hi : Option Int) (Q : Dt → Prop) : Prop := match x with
  | .lst l => Q (.lst (cutG l lo hi))
  | .tup l => Q (.tup (cutG l lo hi))
  | .str z => z.length ≤ 16777216 ∧ Q (.str (cutS z lo hi))
  | _ => False
def dSl (da : DE) (dl dh : DO) : DE := fun ρ Q => da ρ fun x => dl ρ fun l => dh ρ fun u => slQ x l u Q
def dRev (da : DE) : DE := fun ρ Q => da ρ fun x => match x with
  | .lst l => Q (.lst l.reverse)
  | _ => False
section
variable {K : PySem.W.Frag} {Jx : WX} {Xd : XD} {ta tb tc : TE} {da db dc : DE} {tl th : TO} {dl dh : DO}
theorem isEmpty_len {β γ : Type} {xs : List β} {ys : List γ} (e : xs.length = ys.length) : xs.isEmpty = ys.isEmpty := by
  cases xs <;> cases ys <;> first | rfl | cases e
theorem rTruth (a : RefB K Jx Xd ta da) : RefT K Jx Xd (tTruth K ta) (dTruth da) := fun W S0 H0 α H σ ρ Qd Q I r h =>
  v_truth (a W S0 H0 α H σ ρ _ _ I (fun d v H1 q g hv => by
    cases d with
    | non => cases (show Dv K W (hd (hid S0 α ρ) H1) v .non from hv); exact ⟨false, rfl, r _ _ q g⟩
    | bl b => rw [shBl hv]; exact ⟨b, rfl, r _ _ q g⟩
    | int b => rw [shInt hv]; exact ⟨_, rfl, r _ _ q g⟩
    | str b =>
      rw [shStr hv]
      have q' : b.length ≤ 16777216 ∧ Qd ((b.length : Int) != 0) := q
      exact ⟨_, ⟨by rw [sizeLine_eq]; exact Nat.le_trans q'.1 (by decide), rfl⟩, r _ _ q'.2 g⟩
    | lst l =>
      obtain ⟨p, vs, rfl, h1, h2, h3⟩ := hv
      exact ⟨_, .inl ⟨vs, SqL.of h2, by rw [isEmpty_len h3.len]⟩, r _ _ q g⟩
    | tup l =>
      cases (show Dv K W (hd (hid S0 α ρ) H1) v (.tup l) from hv) with
      | tup h1 h2 => exact ⟨_, .inr (.inl ⟨_, same_sqt hd_le h1, by rw [isEmpty_len h2.len]⟩), r _ _ q g⟩
    | _ => exact q.elim) h)
theorem rChain {r r' : R2} {o o' : DOp} (ro : RefOp K r o) (ro' : RefOp K r' o') (a : RefB K Jx Xd ta da) (b : RefB K Jx Xd tb db) (c : RefB K Jx Xd tc dc) : RefE K Jx Xd (tChain r r' ta tb tc) (dChain o o' da db dc) := fun W S0 H0 α H σ ρ Qd Q I cn h =>
  v_chain (a W S0 H0 α H σ ρ _ _ I (fun d v H1 q g hv => b W S0 H0 α H1 σ ρ _ _ (I.grow g) (fun e u H2 q2 g2 hu => by
    have O2 := I.ok.grow (g.trans g2)
    refine ro W _ H2 v u d e _ _ O2 (hv.grow (I.ok.grow g) g2) hu (fun z w H3 q3 g3 hw => ?_) q2
    cases hw with
    | bl k =>
      refine ⟨k, rfl, ?_⟩
      have g03 := (g.trans g2).trans g3
      cases k with
      | true => exact (if_pos rfl).mpr (c W S0 H0 α H3 σ ρ _ _ (I.grow g03) (fun f x H4 q4 g4 hx => ro' W _ H4 u x e f Qd Q (I.ok.grow (g03.trans g4)) ((hu.grow O2 (g3.trans g4))) hx (cn.grow (g03.trans g4)) q4) (q3.1 rfl))
      | false => exact (if_neg Bool.false_ne_true).mpr (cn _ _ H3 (q3.2 rfl) g03 (.bl false))
    | _ => exact q3.elim) q) h)
theorem DvA.cut {W : Wd} {A : Hp} {vs : List V} {ds : List Dt} {lo hi : Option Int} (h : DvA K W A vs ds) : DvA K W A (cutV vs lo hi) (cutG ds lo hi) := by
  unfold cutV cutG
  rw [h.len]
  exact (h.drop _).take _
theorem cutG_all {β : Type} {xs : List β} {lo hi : Option Int} (h : HT.sIx xs.length 0 lo = 0 ∧ HT.sIx xs.length xs.length hi = xs.length) : cutG xs lo hi = xs := by
  unfold cutG
  rw [h.1, h.2]
  simp
theorem rSl (a : RefB K Jx Xd ta da) (b : RefO K Jx Xd tl dl) (c : RefO K Jx Xd th dh) : RefE K Jx Xd (tSl (rSlU K) ta tl th) (dSl da dl dh) := fun W S0 H0 α H σ ρ Qd Q I cn h =>
  a W S0 H0 α H σ ρ _ _ I (fun d v H1 q g hv => b W S0 H0 α H1 σ ρ _ _ (I.grow g) (fun lo H2 q2 g2 => c W S0 H0 α H2 σ ρ _ _ (I.grow (g.trans g2)) (fun hi H3 q3 g3 => by
    have g03 := (g.trans g2).trans g3
    have O3 := I.ok.grow g03
    have hv3 := hv.grow (I.ok.grow g) (g2.trans g3)
    have cn3 := cn.grow g03
    cases d with
    | lst l =>
      obtain ⟨p, vs, rfl, h1, h2, h3⟩ := hv3
      exact v_sll (SqL.of h2) fun x hx => cn3.new O3 hx q3 (dv_newL O3 hx h3.cut)
    | tup l =>
      cases (show Dv K W (hd (hid S0 α ρ) H3) v (.tup l) from hv3) with
      | @tup _ xs _ h1 h2 =>
        refine .inr (.inr ⟨_, xs, rfl, same_sqt hd_le h1, fun z => ?_, fun z x hx => cn3.new O3 hx q3 (dv_newT O3 hx h2.cut)⟩)
        have e : cutG l lo hi = l := by
          refine cutG_all ?_
          rw [← h2.len]
          exact z
        have q3' : Qd (.tup (cutG l lo hi)) := q3
        rw [e] at q3'
        exact cn3.now O3 q3' (.tup h1 h2)
    | str z =>
      rw [shStr hv3]
      have q3' : z.length ≤ 16777216 ∧ Qd (.str (cutS z lo hi)) := q3
      exact .inr (.inl ⟨z, rfl, by rw [sizeLine_eq]; exact Nat.le_trans q3'.1 (by decide), cn3.now O3 q3'.2 (.str _)⟩)
    | _ => exact q3.elim) q2) q) h
theorem rRev (a : RefB K Jx Xd ta da) : RefE K Jx Xd (tRevL K ta) (dRev da) := fun W S0 H0 α H σ ρ Qd Q I cn h =>
  a W S0 H0 α H σ ρ _ _ I (fun d v H1 q g hv => by
    cases d with
    | lst l =>
      obtain ⟨p, vs, rfl, h1, h2, h3⟩ := hv
      exact ⟨p, vs, rfl, SqL.of h2, fun x hx => (cn.grow g).new (I.ok.grow g) hx q (dv_newL (I.ok.grow g) hx h3.rev)⟩
    | _ => exact q.elim) h
end
/-! a, b = x, y -/
inductive Cmp (K : PySem.W.Frag) (W : Wd) (S : Addr → Prop) (H : Hp) : List Addr → List V → List Sl → Prop
  | nil : Cmp K W S H [] [] []
  | val {v : V} {d : Dt} {ps : List Addr} {vs : List V} {ss : List Sl} : Dv K W (hd S H) v d → Cmp K W S H ps vs ss → Cmp K W S H ps (v :: vs) (.val d :: ss)
  | own {p : Addr} {ws : List V} {l : List Dt} {ps : List Addr} {vs : List V} {ss : List Sl} : H p = some (.lst ws) → DvA K W (hd S H) ws l → Cmp K W S H ps vs ss → Cmp K W S H (p :: ps) (.ref p :: vs) (.own l :: ss)
abbrev DP : Type := Ro → (List Sl → Prop) → Prop
def RefP (K : PySem.W.Frag) (Jx : WX) (Xd : XD) (ta : TA) (dp : DP) : Prop := ∀ W S0 H0 α H σ ρ Qd Q, EnvX K Jx Xd W S0 H0 α H σ ρ →
  (∀ ss vs H' ps, Qd ss → Gw K W H H' → ps.Nodup → (∀ p, p ∈ ps → H p = none) → Cmp K W (hid (fun a => S0 a ∨ a ∈ ps) α ρ) H' ps vs ss → Q vs H') → dp ρ Qd → ta σ H Q
def pNil : DP := fun _ Q => Q []
def pVal (de : DE) (dp : DP) : DP := fun ρ Q => de ρ fun d => dp ρ fun ss => Q (.val d :: ss)
def pOwn (df : DF) (dp : DP) : DP := fun ρ Q => df ρ fun l => dp ρ fun ss => Q (.own l :: ss)
section
variable {K : PySem.W.Frag} {Jx : WX} {Xd : XD} {te : TE} {de : DE} {df : DF} {t : TA} {dp : DP}
theorem Gw.none {W : Wd} {H H' : Hp} {p : Addr} (g : Gw K W H H') (h : H' p = none) : H p = none := by
  cases z : H p with
  | none => rfl
  | some u => exact absurd h (g.ne p (by rw [z]; exact fun q => nomatch q))
theorem Cmp.same {W : Wd} {S S' : Addr → Prop} {H : Hp} (e : ∀ a, S' a → S a) : ∀ {ps : List Addr} {vs : List V} {ss : List Sl}, Cmp K W S H ps vs ss → Cmp K W S' H ps vs ss
  | _, _, _, .nil => .nil
  | _, _, _, .val h r => .val (h.same (hd_sub e)) (Cmp.same e r)
  | _, _, _, .own h1 h2 r => .own h1 (h2.same (hd_sub e)) (Cmp.same e r)
theorem rpNil : RefP K Jx Xd tNil pNil := fun W S0 H0 α H σ ρ Qd Q I c h => c _ _ H [] h (.refl I.gw.bag) List.nodup_nil (fun _ z => nomatch z) .nil
theorem rpVal (a : RefE K Jx Xd te de) (b : RefP K Jx Xd t dp) : RefP K Jx Xd (tCons te t) (pVal de dp) := fun W S0 H0 α H σ ρ Qd Q I c h =>
  a W S0 H0 α H σ ρ _ _ I (fun d v H1 q g hv => b W S0 H0 α H1 σ ρ _ _ (I.grow g) (fun ss vs H' ps q2 g2 nd hp cm => c _ _ H' ps q2 (g.trans g2) nd (fun p z => g.none (hp p z)) (.val (hv.same fun x o e => by
    obtain ⟨e1, e2⟩ := hd_get e
    refine hd_at (g2.keep x o (fun z => e1 (I.hms x z)) e2) fun z => ?_
    rcases z with (z | z) | z
    · exact e1 (.inl z)
    · rw [hp x z] at e2
      cases e2
    · exact e1 (.inr z)) cm)) q) h
theorem rpOwn (a : RefF K Jx Xd te df) (b : RefP K Jx Xd t dp) : RefP K Jx Xd (tCons te t) (pOwn df dp) := fun W S0 H0 α H σ ρ Qd Q I c h =>
  a W S0 H0 α H σ ρ _ _ I (fun l p ws H1 q g hp hp' hv => by
    have nm := I.noMt hp
    obtain ⟨I2, s2⟩ := I.hide g hp (by rw [hp']; exact fun z => nomatch z) nm
    refine b W _ H0 α H1 σ ρ _ _ I2 (fun ss vs H' ps q2 g2 nd hps cm => ?_) q
    have np : p ∉ ps := fun z => by
      rw [hps p z] at hp'
      cases hp'
    have cm' : Cmp K W (hid (fun a => S0 a ∨ a ∈ p :: ps) α ρ) H' ps vs ss := cm.same fun x z => by
      rcases z with (z | z) | z
      · exact .inl (.inl (.inl z))
      · rcases List.mem_cons.mp z with z | z
        · exact .inl (.inl (.inr z))
        · exact .inl (.inr z)
      · exact .inr z
    refine c _ _ H' (p :: ps) q2 (g.trans g2) (List.nodup_cons.mpr ⟨np, nd⟩) (fun x z => ?_) (.own (g2.keep _ _ nm hp') (hv.same fun x o e => ?_) cm')
    · rcases List.mem_cons.mp z with e | e
      · rw [e]; exact hp
      · exact g.none (hps x e)
    · obtain ⟨e1, e2⟩ := hd_get e
      refine hd_at (g2.keep x o (fun z => e1 (I2.hms x z)) e2) fun z => ?_
      rcases z with (z | z) | z
      · exact e1 (.inl (.inl z))
      · rcases List.mem_cons.mp z with z | z
        · exact e1 (.inl (.inr z))
        · rw [hps x z] at e2
          cases e2
      · exact e1 (.inr z)) h
end
section
variable {K : PySem.W.Frag} {W : Wd} {S0 : Addr → Prop} {H0 H H' : Hp} {α : Nat → Addr} {σ : L2.St} {ρ : Ro}
theorem Env.hideP (I : Env K W S0 H0 α H σ ρ) {P : Addr → Prop} (g : Gw K W H H') (h : ∀ p, P p → H p = none ∧ H' p ≠ none) : Env K W (fun a => S0 a ∨ P a) H0 α H' σ ρ ∧ Same (hd (hid S0 α ρ) H) (hd (hid (fun a => S0 a ∨ P a) α ρ) H') := by
  have αp : ∀ j, (gt ρ j).owned = true → ¬P (α j) := fun j hj e => by
    obtain ⟨w, hw⟩ := (I.sl j).some hj
    rw [(h _ e).1] at hw
    cases hw
  have sub : ∀ a, hid (fun a => S0 a ∨ P a) α ρ a → hid S0 α ρ a ∨ P a := fun a z => by
    rcases z with (z | z) | z
    · exact .inl (.inl z)
    · exact .inr z
    · exact .inl (.inr z)
  have sm : Same (hd (hid S0 α ρ) H) (hd (hid (fun a => S0 a ∨ P a) α ρ) H') := fun a o e => by
    obtain ⟨h1, h2⟩ := hd_get e
    refine hd_at (g.keep a o (fun z => h1 (I.hms a z)) h2) fun z => (sub a z).elim h1 fun y => ?_
    rw [(h a y).1] at h2
    cases h2
  refine ⟨⟨I.len, I.bag0, I.gw.trans g, fun a z => ?_, fun a z => .inl (I.ms a z), fun i hi => ⟨(I.new i hi).1, fun z => z.elim (I.new i hi).2 (αp i hi)⟩, I.inj, fun i => (I.sl i).ex sm fun o => ?_⟩, sm⟩
  · rcases z with z | z
    · exact g.ne a (I.kn a z)
    · exact (h a z).2
  · obtain ⟨u, hu⟩ := (I.sl i).some o
    rw [hu]
    exact g.keep _ _ (fun z => (I.new i o).2 (I.ms _ z)) hu
def sets : List Nat → List V → L2.St → L2.St
  | i :: is, v :: vs, σ => sets is vs (σ.set i (some v))
  | _, _, σ => σ
def pts : List Nat → List Sl → Ro → Ro
  | i :: is, s :: ss, ρ => pts is ss (pt ρ i s)
  | _, _, ρ => ρ
theorem Env.setAll : ∀ {ps : List Addr} {vs : List V} {ss : List Sl} {is : List Nat} {α : Nat → Addr} {σ : L2.St} {ρ : Ro}, Cmp K W (hid (fun a => S0 a ∨ a ∈ ps) α ρ) H ps vs ss → Env K W (fun a => S0 a ∨ a ∈ ps) H0 α H σ ρ → (∀ p, p ∈ ps → H0 p = none ∧ ¬S0 p) → ps.Nodup → is.length = vs.length →
    ∃ α', Env K W S0 H0 α' H (sets is vs σ) (pts is ss ρ) ∧ Same (hd (hid (fun a => S0 a ∨ a ∈ ps) α ρ) H) (hd (hid S0 α' (pts is ss ρ)) H)
  | _, _, _, is, α, σ, ρ, .nil, I, _, _, el => by
    have e : (fun a => S0 a ∨ a ∈ ([] : List Addr)) = S0 := by
      funext a
      simp
    have ei : is = [] := List.eq_nil_of_length_eq_zero el
    subst ei
    rw [e] at I ⊢
    exact ⟨α, I, Same.refl _⟩
  | _, _, _, [], _, _, _, .val _ _, _, _, _, el => by cases el
  | _, _, _, [], _, _, _, .own _ _ _, _, _, _, el => by cases el
  | ps, _, _, i :: is, α, σ, ρ, .val (v := v) (d := d) (vs := vs) (ss := ss) h r, I, hn, nd, el => by
    obtain ⟨I2, s2⟩ := I.set (i := i) h
    have sub : ∀ a, hid (fun a => S0 a ∨ a ∈ ps) α (pt ρ i (.val d)) a → hid (fun a => S0 a ∨ a ∈ ps) α ρ a := fun a z => by
      rcases z with z | ⟨j, z1, z2⟩
      · exact .inl z
      · refine .inr ⟨j, ?_, z2⟩
        by_cases e : j = i
        · subst e
          by_cases l : j < ρ.length
          · rw [gt_pt l] at z1
            cases z1
          · rw [gt_pt_out (by omega)] at z1
            exact z1
        · rwa [gt_pt_ne e] at z1
    obtain ⟨α', I3, s3⟩ := Env.setAll (is := is) (r.same sub) I2 hn nd (by simpa using el)
    exact ⟨α', I3, s2.trans s3⟩
  | p :: ps, _, _, i :: is, α, σ, ρ, .own (ws := ws) (l := l) (vs := vs) (ss := ss) h1 h2 r, I, hn, nd, el => by
    have e : (fun a => S0 a ∨ a ∈ p :: ps) = fun a => (S0 a ∨ a ∈ ps) ∨ a = p := by
      funext a
      rw [List.mem_cons]
      exact propext ⟨fun z => z.elim (fun y => .inl (.inl y)) fun y => y.elim .inr fun q => .inl (.inr q), fun z => z.elim (fun y => y.elim .inl fun q => .inr (.inr q)) fun q => .inr (.inl q)⟩
    rw [e] at I h2 r ⊢
    obtain ⟨n0, nS⟩ := hn p (by simp)
    obtain ⟨np, nd'⟩ := List.nodup_cons.mp nd
    obtain ⟨I2, s2⟩ := I.adopt (i := i) (s := .own l) n0 (fun z => z.elim nS np) rfl ⟨rfl, ws, h1, h2⟩
    have sub : ∀ a, hid (fun a => S0 a ∨ a ∈ ps) (upα α i p) (pt ρ i (.own l)) a → hid (fun a => (S0 a ∨ a ∈ ps) ∨ a = p) α ρ a := fun a z => by
      rcases z with z | ⟨j, z1, z2⟩
      · exact .inl (.inl z)
      · by_cases ej : j = i
        · rw [upα_eq ej] at z2
          exact .inl (.inr z2.symm)
        · rw [upα_ne ej] at z2
          rw [gt_pt_ne ej] at z1
          exact .inr ⟨j, z1, z2⟩
    obtain ⟨α', I3, s3⟩ := Env.setAll (is := is) (r.same sub) I2 (fun q hq => hn q (by simp [hq])) nd' (by simpa using el)
    exact ⟨α', I3, s2.trans s3⟩
theorem Cmp.len {S : Addr → Prop} : ∀ {ps : List Addr} {vs : List V} {ss : List Sl}, Cmp K W S H ps vs ss → vs.length = ss.length
  | _, _, _, .nil => rfl
  | _, _, _, .val _ r => by rw [List.length_cons, List.length_cons, Cmp.len r]
  | _, _, _, .own _ _ r => by rw [List.length_cons, List.length_cons, Cmp.len r]
theorem Cmp.ne {S : Addr → Prop} : ∀ {ps : List Addr} {vs : List V} {ss : List Sl}, Cmp K W S H ps vs ss → ∀ p, p ∈ ps → H p ≠ none
  | _, _, _, .nil, _, h => nomatch h
  | _, _, _, .val _ r, p, h => Cmp.ne r p h
  | _, _, _, .own h1 _ r, p, h => by
    rcases List.mem_cons.mp h with e | e
    · rw [e, h1]
      exact fun z => nomatch z
    · exact Cmp.ne r p e
end
def dPar (is : List Nat) (dp : DP) : DS := fun D ρ => dp ρ fun ss => ss.length = is.length ∧ D.nx (pts is ss ρ)
section
variable {K : PySem.W.Frag} {Jx : WX} {Xd : XD} {t : TA} {dp : DP}
theorem par_core {is : List Nat} (a : RefP K Jx Xd t dp) {W : Wd} {S0 : Addr → Prop} {H0 H : Hp} {α : Nat → Addr} {σ : L2.St} {ρ : Ro} {D : Ends} {Dd : DEnds} (I : EnvX K Jx Xd W S0 H0 α H σ ρ) (r : EnR K W S0 H0 (hd (hid S0 α ρ) H) D Dd) (h : dPar is dp Dd ρ) (P : List V → Hp → Prop) (hP : ∀ vs H', vs.length = is.length → D.nx (sets is vs σ) H' → P vs H') : t σ H P :=
  a W S0 H0 α H σ ρ _ _ I (fun ss vs H' ps q g nd hp cm => by
    obtain ⟨I2, s2⟩ := I.toEnv.hideP (P := fun a => a ∈ ps) g fun p z => ⟨hp p z, cm.ne p z⟩
    have el : is.length = vs.length := by rw [cm.len]; exact q.1.symm
    obtain ⟨α', I3, s3⟩ := Env.setAll (is := is) cm I2 (fun p z => I.none0 (hp p z)) nd el
    exact hP _ _ el.symm (r.nx _ _ _ _ q.2 I3 (s2.trans s3))) h
theorem rPar2 {i j : Nat} (a : RefP K Jx Xd t dp) : RefS K Jx Xd (tPar i j t) (dPar [i, j] dp) := fun W S0 H0 α H σ ρ D Dd I r h =>
  par_core a I r h _ fun vs H' el q => by
    match vs, el, q with
    | [v, w], _, q => exact ⟨v, w, rfl, q⟩
theorem rPar3 {i j l : Nat} (a : RefP K Jx Xd t dp) : RefS K Jx Xd (tPar3 i j l t) (dPar [i, j, l] dp) := fun W S0 H0 α H σ ρ D Dd I r h =>
  par_core a I r h _ fun vs H' el q => by
    match vs, el, q with
    | [v, w, x], _, q => exact ⟨v, w, x, rfl, q⟩
end
/-! calls that change an own list -/
abbrev DW : Type := Ro → (Dt → Ro → Prop) → Prop
def RefW (K : PySem.W.Frag) (Jx : WX) (Xd : XD) (te : TE) (dw : DW) : Prop := ∀ W S0 H0 α H σ ρ Qd Q, EnvX K Jx Xd W S0 H0 α H σ ρ →
  (∀ d v α' H' ρ', Qd d ρ' → Env K W S0 H0 α' H' σ ρ' → Same (hd (hid S0 α ρ) H) (hd (hid S0 α' ρ') H') → Dv K W (hd (hid S0 α' ρ') H') v d → Q v H') → dw ρ Qd → te σ H Q
/-- x.pop(k) -/
def wPop (i : Nat) (de : DE) : DW := fun ρ Q => match gt ρ i with
  | .own l => de ρ fun k => match k with
    | .int k => (-(2 ^ 63) ≤ k ∧ k < 2 ^ 63) ∧ match seqIndex? k l.length with
      | some j => match l[j]? with
        | some d => Q d (pt ρ i (.own (l.eraseIdx j)))
        | none => False
      | none => False
    | _ => False
  | _ => False
def wCall (sd : DSp) (dw : DW) : DW := fun ρ Q => dw ρ fun d ρ' => sd [d] fun e => Q e ρ'
def dAsgW (dw : DW) (g : DG) : DS := fun D ρ => dw ρ fun d ρ' => g d ρ' D.nx
def dDropW (dw : DW) : DS := fun D ρ => dw ρ fun _ ρ' => D.nx ρ'
def dExtend (i : Nat) (de : DE) : DS := fun D ρ => match gt ρ i with
  | .own l => de ρ fun x => match x with
    | .lst m => l.length + m.length ≤ 16777216 ∧ D.nx (pt ρ i (.own (l ++ m)))
    | _ => False
  | _ => False
section
variable {K : PySem.W.Frag} {Jx : WX} {Xd : XD} {te : TE} {de : DE} {g : TG} {dg : DG} {dw : DW}
theorem DvA.erase {W : Wd} {A : Hp} : ∀ {vs : List V} {ds : List Dt} (n : Nat), DvA K W A vs ds → DvA K W A (vs.eraseIdx n) (ds.eraseIdx n)
  | _, _, _, .nil => .nil
  | _, _, 0, .cons _ r => r
  | _, _, n + 1, .cons h r => .cons h (DvA.erase n r)
theorem rwPop (i : Nat) (a : RefE K Jx Xd te de) : RefW K Jx Xd (tBM K "list" rPopAt (tVar i) (tCons te tNil)) (wPop i de) := fun W S0 H0 α H σ ρ Qd Q I c h => by
  unfold wPop at h
  cases e : gt ρ i with
  | own l =>
    rw [e] at h
    obtain ⟨e1, ⟨vs, e2, e3⟩, o⟩ := at_owned I.toEnv e
    refine ⟨_, e1, .inl ⟨rfl, vs, SqL.of e2⟩, a W S0 H0 α H σ ρ _ _ I (fun d v H1 q g hv => ?_) h⟩
    cases hv with
    | int k =>
      obtain ⟨q0, q⟩ := q
      have I1 := I.grow g
      obtain ⟨f1, ⟨ws, f2, f3⟩, _⟩ := at_owned I1.toEnv e
      split at q
      · rename_i j ej
        split at q
        · rename_i d' ed
          obtain ⟨v', g1, g2⟩ := f3.get' ed
          have sm := hd_set (S := hid S0 α ρ) (H := H1) (o := .lst (ws.eraseIdx j)) (a := α i) (.inr ⟨i, o, rfl⟩)
          obtain ⟨I2, s2⟩ := I1.put (s := .own (l.eraseIdx j)) (u := .lst (ws.eraseIdx j)) o rfl ⟨rfl, _, upd_same, (f3.same sm).erase j⟩ f1
          exact ⟨_, ws, k, j, v', rfl, rfl, f2, q0.1, q0.2, by rw [f3.len]; exact ej, g1, c _ _ _ _ _ q I2 ((g.hd I.hms).trans s2) (g2.same s2)⟩
        · exact q.elim
      · exact q.elim
    | _ => exact q.elim
  | _ =>
    rw [e] at h
    exact h.elim
theorem rwCall {sp : Sp} {sd : DSp} (hw : ∀ vs H Q, spD K sd vs H Q E0 → sp vs H Q E0) (a : RefW K Jx Xd te dw) : RefW K Jx Xd (tCall sp [] E0 (tCons te tNil)) (wCall sd dw) := fun W S0 H0 α H σ ρ Qd Q I c h =>
  v_call (a W S0 H0 α H σ ρ _ _ I (fun d v α' H' ρ' q I' e hv => hw _ H' Q ⟨W, _, _, _, I'.ok, .one hv, q, fun d' v' H2 q2 g2 hv2 => c d' v' α' H2 ρ' q2 (I'.grow g2) (e.trans (g2.hd I'.hms)) hv2⟩) h)
theorem rAsgW (a : RefW K Jx Xd te dw) (b : RefG K Jx Xd g dg) : RefS K Jx Xd (tAsg te g) (dAsgW dw dg) := fun W S0 H0 α H σ ρ D Dd I c h =>
  a W S0 H0 α H σ ρ _ _ I (fun d v α' H' ρ' q I' e hv => b W S0 H0 α' H' σ ρ' d v _ _ (I.next I' e) hv (c.nx.wk e) q) h
theorem rDropW (a : RefW K Jx Xd te dw) : RefS K Jx Xd (tDrop te) (dDropW dw) := fun W S0 H0 α H σ ρ D Dd I c h =>
  a W S0 H0 α H σ ρ _ _ I (fun d v α' H' ρ' q I' e hv => c.nx _ _ _ _ q I' e) h
theorem rExtend' (i : Nat) (a : RefB K Jx Xd te de) : RefS K Jx Xd (tDrop (tBM K "list" rExtend (tVar i) (tCons te tNil))) (dExtend i de) := fun W S0 H0 α H σ ρ D Dd I c h => by
  unfold dExtend at h
  cases e : gt ρ i with
  | own l =>
    rw [e] at h
    obtain ⟨e1, ⟨vs, e2, e3⟩, o⟩ := at_owned I.toEnv e
    refine ⟨_, e1, .inl ⟨rfl, vs, SqL.of e2⟩, a W S0 H0 α H σ ρ _ _ I (fun d v H1 q g hv => ?_) h⟩
    cases d with
    | lst m =>
      obtain ⟨b, us, rfl, k1, k2, k3⟩ := hv
      have q' : l.length + m.length ≤ 16777216 ∧ Dd.nx (pt ρ i (.own (l ++ m))) := q
      have I1 := I.grow g
      obtain ⟨f1, ⟨ws, f2, f3⟩, _⟩ := at_owned I1.toEnv e
      have sm := hd_set (S := hid S0 α ρ) (H := H1) (o := .lst (ws ++ us)) (a := α i) (.inr ⟨i, o, rfl⟩)
      obtain ⟨I2, s2⟩ := I1.put (s := .own (l ++ m)) (u := .lst (ws ++ us)) o rfl ⟨rfl, _, upd_same, (f3.same sm).app (k3.same sm)⟩ f1
      exact ⟨_, b, ws, us, rfl, rfl, f2, k2, by rw [sizeLine_eq, f3.len, k3.len]; exact Nat.le_trans q'.1 (by decide), c.nx _ _ _ _ q'.2 I2 ((g.hd I.hms).trans s2)⟩
    | _ => exact q.elim
  | _ =>
    rw [e] at h
    exact h.elim
end
/-! new lists -/
def fList (de : DE) : DF := fun ρ Q => de ρ fun x => dSeqOf x Q
def fCut (da : DE) (dl dh : DO) : DF := fun ρ Q => da ρ fun x => dl ρ fun l => dh ρ fun u => match x with
  | .lst xs => Q (cutG xs l u)
  | _ => False
def fCat (da db : DE) : DF := fun ρ Q => da ρ fun x => db ρ fun y => match x, y with
  | .lst a, .lst b => a.length + b.length ≤ 16777216 ∧ Q (a ++ b)
  | _, _ => False
def fRep (da db : DE) : DF := fun ρ Q => da ρ fun x => db ρ fun y => match x, y with
  | .lst l, .int k => (-(2 ^ 63) ≤ k ∧ k < 2 ^ 63 ∧ l.length * k.toNat ≤ 16777216) ∧ Q (List.replicate k.toNat l).flatten
  | _, _ => False
section
variable {K : PySem.W.Frag} {Jx : WX} {Xd : XD} {ta tb : TE} {da db : DE} {tl th : TO} {dl dh : DO}
theorem new_own {W : Wd} {S0 : Addr → Prop} {H H1 : Hp} {α : Nat → Addr} {ρ : Ro} {Qd : List Dt → Prop} {Q : VK} {l : List Dt} {xs : List V}
    (c : ∀ l p vs H', Qd l → Gw K W H H' → H p = none → H' p = some (.lst vs) → DvA K W (hd (hid (fun a => S0 a ∨ a = p) α ρ) H') vs l → Q (.ref p) H') (g : Gw K W H H1) (q : Qd l) (h : DvA K W (hd (hid S0 α ρ) H1) xs l) : ∀ p, H1 p = none → Q (.ref p) (upd H1 p (.lst xs)) :=
  fun p hp => c l p xs _ q (g.trans (.new g.bag hp)) (g.none hp) upd_same (h.same (hid_new hp))
theorem rfList (a : RefB K Jx Xd ta da) : RefF K Jx Xd (tCB (rListOf K) (tCons ta tNil)) (fList da) := fun W S0 H0 α H σ ρ Qd Q I c h =>
  a W S0 H0 α H σ ρ _ _ I (fun d v H1 q g hv => by
    obtain ⟨p, t, xs, l, rfl, h1, h2, h3, _⟩ := sh_seq (I.ok.grow g) hv q
    exact v_listb h1 (new_own c g h3 h2)) h
theorem rfCut (a : RefB K Jx Xd ta da) (b : RefO K Jx Xd tl dl) (e : RefO K Jx Xd th dh) : RefF K Jx Xd (tSl (rSlU K) ta tl th) (fCut da dl dh) := fun W S0 H0 α H σ ρ Qd Q I c h =>
  a W S0 H0 α H σ ρ _ _ I (fun d v H1 q g hv => b W S0 H0 α H1 σ ρ _ _ (I.grow g) (fun lo H2 q2 g2 => e W S0 H0 α H2 σ ρ _ _ (I.grow (g.trans g2)) (fun hi H3 q3 g3 => by
    have g03 := (g.trans g2).trans g3
    have hv3 := hv.grow (I.ok.grow g) (g2.trans g3)
    cases d with
    | lst l =>
      obtain ⟨p, vs, rfl, h1, h2, h3⟩ := hv3
      exact v_sll (SqL.of h2) (new_own c g03 q3 h3.cut)
    | _ => exact q3.elim) q2) q) h
theorem rfCat (a : RefB K Jx Xd ta da) (b : RefB K Jx Xd tb db) : RefF K Jx Xd (tOp (rAddU K) ta tb) (fCat da db) := fun W S0 H0 α H σ ρ Qd Q I c h =>
  a W S0 H0 α H σ ρ _ _ I (fun d v H1 q g hv => b W S0 H0 α H1 σ ρ _ _ (I.grow g) (fun e u H2 q2 g2 hu => by
    have hv2 := hv.grow (I.ok.grow g) g2
    match d, e, q2, hv2, hu with
    | .lst l, .lst m, q2, hv2, hu =>
      obtain ⟨p, vs, rfl, h1, h2, h3⟩ := hv2
      obtain ⟨p', us, rfl, k1, k2, k3⟩ := hu
      exact v_addl h2 k2 (by rw [h3.len, k3.len, sizeLine_eq]; exact Nat.le_trans q2.1 (by decide)) (new_own c (g.trans g2) q2.2 (h3.app k3))) q) h
theorem rfRep (a : RefB K Jx Xd ta da) (b : RefB K Jx Xd tb db) : RefF K Jx Xd (tOp rMulU ta tb) (fRep da db) := fun W S0 H0 α H σ ρ Qd Q I c h =>
  a W S0 H0 α H σ ρ _ _ I (fun d v H1 q g hv => b W S0 H0 α H1 σ ρ _ _ (I.grow g) (fun e u H2 q2 g2 hu => by
    have hv2 := hv.grow (I.ok.grow g) g2
    match d, e, q2, hv2, hu with
    | .lst l, .int k, q2, hv2, hu =>
      obtain ⟨p, vs, rfl, h1, h2, h3⟩ := hv2
      rw [shInt hu]
      refine .inr (.inr ⟨p, k, vs, rfl, rfl, h2, q2.1.1, q2.1.2.1, by rw [h3.len, sizeLine_eq]; exact Nat.le_trans q2.1.2.2 (by decide), new_own c (g.trans g2) q2.2 ?_⟩)
      generalize k.toNat = n
      induction n with
      | zero => exact .nil
      | succ n ih =>
        rw [List.replicate_succ, List.replicate_succ, List.flatten_cons, List.flatten_cons]
        exact h3.app ih) q) h
end
def dYes : DT := fun _ Q => Q true
def dBot : DS := fun _ _ => False
theorem rBot {K : PySem.W.Frag} {Jx : WX} {Xd : XD} : RefS K Jx Xd tBotS dBot := fun _ _ _ _ _ _ _ _ _ _ _ h => h.elim
def dLstRg (da : DE) : DE := fun ρ Q => da ρ fun x => match x with
  | .int n => (0 ≤ n ∧ n ≤ 1000000) ∧ Q (.lst (rngD 0 n.toNat))
  | _ => False
theorem rngV {n : Nat} : ((List.range n).map fun (i : Nat) => V.int (i : Int)) = ((List.range n).map fun (i : Nat) => (i : Int)).map V.int := by
  rw [List.map_map]
  rfl
theorem rngDt {n : Nat} : rngD 0 n = ((List.range n).map fun (i : Nat) => (i : Int)).map Dt.int := by
  unfold rngD
  rw [List.map_map]
  refine List.map_congr_left fun i _ => ?_
  show Dt.int (0 + (i : Int)) = Dt.int (i : Int)
  rw [Int.zero_add]
theorem rLstRg {K : PySem.W.Frag} {Jx : WX} {Xd : XD} {ta : TE} {da : DE} (a : RefE K Jx Xd ta da) : RefE K Jx Xd (tLstRg (tRg1 ta)) (dLstRg da) := fun W S0 H0 α H σ ρ Qd Q I c h =>
  a W S0 H0 α H σ ρ _ _ I (fun d v H1 q g hv => by
    cases hv with
    | int n =>
      have q' : (0 ≤ n ∧ n ≤ 1000000) ∧ Qd (.lst (rngD 0 n.toNat)) := q
      refine ⟨n, rfl, RgOk.of_le (by omega) (by omega) (by omega) (by omega), fun p hp => ?_⟩
      have e : rgV 0 n = ((List.range n.toNat).map fun (i : Nat) => (i : Int)).map V.int := by
        unfold rgV
        rw [show (n - 0).toNat = n.toNat by omega, List.map_map]
        refine List.map_congr_left fun i _ => ?_
        show V.int (0 + (i : Int)) = V.int (i : Int)
        rw [Int.zero_add]
      rw [e]
      rw [rngDt] at q'
      exact (c.grow g).new (I.ok.grow g) hp q'.2 (dv_newL (I.ok.grow g) hp DvA.of_ints)
    | _ => exact q.elim) h
def dJoin (da db : DE) : DE := fun ρ Q => da ρ fun x => match x with
  | .str a => db ρ fun y => ∃ ys : List Str, (y = .lst (ys.map Dt.str) ∨ y = .tup (ys.map Dt.str)) ∧ (ys.map (·.length)).sum + ys.length * a.length ≤ 16777216 ∧ Q (.str (Txt.join a ys))
  | _ => False
theorem rJoin {K : PySem.W.Frag} {Jx : WX} {Xd : XD} {ta tb : TE} {da db : DE} (a : RefE K Jx Xd ta da) (b : RefB K Jx Xd tb db) : RefE K Jx Xd (tM1 (rJoinL K) ta tb) (dJoin da db) := fun W S0 H0 α H σ ρ Qd Q I c h =>
  v_m1 (a W S0 H0 α H σ ρ _ _ I (fun d v H1 q g hv => by
    cases hv with
    | str z =>
      refine ⟨⟨z, rfl⟩, b W S0 H0 α H1 σ ρ _ _ (I.grow g) (fun e u H2 q2 g2 hu => ?_) q⟩
      obtain ⟨ys, ey, l, q3⟩ := q2
      rcases ey with rfl | rfl
      · obtain ⟨p, vs, rfl, h1, h2, h3⟩ := hu
        exact ⟨z, p, ys, rfl, rfl, .inl (by rw [← h3.strs]; exact SqL.of h2), l, c _ _ H2 q3 (g.trans g2) (.str _)⟩
      · cases (show Dv K W (hd (hid S0 α ρ) H2) u (.tup (ys.map Dt.str)) from hu) with
        | tup h1 h2 => exact ⟨z, _, ys, rfl, rfl, .inr (by rw [← h2.strs]; exact same_sqt hd_le h1), l, c _ _ H2 q3 (g.trans g2) (.str _)⟩
    | _ => exact q.elim) h)

end
section

/-! ### the laws' own helpers over data -/
theorem ok_bag {K : PySem.W.Frag} {W : Wd} {S : Addr → Prop} {H : Hp} {b : Addr} {g : Addr × List Int} (O : Ok K W S H) (e : W = some (b, g)) : Bag K H b g := O.bag b g e
/-- what the bag's calls leave -/
theorem gw_kp {K : PySem.W.Frag} {W : Wd} {H H' : Hp} {b : Addr} {g : Addr × List Int} (e : W = some (b, g)) (B : Bag K H' b g) (k : Kp b H H') : Gw K W H H' :=
  ⟨fun a o n h => kp_get k (fun z => n ⟨g, by rw [e, z]⟩) h, fun b' g' e' => by
    rw [e] at e'
    cases e'
    exact B, fun a h z => by
    cases q : H a with
    | none => exact h q
    | some o =>
      by_cases ab : a = b
      · subst ab
        exact B.some z
      · rw [kp_get k ab q] at z
        cases z⟩
theorem sd_bag1 {K : PySem.W.Frag} {W : Wd} {A : Hp} {v : V} (h : Dv K W A v .bag) : ∃ b g, W = some (b, g) ∧ v = .ref b := by
  cases h with
  | bag e => exact ⟨_, _, e, rfl⟩
def sd_law_draw : DSp := fun ds Q => match ds with
  | [.bag, .int n] => n < 4149515568880992958512407863691161151012446232242436899995657329690652811412908146399707048947103794288197886611300789182395151075411775307886874834113963687061181803401509523685376 ∧ ∀ d : Int, 0 ≤ d → (d < n ∨ d = 0) → Q (.int d)
  | _ => False
theorem hw_law_draw {K : PySem.W.Frag} (vs : List V) (H : Hp) (Q : VK) (h : spD K sd_law_draw vs H Q E0) : sp_law_draw K vs H Q E0 := by
  obtain ⟨W, S, ds, Qd, O, hs, q, c⟩ := h
  match ds, q, hs with
  | [.bag, .int n], q, .cons hb (.cons hn .nil) =>
    obtain ⟨b, g, e, rfl⟩ := sd_bag1 hb
    cases hn
    exact ⟨b, n, g, rfl, ok_bag O e, q.1, fun d H' d0 d1 B k => c _ _ H' (q.2 d d0 d1) (gw_kp e B k) (.int d)⟩
/-- things[draw] -/
def sd_law_of : DSp := fun ds Q => match ds with
  | [.bag, .str z] => (0 < z.length ∧ z.length ≤ 16777216) ∧ ∀ (i : Nat) c, z.cps.toList[i]? = some c → Q (.str ⟨#[c]⟩)
  | [.bag, x] => dSeqOf x fun l => (0 < l.length ∧ l.length ≤ 16777216) ∧ ∀ d, d ∈ l → Q d
  | _ => False
theorem wo_hd {S : Addr → Prop} {H : Hp} {b : Addr} (h : S b) : Same (hd S H) (wo [b] H) := fun a o e => by
  obtain ⟨e1, e2⟩ := hd_get e
  exact wo_at e2 fun z => e1 (by rw [List.mem_singleton.mp z]; exact h)
theorem hw_law_of {K : PySem.W.Frag} (vs : List V) (H : Hp) (Q : VK) (h : spD K sd_law_of vs H Q E0) : sp_law_of K vs H Q E0 := by
  obtain ⟨W, S, ds, Qd, O, hs, q, c⟩ := h
  match ds, q, hs with
  | [.bag, x], q, .cons hb (.cons hx .nil) =>
    obtain ⟨b, g, e, rfl⟩ := sd_bag1 hb
    have Sb : S b := O.ms b ⟨g, e⟩
    by_cases s : ∃ z, x = .str z
    · obtain ⟨z, rfl⟩ := s
      cases hx
      have q' : (0 < z.length ∧ z.length ≤ 16777216) ∧ ∀ (i : Nat) c, z.cps.toList[i]? = some c → Qd (.str ⟨#[c]⟩) := q
      exact ⟨b, _, g, rfl, ok_bag O e, .inr ⟨z, rfl, q'.1.1, by rw [sizeLine_eq]; exact Nat.le_trans q'.1.2 (by decide), fun i ch H' hc B k => c _ _ H' (q'.2 i ch hc) (gw_kp e B k) (.str _)⟩⟩
    · have q' : dSeqOf x fun l => (0 < l.length ∧ l.length ≤ 16777216) ∧ ∀ d, d ∈ l → Qd d := by
        cases x with
        | str z => exact absurd ⟨z, rfl⟩ s
        | _ => exact q
      obtain ⟨a, t, xs, l, rfl, h1, h2, h3⟩ := dv_seq hx q'
      refine ⟨b, _, g, rfl, ok_bag O e, .inl ⟨a, xs, rfl, ?_, by rw [h2.len]; exact h3.1.1, by rw [h2.len, sizeLine_eq]; exact Nat.le_trans h3.1.2 (by decide), fun i y H' hy B k => ?_⟩⟩
      · cases t
        · exact .inl (same_sql (wo_hd Sb) h1)
        · exact .inr (same_sqt (wo_hd Sb) h1)
      · obtain ⟨d, e1, e2⟩ := h2.get hy
        have gg := gw_kp e B k
        exact c _ _ H' (h3.2 d (List.mem_of_getElem? e1)) gg (e2.same (gg.hd O.ms))
  | .bag :: x :: _ :: _, q, _ => cases x <;> exact q.elim
def sd_law_int : DSp := fun ds Q => match ds with
  | [x] => plain x = true ∧ Q (.bl (isInt (pyD x)))
  | _ => False
theorem hw_law_int {K : PySem.W.Frag} (vs : List V) (H : Hp) (Q : VK) (h : spD K sd_law_int vs H Q E0) : sp_law_int K vs H Q E0 := by
  obtain ⟨W, S, ds, Qd, O, hs, q, c⟩ := h
  match ds, q, hs with
  | [x], q, .cons hx .nil => exact ⟨_, _, rfl, hx.dp q.1 |> same_dp hd_le, c.now O q.2 (.bl _)⟩
def sd_law_like (n : Nat) : DSp := fun ds Q => match ds with
  | [x, y] => (plain x = true ∧ plain y = true ∧ fit n (pyD y)) ∧ Q (.bl (like (pyD x) (pyD y)))
  | _ => False
theorem hw_law_like {K : PySem.W.Frag} {n : Nat} (vs : List V) (H : Hp) (Q : VK) (h : spD K (sd_law_like n) vs H Q E0) : sp_law_like K n vs H Q E0 := by
  obtain ⟨W, S, ds, Qd, O, hs, q, c⟩ := h
  match ds, q, hs with
  | [x, y], q, .cons hx (.cons hy .nil) => exact ⟨_, _, _, _, rfl, same_dp hd_le (hx.dp q.1.1), same_dp hd_le (hy.dp q.1.2.1), q.1.2.2, fun H' s => c _ _ H' q.2 (.of O.bag s) (.bl _)⟩

end
section

/-! ### loops over data, by invariants; own operators -/
section
variable {dg : DG} {db : DS} {D : DEnds} {ρ : Ro} {dt : DT} {de : DE} {Q : List Dt → Prop}
theorem for_inv {items : List Dt} (I : Nat → Ro → Prop) (h0 : I 0 ρ) (hs : ∀ i x ρ (P : Ro → Prop), items[i]? = some x → I i ρ → (∀ ρ', I (i + 1) ρ' → P ρ') → dg x ρ fun ρ' => db { D with nx := P, ct := P, bk := D.nx } ρ') (hd : ∀ ρ, I items.length ρ → D.nx ρ) : dForGo dg db D items ρ := by
  have key : ∀ (rest : List Dt) (i : Nat) (ρ : Ro), items.drop i = rest → i + rest.length = items.length → I i ρ → dForGo dg db D rest ρ := by
    intro rest
    induction rest with
    | nil =>
      intro i ρ e l p
      have : i = items.length := by simpa using l
      subst this
      exact hd ρ p
    | cons x rest ih =>
      intro i ρ e l p
      have hx : items[i]? = some x := by rw [← List.head?_drop, e]; rfl
      exact hs i x ρ _ hx p fun ρ' p' => ih (i + 1) ρ' (by rw [← List.drop_drop, e]; rfl) (by simp at l; omega) p'
  exact key items 0 ρ rfl (by simp) h0
/-- over mapped items -/
theorem for_map {β : Type} {xs : List β} {enc : β → Dt} (I : Nat → Ro → Prop) (h0 : I 0 ρ) (hs : ∀ i x ρ (P : Ro → Prop), xs[i]? = some x → I i ρ → (∀ ρ', I (i + 1) ρ' → P ρ') → dg (enc x) ρ fun ρ' => db { D with nx := P, ct := P, bk := D.nx } ρ') (hd : ∀ ρ, I xs.length ρ → D.nx ρ) : dForGo dg db D (xs.map enc) ρ :=
  for_inv I h0 (fun i x ρ P hx p hP => by
    rw [List.getElem?_map] at hx
    cases e : xs[i]? with
    | none => rw [e] at hx; cases hx
    | some y =>
      rw [e] at hx
      cases hx
      exact hs i y ρ P e p hP) (fun ρ p => hd ρ (by rw [List.length_map] at p; exact p))
theorem for_rng {lo : Int} {n : Nat} (I : Nat → Ro → Prop) (h0 : I 0 ρ) (hs : ∀ (i : Nat) ρ (P : Ro → Prop), i < n → I i ρ → (∀ ρ', I (i + 1) ρ' → P ρ') → dg (.int (lo + (i : Int))) ρ fun ρ' => db { D with nx := P, ct := P, bk := D.nx } ρ') (hd : ∀ ρ, I n ρ → D.nx ρ) : dForGo dg db D (rngD lo n) ρ := by
  unfold rngD
  refine for_map I h0 (fun i x ρ P hx p hP => ?_) (fun ρ p => hd ρ (by rw [List.length_range] at p; exact p))
  have il := (List.getElem?_eq_some_iff.mp hx).1
  rw [List.length_range] at il
  rw [List.getElem?_range il] at hx
  cases hx
  exact hs i ρ P il p hP
/-- a comprehension: what is told of the items so far -/
theorem lc_inv {items : List Dt} (P : Nat → List Dt → Prop) (h0 : P 0 []) (hs : ∀ i x acc (R : List Dt → Prop), items[i]? = some x → P i acc → (∀ acc', P (i + 1) acc' → R acc') → dg x ρ fun ρ' => dt ρ' fun b => if2 b (de ρ' fun y => R (acc ++ [y])) (R acc)) (hd : ∀ acc, P items.length acc → Q acc) : dLcGo dg dt de ρ Q items [] := by
  have key : ∀ (rest : List Dt) (i : Nat) (acc : List Dt), items.drop i = rest → i + rest.length = items.length → P i acc → dLcGo dg dt de ρ Q rest acc := by
    intro rest
    induction rest with
    | nil =>
      intro i acc e l p
      have : i = items.length := by simpa using l
      subst this
      exact hd acc p
    | cons x rest ih =>
      intro i acc e l p
      have hx : items[i]? = some x := by rw [← List.head?_drop, e]; rfl
      exact hs i x acc _ hx p fun acc' p' => ih (i + 1) acc' (by rw [← List.drop_drop, e]; rfl) (by simp at l; omega) p'
  exact key items 0 [] rfl (by simp) h0
/-- no test; each item's own value -/
theorem lc_map {β : Type} {xs : List β} {enc f : β → Dt} (hs : ∀ (i : Nat) x (R : Dt → Prop), xs[i]? = some x → R (f x) → dg (enc x) ρ fun ρ' => de ρ' R) (hd : Q (xs.map f)) : dLcGo dg dYes de ρ Q (xs.map enc) [] := by
  refine lc_inv (fun i acc => acc = (xs.take i).map f) rfl (fun i x acc R hx p hP => ?_) fun acc p => ?_
  · rw [List.getElem?_map] at hx
    cases e : xs[i]? with
    | none => rw [e] at hx; cases hx
    | some y =>
      rw [e] at hx
      cases hx
      subst p
      exact hs i y (fun d => R ((xs.take i).map f ++ [d])) e (hP _ (by rw [take_succ_get e, List.map_append]; rfl))
  · subst p
    rw [List.length_map, List.take_length]
    exact hd
/-- the items that pass, as they are -/
theorem lc_keep {β : Type} {xs : List β} {enc f : β → Dt} {p : β → Bool} (hs : ∀ (i : Nat) x (R : Prop) (R' : Dt → Prop), xs[i]? = some x → (p x = true → R' (f x)) → (p x = false → R) → dg (enc x) ρ fun ρ' => dt ρ' fun b => if2 b (de ρ' R') R) (hd : Q ((xs.filter p).map f)) : dLcGo dg dt de ρ Q (xs.map enc) [] := by
  refine lc_inv (fun i acc => acc = ((xs.take i).filter p).map f) rfl (fun i x acc R hx pp hP => ?_) fun acc pp => ?_
  · rw [List.getElem?_map] at hx
    cases e : xs[i]? with
    | none => rw [e] at hx; cases hx
    | some y =>
      rw [e] at hx
      cases hx
      subst pp
      refine hs i y (R (((xs.take i).filter p).map f)) (fun d => R (((xs.take i).filter p).map f ++ [d])) e (fun c => hP _ ?_) (fun c => hP _ ?_)
      · rw [take_succ_get e, List.filter_append, List.map_append, List.filter_cons, if_pos c]
        rfl
      · rw [take_succ_get e, List.filter_append, List.map_append, List.filter_cons, if_neg (by rw [c]; exact Bool.false_ne_true)]
        simp
  · subst pp
    rw [List.length_map, List.take_length]
    exact hd
end
/-- a while: a word W m, m the turns that are left -/
theorem wh_inv {dt : DT} {db : DS} {D : DEnds} {ρ : Ro} (W : Nat → Ro → Prop) (n : Nat) (h0 : W n ρ) (hs : ∀ m ρ (P : Ro → Prop), W m ρ → (∀ m' ρ', m' < m → W m' ρ' → P ρ') → dt ρ fun b => (b = true → db { D with nx := P, ct := P, bk := D.nx } ρ) ∧ (b = false → D.nx ρ)) : dWhile dt db D ρ := by
  have key : ∀ k m ρ, m < k → W m ρ → dWhGo dt db D k ρ := by
    intro k
    induction k with
    | zero => intro m ρ h _; exact absurd h (Nat.not_lt_zero _)
    | succ k ih => exact fun m ρ h w => hs m ρ _ w fun m' ρ' l w' => ih m' ρ' (by omega) w'
  exact ⟨n + 1, key (n + 1) n ρ (Nat.lt_succ_self _) h0⟩
/-! operators whose operands are handed on -/
def RefOpE (K : PySem.W.Frag) (r : R2) (o : DOp) : Prop := ∀ W S H x y d e Qd Q, Ok K W S H → Dv K W (hd S H) x d → Dv K W (hd S H) y e → Cn K W S H Qd Q → o d e Qd → r x y H Q
section
variable {K : PySem.W.Frag} {Jx : WX} {Xd : XD} {ta tb : TE} {da db : DE}
theorem rOpE {r : R2} {o : DOp} (ro : RefOpE K r o) (ra : RefE K Jx Xd ta da) (rb : RefE K Jx Xd tb db) : RefE K Jx Xd (tOp r ta tb) (dOp o da db) := fun W S0 H0 α H σ ρ Qd Q I c h =>
  ra W S0 H0 α H σ ρ _ _ I (fun d v H1 q g hv => rb W S0 H0 α H1 σ ρ _ _ (I.grow g) (fun e u H2 q2 g2 hu => ro W _ H2 v u d e Qd Q (I.ok.grow (g.trans g2)) (hv.same (g2.hd I.hms)) hu (c.grow (g.trans g2)) q2) q) h
def oOwn (C : Str) (sd : DSp) : DOp := fun x y Q => match x, y with
  | .obj D fs, .obj E gs => (D = C ∧ E = C) ∧ sd [.obj D fs, .obj E gs] Q
  | _, _ => False
theorem foOwn {sp : Sp} {sd : DSp} {C : Str} (hw : ∀ vs H Q, spD K sd vs H Q E0 → sp vs H Q E0) : RefOpE K (rSelf (He.ga K C) sp) (oOwn C sd) := fun W S H x y d e Qd Q O hx hy c h => by
  match d, e, h, hx, hy with
  | .obj D fs, .obj E gs, h, hx, hy =>
    obtain ⟨⟨rfl, rfl⟩, q⟩ := h
    have hx' := hx
    have hy' := hy
    cases hx with
    | obj h1 h2 h3 =>
      cases hy with
      | obj k1 k2 k3 => exact ⟨_, _, _, _, _, _, rfl, rfl, (hd_get h1).2, (hd_get k1).2, hw _ H Q ⟨W, S, _, Qd, O, .cons hx' (.cons hy' .nil), q, c⟩⟩
end
/-- two numbers below 2 ^ 13000 -/
def cLcm : DC := fun ds Q => match ds with
  | [.int i, .int j] => (i.natAbs < 2 ^ 13000 ∧ j.natAbs < 2 ^ 13000) ∧ Q (.int (Nat.lcm i.natAbs j.natAbs : Nat))
  | _ => False
theorem fcLcm {K : PySem.W.Frag} : RefC K rLcm cLcm := fc2 (fun W S H x y d e Qd Q O hx hy c h => by
  match d, e, h, hx, hy with
  | .int i, .int j, h, hx, hy =>
    rw [shInt hx, shInt hy]
    exact ⟨i, j, rfl, h.1.1, h.1.2, c.now O h.2 (.int _)⟩) fun ds Q h => by
  unfold cLcm at h
  split at h
  · rfl
  · exact h.elim
/-! enumerate -/
def enumD (l : List Dt) : List Dt := List.zipWith (fun (i : Nat) x => .tup [.int (i : Int), x]) (List.range l.length) l
def jEnum (da : DA) : DI := fun ρ Q => da ρ fun ds => match ds with
  | [x] => dSeqOf x fun l => Q (enumD l)
  | _ => False
theorem enumD_get {l : List Dt} {i : Nat} {d : Dt} (h : l[i]? = some d) : (enumD l)[i]? = some (.tup [.int (i : Int), d]) := by
  have il := (List.getElem?_eq_some_iff.mp h).1
  unfold enumD
  rw [List.getElem?_zipWith, List.getElem?_range il, h]
theorem enumD_len {l : List Dt} : (enumD l).length = l.length := by
  unfold enumD
  rw [List.length_zipWith, List.length_range, Nat.min_self]
theorem wk_enum {K : PySem.W.Frag} {W : Wd} {S : Addr → Prop} {H : Hp} {a : Addr} {t : Bool} {xs : List V} {l : List Dt} {Pm : (Addr → Prop) → Hp → Prop} (hP : ∀ S' H', Pm S' H' → Same (hd S H) (hd S' H')) (hG : ∀ S' H', Pm S' H' → SqB K t H' a xs) (h : DvA K W (hd S H) xs l) : Wk K W (IteM K t a) (enumD l) Pm :=
  ⟨xs.length, _, _, by rw [enumD_len, h.len], walk_enumM, hG, fun S' i H1 x H2 hi p kn y => by
    obtain ⟨T, u, v, rfl, hT, rfl, hu, hv⟩ := y
    have hu' : V.int (i : Nat) = u := Option.some.inj hu
    subst hu'
    obtain ⟨d, e1, e2⟩ := h.get hv
    exact ⟨⟨_, enumD_get e1, dv_pair kn hT (.int _) (e2.same (hP _ _ p))⟩, .inr ⟨T, _, hT, rfl⟩⟩⟩
theorem rjEnum {K : PySem.W.Frag} {Jx : WX} {Xd : XD} {t : TA} {da : DA} (a : RefX K Jx Xd t da) : RefJ K Jx Xd (iEnumU K t) (jEnum da) := fun W S0 H0 α H σ ρ Qd R I c h =>
  v_eu (a W S0 H0 α H σ ρ _ _ I (fun ds vs H1 q g hs => by
    match ds, q, hs with
    | [x], q, .cons hx .nil =>
      obtain ⟨p, t, xs, l, rfl, a1, a2, a3, a4⟩ := sh_seq (I.ok.grow g) hx q
      exact ⟨p, t, xs, rfl, a1, c _ _ H1 a3 g (wk_enum (fun S' H' p => p.1) (fun S' H' p => a4 _ p.2) a2)⟩) h)
theorem riEnum {K : PySem.W.Frag} {Jx : WX} {Xd : XD} {t : TA} {da : DA} (a : RefA K Jx Xd t da) : RefI K Jx Xd (iEnumU K t) (jEnum da) := fun W S0 H0 α H σ ρ Qd R I c h =>
  v_eu (a W S0 H0 α H σ ρ _ _ I (fun ds vs H1 q g hs => by
    match ds, q, hs with
    | [x], q, .cons hx .nil =>
      obtain ⟨p, t, xs, l, rfl, a1, a2, a3⟩ := dv_seq hx q
      exact ⟨p, t, xs, rfl, same_sqb hd_le a1, c _ _ H1 a3 g (wk_enum (fun S' H' p => p) (fun S' H' p => same_sqb (p.trans hd_le) a1) a2)⟩) h)
/-- a for over enumerate -/
theorem for_enum {β : Type} {dg : DG} {db : DS} {D : DEnds} {ρ : Ro} {xs : List β} {enc : β → Dt} (I : Nat → Ro → Prop) (h0 : I 0 ρ) (hs : ∀ i x ρ (P : Ro → Prop), xs[i]? = some x → I i ρ → (∀ ρ', I (i + 1) ρ' → P ρ') → dg (.tup [.int (i : Int), enc x]) ρ fun ρ' => db { D with nx := P, ct := P, bk := D.nx } ρ') (hd : ∀ ρ, I xs.length ρ → D.nx ρ) : dForGo dg db D (enumD (xs.map enc)) ρ :=
  for_inv I h0 (fun i x ρ P hx p hP => by
    have il : i < xs.length := by
      have := (List.getElem?_eq_some_iff.mp hx).1
      rw [enumD_len, List.length_map] at this
      exact this
    rw [enumD_get (d := enc xs[i]) (by rw [List.getElem?_map, List.getElem?_eq_getElem il]; rfl)] at hx
    cases hx
    exact hs i _ ρ P (List.getElem?_eq_getElem il) p hP) (fun ρ p => hd ρ (by rw [enumD_len, List.length_map] at p; exact p))

end
section

/-! ### dicts over data -/
def valD (kvs : List (Key × Dt)) (k : Key) : Option Dt := (kvs.find? fun kv => decide (kv.1 = k)).map (·.2)
def putD (kvs : List (Key × Dt)) (k : Key) (v : Dt) : List (Key × Dt) := if (kvs.any fun kv => decide (kv.1 = k)) = true then kvs.map (fun kv => if kv.1 = k then (kv.1, v) else kv) else kvs ++ [(k, v)]
def keyD : Dt → Option Key
  | .int i => some (.inl i)
  | .str s => some (.inr s)
  | _ => none
section
variable {K : PySem.W.Frag} {W : Wd} {A : Hp}
theorem DvK.len : ∀ {vs : List (Key × V)} {ds : List (Key × Dt)}, DvK K W A vs ds → vs.length = ds.length
  | _, _, .nil => rfl
  | _, _, .cons _ r => by rw [List.length_cons, List.length_cons, DvK.len r]
theorem DvK.any {k : Key} : ∀ {vs : List (Key × V)} {ds : List (Key × Dt)}, DvK K W A vs ds → (vs.any fun kv => decide (kv.1 = k)) = ds.any fun kv => decide (kv.1 = k)
  | _, _, .nil => rfl
  | _, _, .cons _ r => by rw [List.any_cons, List.any_cons, DvK.any r]
theorem DvK.mapset {k : Key} {v : V} {d : Dt} (h : Dv K W A v d) : ∀ {vs : List (Key × V)} {ds : List (Key × Dt)}, DvK K W A vs ds → DvK K W A (vs.map fun kv => if kv.1 = k then (kv.1, v) else kv) (ds.map fun kv => if kv.1 = k then (kv.1, d) else kv)
  | _, _, .nil => .nil
  | _, _, .cons (k := k') h' r => by
    rw [List.map_cons, List.map_cons]
    by_cases e : k' = k
    · rw [if_pos e, if_pos e]
      exact .cons h (DvK.mapset h r)
    · rw [if_neg e, if_neg e]
      exact .cons h' (DvK.mapset h r)
theorem DvK.app : ∀ {vs us : List (Key × V)} {ds es : List (Key × Dt)}, DvK K W A vs ds → DvK K W A us es → DvK K W A (vs ++ us) (ds ++ es)
  | _, _, _, _, .nil, k => k
  | _, _, _, _, .cons h r, k => .cons h (DvK.app r k)
theorem DvK.put {k : Key} {v : V} {d : Dt} {vs : List (Key × V)} {ds : List (Key × Dt)} (h : DvK K W A vs ds) (hv : Dv K W A v d) : DvK K W A (putK vs k v) (putD ds k d) := by
  unfold putK putD
  rw [h.any]
  split
  · exact h.mapset hv
  · exact h.app (.cons hv .nil)
theorem DvK.val {k : Key} : ∀ {vs : List (Key × V)} {ds : List (Key × Dt)}, DvK K W A vs ds → (valV vs k = none ∧ valD ds k = none) ∨ ∃ v d, valV vs k = some v ∧ valD ds k = some d ∧ Dv K W A v d
  | _, _, .nil => .inl ⟨rfl, rfl⟩
  | _, _, .cons (k := k') h r => by
    unfold valV valD
    rw [List.find?_cons, List.find?_cons]
    by_cases e : k' = k
    · simp only [e, decide_true]
      exact .inr ⟨_, _, rfl, rfl, h⟩
    · simp only [e, decide_false]
      exact DvK.val r
theorem key_v {v : V} {d : Dt} {k : Key} (h : Dv K W A v d) (e : keyD d = some k) : v = kV k := by
  cases h with
  | int i => cases e; rfl
  | str s => cases e; rfl
  | _ => cases e
end
def dDGet (da db : DE) : DE := fun ρ Q => da ρ fun x => db ρ fun y => match x with
  | .dk kvs => match keyD y with
    | some k => match valD kvs k with
      | some d => Q d
      | none => False
    | none => False
  | _ => False
def dDIn (dy dx : DE) : DE := fun ρ Q => dy ρ fun y => dx ρ fun x => match x with
  | .dk kvs => match keyD y with
    | some k => Q (.bl (valD kvs k).isSome)
    | none => False
  | _ => False
def dDNin (dy dx : DE) : DE := fun ρ Q => dy ρ fun y => dx ρ fun x => match x with
  | .dk kvs => match keyD y with
    | some k => Q (.bl (!(valD kvs k).isSome))
    | none => False
  | _ => False
def dDcGo (dg : DG) (dt : DT) (dk dv : DE) (ρ : Ro) (Q : List (Key × Dt) → Prop) : List Dt → List (Key × Dt) → Prop
  | [], acc => Q acc
  | x :: xs, acc => dg x ρ fun ρ' => dt ρ' fun b => if2 b (dk ρ' fun y => dv ρ' fun z => match keyD y with
    | some k => dDcGo dg dt dk dv ρ Q xs (putD acc k z)
    | none => False) (dDcGo dg dt dk dv ρ Q xs acc)
def dDc (di : DI) (dg : DG) (dt : DT) (dk dv : DE) (ws : List Nat) : DE := fun ρ Q => (ws.all fun i => !(gt ρ i).owned) = true ∧ di ρ fun items => items.length ≤ 1000000 ∧ dDcGo dg dt dk dv (wp ρ ws) (fun l => Q (.dk l)) items []
section
variable {K : PySem.W.Frag} {Jx : WX} {Xd : XD} {tx ty : TE} {dx dy : DE}
theorem rDGet (a : RefE K Jx Xd tx dx) (b : RefE K Jx Xd ty dy) : RefE K Jx Xd (tDGet tx ty) (dDGet dx dy) := fun W S0 H0 α H σ ρ Qd Q I c h =>
  a W S0 H0 α H σ ρ _ _ I (fun d v H1 q g hv => b W S0 H0 α H1 σ ρ _ _ (I.grow g) (fun e u H2 q2 g2 hu => by
    have hv2 := hv.same (g2.hd I.hms)
    cases hv2 with
    | dk h1 h2 =>
      dsimp only at q2
      split at q2
      · rename_i k ek
        split at q2
        · rename_i d' ed
          rcases h2.val (k := k) with ⟨_, n⟩ | ⟨v', d'', e1, e2, e3⟩
          · rw [n] at ed; cases ed
          · rw [e2] at ed
            cases ed
            rw [key_v hu ek]
            exact ⟨_, v', rfl, by rw [← e1]; exact DGet.k (hd_get h1).2, c _ _ H2 q2 (g.trans g2) e3⟩
        · exact q2.elim
      · exact q2.elim
    | _ => exact q2.elim) q) h
theorem rDIn (b : RefE K Jx Xd ty dy) (a : RefE K Jx Xd tx dx) : RefE K Jx Xd (tDIn ty tx) (dDIn dy dx) := fun W S0 H0 α H σ ρ Qd Q I c h =>
  b W S0 H0 α H σ ρ _ _ I (fun d v H1 q g hv => a W S0 H0 α H1 σ ρ _ _ (I.grow g) (fun e u H2 q2 g2 hu => by
    have hv2 := hv.same (g2.hd I.hms)
    cases hu with
    | dk h1 h2 =>
      dsimp only at q2
      split at q2
      · rename_i k ek
        rw [key_v hv2 ek]
        refine ⟨_, _, rfl, DGet.k (hd_get h1).2, ?_⟩
        rcases h2.val (k := k) with ⟨n1, n2⟩ | ⟨v', d'', e1, e2, e3⟩
        · rw [n1]; rw [n2] at q2; exact c _ _ H2 q2 (g.trans g2) (.bl _)
        · rw [e1]; rw [e2] at q2; exact c _ _ H2 q2 (g.trans g2) (.bl _)
      · exact q2.elim
    | _ => exact q2.elim) q) h
theorem rDNin (b : RefE K Jx Xd ty dy) (a : RefE K Jx Xd tx dx) : RefE K Jx Xd (tDNotIn ty tx) (dDNin dy dx) := fun W S0 H0 α H σ ρ Qd Q I c h =>
  b W S0 H0 α H σ ρ _ _ I (fun d v H1 q g hv => a W S0 H0 α H1 σ ρ _ _ (I.grow g) (fun e u H2 q2 g2 hu => by
    have hv2 := hv.same (g2.hd I.hms)
    cases hu with
    | dk h1 h2 =>
      dsimp only at q2
      split at q2
      · rename_i k ek
        rw [key_v hv2 ek]
        refine ⟨_, _, rfl, DGet.k (hd_get h1).2, ?_⟩
        rcases h2.val (k := k) with ⟨n1, n2⟩ | ⟨v', d'', e1, e2, e3⟩
        · rw [n1]; rw [n2] at q2; exact c _ _ H2 q2 (g.trans g2) (.bl _)
        · rw [e1]; rw [e2] at q2; exact c _ _ H2 q2 (g.trans g2) (.bl _)
      · exact q2.elim
    | _ => exact q2.elim) q) h
theorem rDc {wi : TI} {di : DI} {g : TG} {dg : DG} {tt : TT} {dt : DT} {tk tv : TE} {dk dv : DE} {ws : List Nat} (a : RefJ K Jx Xd wi di) (b : RefGc K Jx Xd ws g dg) (c : RefT K Jx Xd tt dt) (ek : RefE K Jx Xd tk dk) (ev : RefE K Jx Xd tv dv) : RefE K Jx Xd (tDc wi g tt tk tv ws) (dDc di dg dt dk dv ws) := fun W S0 H0 α H σ ρ Qd Q I r ⟨hc, h⟩ =>
  a W S0 H0 α H σ ρ _ _ I (fun items J H' q gw w D hD0 => by
    have cl : clr ρ ws := fun i hi => by
      have := List.all_eq_true.mp hc i hi
      simpa using this
    have I1 := I.grow gw
    obtain ⟨n, G, Y, en, wk, hG, hY⟩ := w.ex
    refine ⟨fun i m H1 => m = n - i ∧ i ≤ n ∧ H1 D ≠ none ∧ Gw K W H' H1 ∧ ∃ vs acc, H1 D = some (.dK vs) ∧ vs.length ≤ i ∧ DvK K W (hd (hid (fun a => S0 a ∨ a = D) α ρ) H1) vs acc ∧ dDcGo dg dt dk dv (wp ρ ws) (fun l => Qd (.dk l)) (items.drop i) acc, ⟨n, by simp, Nat.zero_le _, (by rw [upd_same]; exact fun z => nomatch z), Gw.new I1.gw.bag hD0, [], [], upd_same, Nat.le_refl _, .nil, q.2⟩, ?_⟩
    rintro i m H1 ⟨rfl, hle, hD1, g1, vs, acc, e1, e2, e3, go⟩
    have nD : ¬mt W D := I1.noMt hD0
    have gd := hG (hid S0 α ρ) H1 ⟨g1.hd I1.hms, fun a o e => g1.keep a o (hd_get e).1 (hd_get e).2⟩
    obtain ⟨Ih, _⟩ := I1.hide g1 hD0 hD1 nD
    by_cases hi : i < n
    · refine .inr ⟨wk.goes i H1 hi gd, fun H4 => Gw K W H' H4 ∧ H4 D ≠ none ∧ ∃ vs acc, H4 D = some (.dK vs) ∧ vs.length ≤ i + 1 ∧ DvK K W (hd (hid (fun a => S0 a ∨ a = D) α ρ) H4) vs acc ∧ dDcGo dg dt dk dv (wp ρ ws) (fun l => Qd (.dk l)) (items.drop (i + 1)) acc, fun H4 ⟨g4, n4, vs4, acc4, p1, p2, p3, p4⟩ => ⟨n - (i + 1), by omega, rfl, hi, n4, g4, vs4, acc4, p1, p2, p3, p4⟩, fun x H2 y0 => ?_⟩
      have y := wk.yields i H1 x H2 hi gd y0
      have sMh : Same (hd (hid S0 α ρ) H') (hd (hid (fun a => S0 a ∨ a = D) α ρ) H1) := fun a o e => by
        obtain ⟨h1, h2⟩ := hd_get e
        refine hd_at (g1.keep a o (fun z => h1 (I1.hms a z)) h2) fun z => ?_
        rcases z with (z | z) | z
        · exact h1 (.inl z)
        · exact ne_of_none h2 hD0 z
        · exact h1 (.inr z)
      obtain ⟨⟨d, hd1, hd2⟩, tn⟩ := hY (hid (fun a => S0 a ∨ a = D) α ρ) i H1 x H2 hi ⟨sMh, fun a o e => g1.keep a o (hd_get e).1 (hd_get e).2⟩ Ih.hkn y
      have g2 := gw_turn Ih.gw.bag tn
      obtain ⟨Iw, hw⟩ := (Ih.grow g2).wipe cl
      have il : i < items.length := by omega
      have ed : items.drop i = d :: items.drop (i + 1) := by
        rw [List.drop_eq_getElem_cons il]
        rw [List.getElem?_eq_getElem il] at hd1
        rw [Option.some.inj hd1]
      rw [ed] at go
      have stay : ∀ {H4 : Hp}, Gw K W H2 H4 → H4 D = some (.dK vs) := fun g4 => (g2.trans g4).keep _ _ nD e1
      have cw : clr (wp ρ ws) ws := fun i hi => by
        rcases wp_or (ρ := ρ) (ws := ws) (i := i) with h | ⟨_, h⟩
        · rw [h]; rfl
        · exact absurd hi h
      refine b W _ H0 α H2 _ (wp ρ ws) d x _ _ Iw cw (by rw [hw]; exact hd2) (fun σ3 ρ3 go3 I3 cl3 h3 w3 => ⟨by rw [w3, wipe_wipe'], ?_⟩) go
      have I3 := Iw.next I3 (by rw [h3]; exact Same.refl _)
      refine c W _ H0 α H2 σ3 ρ3 _ _ I3 (fun kk H3 q3 g3 => ?_) go3
      cases kk with
      | true =>
        refine (if_pos rfl).mpr (ek W _ H0 α H3 σ3 ρ3 _ _ (I3.grow g3) (fun dy y4 H4 q4 g4 hy => ev W _ H0 α H4 σ3 ρ3 _ _ (I3.grow (g3.trans g4)) (fun dz z5 H5 q5 g5 hz => ?_) q4) q3)
        have g35 := (g3.trans g4).trans g5
        have eD := stay g35
        split at q5
        · rename_i k ekk
          have smU := hd_set (S := hid (fun a => S0 a ∨ a = D) α ρ) (H := H5) (o := .dK (putK vs k z5)) (a := D) (.inl (.inr rfl))
          rw [h3, hw] at hz
          exact ⟨vs, k, key_v hy ekk, eD, by rw [sizeLine_eq]; exact Nat.lt_of_le_of_lt e2 (Nat.lt_of_lt_of_le hi (by rw [en]; exact Nat.le_trans q.1 (by decide))), .put I1.gw.bag (g1.trans (g2.trans g35)) hD0, (by rw [upd_same]; exact fun z => nomatch z), _, putD acc k dz, upd_same,
            (by have := length_putK vs k z5; omega), DvK.put ((e3.same ((g2.trans g35).hd Ih.hms)).same smU) (hz.same smU), q5⟩
        · exact q5.elim
      | false =>
        refine (if_neg Bool.false_ne_true).mpr ?_
        exact ⟨g1.trans (g2.trans g3), (g2.trans g3).ne D hD1, vs, acc, stay g3, by omega, e3.same ((g2.trans g3).hd Ih.hms), q3⟩
    · have ei : i = n := by omega
      subst ei
      refine .inl ⟨wk.stops H1 gd, ?_⟩
      rw [en, List.drop_length] at go
      have gg := gw.trans g1
      exact r _ _ H1 go gg (.dk (hd_at e1 ((I.ok.grow gw).out hD0)) (e3.same (hd_sub fun a z => z.elim (fun y => .inl (.inl y)) .inr)))) h
end

end
section

/-! ### comprehensions of two clauses over data -/
section
variable {K : PySem.W.Frag} {Jx : WX} {Xd : XD} {W : Wd} {S0 : Addr → Prop} {H0 H H' : Hp} {α : Nat → Addr} {σ : L2.St} {ρ : Ro}
/-- changes among what is hidden -/
theorem EnvX.move (I : EnvX K Jx Xd W S0 H0 α H σ ρ) (k : ∀ a o, ¬S0 a → H a = some o → H' a = some o) (g : Gw K W H0 H') (n : ∀ a, S0 a → H' a ≠ none) : EnvX K Jx Xd W S0 H0 α H' σ ρ ∧ Same (hd (hid S0 α ρ) H) (hd (hid S0 α ρ) H') := by
  have sm : Same (hd (hid S0 α ρ) H) (hd (hid S0 α ρ) H') := fun a o e => by
    obtain ⟨h1, h2⟩ := hd_get e
    exact hd_at (k a o (fun z => h1 (.inl z)) h2) h1
  refine ⟨I.next ⟨I.len, I.bag0, g, n, I.ms, I.new, I.inj, fun i => (I.sl i).ex sm fun o => ?_⟩ sm, sm⟩
  obtain ⟨u, hu⟩ := (I.sl i).some o
  rw [hu]
  exact k _ _ (I.new i o).2 hu
end
def dLc2Go (dg : DG) (dt : DT) (di1 : DI) (dg1 : DG) (dt1 : DT) (de : DE) (ws1 : List Nat) (ρ : Ro) (Q : List Dt → Prop) : List Dt → List Dt → Prop
  | [], acc => Q acc
  | x :: xs, acc => dg x ρ fun ρ' => dt ρ' fun b => if2 b ((ws1.all fun i => !(gt ρ' i).owned) = true ∧ di1 ρ' fun items1 => items1.length ≤ 1000 ∧ dLcGo dg1 dt1 de (wp ρ' ws1) (fun acc' => dLc2Go dg dt di1 dg1 dt1 de ws1 ρ Q xs acc') items1 acc) (dLc2Go dg dt di1 dg1 dt1 de ws1 ρ Q xs acc)
def fLc2 (di : DI) (dg : DG) (dt : DT) (di1 : DI) (dg1 : DG) (dt1 : DT) (de : DE) (ws ws1 : List Nat) : DF := fun ρ Q => (ws.all fun i => !(gt ρ i).owned) = true ∧ di ρ fun items => items.length ≤ 1000 ∧ dLc2Go dg dt di1 dg1 dt1 de ws1 (wp ρ ws) Q items []
def dLc2 (di : DI) (dg : DG) (dt : DT) (di1 : DI) (dg1 : DG) (dt1 : DT) (de : DE) (ws ws1 : List Nat) : DE := fun ρ Q => fLc2 di dg dt di1 dg1 dt1 de ws ws1 ρ fun l => Q (.lst l)
theorem all_clr {ρ : Ro} {ws : List Nat} (h : (ws.all fun i => !(gt ρ i).owned) = true) : clr ρ ws := fun i hi => by
  have := List.all_eq_true.mp h i hi
  simpa using this
theorem drop_at {β : Type} {items : List β} {i : Nat} {d : β} (h : items[i]? = some d) : items.drop i = d :: items.drop (i + 1) := by
  have il := (List.getElem?_eq_some_iff.mp h).1
  rw [List.drop_eq_getElem_cons il]
  rw [List.getElem?_eq_getElem il] at h
  rw [Option.some.inj h]
theorem clr_wp {ρ : Ro} {ws : List Nat} : clr (wp ρ ws) ws := fun i hi => by
  rcases wp_or (ρ := ρ) (ws := ws) (i := i) with h | ⟨_, h⟩
  · rw [h]; rfl
  · exact absurd hi h
theorem rfLc2 {K : PySem.W.Frag} {Jx : WX} {Xd : XD} {wi wi1 : TI} {di di1 : DI} {g g1 : TG} {dg dg1 : DG} {tt tt1 : TT} {dt dt1 : DT} {te : TE} {de : DE} {ws ws1 : List Nat} (a : RefJ K Jx Xd wi di) (b : RefGc K Jx Xd ws g dg) (c : RefT K Jx Xd tt dt) (a1 : RefI K Jx Xd wi1 di1) (b1 : RefGc K Jx Xd ws1 g1 dg1) (c1 : RefT K Jx Xd tt1 dt1) (e : RefE K Jx Xd te de) :
    RefF K Jx Xd (tLc2 wi g tt wi1 g1 tt1 te ws ws1) (fLc2 di dg dt di1 dg1 dt1 de ws ws1) := fun W S0 H0 α H σ ρ Qd Q I r ⟨hc, h⟩ =>
  a W S0 H0 α H σ ρ _ _ I (fun items J H' q gw w D hD => by
    have cl := all_clr hc
    have I1 := I.grow gw
    obtain ⟨n, G, Y, en, wk, hG, hY⟩ := w.ex
    have nD : ¬mt W D := I1.noMt hD
    have hDH : H D = none := gw.none hD
    refine ⟨fun i m H1 => m = n - i ∧ i ≤ n ∧ H1 D ≠ none ∧ Gw K W H' H1 ∧ ∃ vs acc, H1 D = some (.lst vs) ∧ vs.length ≤ i * 1000 ∧ DvA K W (hd (hid (fun a => S0 a ∨ a = D) α ρ) H1) vs acc ∧ dLc2Go dg dt di1 dg1 dt1 de ws1 (wp ρ ws) Qd (items.drop i) acc, ⟨n, by simp, Nat.zero_le _, (by rw [upd_same]; exact fun z => nomatch z), Gw.new I1.gw.bag hD, [], [], upd_same, Nat.zero_le _, .nil, q.2⟩, ?_⟩
    rintro i m H1 ⟨rfl, hle, hD1, g1', vs, acc, e1, e2, e3, go⟩
    have gd := hG (hid S0 α ρ) H1 ⟨g1'.hd I1.hms, fun a o e => g1'.keep a o (hd_get e).1 (hd_get e).2⟩
    obtain ⟨Ih, _⟩ := I1.hide g1' hD hD1 nD
    by_cases hi : i < n
    · refine .inr ⟨wk.goes i H1 hi gd, fun H4 => Gw K W H' H4 ∧ H4 D ≠ none ∧ ∃ vs acc, H4 D = some (.lst vs) ∧ vs.length ≤ (i + 1) * 1000 ∧ DvA K W (hd (hid (fun a => S0 a ∨ a = D) α ρ) H4) vs acc ∧ dLc2Go dg dt di1 dg1 dt1 de ws1 (wp ρ ws) Qd (items.drop (i + 1)) acc, fun H4 ⟨g4, n4, vs4, acc4, p1, p2, p3, p4⟩ => ⟨n - (i + 1), by omega, rfl, hi, n4, g4, vs4, acc4, p1, p2, p3, p4⟩, fun x H2 y0 => ?_⟩
      have y := wk.yields i H1 x H2 hi gd y0
      have sMh : Same (hd (hid S0 α ρ) H') (hd (hid (fun a => S0 a ∨ a = D) α ρ) H1) := fun a o e => by
        obtain ⟨h1, h2⟩ := hd_get e
        refine hd_at (g1'.keep a o (fun z => h1 (I1.hms a z)) h2) fun z => ?_
        rcases z with (z | z) | z
        · exact h1 (.inl z)
        · exact ne_of_none h2 hD z
        · exact h1 (.inr z)
      obtain ⟨⟨d, hd1, hd2⟩, tn⟩ := hY (hid (fun a => S0 a ∨ a = D) α ρ) i H1 x H2 hi ⟨sMh, fun a o e => g1'.keep a o (hd_get e).1 (hd_get e).2⟩ Ih.hkn y
      have g2 := gw_turn Ih.gw.bag tn
      obtain ⟨Iw, hw⟩ := (Ih.grow g2).wipe cl
      rw [drop_at hd1] at go
      have stay : ∀ {H4 : Hp}, Gw K W H2 H4 → H4 D = some (.lst vs) := fun g4 => (g2.trans g4).keep _ _ nD e1
      refine b W _ H0 α H2 _ (wp ρ ws) d x _ _ Iw clr_wp (by rw [hw]; exact hd2) (fun σ3 ρ3 go3 I3 cl3 h3 w3 => ⟨by rw [w3, wipe_wipe'], ?_⟩) go
      have I3 := Iw.next I3 (by rw [h3]; exact Same.refl _)
      have h03 : hid (fun a => S0 a ∨ a = D) α ρ3 = hid (fun a => S0 a ∨ a = D) α ρ := h3.trans hw
      refine c W _ H0 α H2 σ3 ρ3 _ _ I3 (fun kk H3 q3 g3 => ?_) go3
      cases kk with
      | true =>
        refine (if_pos rfl).mpr (a1 W _ H0 α H3 σ3 ρ3 _ _ (I3.grow g3) (fun items1 J1 H4 q4 g4 w1 => ?_) q3.2)
        have cl4 := all_clr q3.1
        have I4 := (I3.grow g3).grow g4
        have g34 := g3.trans g4
        obtain ⟨n1, G1, Y1, en1, wk1, hG1, hY1⟩ := w1.ex
        refine ⟨fun j k H5 => k = n1 - j ∧ j ≤ n1 ∧ Gw K W H' H5 ∧ (∀ a o, ¬(S0 a ∨ a = D) → H4 a = some o → H5 a = some o) ∧ (∀ a, H4 a ≠ none → H5 a ≠ none) ∧ ∃ vs acc, H5 D = some (.lst vs) ∧ vs.length ≤ i * 1000 + j ∧ DvA K W (hd (hid (fun a => S0 a ∨ a = D) α ρ) H5) vs acc ∧ dLcGo dg1 dt1 de (wp ρ3 ws1) (fun acc' => dLc2Go dg dt di1 dg1 dt1 de ws1 (wp ρ ws) Qd (items.drop (i + 1)) acc') (items1.drop j) acc,
          ⟨n1, by simp, Nat.zero_le _, g1'.trans (g2.trans g34), fun _ _ _ h => h, fun _ h => h, vs, acc, stay g34, e2, e3.same ((g2.trans g34).hd Ih.hms), q4.2⟩, ?_⟩
        rintro j k H5 ⟨rfl, hle1, g5, kp5, ne5, us, bcc, f1, f2, f3, go5⟩
        obtain ⟨I5, s5⟩ := I4.move (H' := H5) kp5 ((I1.gw).trans g5) fun a z => ne5 a (I4.kn a z)
        have gd1 := hG1 (hid (fun a => S0 a ∨ a = D) α ρ3) H5 s5
        by_cases hj : j < n1
        · refine .inr ⟨wk1.goes j H5 hj gd1, fun H6 => Gw K W H' H6 ∧ (∀ a o, ¬(S0 a ∨ a = D) → H4 a = some o → H6 a = some o) ∧ (∀ a, H4 a ≠ none → H6 a ≠ none) ∧ ∃ vs acc, H6 D = some (.lst vs) ∧ vs.length ≤ i * 1000 + (j + 1) ∧ DvA K W (hd (hid (fun a => S0 a ∨ a = D) α ρ) H6) vs acc ∧ dLcGo dg1 dt1 de (wp ρ3 ws1) (fun acc' => dLc2Go dg dt di1 dg1 dt1 de ws1 (wp ρ ws) Qd (items.drop (i + 1)) acc') (items1.drop (j + 1)) acc,
            fun H6 ⟨p1, p2, p3, vs6, acc6, p4, p5, p6, p7⟩ => ⟨n1 - (j + 1), by omega, rfl, hj, p1, p2, p3, vs6, acc6, p4, p5, p6, p7⟩, fun x1 H6 y1 => ?_⟩
          have y1 := wk1.yields j H5 x1 H6 hj gd1 y1
          obtain ⟨⟨d1, hd3, hd4⟩, tn1⟩ := hY1 (hid (fun a => S0 a ∨ a = D) α ρ3) j H5 x1 H6 hj s5 I5.hkn y1
          have g6 := gw_turn I5.gw.bag tn1
          obtain ⟨Iw6, hw6⟩ := (I5.grow g6).wipe cl4
          rw [drop_at hd3] at go5
          have stay1 : ∀ {H8 : Hp}, Gw K W H6 H8 → H8 D = some (.lst us) := fun g8 => (g6.trans g8).keep _ _ nD f1
          have kp8 : ∀ {H8 : Hp}, Gw K W H6 H8 → ∀ a o, ¬(S0 a ∨ a = D) → H4 a = some o → H8 a = some o := fun g8 a o na h => (g6.trans g8).keep a o (fun z => na (.inl (I1.ms a z))) (kp5 a o na h)
          refine b1 W _ H0 α H6 _ (wp ρ3 ws1) d1 x1 _ _ Iw6 clr_wp (by rw [hw6]; exact hd4) (fun σ7 ρ7 go7 I7 cl7 h7 w7 => ⟨by rw [w7, wipe_wipe'], ?_⟩) go5
          have I7 := Iw6.next I7 (by rw [h7]; exact Same.refl _)
          have h07 : hid (fun a => S0 a ∨ a = D) α ρ7 = hid (fun a => S0 a ∨ a = D) α ρ := (h7.trans hw6).trans h03
          refine c1 W _ H0 α H6 σ7 ρ7 _ _ I7 (fun kk H7 q7 g7 => ?_) go7
          have fz : DvA K W (hd (hid (fun a => S0 a ∨ a = D) α ρ) H7) us bcc := by
            rw [← h03] at f3 ⊢
            exact f3.same ((g6.trans g7).hd I5.hms)
          cases kk with
          | true =>
            refine (if_pos rfl).mpr (e W _ H0 α H7 σ7 ρ7 _ _ (I7.grow g7) (fun dy y4 H8 q8 g8 hy => ?_) q7)
            have g78 := g7.trans g8
            have eD := stay1 g78
            have smU := hd_set (S := hid (fun a => S0 a ∨ a = D) α ρ) (H := H8) (o := .lst (us ++ [y4])) (a := D) (.inl (.inr rfl))
            rw [h07] at hy
            have f8 : DvA K W (hd (hid (fun a => S0 a ∨ a = D) α ρ) H8) us bcc := by
              rw [← h03] at fz ⊢
              exact fz.same (g8.hd I5.hms)
            exact ⟨us, eD, by
              rw [sizeLine_eq]
              have : i * 1000 + j < 1000 * 1000 := by
                have := q.1; have := q4.1
                have : i * 1000 + 1000 ≤ n * 1000 := by omega
                omega
              omega, .put I1.gw.bag (g5.trans (g6.trans g78)) hD, fun a o na h => by rw [upd_ne fun z => na (.inr z)]; exact kp8 g78 a o na h, fun a na => by
                by_cases z : a = D
                · rw [z, upd_same]; exact fun q => nomatch q
                · rw [upd_ne z]; exact (g6.trans g78).ne a (ne5 a na), _, bcc ++ [dy], upd_same, (by simp; omega), (f8.same smU).app (.one (hy.same smU)), q8⟩
          | false =>
            refine (if_neg Bool.false_ne_true).mpr ?_
            exact ⟨g5.trans (g6.trans g7), kp8 g7, fun a na => (g6.trans g7).ne a (ne5 a na), us, bcc, stay1 g7, by omega, fz, q7⟩
        · have ej : j = n1 := by omega
          subst ej
          refine .inl ⟨wk1.stops H5 gd1, ?_⟩
          rw [en1, List.drop_length] at go5
          have := q4.1
          exact ⟨g5, (by rw [f1]; exact fun z => nomatch z), us, bcc, f1, by omega, f3, go5⟩
      | false =>
        refine (if_neg Bool.false_ne_true).mpr ?_
        exact ⟨g1'.trans (g2.trans g3), (g2.trans g3).ne D hD1, vs, acc, stay g3, by omega, e3.same ((g2.trans g3).hd Ih.hms), q3⟩
    · have ei : i = n := by omega
      subst ei
      refine .inl ⟨wk.stops H1 gd, ?_⟩
      rw [en, List.drop_length] at go
      exact r acc D vs H1 go (gw.trans g1') hDH e1 e3) h
theorem rLc2 {K : PySem.W.Frag} {Jx : WX} {Xd : XD} {wi wi1 : TI} {di di1 : DI} {g g1 : TG} {dg dg1 : DG} {tt tt1 : TT} {dt dt1 : DT} {te : TE} {de : DE} {ws ws1 : List Nat} (a : RefJ K Jx Xd wi di) (b : RefGc K Jx Xd ws g dg) (c : RefT K Jx Xd tt dt) (a1 : RefI K Jx Xd wi1 di1) (b1 : RefGc K Jx Xd ws1 g1 dg1) (c1 : RefT K Jx Xd tt1 dt1) (e : RefE K Jx Xd te de) :
    RefE K Jx Xd (tLc2 wi g tt wi1 g1 tt1 te ws ws1) (dLc2 di dg dt di1 dg1 dt1 de ws ws1) := (rfLc2 a b c a1 b1 c1 e).e
/-! divmod, texts -/
def rDivmod : List V → Hp → VK → Prop := fun xs H Q => ∃ i j, xs = [.int i, .int j] ∧ CDivP i j ∧ ∀ p, H p = none → Q (.ref p) (upd H p (.tup [.int (i / j), .int (i % j)]))
theorem c_divmod {X : Cx} : CallR X (.builtin "divmod") rDivmod := call_divmodW
def cDivmod : DC := fun ds Q => match ds with
  | [.int i, .int j] => (0 < j ∧ (j.natAbs.log2 < 9000 ∨ i.natAbs.log2 < 13000)) ∧ Q (.tup [.int (i / j), .int (i % j)])
  | _ => False
theorem fcDivmod {K : PySem.W.Frag} : RefC K rDivmod cDivmod := fc2 (fun W S H x y d e Qd Q O hx hy c h => by
  match d, e, h, hx, hy with
  | .int i, .int j, h, hx, hy =>
    rw [shInt hx, shInt hy]
    exact ⟨i, j, rfl, ⟨h.1.1, h.1.2.elim (fun z => PyProof.noPylong_of_log2 z) noPy_top⟩, fun p hp => c.new O hp h.2 (dv_newT O hp (.cons (.int _) (.cons (.int _) .nil)))⟩) fun ds Q h => by
  unfold cDivmod at h
  split at h
  · rfl
  · exact h.elim
/-- a method of a text with one argument -/
def dM1 (o : DOp) (da db : DE) : DE := fun ρ Q => da ρ fun x => match x with
  | .str z => db ρ fun y => o (.str z) y Q
  | _ => False
theorem rM1 {K : PySem.W.Frag} {Jx : WX} {Xd : XD} {r : V → List V → Hp → VK → Prop} {o : DOp} {ta tb : TE} {da db : DE} (ro : RefOp K (fun x y => r x [y]) o) (a : RefE K Jx Xd ta da) (b : RefB K Jx Xd tb db) : RefE K Jx Xd (tM1 r ta tb) (dM1 o da db) := fun W S0 H0 α H σ ρ Qd Q I c h =>
  v_m1 (a W S0 H0 α H σ ρ _ _ I (fun d v H1 q g hv => by
    cases hv with
    | str z => exact ⟨⟨z, rfl⟩, b W S0 H0 α H1 σ ρ _ _ (I.grow g) (fun e u H2 q2 g2 hu => ro W _ H2 (.str z) u (.str z) e Qd Q (I.ok.grow (g.trans g2)) (.str z) hu (c.grow (g.trans g2)) q2) q⟩
    | _ => exact q.elim) h)
def rZfill : V → List V → Hp → VK → Prop := fun x xs H Q => ∃ (a : Str) (i : Int), x = .str a ∧ xs = [.int i] ∧ PadOk i = true ∧ Q (.str (Txt.zfill a i)) H
def oZfill : DOp := fun x y Q => match x, y with
  | .str a, .int i => PadOk i = true ∧ Q (.str (Txt.zfill a i))
  | _, _ => False
theorem foZfill {K : PySem.W.Frag} : RefOp K (fun x y => rZfill x [y]) oZfill := fun W S H x y d e Qd Q O hx hy c h => by
  match d, e, h, hx, hy with
  | .str a, .int i, h, hx, hy =>
    rw [shStr hx, shInt hy]
    exact ⟨a, i, rfl, rfl, h.1, c.now O h.2 (.str _)⟩

end
section

/-! ### a pair's two parts stored: own lists among them -/
section
variable {K : PySem.W.Frag} {Jx : WX} {Xd : XD} {t : TA} {dp : DP}
theorem Cmp.grow {W : Wd} {S : Addr → Prop} {H H' : Hp} (e : Same H H') : ∀ {ps : List Addr} {vs : List V} {ss : List Sl}, Cmp K W S H ps vs ss → Cmp K W S H' ps vs ss
  | _, _, _, .nil => .nil
  | _, _, _, .val h r => .val (h.same (hd_mono e)) (Cmp.grow e r)
  | _, _, _, .own h1 h2 r => .own (e _ _ h1) (h2.same (hd_mono e)) (Cmp.grow e r)
theorem rParT2 {i j : Nat} (a : RefP K Jx Xd t dp) : RefS K Jx Xd (tAsg (tTup t) (gTup K 2 (gCons (gName i) (gCons (gName j) gNil)))) (dPar [i, j] dp) := fun W S0 H0 α H σ ρ D Dd I r h =>
  a W S0 H0 α H σ ρ _ _ I (fun ss vs H' ps q g nd hp cm => by
    have el : vs.length = 2 := by rw [cm.len]; exact q.1
    refine ⟨by rw [el, sizeLine_eq]; decide, fun T hT => ?_⟩
    have sT : Same H' (upd H' T (.tup vs)) := same_new hT
    have cm' := cm.grow sT
    have g' := g.trans (Gw.new (o := .tup vs) g.bag hT)
    obtain ⟨I2, s2⟩ := I.toEnv.hideP (P := fun a => a ∈ ps) g' fun p z => ⟨hp p z, cm'.ne p z⟩
    obtain ⟨α', I3, s3⟩ := Env.setAll (is := [i, j]) cm' I2 (fun p z => I.none0 (hp p z)) nd el.symm
    have fin := r.nx _ _ _ _ q.2 I3 (s2.trans s3)
    match vs, el, fin with
    | [v, w], _, fin => exact ⟨T, [v, w], rfl, sqt_of upd_same, rfl, v, [w], rfl, w, [], rfl, rfl, fin⟩) h
end
/-! t + u, also of an empty t -/
def oAddV : DOp := fun x y Q => match x, y with
  | .tup a, .tup b => a.length + b.length ≤ 16777216 ∧ Q (.tup (a ++ b))
  | x, y => oAdd x y Q
theorem foAddV {K : PySem.W.Frag} : RefOp K (rAddV K) oAddV := fun W S H x y d e Qd Q O hx hy c h => by
  unfold oAddV at h
  split at h
  · rename_i l m
    by_cases z : l = []
    · subst z
      cases (show Dv K W (hd S H) x (.tup []) from hx) with
      | @tup _ xs _ h1 h2 =>
        cases h2
        cases (show Dv K W (hd S H) y (.tup m) from hy) with
        | @tup _ ys _ k1 k2 => exact .inr ⟨_, _, ys, rfl, rfl, same_sqt hd_le h1, same_sqt hd_le k1, c.now O h.2 (.tup k1 k2)⟩
    · exact .inl (foAdd W S H x y _ _ Qd Q O hx hy c ⟨⟨z, h.1⟩, h.2⟩)
  · exact .inl (foAdd W S H x y _ _ Qd Q O hx hy c h)

end
section

/-! ### tuples repeated; x in an own object -/
def oMulV : DOp := fun x y Q => match x, y with
  | .tup l, .int k => (l ≠ [] ∧ -1000 ≤ k ∧ k ≤ 1000 ∧ l.length ≤ 1000) ∧ Q (.tup (List.replicate k.toNat l).flatten)
  | x, y => oMul x y Q
theorem foMulV {K : PySem.W.Frag} : RefOp K (rMulV K) oMulV := fun W S H x y d e Qd Q O hx hy c h => by
  unfold oMulV at h
  split at h
  · rename_i l k
    obtain ⟨⟨ne, k1, k2, k3⟩, q⟩ := h
    rw [shInt hy]
    cases (show Dv K W (hd S H) x (.tup l) from hx) with
    | @tup _ xs _ h1 h2 =>
      have nx : xs ≠ [] := fun z => ne (List.eq_nil_of_length_eq_zero (by rw [← h2.len, z]; rfl))
      by_cases c1 : k = 1
      · subst c1
        have e : (List.replicate (1 : Int).toNat l).flatten = l := by
          show (l ++ []) = l
          exact List.append_nil l
        rw [e] at q
        exact .inr (.inr (.inl ⟨_, xs, rfl, rfl, same_sqt hd_le h1, c.now O q (.tup h1 h2)⟩))
      · by_cases c0 : k ≤ 0
        · have e : k.toNat = 0 := by omega
          rw [e] at q
          exact .inr (.inr (.inr ⟨_, k, xs, rfl, rfl, same_sqt hd_le h1, nx, k1, c0, fun p hp => c.new O hp q (dv_newT O hp .nil)⟩))
        · refine .inr (.inl ⟨_, k, xs, rfl, rfl, same_sqt hd_le h1, nx, by omega, k2, by rw [h2.len]; exact k3, fun p hp => c.new O hp q (dv_newT O hp ?_)⟩)
          generalize k.toNat = n
          induction n with
          | zero => exact .nil
          | succ n ih =>
            rw [List.replicate_succ, List.replicate_succ, List.flatten_cons, List.flatten_cons]
            exact h2.app ih
  · exact .inl (foMul W S H x y _ _ Qd Q O hx hy c h)
/-- x in y, y an own object with its own __contains__ -/
def oInO (C : Str) (neg : Bool) (sd : DSp) : DOp := fun x y Q => match y with
  | .obj D fs => D = C ∧ sd [.obj D fs, x] fun d => match d with
    | .bl c => Q (.bl (neg != c))
    | _ => False
  | _ => False
theorem foInO {K : PySem.W.Frag} {sp : Sp} {sd : DSp} {C : Str} {neg : Bool} (hw : ∀ vs H Q, spD K sd vs H Q E0 → sp vs H Q E0) : RefOpE K (rInO (He.ga K C) neg sp) (oInO C neg sd) := fun W S H x y d e Qd Q O hx hy c h => by
  match e, h, hy with
  | .obj D fs, h, hy =>
    obtain ⟨rfl, q⟩ := h
    have hy' := hy
    cases hy with
    | obj k1 k2 k3 =>
      refine ⟨_, _, _, rfl, (hd_get k1).2, hw _ H _ ⟨W, S, _, _, O, .cons hy' (.cons hx .nil), q, fun d v H' qd g hv => ?_⟩⟩
      match d, qd, hv with
      | .bl b, qd, .bl _ => exact ⟨b, rfl, c _ _ H' qd g (.bl _)⟩

end
section

/-! ### defs with *v; len of an own object; str of great numbers -/
/-- f(e, ..), f a def (a, *v) -/
def dCallV (sd : DSp) (dl : DA) : DE := fun ρ Q => dl ρ fun ds => match ds with
  | d :: r => r.length ≤ 16777216 ∧ sd [d, .tup r] Q
  | [] => False
/-- f(a = e) -/
def dCallVk (sd : DSp) (dl : DA) : DE := fun ρ Q => dl ρ fun ds => match ds with
  | [d] => sd [d, .tup []] Q
  | _ => False
theorem rCallV {K : PySem.W.Frag} {Jx : WX} {Xd : XD} {sp : Sp} {sd : DSp} {t : TA} {dl : DA} (hw : ∀ vs H Q, spD K sd vs H Q E0 → sp vs H Q E0) (b : RefA K Jx Xd t dl) : RefE K Jx Xd (tCallV (spSt sp) t) (dCallV sd dl) := fun W S0 H0 α H σ ρ Qd Q I r h =>
  b W S0 H0 α H σ ρ _ _ I (fun ds vs H1 q g hv => by
    match ds, vs, hv, q with
    | d :: ds, v :: vs, .cons h1 h2, q =>
      obtain ⟨ql, q⟩ := q
      refine ⟨[v], vs, rfl, rfl, by rw [h2.len, sizeLine_eq]; exact Nat.le_trans ql (by decide), fun p hp => ?_⟩
      have O1 := I.ok.grow g
      have g2 : Gw K W H1 (upd H1 p (.tup vs)) := .new g.bag hp
      exact hw _ _ Q ⟨W, _, _, Qd, O1.grow g2, .cons (h1.same (hd_new hp)) (.cons (dv_newT O1 hp h2) .nil), q, (r.grow g).grow g2⟩) h
theorem rCallVk {K : PySem.W.Frag} {Jx : WX} {Xd : XD} {sp : Sp} {sd : DSp} {t : TA} {dl : DA} (hw : ∀ vs H Q, spD K sd vs H Q E0 → sp vs H Q E0) (b : RefA K Jx Xd t dl) : RefE K Jx Xd (tCallV (spSk sp) t) (dCallVk sd dl) := fun W S0 H0 α H σ ρ Qd Q I r h =>
  b W S0 H0 α H σ ρ _ _ I (fun ds vs H1 q g hv => by
    match ds, vs, hv, q with
    | [d], [v], .cons h1 .nil, q =>
      refine ⟨rfl, fun p hp => ?_⟩
      have O1 := I.ok.grow g
      have g2 : Gw K W H1 (upd H1 p (.tup [])) := .new g.bag hp
      exact hw _ _ Q ⟨W, _, _, Qd, O1.grow g2, .cons (h1.same (hd_new hp)) (.cons (dv_newT O1 hp .nil) .nil), q, (r.grow g).grow g2⟩) h
/-- len(o) by o's own __len__ -/
def dLenO (C : Str) (sd : DSp) (da : DE) : DE := fun ρ Q => da ρ fun x => match x with
  | .obj D fs => D = C ∧ sd [.obj D fs] fun d => match d with
    | .int n => (0 ≤ n ∧ n < 2 ^ 63) ∧ Q (.int n)
    | _ => False
  | _ => False
theorem rLenO' {K : PySem.W.Frag} {Jx : WX} {Xd : XD} {sp : Sp} {sd : DSp} {C : Str} {ta : TE} {da : DE} (hw : ∀ vs H Q, spD K sd vs H Q E0 → sp vs H Q E0) (a : RefE K Jx Xd ta da) : RefE K Jx Xd (tCB (rLenO (He.ga K C) sp) (tCons ta tNil)) (dLenO C sd da) := fun W S0 H0 α H σ ρ Qd Q I r h =>
  a W S0 H0 α H σ ρ _ _ I (fun x v H1 q g hv => by
    cases x with
    | obj D fs =>
      have q1 : D = C ∧ sd [.obj D fs] (fun d => match d with
        | .int n => (0 ≤ n ∧ n < 2 ^ 63) ∧ Qd (.int n)
        | _ => False) := q
      obtain ⟨rfl, q2⟩ := q1
      have hv' := hv
      cases hv with
      | obj k1 k2 k3 =>
        refine ⟨_, _, _, rfl, (hd_get k1).2, hw _ H1 _ ⟨W, _, _, _, I.ok.grow g, .cons hv' .nil, q2, fun d u H2 qd g2 hu => ?_⟩⟩
        match d, qd, hu with
        | .int n, qd, .int _ => exact ⟨n, rfl, qd.1, r _ _ H2 qd.2 (g.trans g2) (.int _)⟩
    | _ => exact (show False from q).elim) h
def uStrB : DUn := fun x Q => match x with
  | .int i => i.natAbs < 10 ^ 4300 ∧ Q (.str (toString i))
  | _ => False
theorem fcStrB {K : PySem.W.Frag} : RefC K rStrB (c1 uStrB) := fc1 fun W S H x d Qd Q O hx c h => by
  match d, h, hx with
  | .int i, h, hx =>
    rw [shInt hx]
    exact ⟨i, rfl, h.1, c.now O h.2 (.str _)⟩

end
section

/-! ### raising, over data -/
/-- an error's fields, of what it is made of -/
def fsD (ps : List Str) (fl : List (Str × FK.Src)) (ds : List Dt) : List (Str × Dt) := fl.map fun p => (p.1, match p.2 with | .par y => ((ps.zip ds).lookup y).getD .non | .txt s => .str s)
def srcV (ev : Str → Option V) : FK.Src → V
  | .par y => (ev y).getD .non
  | .txt s => .str s
theorem put_off {ev : Str → Option V} {f : Str} : ∀ (fl : List (Str × FK.Src)) (fs : List (Str × V)), f ∉ fl.map (·.1) → (FK.put ev fl fs).lookup f = fs.lookup f
  | [], _, _ => rfl
  | (g, .par y) :: r, fs, h => by
    have n : f ≠ g := fun z => h (by simp [z])
    show (FK.put ev r ((g, (ev y).getD .non) :: fs)).lookup f = _
    rw [put_off r _ fun z => h (List.mem_cons_of_mem _ z), List.lookup_cons, beq_false_of_ne n]
  | (g, .txt c) :: r, fs, h => by
    have n : f ≠ g := fun z => h (by simp [z])
    show (FK.put ev r ((g, .str c) :: fs)).lookup f = _
    rw [put_off r _ fun z => h (List.mem_cons_of_mem _ z), List.lookup_cons, beq_false_of_ne n]
theorem put_at {ev : Str → Option V} {p : Str × FK.Src} : ∀ (fl : List (Str × FK.Src)) (fs : List (Str × V)), (fl.map (·.1)).Nodup → p ∈ fl → (FK.put ev fl fs).lookup p.1 = some (srcV ev p.2)
  | (g, .par y) :: r, fs, n, h => by
    obtain ⟨n1, n2⟩ := List.nodup_cons.mp n
    show (FK.put ev r ((g, (ev y).getD .non) :: fs)).lookup p.1 = _
    rcases List.mem_cons.mp h with rfl | h
    · rw [put_off r _ n1, List.lookup_cons, beq_self_eq_true]
      rfl
    · exact put_at r _ n2 h
  | (g, .txt c) :: r, fs, n, h => by
    obtain ⟨n1, n2⟩ := List.nodup_cons.mp n
    show (FK.put ev r ((g, .str c) :: fs)).lookup p.1 = _
    rcases List.mem_cons.mp h with rfl | h
    · rw [put_off r _ n1, List.lookup_cons, beq_self_eq_true]
      rfl
    · exact put_at r _ n2 h
section
variable {K : PySem.W.Frag} {W : Wd} {A : Hp}
theorem zip_dv (y : Str) : ∀ {ps : List Str} {vs : List V} {ds : List Dt}, DvA K W A vs ds → Dv K W A (((ps.zip vs).lookup y).getD .non) (((ps.zip ds).lookup y).getD .non)
  | [], _, _, _ => by simp; exact .non
  | _ :: _, _, _, .nil => by simp; exact .non
  | x :: ps, _, _, .cons (v := v) (d := d) h r => by
    rw [List.zip_cons_cons, List.zip_cons_cons, List.lookup_cons, List.lookup_cons]
    cases y == x with
    | true => exact h
    | false => exact zip_dv y r
theorem dvF_of {gs : List (Str × V)} : ∀ {fs : List (Str × Dt)}, (∀ p, p ∈ fs → ∃ v, gs.lookup p.1 = some v ∧ Dv K W A v p.2) → DvF K W A gs fs
  | [], _ => .nil
  | (f, d) :: fs, h => by
    obtain ⟨v, h1, h2⟩ := h (f, d) (List.mem_cons_self ..)
    exact .cons h1 h2 (dvF_of fun p hp => h p (List.mem_cons_of_mem _ hp))
theorem flds_dv {ps : List Str} {fl : List (Str × FK.Src)} {vs : List V} {ds : List Dt} (h : DvA K W A vs ds) (n : (fl.map (·.1)).Nodup) : DvF K W A (FK.flds ps fl vs) (fsD ps fl ds) := dvF_of fun p hp => by
  obtain ⟨q, hq, rfl⟩ := List.mem_map.mp hp
  refine ⟨_, put_at fl [] n hq, ?_⟩
  obtain ⟨f, s⟩ := q
  cases s with
  | par y => exact zip_dv y h
  | txt c => exact .str c
end
/-- raise C(..) -/
def dRaise (Xd : XD) (C : Str) (ps : List Str) (fl : List (Str × FK.Src)) (da : DA) : DS := fun _ ρ => da ρ fun ds => ds.length = ps.length ∧ Xd (.err C (fsD ps fl ds)) ρ
/-- what is promised of a call that may raise: Q of what it gives, E of what it raises -/
abbrev DSpX : Type := List Dt → (Dt → Prop) → (Dt → Prop) → Prop
def CnE (K : PySem.W.Frag) (W : Wd) (S : Addr → Prop) (H : Hp) (Ed : Dt → Prop) (E : XK) : Prop := ∀ d cls dd H', Ed d → Gw K W H H' → ExR K W S H' cls dd d → E cls dd H'
def spX (K : PySem.W.Frag) (sd : DSpX) : Sp := fun vs H Q E => ∃ W S ds Qd Ed, Ok K W S H ∧ DvA K W (hd S H) vs ds ∧ sd ds Qd Ed ∧ Cn K W S H Qd Q ∧ CnE K W S H Ed E
def spNX (K : PySem.W.Frag) (C : Str) (sd : DSpX) : Sp := fun vs H Q E => ∃ W S x dx ws ds Qd Ed, vs = .ref x :: ws ∧ H x = some (.ins (He.ga K C) dx []) ∧ ¬S x ∧ Ok K W S H ∧ BagI K W (hd (fun a => a = x) H) ∧ DvA K W (hd (fun a => S a ∨ a = x) H) ws ds ∧ sd ds Qd Ed ∧
  (∀ d H', Qd d → Gw K W (hd (fun a => a = x) H) H' → Dv K W (hd S H') (.ref x) d → Q .non H') ∧ ∀ d cls dd H', Ed d → Gw K W (hd (fun a => a = x) H) H' → ExR K W S H' cls dd d → E cls dd H'
def dCallX (Xd : XD) (sd : DSpX) (dl : DA) : DE := fun ρ Q => dl ρ fun ds => sd ds Q fun d => Xd d ρ
section
variable {K : PySem.W.Frag} {Jx : WX} {Xd : XD} {W : Wd} {S0 : Addr → Prop} {H0 H H' : Hp} {α : Nat → Addr} {σ : L2.St} {ρ : Ro} {ta : TA} {da dl : DA}
theorem EnvX.raise (I : EnvX K Jx Xd W S0 H0 α H σ ρ) (g : Gw K W H H') {d : Dt} {cls : Value} {dd : Option Addr} (x : Xd d ρ) (r : ExR K W (hid S0 α ρ) H' cls dd d) : Jx cls dd σ H' := I.xr α H' σ ρ d cls dd x (I.toEnv.grow g) (g.hd I.hms) r
theorem rRaise {C : Str} {ps : List Str} {fl : List (Str × FK.Src)} (a : RefA K Jx Xd ta da) (n : (fl.map (·.1)).Nodup) : RefS K Jx Xd (tRaiseF (He.ga K C) ps fl Jx ta) (dRaise Xd C ps fl da) := fun W S0 H0 α H σ ρ D Dd I c h =>
  a W S0 H0 α H σ ρ _ _ I (fun ds vs H1 q g hs => by
    refine ⟨hs.len.trans q.1, fun d hdn => ?_⟩
    have g1 : Gw K W H1 (upd H1 d (.xd (FK.flds ps fl vs))) := .new g.bag hdn
    refine I.raise (g.trans g1) q.2 ⟨rfl, d, _, rfl, hd_at upd_same fun z => ?_, flds_dv (hs.same (hd_new hdn)) n⟩
    exact (I.toEnv.grow g).hkn d z hdn) h
theorem rCallX {sp : Sp} {sd : DSpX} (hw : ∀ vs H Q E, spX K sd vs H Q E → sp vs H Q E) (b : RefA K Jx Xd ta dl) : RefE K Jx Xd (tCallS sp (WE Jx) ta) (dCallX Xd sd dl) := fun W S0 H0 α H σ ρ Qd Q I c h =>
  b W S0 H0 α H σ ρ _ _ I (fun ds vs H1 q g hs => hw vs H1 Q _ ⟨W, _, ds, Qd, fun d => Xd d ρ, I.ok.grow g, hs, q, c.grow g, fun d cls dd H' x gg r => I.raise (g.trans gg) x r⟩) h
/-- C(..) that may raise -/
theorem rNdx {sp : Sp} {sd : DSpX} {C : Str} (hw : ∀ vs H Q E, spNX K C sd vs H Q E → sp vs H Q E) (b : RefA K Jx Xd ta dl) : RefE K Jx Xd (TY.tNdx (He.ga K C) sp [] Jx ta) (dCallX Xd sd dl) := fun W S0 H0 α H σ ρ Qd Q I r h =>
  b W S0 H0 α H σ ρ _ _ I (fun ds vs H1 q g hs x dx hx hdx ne => by
    rw [List.append_nil]
    have O := I.ok.grow g
    have g1 : Gw K W H1 (upd H1 dx (.own x)) := .new g.bag hdx
    have hx' : upd H1 dx (HO.own x) x = none := by rw [upd_ne (Ne.symm ne)]; exact hx
    have g2 : Gw K W (upd H1 dx (.own x)) (upd (upd H1 dx (.own x)) x (.ins (He.ga K C) dx [])) := .new g1.bag hx'
    have O2 := O.grow (g1.trans g2)
    have nS := O.out hx
    have s0 : Same H1 (hd (fun a => a = x) (upd (upd H1 dx (.own x)) x (.ins (He.ga K C) dx []))) := fun a o e => by
      have n1 := ne_of_none e hx
      exact hd_at (by rw [upd_ne n1, upd_ne (ne_of_none e hdx)]; exact e) n1
    refine hw _ _ _ _ ⟨W, _, x, dx, vs, ds, Qd, fun d => Xd d ρ, rfl, upd_same, nS, O2, g.bag.same s0, hs.same fun a o e => ?_, q, fun d H' qd gg hd' => ⟨rfl, r d _ H' qd (g.trans ((Gw.of g.bag s0).trans gg)) hd'⟩, fun d cls dd H' y gg rr => I.raise (g.trans ((Gw.of g.bag s0).trans gg)) y rr⟩
    obtain ⟨e1, e2⟩ := hd_get e
    have n1 := ne_of_none e2 hx
    exact hd_at (by rw [upd_ne n1, upd_ne (ne_of_none e2 hdx)]; exact e2) fun z => z.elim e1 n1) h
/-- C.m(..) that may raise -/
theorem rSdx {sp : Sp} {sd : DSpX} {C : Str} {te : TE} (hw : ∀ vs H Q E, spX K sd vs H Q E → sp vs H Q E) (hc : ∀ σ H (R : VK), R (.ref (He.ga K C)) H → te σ H R) (b : RefA K Jx Xd ta dl) : RefE K Jx Xd (TY.tSdx (He.ga K C) sp Jx te ta) (dCallX Xd sd dl) := fun W S0 H0 α H σ ρ Qd Q I c h =>
  hc σ H _ ⟨rfl, b W S0 H0 α H σ ρ _ _ I (fun ds vs H1 q g hs => hw vs H1 Q _ ⟨W, _, ds, Qd, fun d => Xd d ρ, I.ok.grow g, hs, q, c.grow g, fun d cls dd H' x gg r => I.raise (g.trans gg) x r⟩) h⟩
end
/-! ### try -/
/-- a clause, over data: its class; its name's slot; its suite, of the caught one's place, its dict's, its class -/
structure DHd where
  C : Str
  nm : Option Nat
  ds : Addr → Addr → Str → DS
def noD (D : DEnds) : DEnds := ⟨fun _ => False, D.rt, fun _ => False, fun _ => False⟩
/-- a suite that ends by a return -/
def onD (D : DEnds) (h : DHd) (a dd : Addr) (C : Str) (fs : List (Str × Dt)) (ρ : Ro) : Prop := match h.nm with
  | none => h.ds a dd C (noD D) ρ
  | some i => h.ds a dd C (noD D) (pt ρ i (.exn a dd C fs))
def dHs (xm : Str → Str → Option Bool) (Xd : XD) (D : DEnds) : List DHd → XD
  | [] => Xd
  | h :: r => fun d ρ => match d with
    | .err C fs => ∃ b, xm C h.C = some b ∧ (b = true → ∀ a dd, onD D h a dd C fs ρ) ∧ (b = false → dHs xm Xd D r d ρ)
    | _ => False
def dTry (xm : Str → Str → Option Bool) (Xd : XD) (db : XD → DS) (l : List DHd) : DS := fun D ρ => db (dHs xm Xd D l) D ρ
def XmOk (K : PySem.W.Frag) (xm : Str → Str → Option Bool) : Prop := ∀ C B b, xm C B = some b → PySem.W.exmOne K (.ref (He.ga K C)) (.ref (He.ga K B)) = some b
abbrev J0 : WX := TY.J0
/-- a promise where nothing is raised -/
abbrev cD (sd : DSpX) : DSp := fun ds Q => sd ds Q fun _ => False
inductive RefHs (K : PySem.W.Frag) : List TY.Hd → List DHd → Prop
  | nil : RefHs K [] []
  | cons {h : TY.Hd} {e : DHd} {l : List TY.Hd} {m : List DHd} (hc : h.c = .ref (He.ga K e.C)) (hn : h.nm = e.nm) (r : ∀ a dd C, RefS K J0 X0 (h.ts a (.ref (He.ga K C)) (some dd)) (e.ds a dd C)) (t : RefHs K l m) : RefHs K (h :: l) (e :: m)
section
variable {K : PySem.W.Frag} {Jx : WX} {Xd : XD} {W : Wd} {S0 : Addr → Prop} {H0 H H' : Hp} {α : Nat → Addr} {σ : L2.St} {ρ : Ro}
/-- a slot gets a thing that is not the frame's own -/
theorem Env.setS (I : Env K W S0 H0 α H σ ρ) {i : Nat} {v : V} {s : Sl} (o : s.owned = false) (h : ∀ S', Same (hd (hid S0 α ρ) H) (hd S' H) → SlR K W S' H (α i) (some (some v)) s) : Env K W S0 H0 α H (σ.set i (some v)) (pt ρ i s) ∧ Same (hd (hid S0 α ρ) H) (hd (hid S0 α (pt ρ i s)) H) := by
  have le : ∀ j, (gt (pt ρ i s) j).owned = true → j ≠ i ∧ (gt ρ j).owned = true := fun j hj => by
    by_cases e : j = i
    · subst e
      by_cases l : j < ρ.length
      · rw [gt_pt l, o] at hj
        cases hj
      · rw [gt_pt_out (by omega), gt_out (by omega)] at hj
        cases hj
    · rw [gt_pt_ne e] at hj
      exact ⟨e, hj⟩
  have sm : Same (hd (hid S0 α ρ) H) (hd (hid S0 α (pt ρ i s)) H) := hd_sub fun a q => q.elim .inl fun ⟨j, h1, h2⟩ => .inr ⟨j, (le j h1).2, h2⟩
  refine ⟨⟨by rw [List.length_set, pt_len, I.len], I.bag0, I.gw, I.kn, I.ms, fun j hj => I.new j (le j hj).2, fun j k hj hk => I.inj j k (le j hj).2 (le k hk).2, fun j => ?_⟩, sm⟩
  by_cases e : j = i
  · subst e
    by_cases l : j < ρ.length
    · rw [gt_pt l, List.getElem?_set_self (by rw [I.len]; exact l)]
      exact h _ sm
    · rw [gt_pt_out (by omega), gt_out (by omega)]
      trivial
  · rw [gt_pt_ne e, List.getElem?_set_ne (by omega)]
    exact (I.sl j).ex sm fun _ => rfl
theorem hds_ref {xm : Str → Str → Option Bool} (hx : XmOk K xm) {D : Ends} {Dd : DEnds} (rt : ∀ d v H', Dd.rt d → Gw K W H0 H' → Dv K W (hd S0 H') v d → D.rt v H') (I : EnvX K Jx Xd W S0 H0 α H σ ρ) {l : List TY.Hd} {m : List DHd} (r : RefHs K l m) :
    ∀ α' H' σ' ρ' d cls dd, dHs xm Xd Dd m d ρ' → Env K W S0 H0 α' H' σ' ρ' → Same (hd (hid S0 α ρ) H) (hd (hid S0 α' ρ') H') → ExR K W (hid S0 α' ρ') H' cls dd d → TY.wHs K Jx D l cls dd σ' H' := by
  induction r with
  | nil => exact I.xr
  | @cons h e l m hc hn rr _ ih =>
    intro α' H' σ' ρ' d cls dd x J s ex
    cases d with
    | err C fs =>
      obtain ⟨b, hb, hy, hno⟩ := x
      obtain ⟨rfl, da, gs, rfl, h1, h2⟩ := id ex
      refine ⟨b, by rw [hc]; exact hx C e.C b hb, fun z a ha => ?_, fun z => ih α' H' σ' ρ' _ _ _ (hno z) J s ex⟩
      have q := hy z a da
      have c0 : ∀ {σ2 : L2.St} {α2 : Nat → Addr} {ρ2 : Ro} {D2 : Ends}, D2.rt = D.rt → Env K W S0 H0 α2 H' σ2 ρ2 → e.ds a da C (noD Dd) ρ2 → h.ts a (.ref (He.ga K C)) (some da) D2 σ2 H' := fun {σ2 α2 ρ2 D2} hr J2 y =>
        rr a da C W S0 H0 α2 H' σ2 ρ2 D2 (noD Dd) ⟨J2, fun _ _ _ _ _ _ _ (z : False) => z.elim⟩ ⟨fun _ _ _ _ (z : False) => z.elim, fun d v H' y g hv => by rw [hr]; exact rt d v H' y g hv, fun _ _ _ _ (z : False) => z.elim, fun _ _ _ _ (z : False) => z.elim⟩ y
      unfold onD at q
      unfold TY.onHd
      rw [hn]
      cases he : e.nm with
      | none =>
        rw [he] at q
        exact c0 rfl J q
      | some i =>
        rw [he] at q
        exact c0 (D2 := TY.unD i D) rfl (J.setS (i := i) (v := .ref a) (s := .exn a da C fs) rfl fun S' sm => ⟨rfl, gs, sm _ _ h1, h2.same sm⟩).1 q
    | _ => exact x.elim
theorem rTry {xm : Str → Str → Option Bool} (hx : XmOk K xm) {tb : WX → TS} {db : XD → DS} {l : List TY.Hd} {m : List DHd} (b : ∀ J' X', RefS K J' X' (tb J') (db X')) (r : RefHs K l m) : RefS K Jx Xd (TY.tTry K Jx tb l) (dTry xm Xd db m) := fun W S0 H0 α H σ ρ D Dd I c h =>
  b _ _ W S0 H0 α H σ ρ D Dd ⟨I.toEnv, hds_ref hx c.rt I r⟩ c h
/-- .. that lets nothing out -/
theorem rTry0 {xm : Str → Str → Option Bool} (hx : XmOk K xm) {tb : WX → TS} {db : XD → DS} {l : List TY.Hd} {m : List DHd} (b : ∀ J' X', RefS K J' X' (tb J') (db X')) (r : RefHs K l m) : RefS K Jx Xd (TY.tTry K TY.J0 tb l) (dTry xm X0 db m) := fun W S0 H0 α H σ ρ D Dd I c h =>
  rTry (Jx := TY.J0) (Xd := X0) hx b r W S0 H0 α H σ ρ D Dd ⟨I.toEnv, fun _ _ _ _ _ _ _ (z : False) => z.elim⟩ c h
/-- e.f of the caught one -/
def dXf (a dd : Addr) (C C0 : Str) (i : Nat) (f : Str) : DE := fun ρ Q => C = C0 ∧ ∃ fs v, gt ρ i = .exn a dd C fs ∧ fs.lookup f = some v ∧ Q v
theorem rXf {a dd : Addr} {C C0 f : Str} {i : Nat} : RefE K Jx Xd (tXf a (.ref (He.ga K C)) (some dd) (He.ga K C0) f (tVar i)) (dXf a dd C C0 i f) := fun W S0 H0 α H σ ρ Qd Q I c h => by
  obtain ⟨rfl, fs, v, e, l, q⟩ := h
  have s := I.sl i
  rw [e] at s
  obtain ⟨h1, gs, h2, h3⟩ := s
  obtain ⟨u, h4, h5⟩ := h3.get l
  exact ⟨_, h1, rfl, rfl, dd, gs, u, rfl, hd_le _ _ h2, h4, c.now I.ok q h5⟩
/-- a call within a suite -/
theorem rHfd {sp : Sp} {sd : DSp} {ta : TA} {dl : DA} (hw : ∀ vs H Q, spD K sd vs H Q E0 → sp vs H Q E0) (ra : RefA K Jx Xd ta dl) : RefE K Jx Xd (tCallS sp (fun _ => E0) ta) (dCall sd dl) := fun W S0 H0 α H σ ρ Qd Q I c h =>
  ra W S0 H0 α H σ ρ _ _ I (fun ds vs H1 q g hs => hw vs H1 Q ⟨W, _, ds, Qd, I.ok.grow g, hs, q, c.grow g⟩) h
/-! ### the promises of bodies that raise -/
theorem fnX {N : List Str} {ts : WX → TS} {a : XD → DS} {sd : DSpX} {vs : List V} {H : Hp} {Q : VK} {E : XK} (r : ∀ Jx Xd, RefS K Jx Xd (ts Jx) (a Xd)) (h : spX K sd vs H Q E) (p : ∀ ds Qd Ed, sd ds Qd Ed → ds.length ≤ N.length ∧ a (fun d _ => Ed d) ⟨fun _ => Qd .non, Qd, fun _ => False, fun _ => False⟩ (vals ds ++ List.replicate (N.length - ds.length) .no)) :
    ts (fun cls d _ H => E cls d H) { nx := fun _ H' => Q .non H', rt := Q } (L2.start N vs) H := by
  obtain ⟨W, S, ds, Qd, Ed, O, hs, hq, c, ce⟩ := h
  obtain ⟨hl, q⟩ := p ds Qd Ed hq
  have I := env_start O hs hl
  exact r _ _ W S H (fun _ => 0) H _ _ { nx := fun _ H' => Q .non H', rt := Q } ⟨fun _ => Qd .non, Qd, fun _ => False, fun _ => False⟩ ⟨I, fun α' H' σ' ρ' d cls dd x I' e rr => ce d cls dd H' x I'.gw (rr.same (hd_sub fun a z => .inl z))⟩ ⟨fun α' H' σ' ρ' q I' e => c _ _ H' q I'.gw .non, fun d v H' q g hv => c d v H' q g hv, fun _ _ _ _ (z : False) => z.elim, fun _ _ _ _ (z : False) => z.elim⟩ q
theorem fnX_len {sd : DSpX} {n : Nat} {vs : List V} {H : Hp} {Q : VK} {E : XK} (h : spX K sd vs H Q E) (p : ∀ ds Qd Ed, sd ds Qd Ed → ds.length = n) : vs.length = n := by
  obtain ⟨W, S, ds, Qd, Ed, O, hs, hq, c⟩ := h
  rw [hs.len]
  exact p ds Qd Ed hq
/-- an __init__ that may raise -/
theorem fnNX {N : List Str} {ts : WX → TS} {a : XD → DS} {sd : DSpX} {C : Str} {vs : List V} {H : Hp} {Q : VK} {E : XK} (r : ∀ Jx Xd, RefS K Jx Xd (ts Jx) (a Xd)) (h : spNX K C sd vs H Q E)
    (p : ∀ ds Qd Ed, sd ds Qd Ed → ds.length + 1 ≤ N.length ∧ ∀ x, a (fun d _ => Ed d) ⟨fun ρ => match gt ρ 0 with | .ins y D fs => y = x ∧ D = C ∧ Qd (.obj C fs) | _ => False, fun _ => False, fun _ => False, fun _ => False⟩ (.ins x C [] :: (vals ds ++ List.replicate (N.length - (ds.length + 1)) .no))) :
    ts (fun cls d _ H => E cls d H) { nx := fun _ H' => Q .non H', rt := Q } (L2.start N vs) H := by
  obtain ⟨W, S, x, dx, ws, ds, Qd, Ed, rfl, hx, nS, O, b0, hs, hq, c, ce⟩ := h
  obtain ⟨hl, q⟩ := p ds Qd Ed hq
  have I := env_startN hx nS O b0 hs hl
  refine r _ _ W S _ (fun _ => x) H _ _ { nx := fun _ H' => Q .non H', rt := Q } ⟨fun ρ => match gt ρ 0 with | .ins y D fs => y = x ∧ D = C ∧ Qd (.obj C fs) | _ => False, fun _ => False, fun _ => False, fun _ => False⟩ ⟨I, fun α' H' σ' ρ' d cls dd y I' e rr => ce d cls dd H' y I'.gw (rr.same (hd_sub fun a z => .inl z))⟩ ⟨fun α' H' σ' ρ' q I' e => ?_, fun d v H' (z : False) => z.elim, fun _ _ _ _ (z : False) => z.elim, fun _ _ _ _ (z : False) => z.elim⟩ (q x)
  have sl := I'.sl 0
  have ow := I'.new 0
  dsimp only at q
  cases e0 : gt ρ' 0 with
  | ins y D fs =>
    rw [e0] at sl q ow
    obtain ⟨rfl, rfl, q⟩ := q
    obtain ⟨e1, ex, dx', gs, e2, e3, e4, _⟩ := sl
    subst ex
    exact c _ H' q I'.gw (.obj (hd_at e2 nS) (e3.same (hd_sub fun a z => .inl z)) e4)
  | _ =>
    rw [e0] at q
    exact q.elim
/-- where nothing is raised, a promise without exceptions does -/
theorem calmX {sd : DSpX} {vs : List V} {H : Hp} {Q : VK} {E : XK} (h : spD K (fun ds Q => sd ds Q fun _ => False) vs H Q E) : spX K sd vs H Q E0 := by
  obtain ⟨W, S, ds, Qd, O, hs, hq, c⟩ := h
  exact ⟨W, S, ds, Qd, fun _ => False, O, hs, hq, c, fun _ _ _ _ z => z.elim⟩
theorem calmNX {sd : DSpX} {C : Str} {vs : List V} {H : Hp} {Q : VK} {E : XK} (h : spN K C (fun ds Q => sd ds Q fun _ => False) vs H Q E) : spNX K C sd vs H Q E0 := by
  obtain ⟨W, S, x, dx, ws, ds, Qd, e, hx, nS, O, b0, hs, hq, c⟩ := h
  exact ⟨W, S, x, dx, ws, ds, Qd, fun _ => False, e, hx, nS, O, b0, hs, hq, c, fun _ _ _ _ z => z.elim⟩
end

end
section

/-! ### texts, over data -/
def oStarts : DOp := fun x y Q => match x, y with
  | .str a, .str b => Q (.bl (Txt.startswith a b))
  | _, _ => False
def oParti : DOp := fun x y Q => match x, y with
  | .str a, .str b => (b.length == 0) = false ∧ a.length ≤ 16777216 ∧ Q (.tup [.str (Txt.partition a b).1, .str (Txt.partition a b).2.1, .str (Txt.partition a b).2.2])
  | _, _ => False
def oSplitT : DOp := fun x y Q => match x, y with
  | .str a, .str b => (b.length == 0) = false ∧ a.length + 2 ≤ 16777216 ∧ Q (.lst ((Txt.split a b).map .str))
  | _, _ => False
section
variable {K : PySem.W.Frag}
theorem foStarts : RefOp K (fun x y => rStarts x [y]) oStarts := fun W S H x y d e Qd Q O hx hy c h => by
  match d, e, h, hx, hy with
  | .str a, .str b, h, hx, hy =>
    rw [shStr hx, shStr hy]
    exact ⟨a, b, rfl, rfl, c.now O h (.bl _)⟩
theorem foParti : RefOp K (fun x y => rParti x [y]) oParti := fun W S H x y d e Qd Q O hx hy c h => by
  match d, e, h, hx, hy with
  | .str a, .str b, h, hx, hy =>
    rw [shStr hx, shStr hy]
    exact ⟨a, b, rfl, rfl, h.1, by rw [sizeLine_eq]; exact h.2.1, fun p hp => c.new O hp h.2.2 (dv_newT O hp (.cons (.str _) (.cons (.str _) (.cons (.str _) .nil))))⟩
theorem dvA_strs {W : Wd} {A : Hp} : ∀ ys : List Str, DvA K W A (ys.map V.str) (ys.map Dt.str)
  | [] => .nil
  | y :: ys => .cons (.str y) (dvA_strs ys)
theorem foSplitT : RefOp K (fun x y => rSplitT x [y]) oSplitT := fun W S H x y d e Qd Q O hx hy c h => by
  match d, e, h, hx, hy with
  | .str a, .str b, h, hx, hy =>
    rw [shStr hx, shStr hy]
    exact ⟨a, b, rfl, rfl, h.1, by rw [sizeLine_eq]; exact h.2.1, fun p hp => c.new O hp h.2.2 (dv_newL O hp (dvA_strs _))⟩
end
/-- a method of a text without arguments that gives a truth -/
def dTx0 (g : Str → Bool) (da : DE) : DE := fun ρ Q => da ρ fun x => match x with
  | .str z => Q (.bl (g z))
  | _ => False
def uIntT : DUn := fun x Q => match x with
  | .int i => Q (.int i)
  | .bl b => Q (.int (if b then 1 else 0))
  | .str a => ∃ n, PySem.intText? a = some n ∧ a.length ≤ 640 ∧ Q (.int n)
  | _ => False
/-- {x} in an f-string -/
def dFmt (da : DE) : DE := fun ρ Q => da ρ fun x => match x with
  | .str y => y.length ≤ 16777216 ∧ Q (.str y)
  | .int i => i.natAbs.log2 < 1920 ∧ Q (.str (toString i))
  | _ => False
def dJs : List DE → Str → Ro → (Dt → Prop) → Prop
  | [], acc, _, Q => Q (.str acc)
  | d :: ds, acc, ρ, Q => d ρ fun x => match x with
    | .str y => (acc ++ y).length ≤ 16777216 ∧ dJs ds (acc ++ y) ρ Q
    | _ => False
def dJoined (ds : List DE) : DE := fun ρ Q => dJs ds Str.empty ρ Q
inductive RefL (K : PySem.W.Frag) (Jx : WX) (Xd : XD) : List TE → List DE → Prop
  | nil : RefL K Jx Xd [] []
  | cons {t : TE} {d : DE} {ts : List TE} {ds : List DE} (h : RefE K Jx Xd t d) (r : RefL K Jx Xd ts ds) : RefL K Jx Xd (t :: ts) (d :: ds)
section
variable {K : PySem.W.Frag} {Jx : WX} {Xd : XD} {ta : TE} {da : DE}
theorem rTx0 {r : V → List V → Hp → VK → Prop} {g : Str → Bool} (hr : ∀ a H Q, Q (.bl (g a)) H → r (.str a) [] H Q) (a : RefE K Jx Xd ta da) : RefE K Jx Xd (tM0 r ta) (dTx0 g da) := fun W S0 H0 α H σ ρ Qd Q I c h =>
  a W S0 H0 α H σ ρ _ _ I (fun d v H1 q gg hv => by
    cases hv with
    | str z => exact ⟨⟨z, rfl⟩, hr z H1 Q ((c.grow gg).now (I.ok.grow gg) q (.bl _))⟩
    | _ => exact q.elim) h
theorem rDigit0 (a : RefE K Jx Xd ta da) : RefE K Jx Xd (tM0 rDigit ta) (dTx0 Txt.isdigit da) := rTx0 (fun a _ _ q => ⟨a, rfl, rfl, trivial, q⟩) a
theorem rAscii0 (a : RefE K Jx Xd ta da) : RefE K Jx Xd (tM0 rAscii ta) (dTx0 Txt.isascii da) := rTx0 (fun a _ _ q => ⟨a, rfl, rfl, trivial, q⟩) a
theorem fcIntT : RefC K rIntT (c1 uIntT) := fc1 fun W S H x d Qd Q O hx c h => by
  match d, h, hx with
  | .int i, h, hx =>
    rw [shInt hx]
    exact .inl (.inl ⟨i, rfl, c.now O h (.int _)⟩)
  | .bl b, h, hx =>
    cases hx
    exact .inl (.inr ⟨b, rfl, c.now O h (.int _)⟩)
  | .str a, h, hx =>
    obtain ⟨n, h1, h2, h3⟩ := h
    rw [shStr hx]
    exact .inr ⟨a, n, rfl, h1, h2, c.now O h3 (.int _)⟩
theorem rFmt (a : RefE K Jx Xd ta da) : RefE K Jx Xd (tFmt ta) (dFmt da) := fun W S0 H0 α H σ ρ Qd Q I c h =>
  a W S0 H0 α H σ ρ _ _ I (fun d v H1 q gg hv => by
    cases hv with
    | str z => exact .inl ⟨z, rfl, by rw [sizeLine_eq]; exact q.1, (c.grow gg).now (I.ok.grow gg) q.2 (.str _)⟩
    | int i => exact .inr ⟨i, rfl, q.1, (c.grow gg).now (I.ok.grow gg) q.2 (.str _)⟩
    | _ => exact q.elim) h
theorem rJs {ts : List TE} {ds : List DE} (r : RefL K Jx Xd ts ds) : ∀ (acc : Str) W S0 H0 α H σ ρ Qd Q, EnvX K Jx Xd W S0 H0 α H σ ρ → Cn K W (hid S0 α ρ) H Qd Q → dJs ds acc ρ Qd → tJs ts acc σ H fun out H1 => Q (.str out) H1 := by
  induction r with
  | nil => exact fun acc W S0 H0 α H σ ρ Qd Q I c h => c.now I.ok h (.str _)
  | cons h r ih =>
    exact fun acc W S0 H0 α H σ ρ Qd Q I c q => h W S0 H0 α H σ ρ _ _ I (fun d v H1 q gg hv => by
      cases hv with
      | str z => exact ⟨z, rfl, by rw [sizeLine_eq]; exact q.1, ih _ W S0 H0 α H1 σ ρ Qd Q (I.grow gg) (c.grow gg) q.2⟩
      | _ => exact q.elim) q
theorem rJoined {ts : List TE} {ds : List DE} (r : RefL K Jx Xd ts ds) : RefE K Jx Xd (tJoined ts) (dJoined ds) := fun W S0 H0 α H σ ρ Qd Q I c h => rJs r Str.empty W S0 H0 α H σ ρ Qd Q I c h
end

end
section

/-- repr(o) by o's own __repr__ -/
def dReprO (C : Str) (sd : DSp) (da : DE) : DE := fun ρ Q => da ρ fun x => match x with
  | .obj D fs => D = C ∧ sd [.obj D fs] fun d => match d with
    | .str y => Q (.str y)
    | _ => False
  | _ => False
theorem rReprO' {K : PySem.W.Frag} {Jx : WX} {Xd : XD} {sp : Sp} {sd : DSp} {C : Str} {ta : TE} {da : DE} (hw : ∀ vs H Q, spD K sd vs H Q E0 → sp vs H Q E0) (a : RefE K Jx Xd ta da) : RefE K Jx Xd (tCB (rReprO (He.ga K C) sp) (tCons ta tNil)) (dReprO C sd da) := fun W S0 H0 α H σ ρ Qd Q I r h =>
  a W S0 H0 α H σ ρ _ _ I (fun x v H1 q g hv => by
    cases x with
    | obj D fs =>
      have q1 : D = C ∧ sd [.obj D fs] (fun d => match d with
        | .str y => Qd (.str y)
        | _ => False) := q
      obtain ⟨rfl, q2⟩ := q1
      have hv' := hv
      cases hv with
      | obj k1 k2 k3 =>
        refine ⟨_, _, _, rfl, (hd_get k1).2, hw _ H1 _ ⟨W, _, _, _, I.ok.grow g, .cons hv' .nil, q2, fun d u H2 qd g2 hu => ?_⟩⟩
        match d, qd, hu with
        | .str y, qd, .str _ => exact ⟨y, rfl, r _ _ H2 qd (g.trans g2) (.str _)⟩
    | _ => exact (show False from q).elim) h
/-- the least of a list of numbers -/
def uMinL : DUn := fun x Q => ∃ ns : List Int, x = .lst (ns.map Dt.int) ∧ 0 < ns.length ∧ ∀ m, m ∈ ns → (∀ y, y ∈ ns → m ≤ y) → Q (.int m)
theorem fcMinL {K : PySem.W.Frag} : RefC K (rMin K) (c1 uMinL) := fc1 fun W S H x d Qd Q O hx c h => by
  obtain ⟨ns, rfl, l, q⟩ := h
  obtain ⟨a, vs, rfl, h1, h2, h3⟩ := hx
  exact ⟨a, ns, rfl, by rw [← h3.ints]; exact SqL.of h2, l, fun m h4 h5 => c.now O (q m h4 h5) (.int _)⟩
/-- C(..), the last parameters by their defaults cs -/
def dNewD (sd : DSp) (cs : List Dt) (dl : DA) : DE := fun ρ Q => dl ρ fun ds => sd (ds ++ cs) Q
theorem rNdd {K : PySem.W.Frag} {Jx : WX} {Xd : XD} {sp : Sp} {sd : DSp} {C : Str} {t : TA} {dl : DA} {cs : List V} {es : List Dt} (hw : ∀ vs H Q, spN K C sd vs H Q E0 → sp vs H Q E0) (hc : ∀ W A, DvA K W A cs es) (b : RefA K Jx Xd t dl) : RefE K Jx Xd (tMake (He.ga K C) sp cs E0 t) (dNewD sd es dl) := fun W S0 H0 α H σ ρ Qd Q I r h =>
  b W S0 H0 α H σ ρ _ _ I (fun ds vs H1 q g hs x dx hx hdx ne => by
    have O := I.ok.grow g
    have g1 : Gw K W H1 (upd H1 dx (.own x)) := .new g.bag hdx
    have hx' : upd H1 dx (HO.own x) x = none := by rw [upd_ne (Ne.symm ne)]; exact hx
    have g2 : Gw K W (upd H1 dx (.own x)) (upd (upd H1 dx (.own x)) x (.ins (He.ga K C) dx [])) := .new g1.bag hx'
    have O2 := O.grow (g1.trans g2)
    have nS := O.out hx
    have s0 : Same H1 (hd (fun a => a = x) (upd (upd H1 dx (.own x)) x (.ins (He.ga K C) dx []))) := fun a o e => by
      have n1 := ne_of_none e hx
      exact hd_at (by rw [upd_ne n1, upd_ne (ne_of_none e hdx)]; exact e) n1
    refine hw _ _ _ ⟨W, _, x, dx, vs ++ cs, ds ++ es, Qd, rfl, upd_same, nS, O2, g.bag.same s0, (DvA.same (fun a o e => ?_) hs).app (hc _ _), q, fun d H' qd gg hd' => ⟨rfl, r d _ H' qd (g.trans ((Gw.of g.bag s0).trans gg)) hd'⟩⟩
    obtain ⟨e1, e2⟩ := hd_get e
    have n1 := ne_of_none e2 hx
    exact hd_at (by rw [upd_ne n1, upd_ne (ne_of_none e2 hdx)]; exact e2) fun z => z.elim e1 n1) h

end
section

/-! ### rows of whole numbers, their echelon: plain -/
/-- the divisor of all -/
def gall (l : List Int) : Nat := l.foldl (fun g x => Nat.gcd g x.natAbs) 0
def prim (r : List Int) : List Int := if gall r ≤ 1 then r else r.map (· / (gall r : Int))
theorem gall_snoc (l : List Int) (x : Int) : gall (l ++ [x]) = Nat.gcd (gall l) x.natAbs := by
  unfold gall
  rw [List.foldl_append]
  rfl
theorem foldg_dvd : ∀ (l : List Int) (g : Nat), l.foldl (fun g x => Nat.gcd g x.natAbs) g ∣ g ∧ ∀ x, x ∈ l → l.foldl (fun g x => Nat.gcd g x.natAbs) g ∣ x.natAbs
  | [], g => ⟨Nat.dvd_refl _, fun _ h => nomatch h⟩
  | a :: l, g => by
    obtain ⟨h1, h2⟩ := foldg_dvd l (Nat.gcd g a.natAbs)
    refine ⟨Nat.dvd_trans h1 (Nat.gcd_dvd_left _ _), fun x hx => ?_⟩
    rcases List.mem_cons.mp hx with e | e
    · subst e
      exact Nat.dvd_trans h1 (Nat.gcd_dvd_right _ _)
    · exact h2 x e
theorem gall_dvd {l : List Int} {x : Int} (h : x ∈ l) : gall l ∣ x.natAbs := (foldg_dvd l 0).2 x h
theorem gall_zero : ∀ {l : List Int}, (∀ x, x ∈ l → x = 0) → gall l = 0 := by
  intro l
  have : ∀ (l : List Int) (g : Nat), (∀ x, x ∈ l → x = 0) → l.foldl (fun g x => Nat.gcd g x.natAbs) g = g := by
    intro l
    induction l with
    | nil => intro g _; rfl
    | cons a l ih =>
      intro g h
      show l.foldl _ (Nat.gcd g a.natAbs) = g
      rw [ih _ fun x hx => h x (List.mem_cons_of_mem _ hx), h a (List.mem_cons_self ..)]
      simp
  exact this l 0
/-- entries below 2 ^ b -/
def Bd (b : Nat) (r : List Int) : Prop := ∀ x, x ∈ r → x.natAbs < 2 ^ b
theorem gall_bd {b : Nat} {r : List Int} (h : Bd b r) (g : 1 < gall r) : gall r < 2 ^ b := by
  by_cases z : ∃ x, x ∈ r ∧ x ≠ 0
  · obtain ⟨x, hx, hne⟩ := z
    exact Nat.lt_of_le_of_lt (Nat.le_of_dvd (by omega) (gall_dvd hx)) (h x hx)
  · rw [gall_zero fun x hx => Classical.byContradiction fun q => z ⟨x, hx, q⟩] at g
    omega
theorem prim_bd {b : Nat} {r : List Int} (h : Bd b r) : Bd b (prim r) := by
  unfold prim
  split
  · exact h
  · intro x hx
    obtain ⟨y, hy, rfl⟩ := List.mem_map.mp hx
    have := h y hy
    have q : (y / (gall r : Int)).natAbs ≤ y.natAbs := Int.natAbs_ediv_le_natAbs y _
    omega
theorem prim_len (r : List Int) : (prim r).length = r.length := by
  unfold prim
  split
  · rfl
  · rw [List.length_map]
/-- turned round where its number at p is not above 0 -/
def led (r : List Int) (p : Nat) : List Int := if 0 < r.getD p 0 then r else r.map (- ·)
def comb (h o : Int) (r l : List Int) : List Int := List.zipWith (fun n m => h * n - o * m) r l
def strk (r l : List Int) (p : Nat) : List Int := if r.getD p 0 = 0 then r else prim (comb (l.getD p 0) (r.getD p 0) r l)
theorem getD_of {r : List Int} {p : Nat} (h : p < r.length) : r[p]? = some (r.getD p 0) := by
  rw [List.getD_eq_getElem?_getD, List.getElem?_eq_getElem h]
  rfl
theorem led_len (r : List Int) (p : Nat) : (led r p).length = r.length := by
  unfold led
  split
  · rfl
  · rw [List.length_map]
theorem led_bd {b : Nat} {r : List Int} {p : Nat} (h : Bd b r) : Bd b (led r p) := by
  unfold led
  split
  · exact h
  · intro x hx
    obtain ⟨y, hy, rfl⟩ := List.mem_map.mp hx
    rw [Int.natAbs_neg]
    exact h y hy
theorem comb_len {h o : Int} {r l : List Int} (e : r.length = l.length) : (comb h o r l).length = r.length := by
  unfold comb
  rw [List.length_zipWith]
  omega
theorem two_pow_add {a b : Nat} : 2 ^ a * 2 ^ b + 2 ^ a * 2 ^ b = 2 ^ (a + b + 1) := by
  rw [Nat.pow_succ, Nat.pow_add]
  omega
theorem comb_bd {a b : Nat} {h o : Int} {r l : List Int} (hh : h.natAbs < 2 ^ a) (ho : o.natAbs < 2 ^ b) (hr : Bd b r) (hl : Bd a l) : Bd (a + b + 1) (comb h o r l) := by
  intro x hx
  obtain ⟨i, hi⟩ := List.getElem?_of_mem hx
  unfold comb at hi
  rw [List.getElem?_zipWith] at hi
  cases e1 : r[i]? with
  | none => rw [e1] at hi; cases hi
  | some n =>
    cases e2 : l[i]? with
    | none => rw [e1, e2] at hi; cases hi
    | some m =>
      rw [e1, e2] at hi
      have ex : h * n - o * m = x := Option.some.inj hi
      have q1 := hr n (List.mem_of_getElem? e1)
      have q2 := hl m (List.mem_of_getElem? e2)
      have p1 : (h * n).natAbs < 2 ^ (a + b) := wide_lt hh q1
      have p2 : (o * m).natAbs < 2 ^ (b + a) := wide_lt ho q2
      rw [← ex, ← two_pow_add, ← Nat.pow_add]
      rw [Nat.add_comm b a] at p2
      omega
theorem strk_len {r l : List Int} {p : Nat} (e : r.length = l.length) : (strk r l p).length = r.length := by
  unfold strk
  split
  · rfl
  · rw [prim_len, comb_len e]
theorem getD_bd {b : Nat} {r : List Int} {p : Nat} (h : Bd b r) : (r.getD p 0).natAbs < 2 ^ b := by
  rw [List.getD_eq_getElem?_getD]
  cases e : r[p]? with
  | none => exact Nat.two_pow_pos b
  | some n => exact h n (List.mem_of_getElem? e)
theorem Bd.mono {a b : Nat} {r : List Int} (h : Bd a r) (e : a ≤ b) : Bd b r := fun x hx => Nat.lt_of_lt_of_le (h x hx) (Nat.pow_le_pow_right (by decide) e)
theorem strk_bd {b : Nat} {r l : List Int} {p : Nat} (hr : Bd b r) (hl : Bd b l) : Bd (2 * b + 1) (strk r l p) := by
  unfold strk
  split
  · exact hr.mono (by omega)
  · exact (prim_bd (comb_bd (getD_bd hl) (getD_bd hr) hr hl)).mono (by omega)
def units (d : Nat) : List (List Int) := (List.range d).map fun k => (List.range d).map fun j => if j = k then 1 else 0
def nz (r : List Int) : Bool := r.any fun n => n != 0
def lead? (L : List (List Int)) (p : Nat) : Option Nat := L.findIdx? fun r => r.getD p 0 != 0
/-- the told rows, the left rows: one place p -/
def estep (s : List (List Int) × List (List Int)) (p : Nat) : List (List Int) × List (List Int) := match lead? s.2 p with
  | none => s
  | some k => let l := led (s.2.getD k []) p
    (s.1.map (strk · l p) ++ [l], ((s.2.take k ++ s.2.drop (k + 1)).map (strk · l p)).filter nz)
def eleft (M : List (List Int)) : List (List Int) := (M.filter nz).map prim
def ech (d : Nat) (M : List (List Int)) : List (List Int) := ((List.range d).foldl estep ([], eleft M)).1
def bbits (b : Nat) : Nat → Nat
  | 0 => b
  | p + 1 => 2 * bbits b p + 1
theorem bbits_eq (b : Nat) : ∀ p, bbits b p + 1 = (b + 1) * 2 ^ p
  | 0 => by simp [bbits]
  | p + 1 => by
    have := bbits_eq b p
    show 2 * bbits b p + 1 + 1 = (b + 1) * 2 ^ (p + 1)
    rw [Nat.pow_succ, ← Nat.mul_assoc, ← this]
    omega
theorem bbits_le {b p : Nat} (hb : b ≤ 60) (hp : p ≤ 5) : bbits b p ≤ 3000 := by
  have e := bbits_eq b p
  have h : (b + 1) * 2 ^ p ≤ 61 * 2 ^ 5 := Nat.mul_le_mul (by omega) (Nat.pow_le_pow_right (by decide) hp)
  have : 61 * 2 ^ 5 = 1952 := by decide
  omega
/-- rows of one length, their numbers below 2 ^ b -/
def Okr (d b : Nat) (M : List (List Int)) : Prop := ∀ r, r ∈ M → r.length = d ∧ Bd b r
theorem okr_strk {d b p : Nat} {M : List (List Int)} {l : List Int} (h : Okr d b M) (hl : l.length = d ∧ Bd b l) : Okr d (2 * b + 1) (M.map (strk · l p)) := fun r hr => by
  obtain ⟨x, hx, rfl⟩ := List.mem_map.mp hr
  obtain ⟨h1, h2⟩ := h x hx
  exact ⟨by rw [strk_len (by omega)]; exact h1, strk_bd h2 hl.2⟩
theorem okr_sub {d b : Nat} {M N : List (List Int)} (h : Okr d b M) (s : ∀ r, r ∈ N → r ∈ M) : Okr d b N := fun r hr => h r (s r hr)
theorem lead_none {L : List (List Int)} {p : Nat} (h : lead? L p = none) : ∀ r, r ∈ L → r.getD p 0 = 0 := fun r hr => by
  have := List.findIdx?_eq_none_iff.mp h r hr
  simpa using this
theorem lead_some {L : List (List Int)} {p k : Nat} (h : lead? L p = some k) : ∃ r, L[k]? = some r ∧ r.getD p 0 ≠ 0 ∧ ∀ r', r' ∈ L.take k → r'.getD p 0 = 0 := by
  obtain ⟨hk, h1, h2⟩ := List.findIdx?_eq_some_iff_getElem.mp h
  refine ⟨L[k], List.getElem?_eq_getElem hk, by simpa using h1, fun r' hr => ?_⟩
  obtain ⟨j, hj⟩ := List.getElem?_of_mem hr
  have jl : j < k := by
    have := (List.getElem?_eq_some_iff.mp hj).1
    simp at this
    omega
  rw [List.getElem?_take_of_lt jl] at hj
  have q := h2 j jl
  rw [(List.getElem?_eq_some_iff.mp hj).2] at q
  simpa using q
theorem filter_take_succ {α : Type} {f : α → Bool} {M : List α} {i : Nat} {r : α} (h : M[i]? = some r) : (M.take (i + 1)).filter f = if f r = true then (M.take i).filter f ++ [r] else (M.take i).filter f := by
  rw [take_succ_get h, List.filter_append]
  by_cases c : f r = true
  · rw [if_pos c, List.filter_cons, if_pos c]
    rfl
  · rw [if_neg c, List.filter_cons, if_neg c, List.filter_nil, List.append_nil]

end
section

/-! ### signs of numbers: plain -/
section
open TL
/-- the last k signs of m -/
def padL : Nat → Nat → List Nat
  | 0, _ => []
  | k + 1, m => padL k (m / 10) ++ [48 + m % 10]
theorem padL_len : ∀ (k m : Nat), (padL k m).length = k
  | 0, _ => rfl
  | k + 1, m => by
    show (padL k (m / 10) ++ [48 + m % 10]).length = k + 1
    rw [List.length_append, padL_len k]
    rfl
theorem numL_pad : ∀ (k n : Nat), 10 ^ k ≤ n → numL n = numL (n / 10 ^ k) ++ padL k (n % 10 ^ k)
  | 0, n, _ => by
    show numL n = numL (n / 1) ++ []
    rw [Nat.div_one, List.append_nil]
  | k + 1, n, h => by
    have p : 10 ^ (k + 1) = 10 * 10 ^ k := by rw [Nat.pow_succ, Nat.mul_comm]
    have kp : 0 < 10 ^ k := Nat.pow_pos (by decide)
    have h10 : 10 ≤ n := by omega
    have hk : 10 ^ k ≤ n / 10 := by omega
    rw [numL_step h10, numL_pad k (n / 10) hk]
    show _ = numL (n / 10 ^ (k + 1)) ++ (padL k (n % 10 ^ (k + 1) / 10) ++ [48 + n % 10 ^ (k + 1) % 10])
    have e1 : n / 10 / 10 ^ k = n / 10 ^ (k + 1) := by rw [Nat.div_div_eq_div_mul, p]
    have e2 : n % 10 ^ (k + 1) / 10 = n / 10 % 10 ^ k := by rw [p, Nat.mod_mul_right_div_self]
    have e3 : n % 10 ^ (k + 1) % 10 = n % 10 := by rw [p, Nat.mod_mul_right_mod]
    rw [e1, e2, e3, List.append_assoc]
theorem padL_zero : ∀ k, padL k 0 = List.replicate k 48
  | 0 => rfl
  | k + 1 => by
    show padL k (0 / 10) ++ [48 + 0 % 10] = _
    rw [Nat.zero_div, padL_zero k, List.replicate_succ']
theorem padL_num : ∀ (k m : Nat), m < 10 ^ (k + 1) → padL (k + 1) m = List.replicate (k + 1 - (numL m).length) 48 ++ numL m
  | k, m, h => by
    by_cases c : m < 10
    · rw [numL_lt c]
      show padL k (m / 10) ++ [48 + m % 10] = List.replicate (k + 1 - 1) 48 ++ [48 + m]
      rw [Nat.div_eq_of_lt c, Nat.mod_eq_of_lt c, padL_zero]
      rfl
    · cases k with
      | zero => exact absurd h (by simpa using c)
      | succ k =>
        have h' : m / 10 < 10 ^ (k + 1) := by
          rw [Nat.pow_succ] at h
          omega
        rw [numL_step (by omega)]
        show padL (k + 1) (m / 10) ++ [48 + m % 10] = _
        rw [padL_num k (m / 10) h', List.length_append, List.append_assoc]
        show List.replicate (k + 1 - (numL (m / 10)).length) 48 ++ (numL (m / 10) ++ [48 + m % 10]) = List.replicate (k + 1 + 1 - ((numL (m / 10)).length + 1)) 48 ++ _
        rw [Nat.add_sub_add_right]
theorem num_head {n c : Nat} (h : (numL n)[0]? = some c) : 48 ≤ c ∧ c ≤ 57 := numL_digits n c (List.mem_of_getElem? h)
theorem tl_zfill (n k : Nat) (h : n < 10 ^ (k + 1)) : tl (Txt.zfill (Str.ofString (toString ((n : Nat) : Int))) ((k + 1 : Nat) : Int)) = padL (k + 1) n := by
  have e := tl_num n
  have el : (Str.ofString (toString ((n : Nat) : Int))).length = (numL n).length := by rw [len_tl, e]
  rw [padL_num k n h]
  unfold Txt.zfill
  have ll := numL_len (n := n) (k := k + 1) (by omega) h
  by_cases c : ((k + 1 : Nat) : Int) ≤ ((Str.ofString (toString ((n : Nat) : Int))).length : Nat)
  · rw [if_pos c, e]
    rw [el] at c
    rw [show k + 1 - (numL n).length = 0 by omega]
    rfl
  · rw [if_neg c, el]
    unfold zfilled
    have hn : (Str.ofString (toString ((n : Nat) : Int))).cps[0]? = (numL n)[0]? := by rw [← e]; exact Array.getElem?_toList.symm
    have pd : tl (Builtin.Str.padded (Str.ofString (toString ((n : Nat) : Int))) (((k + 1 : Nat) : Int).toNat - (numL n).length) 0 48) = List.replicate (k + 1 - (numL n).length) 48 ++ numL n := by
      unfold Builtin.Str.padded
      show (_ ++ _ ++ _ : Array Nat).toList = _
      rw [Array.toList_append, Array.toList_append, Array.toList_replicate, Array.toList_replicate, Int.toNat_natCast, ← e]
      simp
    split
    · rename_i q
      rw [hn] at q
      have := num_head q
      omega
    · rename_i q
      rw [hn] at q
      have := num_head q
      omega
    · exact pd
theorem tl_int (i : Int) : tl (Str.ofString (toString i)) = if i < 0 then 45 :: numL i.natAbs else numL i.natAbs := by
  by_cases c : i < 0
  · rw [if_pos c, Int.toString_eq_repr, Int.repr_eq_if, if_neg (by omega)]
    have e := tl_num i.natAbs
    rw [Int.toString_eq_repr, Int.repr_eq_if, if_pos (by omega), Int.toNat_natCast] at e
    rw [show (-i).toNat = i.natAbs by omega]
    unfold tl at e ⊢
    rw [Str.ofString_eq_toList] at e ⊢
    rw [String.toList_append, List.map_append]
    simp only [List.toList_toArray] at e ⊢
    rw [e]
    rfl
  · rw [if_neg c, ← tl_num, show ((i.natAbs : Nat) : Int) = i by omega]
theorem joinL_flat : ∀ (l : List (List Nat)), joinL [] l = l.flatten
  | [] => rfl
  | [p] => by simp [joinL]
  | p :: q :: r => by
    show p ++ ([] ++ joinL [] (q :: r)) = _
    rw [joinL_flat (q :: r)]
    rfl
end

end
section

/-! ### texts of numbers -/
section
open TL
theorem join_flat (ps : List Str) : tl (Txt.join "" ps) = (ps.map tl).flatten := by
  rw [join_eq, tl_join]
  exact joinL_flat _
theorem sum_len : ∀ (ps : List Str), (ps.map (·.length)).sum = ((ps.map tl).flatten).length
  | [] => rfl
  | p :: ps => by
    rw [List.map_cons, List.sum_cons, sum_len ps, List.map_cons, List.flatten_cons, List.length_append, len_tl]
theorem many_le : ∀ (ps : List Str), (∀ p, p ∈ ps → 1 ≤ p.length) → ps.length ≤ (ps.map (·.length)).sum
  | [], _ => Nat.le_refl _
  | p :: ps, h => by
    have a := h p (List.mem_cons_self ..)
    have b := many_le ps fun q hq => h q (List.mem_cons_of_mem _ hq)
    rw [List.map_cons, List.sum_cons, List.length_cons]
    omega
def sd_integer_text : DSp := fun ds Q => ∃ v : Int, ds = [.int v] ∧ v.natAbs < 2 ^ 12890 ∧ Q (.str (toString v))
abbrev N_integer_text : List Str := ["value", "left", "parts", "rest"]
def t_integer_text (K : PySem.W.Frag) : TS :=
  (tSeq (tIfS (tTest (tChain rLtI rLtI (tUn rNegI (tC (.int 1000000000000000000000000000000000000000000000000000000000000))) (tVar 0) (tC (.int 1000000000000000000000000000000000000000000000000000000000000)))) (tRet (tCB rStrB (tCons (tVar 0) tNil))) tNext)
    (tSeq (tAsg (tCB rAbs (tCons (tVar 0) tNil)) (gName 1))
    (tSeq (tAsg (tLst tNil) (gName 2))
    (tSeq (tWhile (tTest (tOp rGeI (tVar 1) (tC (.int 1000000000000000000000000000000000000000000000000000000000000))))
    (tSeq (tAsg (tCB rDivmod (tCons (tVar 1) (tCons (tC (.int 1000000000000000000000000000000000000000000000000000000000000)) tNil))) (gTup K 2 (gCons (gName 1) (gCons (gName 3) gNil))))
    (tDrop (tBM K "list" rAppend (tVar 2) (tCons (tM1 rZfill (tCB rStrB (tCons (tVar 3) tNil)) (tC (.int 60))) tNil)))))
    (tSeq (tDrop (tBM K "list" rAppend (tVar 2) (tCons (tCB rStrB (tCons (tVar 1) tNil)) tNil)))
    (tMid (tIfS (tTest (tOp rLtI (tVar 0) (tC (.int 0)))) (tDrop (tBM K "list" rAppend (tVar 2) (tCons (tC (.str "-")) tNil))) tNext)
    (tRet (tM1 (rJoinL K) (tC (.str "")) (tRevL K (tVar 2))))))))))
def a_integer_text : DS :=
  (dSeq (dIfS (dTest (dChain oLt oLt (dUn uNeg (dC (.int 1000000000000000000000000000000000000000000000000000000000000))) (dRd 0) (dC (.int 1000000000000000000000000000000000000000000000000000000000000)))) (dRet (dCB (c1 uStrB) (dCons (dRd 0) dNil))) dNext)
    (dSeq (dAsg (dCB (c1 uAbs) (dCons (dRd 0) dNil)) (gN 1))
    (dSeq (dOwn 2 (fLst dNil))
    (dSeq (dWhile (dTest (dOp oGe (dRd 1) (dC (.int 1000000000000000000000000000000000000000000000000000000000000))))
    (dSeq (dAsg (dCB cDivmod (dCons (dRd 1) (dCons (dC (.int 1000000000000000000000000000000000000000000000000000000000000)) dNil))) (gT 2 (gsCons (gN 1) (gsCons (gN 3) gsNil))))
    (dAppend 2 (dM1 oZfill (dCB (c1 uStrB) (dCons (dRd 3) dNil)) (dC (.int 60))))))
    (dSeq (dAppend 2 (dCB (c1 uStrB) (dCons (dRd 1) dNil)))
    (dMid (dIfS (dTest (dOp oLt (dRd 0) (dC (.int 0)))) (dAppend 2 (dC (.str "-"))) dNext)
    (dRet (dJoin (dC (.str "")) (dRev (dRd 2))))))))))
theorem r_integer_text {K : PySem.W.Frag} {Jx : WX} {Xd : XD} : RefS K Jx Xd (t_integer_text K) a_integer_text :=
  (rSeq (rIfS (rTest (rChain foLt foLt (RefE.b (rUn fuNeg (RefE.b (rInt 1000000000000000000000000000000000000000000000000000000000000)))) (rRd 0) (RefE.b (rInt 1000000000000000000000000000000000000000000000000000000000000)))) (rRet (rCB fcStrB (rConsX (rRd 0) rNilX))) rNext)
    (rSeq (rAsg (rCB fcAbs (rConsX (rRd 0) rNilX)) (rgN 1))
    (rSeq (rOwn 2 (rfLst rNil))
    (rSeq (rWhile (rTest (rOp foGe (rRd 1) (RefE.b (rInt 1000000000000000000000000000000000000000000000000000000000000))))
    (rSeq (rAsg (rCB fcDivmod (rConsX (rRd 1) (rConsX (RefE.b (rInt 1000000000000000000000000000000000000000000000000000000000000)) rNilX))) (rgT 2 (rgsCons (rgN 1) (rgsCons (rgN 3) rgsNil))))
    (rAppend' 2 (rM1 foZfill (rCB fcStrB (rConsX (rRd 3) rNilX)) (RefE.b (rInt 60))))))
    (rSeq (rAppend' 2 (rCB fcStrB (rConsX (rRd 1) rNilX)))
    (rMid (rIfS (rTest (rOp foLt (rRd 0) (RefE.b (rInt 0)))) (rAppend' 2 (rStr' "-")) rNext)
    (rRet (rJoin (rStr' "") (RefE.b (rRev (rRd 2)))))))))))
theorem log2_mono {a b : Nat} (h : a ≤ b) : a.log2 ≤ b.log2 := by
  by_cases z : a = 0
  · subst z
    simp
  · exact (Nat.le_log2 (by omega)).mpr (Nat.le_trans (Nat.log2_self_le z) h)
theorem lim_log : (1000000000000000000000000000000000000000000000000000000000000 : Int).natAbs.log2 < 9000 := by
  rw [show (1000000000000000000000000000000000000000000000000000000000000 : Int).natAbs = 1000000000000000000000000000000000000000000000000000000000000 from rfl]
  exact PySem.Flt.log2_lt_of (by decide) (Nat.lt_of_lt_of_le (show 1000000000000000000000000000000000000000000000000000000000000 < 2 ^ 200 by decide) (Nat.pow_le_pow_right (by decide) (by decide)))
theorem str_lt {n : Nat} (h : n < 2 ^ 12890) : n < 10 ^ 4300 := Nat.lt_of_lt_of_le h (Nat.le_trans (Nat.pow_le_pow_right (by decide) (by decide)) PyProof.Rows.pow_lo)
theorem num_len_of {v : Int} (h : v.natAbs < 2 ^ 12890) : (numL v.natAbs).length ≤ 12890 := numL_len (by decide) (Nat.lt_of_lt_of_le h (Nat.pow_le_pow_left (by decide) _))
theorem int_len {v : Int} (h : v.natAbs < 2 ^ 12890) : (Str.ofString (toString v)).length ≤ 12891 := by
  have a := num_len_of h
  rw [len_tl, tl_int]
  split
  · rw [List.length_cons]
    omega
  · omega
theorem pd_integer_text (ds : List Dt) (Qd : Dt → Prop) (h : sd_integer_text ds Qd) : ds.length ≤ N_integer_text.length ∧ a_integer_text ⟨fun _ => Qd .non, Qd, fun _ => False, fun _ => False⟩ (vals ds ++ List.replicate (N_integer_text.length - ds.length) .no) := by
  obtain ⟨v, rfl, hv, q⟩ := h
  refine ⟨Nat.le_of_ble_eq_true rfl, ?_⟩
  walk_at "dl"
  refine (fun r => ⟨fun c => ?_, fun c => ⟨fun e => (nomatch e), fun _ => r⟩⟩) ?_
  rotate_left
  · walk_at "dl"
    refine ⟨fun c2 => ?_, fun c2 => r⟩
    walk_at "dl"
    exact ⟨str_lt hv, q⟩
  walk_at "dl"
  have eabs : (if v < 0 then -v else v) = ((v.natAbs : Nat) : Int) := by split <;> omega
  rw [eabs]
  refine ⟨Nat.zero_le _, ?_⟩
  refine wh_inv (fun m ρ => ∃ (ps : List Str) (z : Sl), z.owned = false ∧ ρ = [.val (.int v), .val (.int ((m : Nat) : Int)), .own (ps.map Dt.str), z] ∧ numL v.natAbs = numL m ++ (ps.reverse.map tl).flatten ∧ m ≤ v.natAbs ∧ ∀ p, p ∈ ps → 1 ≤ p.length) v.natAbs ⟨[], _, rfl, rfl, by simp, Nat.le_refl _, by simp⟩ ?_
  rintro m ρ P ⟨ps, z, ho, rfl, hn, hm, hp⟩ hP
  have lv := num_len_of hv
  have ll : ((ps.map (·.length)).sum) + (numL m).length = (numL v.natAbs).length := by
    have e1 := sum_len ps.reverse
    rw [List.map_reverse, List.sum_reverse] at e1
    rw [hn, List.length_append, e1]
    omega
  have lp := many_le ps hp
  have lm : 1 ≤ (numL m).length := List.length_pos_iff.mpr (numL_ne m)
  walk_at "dl"
  refine ⟨fun c => ?_, fun c => ?_⟩
  · have c' := of_decide_eq_true c
    walk_at "dl"
    refine ⟨⟨by decide, .inl lim_log⟩, ?_⟩
    have lim : (1000000000000000000000000000000000000000000000000000000000000 : Nat) = 10 ^ 60 := by decide
    have c1 : 10 ^ 60 ≤ m := by rw [← lim]; omega
    have sp := numL_pad 60 m c1
    have kp : 0 < 10 ^ 60 := by decide
    have d1 : ((m : Nat) : Int) / 1000000000000000000000000000000000000000000000000000000000000 = ((m / 10 ^ 60 : Nat) : Int) := by rw [← lim]; rfl
    have d2 : ((m : Nat) : Int) % 1000000000000000000000000000000000000000000000000000000000000 = ((m % 10 ^ 60 : Nat) : Int) := by rw [← lim]; rfl
    rw [d1, d2]
    have ml : m % 10 ^ 60 < 10 ^ 60 := Nat.mod_lt _ kp
    have ms : m / 10 ^ 60 < m := Nat.div_lt_self (by omega) (by decide)
    walk_at "dl"
    refine ⟨rfl, ?_⟩
    walk_at "dl"
    refine ⟨str_lt (Nat.lt_of_le_of_lt (show ((m % 10 ^ 60 : Nat) : Int).natAbs ≤ v.natAbs by rw [Int.natAbs_natCast]; omega) hv), ?_⟩
    walk_at "dl"
    refine ⟨by decide, ?_⟩
    have tz := tl_zfill (m % 10 ^ 60) 59 ml
    refine ⟨by rw [List.length_map]; omega, ?_⟩
    refine hP (m / 10 ^ 60) _ ms ⟨ps ++ [Txt.zfill (toString ((m % 10 ^ 60 : Nat) : Int)) 60], _, rfl, by rw [List.map_append]; rfl, ?_, by omega, ?_⟩
    · rw [hn, sp, List.reverse_append]
      show _ = numL (m / 10 ^ 60) ++ (tl (Txt.zfill (toString ((m % 10 ^ 60 : Nat) : Int)) 60) ++ (ps.reverse.map tl).flatten)
      rw [show ((60 : Int)) = ((59 + 1 : Nat) : Int) from rfl, tz, List.append_assoc]
    · intro p hp'
      rcases List.mem_append.mp hp' with e | e
      · exact hp p e
      · rw [List.mem_singleton.mp e, len_tl, show ((60 : Int)) = ((59 + 1 : Nat) : Int) from rfl, tz, padL_len]
        decide
  · have c' := of_decide_eq_false c
    walk_at "dl"
    refine ⟨str_lt (Nat.lt_of_le_of_lt (show ((m : Nat) : Int).natAbs ≤ v.natAbs by rw [Int.natAbs_natCast]; exact hm) hv), by rw [List.length_map]; omega, ?_⟩
    have hq : ((ps ++ [Str.ofString (toString ((m : Nat) : Int))]).reverse.map tl).flatten = numL v.natAbs := by
      rw [List.reverse_append]
      show tl (Str.ofString (toString ((m : Nat) : Int))) ++ (ps.reverse.map tl).flatten = _
      rw [tl_num, hn]
    have ti := tl_int v
    have tll := int_len hv
    refine ⟨fun ρ => ∃ (qs : List Str) (z' : Sl), z'.owned = false ∧ ρ = [.val (.int v), .val (.int ((m : Nat) : Int)), .own (qs.map Dt.str), z'] ∧ (qs.reverse.map tl).flatten = tl (Str.ofString (toString v)), ?_, ?_⟩
    · walk_at "dl"
      refine ⟨fun c3 => ?_, fun c3 => ?_⟩
      · walk_at "dl"
        refine ⟨by rw [List.length_append, List.length_map, List.length_singleton]; omega, ps ++ [Str.ofString (toString ((m : Nat) : Int))] ++ [Str.ofString "-"], z, ho, by rw [List.map_append, List.map_append]; rfl, ?_⟩
        rw [ti, if_pos (of_decide_eq_true c3), List.reverse_append, List.map_append, List.flatten_append, hq]
        rfl
      · refine ⟨ps ++ [Str.ofString (toString ((m : Nat) : Int))], z, ho, by rw [List.map_append]; rfl, ?_⟩
        rw [ti, if_neg (of_decide_eq_false c3), hq]
    · rintro ρ ⟨qs, z', ho', rfl, e⟩
      walk_at "dl"
      refine ⟨qs.reverse, .inl (by rw [List.map_reverse]), ?_, ?_⟩
      · have e1 := sum_len qs.reverse
        rw [e1, e, ← len_tl]
        show _ + _ * 0 ≤ _
        omega
      · have e2 : Txt.join "" qs.reverse = Str.ofString (toString v) := ext_tl (by rw [join_flat, e])
        rw [e2]
        exact q
end
abbrev sp_integer_text (K : PySem.W.Frag) : Sp := spD K sd_integer_text
theorem pure_integer_text {K : PySem.W.Frag} (vs : List V) (H : Hp) (Q : VK) (E : XK) (h : sp_integer_text K vs H Q E) : t_integer_text K { nx := fun _ H' => Q .non H', rt := Q } (L2.start N_integer_text vs) H := fnD (Jx := fun _ _ _ _ => False) (r_integer_text) h pd_integer_text

end
section

/-! ### ratios: made, in lowest terms -/
/-- the text of a ratio -/
def ratTxt (p q : Int) : Str := if q = 1 then Str.ofString (toString p) else (Str.ofString (toString p) ++ "/") ++ Str.ofString (toString q)
def ratD (p q : Int) : Dt := .obj "Ratio" [("top", .int p), ("bottom", .int q), ("text", .str (ratTxt p q))]
theorem empty_app (x : Str) : Str.empty ++ x = x := TL.ext_tl (by rw [TL.tl_append]; rfl)
theorem app_len (x y : Str) : (x ++ y).length = x.length + y.length := by rw [TL.len_tl, TL.tl_append, List.length_append, TL.len_tl, TL.len_tl]
/-- what is divided out -/
def shr (p q : Int) : Int := if q < 0 then -(Int.gcd p q : Int) else (Int.gcd p q : Int)
def sd_Ratio_init : DSpX := fun ds Q E => ∃ p q : Int, ds = [.int p, .int q] ∧ (p.natAbs < 2 ^ 6000 ∧ q.natAbs < 2 ^ 6000) ∧ (q = 0 → E (.err "InvalidNumber" [("value", .int 0), ("code", .str "InvalidNumber")])) ∧ (q ≠ 0 → Q (ratD (p.fdiv (shr p q)) (q.fdiv (shr p q))))
abbrev N_Ratio_init : List Str := ["self", "top", "bottom", "shared"]
def t_Ratio_init (K : PySem.W.Frag) (Jx : WX) : TS :=
  (tSeq (tIfS (tTest (tOp (rEqU K) (tVar 2) (tC (.int 0)))) (tRaiseF (He.ga K "InvalidNumber") psInvalidNumber flInvalidNumber Jx (tCons (tVar 2) tNil)) tNext)
    (tSeq (tAsg (tCB rGcd (tCons (tVar 1) (tCons (tVar 2) tNil))) (gName 3))
    (tMid (tIfS (tTest (tOp rLtI (tVar 2) (tC (.int 0)))) (tAsg (tUn rNegI (tVar 3)) (gName 3)) tNext)
    (tSeq (sFld K (tVar 0) (tOp rDivV (tVar 1) (tVar 3)) "top")
    (tSeq (sFld K (tVar 0) (tOp rDivV (tVar 2) (tVar 3)) "bottom")
    (tIfS (tTest (tOp (rEqU K) (tFld K (tVar 0) "bottom") (tC (.int 1)))) (sFld K (tVar 0) (tCall (sp_integer_text K) [] E0 (tCons (tFld K (tVar 0) "top") tNil)) "text") (sFld K (tVar 0) (tJoined [(tFmt (tCall (sp_integer_text K) [] E0 (tCons (tFld K (tVar 0) "top") tNil))), (tC (.str "/")), (tFmt (tCall (sp_integer_text K) [] E0 (tCons (tFld K (tVar 0) "bottom") tNil)))]) "text")))))))
def a_Ratio_init (Xd : XD) : DS :=
  (dSeq (dIfS (dTest (dOp oEq (dRd 2) (dC (.int 0)))) (dRaise Xd "InvalidNumber" psInvalidNumber flInvalidNumber (dCons (dVar 2) dNil)) dNext)
    (dSeq (dAsg (dCB cGcd (dCons (dRd 1) (dCons (dRd 2) dNil))) (gN 3))
    (dMid (dIfS (dTest (dOp oLt (dRd 2) (dC (.int 0)))) (dAsg (dUn uNeg (dRd 3)) (gN 3)) dNext)
    (dSeq (dSetF CLr 0 (dOp oDivv (dRd 1) (dRd 3)) "top")
    (dSeq (dSetF CLr 0 (dOp oDivv (dRd 2) (dRd 3)) "bottom")
    (dIfS (dTest (dOp oEq (dFld CLr (dRd 0) "bottom") (dC (.int 1)))) (dSetF CLr 0 (dCall sd_integer_text (dCons (dFld CLr (dRd 0) "top") dNil)) "text") (dSetF CLr 0 (dJoined [(dFmt (dCall sd_integer_text (dCons (dFld CLr (dRd 0) "top") dNil))), (dC (.str "/")), (dFmt (dCall sd_integer_text (dCons (dFld CLr (dRd 0) "bottom") dNil)))]) "text")))))))
theorem r_Ratio_init {K : PySem.W.Frag} {Jx : WX} {Xd : XD} (CF : ClsF CLr K) : RefS K Jx Xd (t_Ratio_init K Jx) (a_Ratio_init Xd) :=
  (rSeq (rIfS (rTest (rOp foEq (rRd 2) (RefE.b (rInt 0)))) (rRaise (rCons (rVar 2) rNil) (by decide)) rNext)
    (rSeq (rAsg (rCB fcGcd (rConsX (rRd 1) (rConsX (rRd 2) rNilX))) (rgN 3))
    (rMid (rIfS (rTest (rOp foLt (rRd 2) (RefE.b (rInt 0)))) (rAsg (rUn fuNeg (rRd 3)) (rgN 3)) rNext)
    (rSeq (rSetF CF 0 "top" (rOp foDivv (rRd 1) (rRd 3)))
    (rSeq (rSetF CF 0 "bottom" (rOp foDivv (rRd 2) (rRd 3)))
    (rIfS (rTest (rOp foEq (RefE.b (rFld CF "bottom" (rRd 0))) (RefE.b (rInt 1)))) (rSetF CF 0 "text" (rCall (fun _ _ _ h => h) (rCons (rFld CF "top" (rRd 0)) rNil))) (rSetF CF 0 "text" (rJoined (.cons (rFmt (rCall (fun _ _ _ h => h) (rCons (rFld CF "top" (rRd 0)) rNil))) (.cons (rStr' "/") (.cons (rFmt (rCall (fun _ _ _ h => h) (rCons (rFld CF "bottom" (rRd 0)) rNil))) .nil)))))))))))
theorem pd_Ratio_init (ds : List Dt) (Qd Ed : Dt → Prop) (h : sd_Ratio_init ds Qd Ed) : ds.length + 1 ≤ N_Ratio_init.length ∧ ∀ x, a_Ratio_init (fun d _ => Ed d) ⟨fun ρ => match gt ρ 0 with | .ins y D fs => y = x ∧ D = "Ratio" ∧ Qd (.obj "Ratio" fs) | _ => False, fun _ => False, fun _ => False, fun _ => False⟩ (.ins x "Ratio" [] :: (vals ds ++ List.replicate (N_Ratio_init.length - (ds.length + 1)) .no)) := by
  obtain ⟨p, q, rfl, ⟨hp, hq⟩, e0, q0⟩ := h
  refine ⟨Nat.le_of_ble_eq_true rfl, fun a => ?_⟩
  walk_at "dl"
  refine ⟨fun c => ?_, fun c => ?_⟩
  · have z : q = 0 := of_decide_eq_true c
    subst z
    walk_at "dg"
    exact e0 rfl
  · have nz : q ≠ 0 := of_decide_eq_false c
    have g0 : 0 < Int.gcd p q := Nat.pos_of_ne_zero fun z => nz (Int.gcd_eq_zero_iff.mp z).2
    have s0 : shr p q ≠ 0 := by
      unfold shr
      split <;> omega
    have sb : (shr p q).natAbs.log2 < 9000 := by
      refine PySem.Flt.log2_lt_of (by decide) (Nat.lt_of_le_of_lt ?_ (Nat.lt_of_lt_of_le hq (Nat.pow_le_pow_right (by decide) (by decide))))
      have : (shr p q).natAbs = Int.gcd p q := by
        unfold shr
        split <;> omega
      rw [this]
      exact Nat.le_of_dvd (by omega) (Nat.gcd_dvd_right _ _)
    have dv : ∀ n : Int, (Int.gcd p q : Int) ∣ n → n.natAbs < 2 ^ 6000 → (n.fdiv (shr p q)).natAbs < 2 ^ 12890 := fun n hd hn => by
      have hd2 : shr p q ∣ n := by
        unfold shr
        split
        · exact Int.neg_dvd.mpr hd
        · exact hd
      obtain ⟨k, rfl⟩ := hd2
      have e : (shr p q * k).fdiv (shr p q) = k := by
        rw [Int.mul_comm]
        exact Int.mul_fdiv_cancel _ s0
      rw [e]
      rw [Int.natAbs_mul] at hn
      have : k.natAbs ≤ (shr p q).natAbs * k.natAbs := Nat.le_mul_of_pos_left _ (by omega)
      exact Nat.lt_of_le_of_lt this (Nat.lt_of_lt_of_le hn (Nat.pow_le_pow_right (by decide) (by decide)))
    have pb := dv p (Int.gcd_dvd_left ..) hp
    have qb := dv q (Int.gcd_dvd_right ..) hq
    walk_at "dg"
    refine ⟨fun ρ => ρ = [.ins a "Ratio" [], .val (.int p), .val (.int q), .val (.int (shr p q))], ?_, ?_⟩
    · walk_at "dg"
      refine ⟨fun c => ?_, fun c => ?_⟩
      · have : shr p q = -(Int.gcd p q : Int) := if_pos (of_decide_eq_true c)
        rw [this]
        walk_at "dg"
        rfl
      · have : shr p q = (Int.gcd p q : Int) := if_neg (of_decide_eq_false c)
        rw [this]
        walk_at "dg"
        rfl
    · rintro ρ rfl
      walk_at "dg"
      refine ⟨⟨s0, .inl sb⟩, ?_⟩
      walk_at "dg"
      refine ⟨⟨rfl, Nat.le_of_ble_eq_true rfl, rfl⟩, ?_⟩
      walk_at "dg"
      refine ⟨⟨s0, .inl sb⟩, ?_⟩
      walk_at "dg"
      refine ⟨⟨rfl, Nat.le_of_ble_eq_true rfl, rfl⟩, ?_⟩
      walk_at "dg"
      refine ⟨fun c => ?_, fun c => ?_⟩
      · walk_at "dg"
        refine ⟨p.fdiv (shr p q), rfl, pb, ?_⟩
        walk_at "dg"
        refine ⟨⟨rfl, Nat.le_of_ble_eq_true rfl, rfl⟩, ?_⟩
        have e : ratTxt (p.fdiv (shr p q)) (q.fdiv (shr p q)) = Str.ofString (toString (p.fdiv (shr p q))) := if_pos (of_decide_eq_true c)
        have r := q0 nz
        unfold ratD at r
        rw [e] at r
        exact ⟨rfl, rfl, r⟩
      · walk_at "dg"
        refine ⟨p.fdiv (shr p q), rfl, pb, ?_⟩
        have l1 := int_len pb
        have l2 := int_len qb
        have sl : (Str.ofString "/").length = 1 := rfl
        walk_at "dg"
        rw [empty_app]
        refine ⟨by omega, by omega, ?_⟩
        walk_at "dg"
        refine ⟨by rw [app_len]; omega, ?_⟩
        walk_at "dg"
        refine ⟨q.fdiv (shr p q), rfl, qb, ?_⟩
        walk_at "dg"
        refine ⟨by omega, by rw [app_len, app_len]; omega, ?_⟩
        walk_at "dg"
        refine ⟨⟨rfl, Nat.le_of_ble_eq_true rfl, rfl⟩, ?_⟩
        have e : ratTxt (p.fdiv (shr p q)) (q.fdiv (shr p q)) = (Str.ofString (toString (p.fdiv (shr p q))) ++ "/") ++ Str.ofString (toString (q.fdiv (shr p q))) := if_neg (of_decide_eq_false c)
        have r := q0 nz
        unfold ratD at r
        rw [e] at r
        exact ⟨rfl, rfl, r⟩
abbrev sp_Ratio_init (K : PySem.W.Frag) : Sp := spNX K "Ratio" sd_Ratio_init
theorem pure_Ratio_init {K : PySem.W.Frag} (CF : ClsF CLr K) (vs : List V) (H : Hp) (Q : VK) (E : XK) (h : sp_Ratio_init K vs H Q E) : t_Ratio_init K (fun cls d _ H => E cls d H) { nx := fun _ H' => Q .non H', rt := Q } (L2.start N_Ratio_init vs) H := fnNX (ts := t_Ratio_init K) (a := a_Ratio_init) (fun Jx Xd => r_Ratio_init CF) h pd_Ratio_init

end
section

theorem shr_one (p : Int) : shr p 1 = 1 := by
  have : Int.gcd p 1 = 1 := Int.gcd_one_right p
  unfold shr
  rw [if_neg (by decide), this]
  rfl
/-- y stands for the fraction r / s -/
def RatV (y : Dt) (r s : Int) : Prop := (y = ratD r s ∨ (y = .int r ∧ s = 1)) ∧ s ≠ 0 ∧ r.natAbs < 2 ^ 2000 ∧ s.natAbs < 2 ^ 2000
/-- a number as a ratio, a ratio as it is -/
def sd_as_ratio : DSp := fun ds Q => ∃ y r s, ds = [y] ∧ RatV y r s ∧ Q (ratD r s)
abbrev N_as_ratio : List Str := ["number"]
def t_as_ratio (K : PySem.W.Frag) : TS :=
  (tRet (tIf (tB (tCB (rIsiU K) (tCons (tVar 0) (tCons (tC (.ref (He.ga K "Ratio"))) tNil)))) (tVar 0) (tMake (He.ga K "Ratio") (TY.spC (sp_Ratio_init K)) [.int 1] E0 (tCons (tVar 0) tNil))))
def a_as_ratio : DS :=
  (dRet (dIf (dTest (dCB (cIsi CLr) (dCons (dRd 0) (dCons (dC (.cls "Ratio")) dNil)))) (dVar 0) (dNewD (cD sd_Ratio_init) [.int 1] (dCons (dVar 0) dNil))))
theorem r_as_ratio {K : PySem.W.Frag} {Jx : WX} {Xd : XD} (CF : ClsF CLr K) : RefS K Jx Xd (t_as_ratio K) a_as_ratio :=
  (rRet (rIf (rB (rCB (fcIsi CF) (rConsX (rRd 0) (rConsX (RefE.b (rCls "Ratio")) rNilX)))) (rVar 0) (rNdd (fun _ _ _ h => calmNX h) (fun _ _ => (.cons (.int 1) .nil)) (rCons (rVar 0) rNil))))
theorem pd_as_ratio (ds : List Dt) (Qd : Dt → Prop) (h : sd_as_ratio ds Qd) : ds.length ≤ N_as_ratio.length ∧ a_as_ratio ⟨fun _ => Qd .non, Qd, fun _ => False, fun _ => False⟩ (vals ds ++ List.replicate (N_as_ratio.length - ds.length) .no) := by
  obtain ⟨y, r, s, rfl, ⟨h1 | ⟨h1, h2⟩, h0, hr, hs⟩, h⟩ := h
  · subst h1
    refine ⟨Nat.le_of_ble_eq_true rfl, ?_⟩
    walk_at "dg"
    exact ⟨fun _ => h, fun c => (nomatch c)⟩
  · subst h1 h2
    refine ⟨Nat.le_of_ble_eq_true rfl, ?_⟩
    walk_at "dg"
    refine ⟨fun c => (nomatch c), fun _ => ?_⟩
    walk_at "dg"
    refine ⟨r, 1, rfl, ⟨Nat.lt_of_lt_of_le hr (Nat.pow_le_pow_right (by decide) (by decide)), Nat.one_lt_two_pow (by decide)⟩, fun z => absurd z (by decide), fun _ => ?_⟩
    rw [shr_one, Int.fdiv_one]
    exact h
abbrev sp_as_ratio (K : PySem.W.Frag) : Sp := spD K sd_as_ratio
theorem pure_as_ratio {K : PySem.W.Frag} (CF : ClsF CLr K) (vs : List V) (H : Hp) (Q : VK) (E : XK) (h : sp_as_ratio K vs H Q E) : t_as_ratio K { nx := fun _ H' => Q .non H', rt := Q } (L2.start N_as_ratio vs) H := fnD (Jx := fun _ _ _ _ => False) (r_as_ratio CF) h pd_as_ratio

end
section

def sd_Ratio_floor : DSp := fun ds Q => ∃ p q : Int, ds = [ratD p q] ∧ (q ≠ 0 ∧ p.natAbs < 2 ^ 6000) ∧ Q (.int (p.fdiv q))
abbrev N_Ratio_floor : List Str := ["self"]
def t_Ratio_floor (K : PySem.W.Frag) : TS :=
  (tRet (tOp rDivV (tFld K (tVar 0) "top") (tFld K (tVar 0) "bottom")))
def a_Ratio_floor : DS :=
  (dRet (dOp oDivv (dFld CLr (dRd 0) "top") (dFld CLr (dRd 0) "bottom")))
theorem r_Ratio_floor {K : PySem.W.Frag} {Jx : WX} {Xd : XD} (CF : ClsF CLr K) : RefS K Jx Xd (t_Ratio_floor K) a_Ratio_floor :=
  (rRet (rOp foDivv (RefE.b (rFld CF "top" (rRd 0))) (RefE.b (rFld CF "bottom" (rRd 0)))))
theorem pd_Ratio_floor (ds : List Dt) (Qd : Dt → Prop) (h : sd_Ratio_floor ds Qd) : ds.length ≤ N_Ratio_floor.length ∧ a_Ratio_floor ⟨fun _ => Qd .non, Qd, fun _ => False, fun _ => False⟩ (vals ds ++ List.replicate (N_Ratio_floor.length - ds.length) .no) := by
  obtain ⟨p, q, rfl, ⟨q0, hp⟩, h⟩ := h
  refine ⟨Nat.le_of_ble_eq_true rfl, ?_⟩
  have pl : p.natAbs.log2 < 13000 := PySem.Flt.log2_lt_of (by decide) (Nat.lt_of_lt_of_le hp (Nat.pow_le_pow_right (by decide) (by decide)))
  walk_at "dg"
  exact ⟨⟨q0, .inr pl⟩, h⟩
abbrev sp_Ratio_floor (K : PySem.W.Frag) : Sp := spD K sd_Ratio_floor
theorem pure_Ratio_floor {K : PySem.W.Frag} (CF : ClsF CLr K) (vs : List V) (H : Hp) (Q : VK) (E : XK) (h : sp_Ratio_floor K vs H Q E) : t_Ratio_floor K { nx := fun _ H' => Q .non H', rt := Q } (L2.start N_Ratio_floor vs) H := fnD (Jx := fun _ _ _ _ => False) (r_Ratio_floor CF) h pd_Ratio_floor
def sd_Ratio_ceiling : DSp := fun ds Q => ∃ p q : Int, ds = [ratD p q] ∧ (q ≠ 0 ∧ p.natAbs < 2 ^ 6000) ∧ Q (.int (-((-p).fdiv q)))
abbrev N_Ratio_ceiling : List Str := ["self"]
def t_Ratio_ceiling (K : PySem.W.Frag) : TS :=
  (tRet (tUn rNegI (tOp rDivV (tUn rNegI (tFld K (tVar 0) "top")) (tFld K (tVar 0) "bottom"))))
def a_Ratio_ceiling : DS :=
  (dRet (dUn uNeg (dOp oDivv (dUn uNeg (dFld CLr (dRd 0) "top")) (dFld CLr (dRd 0) "bottom"))))
theorem r_Ratio_ceiling {K : PySem.W.Frag} {Jx : WX} {Xd : XD} (CF : ClsF CLr K) : RefS K Jx Xd (t_Ratio_ceiling K) a_Ratio_ceiling :=
  (rRet (rUn fuNeg (RefE.b (rOp foDivv (RefE.b (rUn fuNeg (RefE.b (rFld CF "top" (rRd 0))))) (RefE.b (rFld CF "bottom" (rRd 0)))))))
theorem pd_Ratio_ceiling (ds : List Dt) (Qd : Dt → Prop) (h : sd_Ratio_ceiling ds Qd) : ds.length ≤ N_Ratio_ceiling.length ∧ a_Ratio_ceiling ⟨fun _ => Qd .non, Qd, fun _ => False, fun _ => False⟩ (vals ds ++ List.replicate (N_Ratio_ceiling.length - ds.length) .no) := by
  obtain ⟨p, q, rfl, ⟨q0, hp⟩, h⟩ := h
  refine ⟨Nat.le_of_ble_eq_true rfl, ?_⟩
  have pl : (-p).natAbs.log2 < 13000 := PySem.Flt.log2_lt_of (by decide) (Nat.lt_of_lt_of_le (by rw [Int.natAbs_neg]; exact hp) (Nat.pow_le_pow_right (by decide) (by decide)))
  walk_at "dg"
  exact ⟨⟨q0, .inr pl⟩, h⟩
abbrev sp_Ratio_ceiling (K : PySem.W.Frag) : Sp := spD K sd_Ratio_ceiling
theorem pure_Ratio_ceiling {K : PySem.W.Frag} (CF : ClsF CLr K) (vs : List V) (H : Hp) (Q : VK) (E : XK) (h : sp_Ratio_ceiling K vs H Q E) : t_Ratio_ceiling K { nx := fun _ H' => Q .non H', rt := Q } (L2.start N_Ratio_ceiling vs) H := fnD (Jx := fun _ _ _ _ => False) (r_Ratio_ceiling CF) h pd_Ratio_ceiling

end
section

def sd_Ratio_repr : DSp := fun ds Q => ∃ p q : Int, ds = [ratD p q] ∧ (ratTxt p q).length ≤ 100000 ∧ Q (.str (("Ratio(" ++ ratTxt p q) ++ ")"))
abbrev N_Ratio_repr : List Str := ["self"]
def t_Ratio_repr (K : PySem.W.Frag) : TS :=
  (tRet (tJoined [(tC (.str "Ratio(")), (tFmt (tFld K (tVar 0) "text")), (tC (.str ")"))]))
def a_Ratio_repr : DS :=
  (dRet (dJoined [(dC (.str "Ratio(")), (dFmt (dFld CLr (dRd 0) "text")), (dC (.str ")"))]))
theorem r_Ratio_repr {K : PySem.W.Frag} {Jx : WX} {Xd : XD} (CF : ClsF CLr K) : RefS K Jx Xd (t_Ratio_repr K) a_Ratio_repr :=
  (rRet (rJoined (.cons (rStr' "Ratio(") (.cons (rFmt (rFld CF "text" (rRd 0))) (.cons (rStr' ")") .nil)))))
theorem pd_Ratio_repr (ds : List Dt) (Qd : Dt → Prop) (h : sd_Ratio_repr ds Qd) : ds.length ≤ N_Ratio_repr.length ∧ a_Ratio_repr ⟨fun _ => Qd .non, Qd, fun _ => False, fun _ => False⟩ (vals ds ++ List.replicate (N_Ratio_repr.length - ds.length) .no) := by
  obtain ⟨p, q, rfl, hl, h⟩ := h
  refine ⟨Nat.le_of_ble_eq_true rfl, ?_⟩
  have l1 : (Str.ofString "Ratio(").length = 6 := rfl
  have l2 : (Str.ofString ")").length = 1 := rfl
  walk_at "dl"
  rw [empty_app]
  refine ⟨by omega, ?_⟩
  walk_at "dl"
  refine ⟨rfl, ?_⟩
  walk_at "dl"
  refine ⟨by omega, ?_⟩
  walk_at "dl"
  refine ⟨by rw [app_len]; omega, ?_⟩
  walk_at "dl"
  exact ⟨by rw [app_len, app_len]; omega, h⟩
abbrev sp_Ratio_repr (K : PySem.W.Frag) : Sp := spD K sd_Ratio_repr
theorem pure_Ratio_repr {K : PySem.W.Frag} (CF : ClsF CLr K) (vs : List V) (H : Hp) (Q : VK) (E : XK) (h : sp_Ratio_repr K vs H Q E) : t_Ratio_repr K { nx := fun _ H' => Q .non H', rt := Q } (L2.start N_Ratio_repr vs) H := fnD (Jx := fun _ _ _ _ => False) (r_Ratio_repr CF) h pd_Ratio_repr

end
section

/-! ### replace of written texts; own operators with a number on the right; own -x; makers by keywords -/
def dRepl (y z : Str) (da : DE) : DE := fun ρ Q => da ρ fun x => match x with
  | .str a => a.length + (a.length + 1) * z.length ≤ 16777216 ∧ Q (.str (Txt.replace a y z))
  | _ => False
def oOwnN (C : Str) (sd : DSp) : DOp := fun x y Q => match x, y with
  | .obj D fs, .obj E gs => (D = C ∧ E = C) ∧ sd [.obj D fs, .obj E gs] Q
  | .obj D fs, .int i => D = C ∧ sd [.obj D fs, .int i] Q
  | _, _ => False
def oOwnC (C : Str) (sd : DSp) : DOp := fun x y Q => match x, y with
  | .obj D fs, .obj E gs => (D = C ∧ E = C) ∧ sd [.obj D fs, .obj E gs] Q
  | .obj D fs, .int i => D = C ∧ sd [.obj D fs, .int i] Q
  | .obj D fs, .str i => D = C ∧ sd [.obj D fs, .str i] Q
  | _, _ => False
def uNegO (C : Str) (sd : DSp) : DUn := fun x Q => match x with
  | .obj D fs => D = C ∧ sd [.obj D fs] Q
  | _ => False
def swp {α : Type} : List α → List α
  | [a, b] => [b, a]
  | l => l
def gVs (vs zs : List V) : List V := vs ++ swp zs
/-- C(k = e, l = f) -/
def dNewK (n : Nat) (sd : DSp) (dl : DA) : DE := fun ρ Q => dl ρ fun ds => ds.length = n ∧ sd (swp ds) Q
def RefUnE (K : PySem.W.Frag) (r : V → Hp → VK → Prop) (o : DUn) : Prop := ∀ W S H x d Qd Q, Ok K W S H → Dv K W (hd S H) x d → Cn K W S H Qd Q → o d Qd → r x H Q
theorem swp_dv {K : PySem.W.Frag} {W : Wd} {A : Hp} {vs : List V} {ds : List Dt} (h : DvA K W A vs ds) : DvA K W A (swp vs) (swp ds) := by
  cases h with
  | nil => exact .nil
  | cons a r =>
    cases r with
    | nil => exact .cons a .nil
    | cons b r =>
      cases r with
      | nil => exact .cons b (.cons a .nil)
      | cons c r => exact .cons a (.cons b (.cons c r))
theorem swp_vals {vs : List V} {us : List Value} (h : Vals vs us) : Vals (swp vs) (swp us) := by
  cases h with
  | nil => exact .nil
  | cons a r =>
    cases r with
    | nil => exact .cons a .nil
    | cons b r =>
      cases r with
      | nil => exact .cons b (.cons a .nil)
      | cons c r => exact .cons a (.cons b (.cons c r))
section
variable {K : PySem.W.Frag} {Jx : WX} {Xd : XD} {ta : TE} {da : DE}
theorem rRepl {y z : Str} (a : RefE K Jx Xd ta da) : RefE K Jx Xd (CwR.tReplC ta y z) (dRepl y z da) := fun W S0 H0 α H σ ρ Qd Q I c h =>
  a W S0 H0 α H σ ρ _ _ I (fun d v H1 q gg hv => by
    cases hv with
    | str s => exact ⟨s, rfl, q.1, (c.grow gg).now (I.ok.grow gg) q.2 (.str _)⟩
    | _ => exact q.elim) h
theorem rUnE {r : V → Hp → VK → Prop} {o : DUn} (ro : RefUnE K r o) (a : RefE K Jx Xd ta da) : RefE K Jx Xd (tUn r ta) (dUn o da) := fun W S0 H0 α H σ ρ Qd Q I c h =>
  a W S0 H0 α H σ ρ _ _ I (fun d v H1 q g hv => ro W _ H1 v d Qd Q (I.ok.grow g) hv (c.grow g) q) h
theorem foOwnN {sp : Sp} {sd : DSp} {C : Str} (hw : ∀ vs H Q, spD K sd vs H Q E0 → sp vs H Q E0) : RefOpE K (RM.rSelfN (He.ga K C) sp) (oOwnN C sd) := fun W S H x y d e Qd Q O hx hy c h => by
  match d, e, h, hx, hy with
  | .obj D fs, .obj E gs, h, hx, hy =>
    obtain ⟨⟨rfl, rfl⟩, q⟩ := h
    have hx' := hx
    have hy' := hy
    cases hx with
    | obj h1 h2 h3 =>
      cases hy with
      | obj k1 k2 k3 => exact ⟨_, _, _, rfl, (hd_get h1).2, .inl ⟨_, _, _, rfl, (hd_get k1).2⟩, hw _ H Q ⟨W, S, _, Qd, O, .cons hx' (.cons hy' .nil), q, c⟩⟩
  | .obj D fs, .int i, h, hx, hy =>
    obtain ⟨rfl, q⟩ := h
    have hx' := hx
    cases hy
    cases hx with
    | obj h1 h2 h3 => exact ⟨_, _, _, rfl, (hd_get h1).2, .inr ⟨i, rfl⟩, hw _ H Q ⟨W, S, _, Qd, O, .cons hx' (.cons (.int i) .nil), q, c⟩⟩
theorem foOwnC {sp : Sp} {sd : DSp} {C : Str} (hw : ∀ vs H Q, spD K sd vs H Q E0 → sp vs H Q E0) : RefOpE K (RM.rSelfC (He.ga K C) sp) (oOwnC C sd) := fun W S H x y d e Qd Q O hx hy c h => by
  match d, e, h, hx, hy with
  | .obj D fs, .obj E gs, h, hx, hy =>
    obtain ⟨⟨rfl, rfl⟩, q⟩ := h
    have hx' := hx
    have hy' := hy
    cases hx with
    | obj h1 h2 h3 =>
      cases hy with
      | obj k1 k2 k3 => exact ⟨_, _, _, rfl, (hd_get h1).2, .inl ⟨_, _, _, rfl, (hd_get k1).2⟩, hw _ H Q ⟨W, S, _, Qd, O, .cons hx' (.cons hy' .nil), q, c⟩⟩
  | .obj D fs, .int i, h, hx, hy =>
    obtain ⟨rfl, q⟩ := h
    have hx' := hx
    cases hy
    cases hx with
    | obj h1 h2 h3 => exact ⟨_, _, _, rfl, (hd_get h1).2, .inr (.inl ⟨i, rfl⟩), hw _ H Q ⟨W, S, _, Qd, O, .cons hx' (.cons (.int i) .nil), q, c⟩⟩
  | .obj D fs, .str i, h, hx, hy =>
    obtain ⟨rfl, q⟩ := h
    have hx' := hx
    cases hy
    cases hx with
    | obj h1 h2 h3 => exact ⟨_, _, _, rfl, (hd_get h1).2, .inr (.inr ⟨i, rfl⟩), hw _ H Q ⟨W, S, _, Qd, O, .cons hx' (.cons (.str i) .nil), q, c⟩⟩
theorem fuNegO {sp : Sp} {sd : DSp} {C : Str} (hw : ∀ vs H Q, spD K sd vs H Q E0 → sp vs H Q E0) : RefUnE K (RM.rNegO (He.ga K C) sp) (uNegO C sd) := fun W S H x d Qd Q O hx c h => by
  match d, h, hx with
  | .obj D fs, h, hx =>
    obtain ⟨rfl, q⟩ := h
    have hx' := hx
    cases hx with
    | obj h1 h2 h3 => exact ⟨_, _, _, rfl, (hd_get h1).2, hw _ H Q ⟨W, S, _, Qd, O, .cons hx' .nil, q, c⟩⟩
theorem rNewK {sp : Sp} {sd : DSp} {C : Str} {n : Nat} {t : TA} {dl : DA} (hw : ∀ vs H Q, spN K C sd vs H Q E0 → sp vs H Q E0) (b : RefA K Jx Xd t dl) : RefE K Jx Xd (RM.tNdk (He.ga K C) n sp gVs t) (dNewK n sd dl) := fun W S0 H0 α H σ ρ Qd Q I r h =>
  b W S0 H0 α H σ ρ _ _ I (fun ds vs H1 q g hs => ⟨hs.len.trans q.1, fun x dx hx hdx ne => by
    have O := I.ok.grow g
    have g1 : Gw K W H1 (upd H1 dx (.own x)) := .new g.bag hdx
    have hx' : upd H1 dx (HO.own x) x = none := by rw [upd_ne (Ne.symm ne)]; exact hx
    have g2 : Gw K W (upd H1 dx (.own x)) (upd (upd H1 dx (.own x)) x (.ins (He.ga K C) dx [])) := .new g1.bag hx'
    have O2 := O.grow (g1.trans g2)
    have nS := O.out hx
    have s0 : Same H1 (hd (fun a => a = x) (upd (upd H1 dx (.own x)) x (.ins (He.ga K C) dx []))) := fun a o e => by
      have n1 := ne_of_none e hx
      exact hd_at (by rw [upd_ne n1, upd_ne (ne_of_none e hdx)]; exact e) n1
    refine hw _ _ _ ⟨W, _, x, dx, swp vs, swp ds, Qd, rfl, upd_same, nS, O2, g.bag.same s0, swp_dv (hs.same fun a o e => ?_), q.2, fun d H' qd gg hd' => ⟨rfl, r d _ H' qd (g.trans ((Gw.of g.bag s0).trans gg)) hd'⟩⟩
    obtain ⟨e1, e2⟩ := hd_get e
    have n1 := ne_of_none e2 hx
    exact hd_at (by rw [upd_ne n1, upd_ne (ne_of_none e2 hdx)]; exact e2) fun z => z.elim e1 n1⟩) h
end

end
section

/-! ### texts: a sign, turned round, repeated, walked -/
def oIxS : DOp := fun x y Q => match x, y with
  | .str z, .int i => z.length ≤ 16777216 ∧ match atI z.cps.toList i with
    | some c => Q (.str ⟨#[c]⟩)
    | none => False
  | _, _ => False
def dRevS (da : DE) : DE := fun ρ Q => da ρ fun x => match x with
  | .str z => z.length ≤ 16777216 ∧ ∀ y : Str, y.length = z.length → Q (.str y)
  | _ => False
def oMulS : DOp := fun x y Q => match x, y with
  | .str z, .int n => (1 < n ∧ n < 2 ^ 40 ∧ 0 < z.length ∧ z.length * n.toNat ≤ 16777216) ∧ Q (.str (TR.repS z n.toNat))
  | _, _ => False
def signs (z : Str) : List Dt := z.cps.toList.map fun c => .str ⟨#[c]⟩
def jStr (da : DE) : DI := fun ρ Q => da ρ fun x => match x with
  | .str z => Q (signs z)
  | _ => False
/-- c in z, c one sign -/
def oInS : DOp := fun x y Q => match x, y with
  | .str a, .str z => ∃ c, a = ⟨#[c]⟩ ∧ Q (.bl (decide (c ∈ z.cps.toList)))
  | _, _ => False
def oNinS : DOp := fun x y Q => match x, y with
  | .str a, .str z => ∃ c, a = ⟨#[c]⟩ ∧ Q (.bl (!decide (c ∈ z.cps.toList)))
  | _, _ => False
section
variable {K : PySem.W.Frag} {Jx : WX} {Xd : XD} {ta : TE} {da : DE}
theorem foIxS : RefOp K (rIx K) oIxS := fun W S H x y d e Qd Q O hx hy c h => by
  match d, e, h, hx, hy with
  | .str z, .int i, h, hx, hy =>
    rw [shStr hx, shInt hy]
    obtain ⟨h1, h2⟩ := h
    cases e : atI z.cps.toList i with
    | none => rw [e] at h2; exact h2.elim
    | some k =>
      rw [e] at h2
      exact .inr (.inr ⟨z, i, k, rfl, rfl, by rw [sizeLine_eq]; exact h1, e, c.now O h2 (.str _)⟩)
theorem rRevS (a : RefE K Jx Xd ta da) : RefE K Jx Xd (TR.tRevS ta) (dRevS da) := fun W S0 H0 α H σ ρ Qd Q I c h =>
  a W S0 H0 α H σ ρ _ _ I (fun d v H1 q g hv => by
    cases hv with
    | str z => exact ⟨z, rfl, by rw [sizeLine_eq]; exact q.1, fun y hy => (c.grow g).now (I.ok.grow g) (q.2 y hy) (.str _)⟩
    | _ => exact q.elim) h
theorem foMulS : RefOp K TR.rMulS oMulS := fun W S H x y d e Qd Q O hx hy c h => by
  match d, e, h, hx, hy with
  | .str z, .int i, h, hx, hy =>
    rw [shStr hx, shInt hy]
    obtain ⟨⟨h1, h2, h3, h4⟩, h5⟩ := h
    exact ⟨z, i, rfl, rfl, h1, h2, h3, h4, c.now O h5 (.str _)⟩
abbrev rInS1 : R2 := fun x y H Q => ∃ (c : Nat) (z : Str), x = .str ⟨#[c]⟩ ∧ y = .str z ∧ Q (.bl (decide (c ∈ z.cps.toList))) H
abbrev rNInS1 : R2 := fun x y H Q => ∃ (c : Nat) (z : Str), x = .str ⟨#[c]⟩ ∧ y = .str z ∧ Q (.bl (!decide (c ∈ z.cps.toList))) H
theorem foInS : RefOp K rInS1 oInS := fun W S H x y d e Qd Q O hx hy c h => by
  match d, e, h, hx, hy with
  | .str z, .str i, h, hx, hy =>
    rw [shStr hx, shStr hy]
    obtain ⟨k, rfl, h5⟩ := h
    exact ⟨k, i, rfl, rfl, c.now O h5 (.bl _)⟩
theorem foNinS : RefOp K rNInS1 oNinS := fun W S H x y d e Qd Q O hx hy c h => by
  match d, e, h, hx, hy with
  | .str z, .str i, h, hx, hy =>
    rw [shStr hx, shStr hy]
    obtain ⟨k, rfl, h5⟩ := h
    exact ⟨k, i, rfl, rfl, c.now O h5 (.bl _)⟩
theorem riStr (a : RefE K Jx Xd ta da) : RefI K Jx Xd (iStr ta) (jStr da) := fun W S0 H0 α H σ ρ Qd R I c h =>
  a W S0 H0 α H σ ρ _ _ I (fun d v H1 q g hv => by
    cases hv with
    | str z =>
      refine ⟨z, rfl, c (signs z) _ H1 q g ⟨_, _, _, ?_, TR.walk_its, fun _ _ _ => trivial, fun S i H2 x H3 hi p kn y => ?_⟩⟩
      · unfold signs
        rw [List.length_map, Array.length_toList]
      · obtain ⟨rfl, k, hk, rfl⟩ := y
        refine ⟨⟨.str ⟨#[k]⟩, ?_, .str _⟩, .inl rfl⟩
        unfold signs
        rw [List.getElem?_map, Array.getElem?_toList, hk]
        rfl
    | _ => exact q.elim) h
end

end
section

/-! ### ratios: sums, products, compare -/
def lowD (p q : Int) : Dt := ratD (p.fdiv (shr p q)) (q.fdiv (shr p q))
theorem mul_bd {a b : Int} {m n k : Nat} (ha : a.natAbs < 2 ^ m) (hb : b.natAbs < 2 ^ n) (h : m + n ≤ k) : (a * b).natAbs < 2 ^ k := by
  rw [Int.natAbs_mul]
  refine Nat.lt_of_lt_of_le (Nat.mul_lt_mul'' ha hb) ?_
  rw [← Nat.pow_add]
  exact Nat.pow_le_pow_right (by decide) h
theorem add_bd {a b : Int} {n k : Nat} (ha : a.natAbs < 2 ^ n) (hb : b.natAbs < 2 ^ n) (h : n + 1 ≤ k) : (a + b).natAbs < 2 ^ k := by
  have e := Nat.pow_le_pow_right (n := 2) (by decide) h
  rw [Nat.pow_succ] at e
  omega
theorem sub_bd {a b : Int} {n k : Nat} (ha : a.natAbs < 2 ^ n) (hb : b.natAbs < 2 ^ n) (h : n + 1 ≤ k) : (a - b).natAbs < 2 ^ k := by
  have e := Nat.pow_le_pow_right (n := 2) (by decide) h
  rw [Nat.pow_succ] at e
  omega
theorem log_le {n k : Nat} (h : n < 2 ^ k) (hk : 0 < k) : n.log2 < k := PySem.Flt.log2_lt_of hk h
theorem cmul_of {a b : Int} {m n : Nat} (ha : a.natAbs < 2 ^ m) (hb : b.natAbs < 2 ^ n) (hm : 0 < m := by decide) (hn : 0 < n := by decide) (h : m + n ≤ 100000 := by decide) : cMul a b := .inr (by
  have h1 := log_le ha hm
  have h2 := log_le hb hn
  show a.natAbs.log2 + b.natAbs.log2 < 1000000
  omega)
theorem new_rat {p q : Int} {Q : Dt → Prop} (hq : q ≠ 0) (h1 : p.natAbs < 2 ^ 6000) (h2 : q.natAbs < 2 ^ 6000) (h : Q (lowD p q)) : sd_Ratio_init [.int p, .int q] Q fun _ => False :=
  ⟨p, q, rfl, ⟨h1, h2⟩, fun e => (hq e).elim, fun _ => h⟩
def sd_Ratio_add : DSp := fun ds Q => ∃ p q y r s, ds = [ratD p q, y] ∧ RatV (ratD p q) p q ∧ RatV y r s ∧ Q (lowD (p * s + r * q) (q * s))
abbrev N_Ratio_add : List Str := ["self", "other", "right"]
def t_Ratio_add (K : PySem.W.Frag) : TS :=
  (tSeq (tAsg (tCall (sp_as_ratio K) [] E0 (tCons (tVar 1) tNil)) (gName 2))
    (tRet (tNd (He.ga K "Ratio") (TY.spC (sp_Ratio_init K)) (tCons (tOp (rAddU K) (tOp rMulU (tFld K (tVar 0) "top") (tFld K (tVar 2) "bottom")) (tOp rMulU (tFld K (tVar 2) "top") (tFld K (tVar 0) "bottom"))) (tCons (tOp rMulU (tFld K (tVar 0) "bottom") (tFld K (tVar 2) "bottom")) tNil)))))
def a_Ratio_add : DS :=
  (dSeq (dAsg (dCall sd_as_ratio (dCons (dVar 1) dNil)) (gN 2))
    (dRet (dNew (cD sd_Ratio_init) (dCons (dOp oAdd (dOp oMul (dFld CLr (dRd 0) "top") (dFld CLr (dRd 2) "bottom")) (dOp oMul (dFld CLr (dRd 2) "top") (dFld CLr (dRd 0) "bottom"))) (dCons (dOp oMul (dFld CLr (dRd 0) "bottom") (dFld CLr (dRd 2) "bottom")) dNil)))))
theorem r_Ratio_add {K : PySem.W.Frag} {Jx : WX} {Xd : XD} (CF : ClsF CLr K) : RefS K Jx Xd (t_Ratio_add K) a_Ratio_add :=
  (rSeq (rAsg (rCall (fun _ _ _ h => h) (rCons (rVar 1) rNil)) (rgN 2))
    (rRet (rNew (fun _ _ _ h => calmNX h) (rCons (rOp foAdd (RefE.b (rOp foMul (RefE.b (rFld CF "top" (rRd 0))) (RefE.b (rFld CF "bottom" (rRd 2))))) (RefE.b (rOp foMul (RefE.b (rFld CF "top" (rRd 2))) (RefE.b (rFld CF "bottom" (rRd 0)))))) (rCons (rOp foMul (RefE.b (rFld CF "bottom" (rRd 0))) (RefE.b (rFld CF "bottom" (rRd 2)))) rNil)))))
theorem pd_Ratio_add (ds : List Dt) (Qd : Dt → Prop) (h : sd_Ratio_add ds Qd) : ds.length ≤ N_Ratio_add.length ∧ a_Ratio_add ⟨fun _ => Qd .non, Qd, fun _ => False, fun _ => False⟩ (vals ds ++ List.replicate (N_Ratio_add.length - ds.length) .no) := by
  obtain ⟨p, q, y, r, s, rfl, ⟨_, q0, hp, hq⟩, hy, h⟩ := h
  refine ⟨Nat.le_of_ble_eq_true rfl, ?_⟩
  walk_at "dg"
  refine ⟨y, r, s, rfl, hy, ?_⟩
  obtain ⟨_, s0, hr, hs⟩ := hy
  walk_at "dg"
  refine ⟨cmul_of hp hs, ?_⟩
  walk_at "dg"
  refine ⟨cmul_of hr hq, ?_⟩
  walk_at "dg"
  refine ⟨cmul_of hq hs, ?_⟩
  walk_at "dg"
  exact new_rat (Int.mul_ne_zero q0 s0) (add_bd (mul_bd hp hs (k := 4000) (by decide)) (mul_bd hr hq (by decide)) (by decide)) (mul_bd hq hs (by decide)) h
abbrev sp_Ratio_add (K : PySem.W.Frag) : Sp := spD K sd_Ratio_add
theorem pure_Ratio_add {K : PySem.W.Frag} (CF : ClsF CLr K) (vs : List V) (H : Hp) (Q : VK) (E : XK) (h : sp_Ratio_add K vs H Q E) : t_Ratio_add K { nx := fun _ H' => Q .non H', rt := Q } (L2.start N_Ratio_add vs) H := fnD (Jx := fun _ _ _ _ => False) (r_Ratio_add CF) h pd_Ratio_add
def sd_Ratio_sub : DSp := fun ds Q => ∃ p q y r s, ds = [ratD p q, y] ∧ RatV (ratD p q) p q ∧ RatV y r s ∧ Q (lowD (p * s - r * q) (q * s))
abbrev N_Ratio_sub : List Str := ["self", "other", "right"]
def t_Ratio_sub (K : PySem.W.Frag) : TS :=
  (tSeq (tAsg (tCall (sp_as_ratio K) [] E0 (tCons (tVar 1) tNil)) (gName 2))
    (tRet (tNd (He.ga K "Ratio") (TY.spC (sp_Ratio_init K)) (tCons (tOp rSubI (tOp rMulU (tFld K (tVar 0) "top") (tFld K (tVar 2) "bottom")) (tOp rMulU (tFld K (tVar 2) "top") (tFld K (tVar 0) "bottom"))) (tCons (tOp rMulU (tFld K (tVar 0) "bottom") (tFld K (tVar 2) "bottom")) tNil)))))
def a_Ratio_sub : DS :=
  (dSeq (dAsg (dCall sd_as_ratio (dCons (dVar 1) dNil)) (gN 2))
    (dRet (dNew (cD sd_Ratio_init) (dCons (dOp oSub (dOp oMul (dFld CLr (dRd 0) "top") (dFld CLr (dRd 2) "bottom")) (dOp oMul (dFld CLr (dRd 2) "top") (dFld CLr (dRd 0) "bottom"))) (dCons (dOp oMul (dFld CLr (dRd 0) "bottom") (dFld CLr (dRd 2) "bottom")) dNil)))))
theorem r_Ratio_sub {K : PySem.W.Frag} {Jx : WX} {Xd : XD} (CF : ClsF CLr K) : RefS K Jx Xd (t_Ratio_sub K) a_Ratio_sub :=
  (rSeq (rAsg (rCall (fun _ _ _ h => h) (rCons (rVar 1) rNil)) (rgN 2))
    (rRet (rNew (fun _ _ _ h => calmNX h) (rCons (rOp foSub (RefE.b (rOp foMul (RefE.b (rFld CF "top" (rRd 0))) (RefE.b (rFld CF "bottom" (rRd 2))))) (RefE.b (rOp foMul (RefE.b (rFld CF "top" (rRd 2))) (RefE.b (rFld CF "bottom" (rRd 0)))))) (rCons (rOp foMul (RefE.b (rFld CF "bottom" (rRd 0))) (RefE.b (rFld CF "bottom" (rRd 2)))) rNil)))))
theorem pd_Ratio_sub (ds : List Dt) (Qd : Dt → Prop) (h : sd_Ratio_sub ds Qd) : ds.length ≤ N_Ratio_sub.length ∧ a_Ratio_sub ⟨fun _ => Qd .non, Qd, fun _ => False, fun _ => False⟩ (vals ds ++ List.replicate (N_Ratio_sub.length - ds.length) .no) := by
  obtain ⟨p, q, y, r, s, rfl, ⟨_, q0, hp, hq⟩, hy, h⟩ := h
  refine ⟨Nat.le_of_ble_eq_true rfl, ?_⟩
  walk_at "dg"
  refine ⟨y, r, s, rfl, hy, ?_⟩
  obtain ⟨_, s0, hr, hs⟩ := hy
  walk_at "dg"
  refine ⟨cmul_of hp hs, ?_⟩
  walk_at "dg"
  refine ⟨cmul_of hr hq, ?_⟩
  walk_at "dg"
  refine ⟨cmul_of hq hs, ?_⟩
  walk_at "dg"
  exact new_rat (Int.mul_ne_zero q0 s0) (sub_bd (mul_bd hp hs (k := 4000) (by decide)) (mul_bd hr hq (by decide)) (by decide)) (mul_bd hq hs (by decide)) h
abbrev sp_Ratio_sub (K : PySem.W.Frag) : Sp := spD K sd_Ratio_sub
theorem pure_Ratio_sub {K : PySem.W.Frag} (CF : ClsF CLr K) (vs : List V) (H : Hp) (Q : VK) (E : XK) (h : sp_Ratio_sub K vs H Q E) : t_Ratio_sub K { nx := fun _ H' => Q .non H', rt := Q } (L2.start N_Ratio_sub vs) H := fnD (Jx := fun _ _ _ _ => False) (r_Ratio_sub CF) h pd_Ratio_sub
def sd_Ratio_mul : DSp := fun ds Q => ∃ p q y r s, ds = [ratD p q, y] ∧ RatV (ratD p q) p q ∧ RatV y r s ∧ Q (lowD (p * r) (q * s))
abbrev N_Ratio_mul : List Str := ["self", "other", "right"]
def t_Ratio_mul (K : PySem.W.Frag) : TS :=
  (tSeq (tAsg (tCall (sp_as_ratio K) [] E0 (tCons (tVar 1) tNil)) (gName 2))
    (tRet (tNd (He.ga K "Ratio") (TY.spC (sp_Ratio_init K)) (tCons (tOp rMulU (tFld K (tVar 0) "top") (tFld K (tVar 2) "top")) (tCons (tOp rMulU (tFld K (tVar 0) "bottom") (tFld K (tVar 2) "bottom")) tNil)))))
def a_Ratio_mul : DS :=
  (dSeq (dAsg (dCall sd_as_ratio (dCons (dVar 1) dNil)) (gN 2))
    (dRet (dNew (cD sd_Ratio_init) (dCons (dOp oMul (dFld CLr (dRd 0) "top") (dFld CLr (dRd 2) "top")) (dCons (dOp oMul (dFld CLr (dRd 0) "bottom") (dFld CLr (dRd 2) "bottom")) dNil)))))
theorem r_Ratio_mul {K : PySem.W.Frag} {Jx : WX} {Xd : XD} (CF : ClsF CLr K) : RefS K Jx Xd (t_Ratio_mul K) a_Ratio_mul :=
  (rSeq (rAsg (rCall (fun _ _ _ h => h) (rCons (rVar 1) rNil)) (rgN 2))
    (rRet (rNew (fun _ _ _ h => calmNX h) (rCons (rOp foMul (RefE.b (rFld CF "top" (rRd 0))) (RefE.b (rFld CF "top" (rRd 2)))) (rCons (rOp foMul (RefE.b (rFld CF "bottom" (rRd 0))) (RefE.b (rFld CF "bottom" (rRd 2)))) rNil)))))
theorem pd_Ratio_mul (ds : List Dt) (Qd : Dt → Prop) (h : sd_Ratio_mul ds Qd) : ds.length ≤ N_Ratio_mul.length ∧ a_Ratio_mul ⟨fun _ => Qd .non, Qd, fun _ => False, fun _ => False⟩ (vals ds ++ List.replicate (N_Ratio_mul.length - ds.length) .no) := by
  obtain ⟨p, q, y, r, s, rfl, ⟨_, q0, hp, hq⟩, hy, h⟩ := h
  refine ⟨Nat.le_of_ble_eq_true rfl, ?_⟩
  walk_at "dg"
  refine ⟨y, r, s, rfl, hy, ?_⟩
  obtain ⟨_, s0, hr, hs⟩ := hy
  walk_at "dg"
  refine ⟨cmul_of hp hr, ?_⟩
  walk_at "dg"
  refine ⟨cmul_of hq hs, ?_⟩
  walk_at "dg"
  exact new_rat (Int.mul_ne_zero q0 s0) (mul_bd hp hr (by decide)) (mul_bd hq hs (by decide)) h
abbrev sp_Ratio_mul (K : PySem.W.Frag) : Sp := spD K sd_Ratio_mul
theorem pure_Ratio_mul {K : PySem.W.Frag} (CF : ClsF CLr K) (vs : List V) (H : Hp) (Q : VK) (E : XK) (h : sp_Ratio_mul K vs H Q E) : t_Ratio_mul K { nx := fun _ H' => Q .non H', rt := Q } (L2.start N_Ratio_mul vs) H := fnD (Jx := fun _ _ _ _ => False) (r_Ratio_mul CF) h pd_Ratio_mul
def sd_Ratio_neg : DSp := fun ds Q => ∃ p q, ds = [ratD p q] ∧ RatV (ratD p q) p q ∧ Q (lowD (-p) q)
abbrev N_Ratio_neg : List Str := ["self"]
def t_Ratio_neg (K : PySem.W.Frag) : TS :=
  (tRet (tNd (He.ga K "Ratio") (TY.spC (sp_Ratio_init K)) (tCons (tUn rNegI (tFld K (tVar 0) "top")) (tCons (tFld K (tVar 0) "bottom") tNil))))
def a_Ratio_neg : DS :=
  (dRet (dNew (cD sd_Ratio_init) (dCons (dUn uNeg (dFld CLr (dRd 0) "top")) (dCons (dFld CLr (dRd 0) "bottom") dNil))))
theorem r_Ratio_neg {K : PySem.W.Frag} {Jx : WX} {Xd : XD} (CF : ClsF CLr K) : RefS K Jx Xd (t_Ratio_neg K) a_Ratio_neg :=
  (rRet (rNew (fun _ _ _ h => calmNX h) (rCons (rUn fuNeg (RefE.b (rFld CF "top" (rRd 0)))) (rCons (rFld CF "bottom" (rRd 0)) rNil))))
theorem pd_Ratio_neg (ds : List Dt) (Qd : Dt → Prop) (h : sd_Ratio_neg ds Qd) : ds.length ≤ N_Ratio_neg.length ∧ a_Ratio_neg ⟨fun _ => Qd .non, Qd, fun _ => False, fun _ => False⟩ (vals ds ++ List.replicate (N_Ratio_neg.length - ds.length) .no) := by
  obtain ⟨p, q, rfl, ⟨_, q0, hp, hq⟩, h⟩ := h
  refine ⟨Nat.le_of_ble_eq_true rfl, ?_⟩
  walk_at "dg"
  exact new_rat q0 (by rw [Int.natAbs_neg]; exact Nat.lt_of_lt_of_le hp (Nat.pow_le_pow_right (by decide) (by decide))) (Nat.lt_of_lt_of_le hq (Nat.pow_le_pow_right (by decide) (by decide))) h
abbrev sp_Ratio_neg (K : PySem.W.Frag) : Sp := spD K sd_Ratio_neg
theorem pure_Ratio_neg {K : PySem.W.Frag} (CF : ClsF CLr K) (vs : List V) (H : Hp) (Q : VK) (E : XK) (h : sp_Ratio_neg K vs H Q E) : t_Ratio_neg K { nx := fun _ H' => Q .non H', rt := Q } (L2.start N_Ratio_neg vs) H := fnD (Jx := fun _ _ _ _ => False) (r_Ratio_neg CF) h pd_Ratio_neg
def sgn (d : Int) : Int := if d = 0 then 0 else if d > 0 then 1 else -1
def sd_Ratio_compare : DSp := fun ds Q => ∃ p q y r s, ds = [ratD p q, y] ∧ RatV (ratD p q) p q ∧ RatV y r s ∧ Q (.int (sgn (p * s - r * q)))
abbrev N_Ratio_compare : List Str := ["self", "other", "right", "lead"]
def t_Ratio_compare (K : PySem.W.Frag) : TS :=
  (tSeq (tAsg (tCall (sp_as_ratio K) [] E0 (tCons (tVar 1) tNil)) (gName 2))
    (tSeq (tAsg (tOp rSubI (tOp rMulU (tFld K (tVar 0) "top") (tFld K (tVar 2) "bottom")) (tOp rMulU (tFld K (tVar 2) "top") (tFld K (tVar 0) "bottom"))) (gName 3))
    (tSeq (tIfS (tTest (tOp (rEqU K) (tVar 3) (tC (.int 0)))) (tRet (tC (.int 0))) tNext)
    (tRet (tIf (tTest (tOp rGtI (tVar 3) (tC (.int 0)))) (tC (.int 1)) (tUn rNegI (tC (.int 1))))))))
def a_Ratio_compare : DS :=
  (dSeq (dAsg (dCall sd_as_ratio (dCons (dVar 1) dNil)) (gN 2))
    (dSeq (dAsg (dOp oSub (dOp oMul (dFld CLr (dRd 0) "top") (dFld CLr (dRd 2) "bottom")) (dOp oMul (dFld CLr (dRd 2) "top") (dFld CLr (dRd 0) "bottom"))) (gN 3))
    (dSeq (dIfS (dTest (dOp oEq (dRd 3) (dC (.int 0)))) (dRet (dC (.int 0))) dNext)
    (dRet (dIf (dTest (dOp oGt (dRd 3) (dC (.int 0)))) (dC (.int 1)) (dUn uNeg (dC (.int 1))))))))
theorem r_Ratio_compare {K : PySem.W.Frag} {Jx : WX} {Xd : XD} (CF : ClsF CLr K) : RefS K Jx Xd (t_Ratio_compare K) a_Ratio_compare :=
  (rSeq (rAsg (rCall (fun _ _ _ h => h) (rCons (rVar 1) rNil)) (rgN 2))
    (rSeq (rAsg (rOp foSub (RefE.b (rOp foMul (RefE.b (rFld CF "top" (rRd 0))) (RefE.b (rFld CF "bottom" (rRd 2))))) (RefE.b (rOp foMul (RefE.b (rFld CF "top" (rRd 2))) (RefE.b (rFld CF "bottom" (rRd 0)))))) (rgN 3))
    (rSeq (rIfS (rTest (rOp foEq (rRd 3) (RefE.b (rInt 0)))) (rRet (rInt 0)) rNext)
    (rRet (rIf (rTest (rOp foGt (rRd 3) (RefE.b (rInt 0)))) (rInt 1) (rUn fuNeg (RefE.b (rInt 1))))))))
theorem pd_Ratio_compare (ds : List Dt) (Qd : Dt → Prop) (h : sd_Ratio_compare ds Qd) : ds.length ≤ N_Ratio_compare.length ∧ a_Ratio_compare ⟨fun _ => Qd .non, Qd, fun _ => False, fun _ => False⟩ (vals ds ++ List.replicate (N_Ratio_compare.length - ds.length) .no) := by
  obtain ⟨p, q, y, r, s, rfl, ⟨_, q0, hp, hq⟩, hy, h⟩ := h
  refine ⟨Nat.le_of_ble_eq_true rfl, ?_⟩
  walk_at "dg"
  refine ⟨y, r, s, rfl, hy, ?_⟩
  obtain ⟨_, s0, hr, hs⟩ := hy
  walk_at "dg"
  refine ⟨cmul_of hp hs, ?_⟩
  walk_at "dg"
  refine ⟨cmul_of hr hq, ?_⟩
  walk_at "dg"
  refine ⟨fun c => ?_, fun c => ?_⟩
  · walk_at "dg"
    have e : sgn (p * s - r * q) = 0 := if_pos (of_decide_eq_true c)
    rw [e] at h
    exact h
  · walk_at "dg"
    have n := of_decide_eq_false c
    refine ⟨fun c => ?_, fun c => ?_⟩
    · have e : sgn (p * s - r * q) = 1 := (if_neg n).trans (if_pos (of_decide_eq_true c))
      rw [e] at h
      exact h
    · walk_at "dg"
      have e : sgn (p * s - r * q) = -1 := (if_neg n).trans (if_neg (of_decide_eq_false c))
      rw [e] at h
      exact h
abbrev sp_Ratio_compare (K : PySem.W.Frag) : Sp := spD K sd_Ratio_compare
theorem pure_Ratio_compare {K : PySem.W.Frag} (CF : ClsF CLr K) (vs : List V) (H : Hp) (Q : VK) (E : XK) (h : sp_Ratio_compare K vs H Q E) : t_Ratio_compare K { nx := fun _ H' => Q .non H', rt := Q } (L2.start N_Ratio_compare vs) H := fnD (Jx := fun _ _ _ _ => False) (r_Ratio_compare CF) h pd_Ratio_compare
def sd_Ratio_eq : DSp := fun ds Q => ∃ p q y, ds = [ratD p q, y] ∧ ((∃ r s, y = ratD r s ∧ Q (.bl (decide (p = r ∧ q = s)))) ∨ (∃ r, y = .int r ∧ Q (.bl false)) ∨ ∃ r, y = .str r ∧ Q (.bl false))
abbrev N_Ratio_eq : List Str := ["self", "other"]
def t_Ratio_eq (K : PySem.W.Frag) : TS :=
  (tRet (tAndV (tCB (rIsiU K) (tCons (tVar 1) (tCons (tC (.ref (He.ga K "Ratio"))) tNil))) (tAndV (tOp (rEqU K) (tFld K (tVar 0) "top") (tFld K (tVar 1) "top")) (tOp (rEqU K) (tFld K (tVar 0) "bottom") (tFld K (tVar 1) "bottom")))))
def a_Ratio_eq : DS :=
  (dRet (dAndV (dCB (cIsi CLr) (dCons (dRd 1) (dCons (dC (.cls "Ratio")) dNil))) (dAndV (dOp oEq (dFld CLr (dRd 0) "top") (dFld CLr (dRd 1) "top")) (dOp oEq (dFld CLr (dRd 0) "bottom") (dFld CLr (dRd 1) "bottom")))))
theorem r_Ratio_eq {K : PySem.W.Frag} {Jx : WX} {Xd : XD} (CF : ClsF CLr K) : RefS K Jx Xd (t_Ratio_eq K) a_Ratio_eq :=
  (rRet (rAndV (rCB (fcIsi CF) (rConsX (rRd 1) (rConsX (RefE.b (rCls "Ratio")) rNilX))) (rAndV (rOp foEq (RefE.b (rFld CF "top" (rRd 0))) (RefE.b (rFld CF "top" (rRd 1)))) (rOp foEq (RefE.b (rFld CF "bottom" (rRd 0))) (RefE.b (rFld CF "bottom" (rRd 1)))))))
theorem pd_Ratio_eq (ds : List Dt) (Qd : Dt → Prop) (h : sd_Ratio_eq ds Qd) : ds.length ≤ N_Ratio_eq.length ∧ a_Ratio_eq ⟨fun _ => Qd .non, Qd, fun _ => False, fun _ => False⟩ (vals ds ++ List.replicate (N_Ratio_eq.length - ds.length) .no) := by
  obtain ⟨p, q, y, rfl, ⟨r, s, rfl, h⟩ | ⟨r, rfl, h⟩ | ⟨r, rfl, h⟩⟩ := h
  · refine ⟨Nat.le_of_ble_eq_true rfl, ?_⟩
    walk_at "dg"
    refine ⟨fun _ => ?_, fun c => (nomatch c)⟩
    walk_at "dg"
    refine ⟨fun c1 => ?_, fun c1 => ?_⟩
    · walk_at "dg"
      have e : decide (p = r ∧ q = s) = decide (q = s) := by
        have c2 := of_decide_eq_true c1
        simp [c2]
      rw [e] at h
      exact h
    · have e : decide (p = r ∧ q = s) = false := by
        have c2 := of_decide_eq_false c1
        simp [c2]
      rw [e] at h
      exact h
  · refine ⟨Nat.le_of_ble_eq_true rfl, ?_⟩
    walk_at "dg"
    exact ⟨fun c => (nomatch c), fun _ => h⟩
  · refine ⟨Nat.le_of_ble_eq_true rfl, ?_⟩
    walk_at "dg"
    exact ⟨fun c => (nomatch c), fun _ => h⟩
abbrev sp_Ratio_eq (K : PySem.W.Frag) : Sp := spD K sd_Ratio_eq
theorem pure_Ratio_eq {K : PySem.W.Frag} (CF : ClsF CLr K) (vs : List V) (H : Hp) (Q : VK) (E : XK) (h : sp_Ratio_eq K vs H Q E) : t_Ratio_eq K { nx := fun _ H' => Q .non H', rt := Q } (L2.start N_Ratio_eq vs) H := fnD (Jx := fun _ _ _ _ => False) (r_Ratio_eq CF) h pd_Ratio_eq

end
section

/-! ### a value is like itself -/
mutual
theorem free_pyD : ∀ d : Dt, dictFree (pyD d) = true
  | .non => rfl
  | .bl _ => rfl
  | .int _ => rfl
  | .str _ => rfl
  | .ty _ => rfl
  | .cls _ => rfl
  | .bag => rfl
  | .lst l => free_pyAll l
  | .tup l => free_pyAll l
  | .obj _ _ => rfl
  | .err _ _ => rfl
  | .dk _ => rfl
theorem free_pyAll : ∀ l : List Dt, dictFreeAll (pyAll l) = true
  | [] => rfl
  | d :: r => by
    show (dictFree (pyD d) && dictFreeAll (pyAll r)) = true
    rw [free_pyD d, free_pyAll r]
    rfl
end
theorem like_same {n : Nat} {x : Dt} {Qd : Dt → Prop} (p : plain x = true) (f : fit n (pyD x)) (q : Qd (.bl true)) : sd_law_like n [x, x] Qd := ⟨⟨p, p, f⟩, by
  have e : like (pyD x) (pyD x) = true := like_refl _ (fun kvs z => by cases x <;> cases z) (free_pyD x)
  rw [e]
  exact q⟩

end
section

/-! ### the law's pairs: gcd, lowest terms, texts -/
def sd_law_gcd : DSp := fun ds Q => ∃ a b : Int, ds = [.int a, .int b] ∧ Q (.int (Int.gcd a b))
abbrev N_law_gcd : List Str := ["a", "b"]
def t_law_gcd (K : PySem.W.Frag) : TS :=
  (tSeq (tPar 0 1 (tCons (tCB rAbs (tCons (tVar 0) tNil)) (tCons (tCB rAbs (tCons (tVar 1) tNil)) tNil)))
    (tSeq (tWhile (tTest (tOp rGtI (tVar 1) (tC (.int 0))))
    (tPar 0 1 (tCons (tVar 1) (tCons (tOp rModU (tCB rInt1 (tCons (tVar 0) tNil)) (tVar 1)) tNil))))
    (tRet (tVar 0))))
def a_law_gcd : DS :=
  (dSeq (dPar [0, 1] (pVal (dCB (c1 uAbs) (dCons (dRd 0) dNil)) (pVal (dCB (c1 uAbs) (dCons (dRd 1) dNil)) pNil)))
    (dSeq (dWhile (dTest (dOp oGt (dRd 1) (dC (.int 0))))
    (dPar [0, 1] (pVal (dVar 1) (pVal (dOp oMod (dCB (c1 uInt1) (dCons (dRd 0) dNil)) (dRd 1)) pNil))))
    (dRet (dVar 0))))
theorem r_law_gcd {K : PySem.W.Frag} {Jx : WX} {Xd : XD} : RefS K Jx Xd (t_law_gcd K) a_law_gcd :=
  (rSeq (rPar2 (rpVal (rCB fcAbs (rConsX (rRd 0) rNilX)) (rpVal (rCB fcAbs (rConsX (rRd 1) rNilX)) rpNil)))
    (rSeq (rWhile (rTest (rOp foGt (rRd 1) (RefE.b (rInt 0))))
    (rPar2 (rpVal (rVar 1) (rpVal (rOp foMod (RefE.b (rCB fcInt1 (rConsX (rRd 0) rNilX))) (rRd 1)) rpNil))))
    (rRet (rVar 0))))
theorem abs_if (a : Int) : (if a < 0 then -a else a) = ((a.natAbs : Nat) : Int) := by split <;> omega
theorem pd_law_gcd (ds : List Dt) (Qd : Dt → Prop) (h : sd_law_gcd ds Qd) : ds.length ≤ N_law_gcd.length ∧ a_law_gcd ⟨fun _ => Qd .non, Qd, fun _ => False, fun _ => False⟩ (vals ds ++ List.replicate (N_law_gcd.length - ds.length) .no) := by
  obtain ⟨a, b, rfl, h⟩ := h
  refine ⟨Nat.le_of_ble_eq_true rfl, ?_⟩
  walk_at "dg"
  rw [abs_if, abs_if]
  refine wh_inv (fun m ρ => ∃ x y : Nat, m = y ∧ ρ = [.val (.int (x : Nat)), .val (.int (y : Nat))] ∧ Nat.gcd x y = Int.gcd a b) b.natAbs ⟨_, _, rfl, rfl, rfl⟩ ?_
  rintro m ρ P ⟨x, y, rfl, rfl, e⟩ hP
  walk_at "dg"
  refine ⟨fun c => ?_, fun c => ?_⟩
  · have c' := of_decide_eq_true c
    walk_at "dg"
    have y0 : 0 < m := by omega
    refine ⟨by omega, ?_⟩
    walk_at "dg"
    have em : (x : Int).fmod (m : Nat) = ((x % m : Nat) : Int) := by rw [Int.fmod_eq_emod_of_nonneg _ (by omega)]; rfl
    refine hP (x % m) _ (Nat.mod_lt _ y0) ⟨m, x % m, rfl, ?_, ?_⟩
    · rw [← em]
      rfl
    · rw [Nat.gcd_comm m, ← Nat.gcd_rec, Nat.gcd_comm, e]
  · have c' := of_decide_eq_false c
    walk_at "dg"
    have y0 : m = 0 := by omega
    subst y0
    rw [Nat.gcd_zero_right] at e
    rw [e]
    exact h
abbrev sp_law_gcd (K : PySem.W.Frag) : Sp := spD K sd_law_gcd
theorem pure_law_gcd {K : PySem.W.Frag} (vs : List V) (H : Hp) (Q : VK) (E : XK) (h : sp_law_gcd K vs H Q E) : t_law_gcd K { nx := fun _ H' => Q .non H', rt := Q } (L2.start N_law_gcd vs) H := fnD (Jx := fun _ _ _ _ => False) (r_law_gcd) h pd_law_gcd
def sd_law_low : DSp := fun ds Q => ∃ p q : Int, ds = [.int p, .int q] ∧ q ≠ 0 ∧ q.natAbs < 2 ^ 8000 ∧ Q (.tup [.int (p.fdiv (shr p q)), .int (q.fdiv (shr p q))])
abbrev N_law_low : List Str := ["up", "down", "g"]
def t_law_low (K : PySem.W.Frag) : TS :=
  (tSeq (tAsg (tCall (sp_law_gcd K) [] E0 (tCons (tVar 0) (tCons (tVar 1) tNil))) (gName 2))
    (tMid (tIfS (tTest (tOp rLtI (tVar 1) (tC (.int 0)))) (tAsg (tOp rSubI (tC (.int 0)) (tVar 2)) (gName 2)) tNext)
    (tRet (tTup (tCons (tOp rDivV (tVar 0) (tVar 2)) (tCons (tOp rDivV (tVar 1) (tVar 2)) tNil))))))
def a_law_low : DS :=
  (dSeq (dAsg (dCall sd_law_gcd (dCons (dVar 0) (dCons (dVar 1) dNil))) (gN 2))
    (dMid (dIfS (dTest (dOp oLt (dRd 1) (dC (.int 0)))) (dAsg (dOp oSub (dC (.int 0)) (dRd 2)) (gN 2)) dNext)
    (dRet (dTup (dCons (dOp oDivv (dRd 0) (dRd 2)) (dCons (dOp oDivv (dRd 1) (dRd 2)) dNil))))))
theorem r_law_low {K : PySem.W.Frag} {Jx : WX} {Xd : XD} : RefS K Jx Xd (t_law_low K) a_law_low :=
  (rSeq (rAsg (rCall (fun _ _ _ h => h) (rCons (rVar 0) (rCons (rVar 1) rNil))) (rgN 2))
    (rMid (rIfS (rTest (rOp foLt (rRd 1) (RefE.b (rInt 0)))) (rAsg (rOp foSub (RefE.b (rInt 0)) (rRd 2)) (rgN 2)) rNext)
    (rRet (rTup (rCons (rOp foDivv (rRd 0) (rRd 2)) (rCons (rOp foDivv (rRd 1) (rRd 2)) rNil))))))
theorem shr_ne {p q : Int} (h : q ≠ 0) : shr p q ≠ 0 := by
  have g0 : 0 < Int.gcd p q := Nat.pos_of_ne_zero fun z => h (Int.gcd_eq_zero_iff.mp z).2
  unfold shr
  split <;> omega
theorem shr_abs (p q : Int) : (shr p q).natAbs = Int.gcd p q := by
  unfold shr
  split <;> omega
theorem shr_log {p q : Int} (h : q ≠ 0) (hq : q.natAbs < 2 ^ 8000) : (shr p q).natAbs.log2 < 9000 := by
  refine log_le (Nat.lt_of_le_of_lt ?_ (Nat.lt_of_lt_of_le hq (Nat.pow_le_pow_right (by decide) (by decide)))) (by decide)
  rw [shr_abs]
  exact Nat.le_of_dvd (by omega) (Nat.gcd_dvd_right _ _)
theorem pd_law_low (ds : List Dt) (Qd : Dt → Prop) (h : sd_law_low ds Qd) : ds.length ≤ N_law_low.length ∧ a_law_low ⟨fun _ => Qd .non, Qd, fun _ => False, fun _ => False⟩ (vals ds ++ List.replicate (N_law_low.length - ds.length) .no) := by
  obtain ⟨p, q, rfl, q0, hq, h⟩ := h
  refine ⟨Nat.le_of_ble_eq_true rfl, ?_⟩
  have s0 := shr_ne (p := p) q0
  have sl := shr_log (p := p) q0 hq
  walk_at "dg"
  refine ⟨p, q, rfl, ?_⟩
  refine ⟨fun ρ => ρ = [.val (.int p), .val (.int q), .val (.int (shr p q))], ?_, ?_⟩
  · walk_at "dg"
    refine ⟨fun c => ?_, fun c => ?_⟩
    · walk_at "dg"
      have : shr p q = 0 - (Int.gcd p q : Int) := (if_pos (of_decide_eq_true c)).trans (by omega)
      rw [this]
      rfl
    · walk_at "dg"
      have : shr p q = (Int.gcd p q : Int) := if_neg (of_decide_eq_false c)
      rw [this]
      rfl
  · rintro ρ rfl
    walk_at "dg"
    refine ⟨⟨s0, .inl sl⟩, ?_⟩
    walk_at "dg"
    refine ⟨⟨s0, .inl sl⟩, ?_⟩
    walk_at "dg"
    exact h
abbrev sp_law_low (K : PySem.W.Frag) : Sp := spD K sd_law_low
theorem pure_law_low {K : PySem.W.Frag} (vs : List V) (H : Hp) (Q : VK) (E : XK) (h : sp_law_low K vs H Q E) : t_law_low K { nx := fun _ H' => Q .non H', rt := Q } (L2.start N_law_low vs) H := fnD (Jx := fun _ _ _ _ => False) (r_law_low) h pd_law_low
def sd_law_text : DSp := fun ds Q => ∃ p q : Int, ds = [.tup [.int p, .int q]] ∧ (p.natAbs < 2 ^ 1900 ∧ q.natAbs < 2 ^ 1900) ∧ Q (.str (ratTxt p q))
abbrev N_law_text : List Str := ["x"]
def t_law_text (K : PySem.W.Frag) : TS :=
  (tRet (tIf (tTest (tOp (rEqU K) (tOp (rIx K) (tVar 0) (tC (.int 1))) (tC (.int 1)))) (tCB rStr (tCons (tOp (rIx K) (tVar 0) (tC (.int 0))) tNil)) (tOp (rAddU K) (tOp (rAddU K) (tCB rStr (tCons (tOp (rIx K) (tVar 0) (tC (.int 0))) tNil)) (tC (.str "/"))) (tCB rStr (tCons (tOp (rIx K) (tVar 0) (tC (.int 1))) tNil)))))
def a_law_text : DS :=
  (dRet (dIf (dTest (dOp oEq (dOp oIx (dRd 0) (dC (.int 1))) (dC (.int 1)))) (dCB (c1 uStr) (dCons (dOp oIx (dRd 0) (dC (.int 0))) dNil)) (dOp oAdd (dOp oAdd (dCB (c1 uStr) (dCons (dOp oIx (dRd 0) (dC (.int 0))) dNil)) (dC (.str "/"))) (dCB (c1 uStr) (dCons (dOp oIx (dRd 0) (dC (.int 1))) dNil)))))
theorem r_law_text {K : PySem.W.Frag} {Jx : WX} {Xd : XD} : RefS K Jx Xd (t_law_text K) a_law_text :=
  (rRet (rIf (rTest (rOp foEq (RefE.b (rOp foIx (rRd 0) (RefE.b (rInt 1)))) (RefE.b (rInt 1)))) (rCB fcStr (rConsX (RefE.b (rOp foIx (rRd 0) (RefE.b (rInt 0)))) rNilX)) (rOp foAdd (RefE.b (rOp foAdd (RefE.b (rCB fcStr (rConsX (RefE.b (rOp foIx (rRd 0) (RefE.b (rInt 0)))) rNilX))) (RefE.b (rStr' "/")))) (RefE.b (rCB fcStr (rConsX (RefE.b (rOp foIx (rRd 0) (RefE.b (rInt 1)))) rNilX))))))
theorem txt_len {v : Int} (h : v.natAbs < 2 ^ 1900) : (Str.ofString (toString v)).length ≤ 12891 := int_len (Nat.lt_of_lt_of_le h (Nat.pow_le_pow_right (by decide) (by decide)))
theorem pd_law_text (ds : List Dt) (Qd : Dt → Prop) (h : sd_law_text ds Qd) : ds.length ≤ N_law_text.length ∧ a_law_text ⟨fun _ => Qd .non, Qd, fun _ => False, fun _ => False⟩ (vals ds ++ List.replicate (N_law_text.length - ds.length) .no) := by
  obtain ⟨p, q, rfl, ⟨hp, hq⟩, h⟩ := h
  refine ⟨Nat.le_of_ble_eq_true rfl, ?_⟩
  have lp : p.natAbs.log2 < 1920 := log_le (Nat.lt_of_lt_of_le hp (Nat.pow_le_pow_right (by decide) (by decide))) (by decide)
  have lq : q.natAbs.log2 < 1920 := log_le (Nat.lt_of_lt_of_le hq (Nat.pow_le_pow_right (by decide) (by decide))) (by decide)
  have l1 := txt_len hp
  have l2 := txt_len hq
  have l3 : (Str.ofString "/").length = 1 := rfl
  walk_at "dg"
  refine ⟨fun c => ?_, fun c => ?_⟩
  · walk_at "dg"
    refine ⟨lp, ?_⟩
    have e : ratTxt p q = Str.ofString (toString p) := if_pos (of_decide_eq_true c)
    rw [e] at h
    exact h
  · walk_at "dg"
    refine ⟨lp, ?_⟩
    walk_at "dg"
    refine ⟨by omega, ?_⟩
    walk_at "dg"
    refine ⟨lq, ?_⟩
    walk_at "dg"
    have e : ratTxt p q = (Str.ofString (toString p) ++ "/") ++ Str.ofString (toString q) := if_neg (of_decide_eq_false c)
    rw [e] at h
    exact ⟨by rw [app_len]; omega, h⟩
abbrev sp_law_text (K : PySem.W.Frag) : Sp := spD K sd_law_text
theorem pure_law_text {K : PySem.W.Frag} (vs : List V) (H : Hp) (Q : VK) (E : XK) (h : sp_law_text K vs H Q E) : t_law_text K { nx := fun _ H' => Q .non H', rt := Q } (L2.start N_law_text vs) H := fnD (Jx := fun _ _ _ _ => False) (r_law_text) h pd_law_text
def sd_law_is : DSp := fun ds Q => ∃ p q : Int, ds = [ratD p q, .tup [.int p, .int q]] ∧ (p.natAbs < 2 ^ 1900 ∧ q.natAbs < 2 ^ 1900) ∧ Q (.bl true)
abbrev N_law_is : List Str := ["told", "x"]
def t_law_is (K : PySem.W.Frag) : TS :=
  (tSeq (tIfS (tNot (tB (tCB (rIsiU K) (tCons (tVar 0) (tCons (tC (.ref (He.ga K "Ratio"))) tNil))))) (tRet (tC (.bl false))) tNext)
    (tRet (tCall (sp_law_like K 12) [] E0 (tCons (tLst (tCons (tFld K (tVar 0) "top") (tCons (tFld K (tVar 0) "bottom") (tCons (tFld K (tVar 0) "text") (tCons (tCB (rReprO (He.ga K "Ratio") (sp_Ratio_repr K)) (tCons (tVar 0) tNil)) tNil))))) (tCons (tLst (tCons (tOp (rIx K) (tVar 1) (tC (.int 0))) (tCons (tOp (rIx K) (tVar 1) (tC (.int 1))) (tCons (tCall (sp_law_text K) [] E0 (tCons (tVar 1) tNil)) (tCons (tOp (rAddU K) (tOp (rAddU K) (tC (.str "Ratio(")) (tCall (sp_law_text K) [] E0 (tCons (tVar 1) tNil))) (tC (.str ")"))) tNil))))) tNil)))))
def a_law_is : DS :=
  (dSeq (dIfS (dNot (dTest (dCB (cIsi CLr) (dCons (dRd 0) (dCons (dC (.cls "Ratio")) dNil))))) (dRet (dC (.bl false))) dNext)
    (dRet (dCall (sd_law_like 12) (dCons (dLst (dCons (dFld CLr (dRd 0) "top") (dCons (dFld CLr (dRd 0) "bottom") (dCons (dFld CLr (dRd 0) "text") (dCons (dReprO "Ratio" sd_Ratio_repr (dVar 0)) dNil))))) (dCons (dLst (dCons (dOp oIx (dRd 1) (dC (.int 0))) (dCons (dOp oIx (dRd 1) (dC (.int 1))) (dCons (dCall sd_law_text (dCons (dVar 1) dNil)) (dCons (dOp oAdd (dOp oAdd (dC (.str "Ratio(")) (dCall sd_law_text (dCons (dVar 1) dNil))) (dC (.str ")"))) dNil))))) dNil)))))
theorem r_law_is {K : PySem.W.Frag} {Jx : WX} {Xd : XD} (CF : ClsF CLr K) : RefS K Jx Xd (t_law_is K) a_law_is :=
  (rSeq (rIfS (rNot (rB (rCB (fcIsi CF) (rConsX (rRd 0) (rConsX (RefE.b (rCls "Ratio")) rNilX))))) (rRet (rBl false)) rNext)
    (rRet (rCall hw_law_like (rCons (rLst (rCons (rFld CF "top" (rRd 0)) (rCons (rFld CF "bottom" (rRd 0)) (rCons (rFld CF "text" (rRd 0)) (rCons (rReprO' (fun _ _ _ h => h) (rVar 0)) rNil))))) (rCons (rLst (rCons (rOp foIx (rRd 1) (RefE.b (rInt 0))) (rCons (rOp foIx (rRd 1) (RefE.b (rInt 1))) (rCons (rCall (fun _ _ _ h => h) (rCons (rVar 1) rNil)) (rCons (rOp foAdd (RefE.b (rOp foAdd (RefE.b (rStr' "Ratio(")) (RefE.b (rCall (fun _ _ _ h => h) (rCons (rVar 1) rNil))))) (RefE.b (rStr' ")"))) rNil))))) rNil)))))
theorem ratTxt_len {p q : Int} (hp : p.natAbs < 2 ^ 1900) (hq : q.natAbs < 2 ^ 1900) : (ratTxt p q).length ≤ 30000 := by
  have l1 := txt_len hp
  have l2 := txt_len hq
  have l3 : (Str.ofString "/").length = 1 := rfl
  unfold ratTxt
  split
  · omega
  · rw [app_len, app_len]; omega
theorem pd_law_is (ds : List Dt) (Qd : Dt → Prop) (h : sd_law_is ds Qd) : ds.length ≤ N_law_is.length ∧ a_law_is ⟨fun _ => Qd .non, Qd, fun _ => False, fun _ => False⟩ (vals ds ++ List.replicate (N_law_is.length - ds.length) .no) := by
  obtain ⟨p, q, rfl, ⟨hp, hq⟩, h⟩ := h
  refine ⟨Nat.le_of_ble_eq_true rfl, ?_⟩
  have l := ratTxt_len hp hq
  have l4 : (Str.ofString "Ratio(").length = 6 := rfl
  have l5 : (Str.ofString ")").length = 1 := rfl
  walk_at "dg"
  refine ⟨fun c => (nomatch c), fun _ => ?_⟩
  walk_at "dg"
  refine ⟨p, q, rfl, by omega, ?_⟩
  walk_at "dg"
  refine ⟨p, q, rfl, ⟨hp, hq⟩, ?_⟩
  walk_at "dg"
  refine ⟨p, q, rfl, ⟨hp, hq⟩, ?_⟩
  walk_at "dg"
  refine ⟨by omega, ?_⟩
  walk_at "dg"
  refine ⟨by rw [app_len]; omega, ?_⟩
  walk_at "dg"
  exact like_same (n := 12) rfl ⟨Nat.le_of_ble_eq_true rfl, fun x hx => by
    have hx' : x ∈ [PyData.int p, .int q, .str (ratTxt p q), .str (("Ratio(" ++ ratTxt p q) ++ ")")] := hx
    simp only [List.mem_cons, List.not_mem_nil, or_false] at hx'
    rcases hx' with rfl | rfl | rfl | rfl <;> trivial⟩ h
abbrev sp_law_is (K : PySem.W.Frag) : Sp := spD K sd_law_is
theorem pure_law_is {K : PySem.W.Frag} (CF : ClsF CLr K) (vs : List V) (H : Hp) (Q : VK) (E : XK) (h : sp_law_is K vs H Q E) : t_law_is K { nx := fun _ H' => Q .non H', rt := Q } (L2.start N_law_is vs) H := fnD (Jx := fun _ _ _ _ => False) (r_law_is CF) h pd_law_is

end
section

/-! ### lowest terms: plain -/
/-- in lowest terms, the bottom above 0 -/
def Low (p q : Int) : Prop := 0 < q ∧ Int.gcd p q = 1
theorem shr_dvd_l (p q : Int) : shr p q ∣ p := by
  unfold shr
  split
  · exact Int.neg_dvd.mpr (Int.gcd_dvd_left ..)
  · exact Int.gcd_dvd_left ..
theorem shr_dvd_r (p q : Int) : shr p q ∣ q := by
  unfold shr
  split
  · exact Int.neg_dvd.mpr (Int.gcd_dvd_right ..)
  · exact Int.gcd_dvd_right ..
theorem gcd_pos {p q : Int} (h : q ≠ 0) : 0 < Int.gcd p q := Nat.pos_of_ne_zero fun z => h (Int.gcd_eq_zero_iff.mp z).2
theorem shr_n0 {p q : Int} (h : q ≠ 0) : shr p q ≠ 0 := by
  have g0 := gcd_pos (p := p) h
  unfold shr
  split <;> omega
/-- p and q are the lowest terms times what is divided out -/
theorem low_mul {p q : Int} (h : q ≠ 0) : p = shr p q * p.fdiv (shr p q) ∧ q = shr p q * q.fdiv (shr p q) := by
  have s0 := shr_n0 (p := p) h
  constructor
  · obtain ⟨k, hk⟩ := shr_dvd_l p q
    have e : p.fdiv (shr p q) = k := by
      conv => lhs; arg 1; rw [hk]
      rw [Int.mul_comm]
      exact Int.mul_fdiv_cancel _ s0
    rw [e]
    exact hk
  · obtain ⟨k, hk⟩ := shr_dvd_r p q
    have e : q.fdiv (shr p q) = k := by
      conv => lhs; arg 1; rw [hk]
      rw [Int.mul_comm]
      exact Int.mul_fdiv_cancel _ s0
    rw [e]
    exact hk
theorem low_low {p q : Int} (h : q ≠ 0) : Low (p.fdiv (shr p q)) (q.fdiv (shr p q)) := by
  obtain ⟨e1, e2⟩ := low_mul (p := p) h
  have g0 := gcd_pos (p := p) h
  have s0 := shr_n0 (p := p) h
  have sa : (shr p q).natAbs = Int.gcd p q := by
    unfold shr
    split <;> omega
  generalize hP : p.fdiv (shr p q) = P at e1
  generalize hQ : q.fdiv (shr p q) = Q at e2
  constructor
  · by_cases c : q < 0
    · have hs : shr p q < 0 := by
        unfold shr
        rw [if_pos c]
        omega
      apply Classical.byContradiction
      intro n
      have : 0 ≤ shr p q * Q := Int.mul_nonneg_of_nonpos_of_nonpos (by omega) (by omega)
      omega
    · have hs : 0 < shr p q := by
        unfold shr
        rw [if_neg c]
        omega
      apply Classical.byContradiction
      intro n
      have : shr p q * Q ≤ 0 := Int.mul_nonpos_of_nonneg_of_nonpos (by omega) (by omega)
      omega
  · have e : Int.gcd p q = (shr p q).natAbs * Int.gcd P Q := by
      rw [← Int.gcd_mul_left, ← e1, ← e2]
    rw [sa] at e
    have : Int.gcd p q * Int.gcd P Q = Int.gcd p q * 1 := by rw [← e, Nat.mul_one]
    exact Nat.eq_of_mul_eq_mul_left g0 this
theorem dvd_cop {q p s : Int} (h : q ∣ p * s) (g : Int.gcd p q = 1) : q ∣ s := by
  have a := Int.natAbs_dvd_natAbs.mpr h
  rw [Int.natAbs_mul] at a
  have c : Nat.Coprime q.natAbs p.natAbs := by
    show Nat.gcd _ _ = 1
    rw [Nat.gcd_comm]
    exact g
  exact Int.natAbs_dvd_natAbs.mp (c.dvd_of_dvd_mul_left a)
/-- lowest terms are told by the cross products -/
theorem low_uniq {p q r s : Int} (h1 : Low p q) (h2 : Low r s) (e : p * s = r * q) : p = r ∧ q = s := by
  obtain ⟨q0, g1⟩ := h1
  obtain ⟨s0, g2⟩ := h2
  have d1 : q ∣ s := by
    have : q ∣ p * s := by rw [e]; exact Int.dvd_mul_left ..
    exact dvd_cop this g1
  have d2 : s ∣ q := by
    have : s ∣ r * q := by rw [← e]; exact Int.dvd_mul_left ..
    exact dvd_cop this g2
  have eq : q = s := Int.dvd_antisymm (by omega) (by omega) d1 d2
  subst eq
  exact ⟨Int.eq_of_mul_eq_mul_right (by omega) e, rfl⟩
theorem low_self {p q : Int} (h : Low p q) : p.fdiv (shr p q) = p ∧ q.fdiv (shr p q) = q := by
  have e : shr p q = 1 := by
    unfold shr
    rw [if_neg (by have := h.1; omega), h.2]
    rfl
  rw [e, Int.fdiv_one, Int.fdiv_one]
  exact ⟨rfl, rfl⟩
/-- two ways to write one fraction have the same lowest terms -/
theorem low_same {p q r s : Int} (hq : q ≠ 0) (hs : s ≠ 0) (e : p * s = r * q) : p.fdiv (shr p q) = r.fdiv (shr r s) ∧ q.fdiv (shr p q) = s.fdiv (shr r s) := by
  refine low_uniq (low_low hq) (low_low hs) ?_
  obtain ⟨a1, a2⟩ := low_mul (p := p) hq
  obtain ⟨b1, b2⟩ := low_mul (p := r) hs
  have n1 := shr_n0 (p := p) hq
  have n2 := shr_n0 (p := r) hs
  generalize p.fdiv (shr p q) = P at *
  generalize q.fdiv (shr p q) = Q at *
  generalize r.fdiv (shr r s) = R at *
  generalize s.fdiv (shr r s) = S at *
  generalize shr p q = x at *
  generalize shr r s = y at *
  subst a1 a2 b1 b2
  have e' : (x * y) * (P * S) = (x * y) * (R * Q) := by
    have l : (x * y) * (P * S) = x * P * (y * S) := by
      rw [Int.mul_assoc, Int.mul_assoc, Int.mul_left_comm y]
    have r : (x * y) * (R * Q) = y * R * (x * Q) := by
      rw [Int.mul_comm x y, Int.mul_assoc, Int.mul_assoc, Int.mul_left_comm x]
    rw [l, r, e]
  exact Int.eq_of_mul_eq_mul_left (Int.mul_ne_zero n1 n2) e'
theorem low_eq_self {p q r s : Int} (hq : q ≠ 0) (h : Low r s) (e : p * s = r * q) : p.fdiv (shr p q) = r ∧ q.fdiv (shr p q) = s := by
  have a := low_same hq (show s ≠ 0 by have := h.1; omega) e
  have b := low_self h
  rw [b.1, b.2] at a
  exact a
theorem low_bd {p q : Int} {n : Nat} (hq : q ≠ 0) : (p.fdiv (shr p q)).natAbs ≤ p.natAbs ∧ (q.fdiv (shr p q)).natAbs ≤ q.natAbs := by
  obtain ⟨a1, a2⟩ := low_mul (p := p) hq
  have n1 := shr_n0 (p := p) hq
  have k : ∀ x : Int, x.natAbs ≤ (shr p q * x).natAbs := fun x => by
    rw [Int.natAbs_mul]
    exact Nat.le_mul_of_pos_left _ (by omega)
  have k1 := k (p.fdiv (shr p q))
  have k2 := k (q.fdiv (shr p q))
  rw [← a1] at k1
  rw [← a2] at k2
  exact ⟨k1, k2⟩
/-- (x + y) - y -/
theorem low_back {p q r s : Int} (h : Low p q) (hs : s ≠ 0) :
    let t := p * s + r * q
    let u := q * s
    let P := t.fdiv (shr t u)
    let Q := u.fdiv (shr t u)
    (P * s - r * Q).fdiv (shr (P * s - r * Q) (Q * s)) = p ∧ (Q * s).fdiv (shr (P * s - r * Q) (Q * s)) = q := by
  intro t u P Q
  have q0 : q ≠ 0 := by have := h.1; omega
  have u0 : u ≠ 0 := Int.mul_ne_zero q0 hs
  obtain ⟨a1, a2⟩ := low_mul (p := t) u0
  have n1 := shr_n0 (p := t) u0
  have lq := (low_low (p := t) u0).1
  have Q0 : Q ≠ 0 := by
    show u.fdiv (shr t u) ≠ 0
    omega
  refine low_eq_self (Int.mul_ne_zero Q0 hs) h ?_
  have f1 : t = shr t u * P := a1
  have f2 : u = shr t u * Q := a2
  -- times what is divided out
  have key : shr t u * ((P * s - r * Q) * q) = shr t u * (p * (Q * s)) := by
    have l : shr t u * ((P * s - r * Q) * q) = (shr t u * P) * (s * q) - (r * q) * (shr t u * Q) := by
      generalize shr t u = x
      rw [Int.sub_mul, Int.mul_sub]
      congr 1
      · simp only [Int.mul_assoc]
      · rw [Int.mul_comm (r * q), Int.mul_comm r Q]
        simp only [Int.mul_assoc]
    have rr : shr t u * (p * (Q * s)) = (p * s) * (shr t u * Q) := by
      generalize shr t u = x
      rw [Int.mul_comm (p * s)]
      simp only [Int.mul_assoc]
      rw [Int.mul_left_comm p Q s]
    rw [l, rr, ← f1, ← f2]
    show (p * s + r * q) * (s * q) - (r * q) * (q * s) = (p * s) * (q * s)
    rw [Int.mul_comm s q, Int.add_mul]
    omega
  exact Int.eq_of_mul_eq_mul_left n1 key

end
section

/-! ### the laws' own helpers within an except suite: of scalars -/
def hsc : Dt → Bool
  | .non => true
  | .bl _ => true
  | .int _ => true
  | .str _ => true
  | _ => false
def sd_hot_law_int : DSp := fun ds Q => ∃ x, ds = [x] ∧ hsc x = true ∧ Q (.bl (isInt (pyD x)))
def th_law_int (K : PySem.W.Frag) : TS :=
  (tRet (tAndV (tCB (rIsiU K) (tCons (tVar 0) (tCons (tC (.ty "int")) tNil))) (tNotV (tCB (rIsiU K) (tCons (tVar 0) (tCons (tC (.ty "bool")) tNil))))))
def ah_law_int : DS :=
  (dRet (dAndV (dCB (cIsi CLr) (dCons (dRd 0) (dCons (dC (.ty "int")) dNil))) (dNotV (dCB (cIsi CLr) (dCons (dRd 0) (dCons (dC (.ty "bool")) dNil))))))
theorem rh_law_int {K : PySem.W.Frag} {Jx : WX} {Xd : XD} (CF : ClsF CLr K) : RefS K Jx Xd (th_law_int K) ah_law_int :=
  (rRet (rAndV (rCB (fcIsi CF) (rConsX (rRd 0) (rConsX (RefE.b (rTy "int")) rNilX))) (rNotV (rCB (fcIsi CF) (rConsX (rRd 0) (rConsX (RefE.b (rTy "bool")) rNilX))))))
theorem pdh_law_int (ds : List Dt) (Qd : Dt → Prop) (h : sd_hot_law_int ds Qd) : ds.length ≤ N_law_int.length ∧ ah_law_int ⟨fun _ => Qd .non, Qd, fun _ => False, fun _ => False⟩ (vals ds ++ List.replicate (N_law_int.length - ds.length) .no) := by
  obtain ⟨x, rfl, hx, h⟩ := h
  refine ⟨Nat.le_of_ble_eq_true rfl, ?_⟩
  cases x with
  | non =>
    walk_at "dl"
    exact ⟨fun z => (nomatch z), fun _ => h⟩
  | bl b =>
    walk_at "dl"
    refine ⟨fun _ => ?_, fun z => (nomatch z)⟩
    walk_at "dl"
    exact h
  | int i =>
    walk_at "dl"
    refine ⟨fun _ => ?_, fun z => (nomatch z)⟩
    walk_at "dl"
    exact h
  | str z =>
    walk_at "dl"
    exact ⟨fun z => (nomatch z), fun _ => h⟩
  | _ => cases hx
abbrev sp_hot_law_int (K : PySem.W.Frag) : Sp := spD K sd_hot_law_int
theorem pureh_law_int {K : PySem.W.Frag} (CF : ClsF CLr K) (vs : List V) (H : Hp) (Q : VK) (E : XK) (h : sp_hot_law_int K vs H Q E) : th_law_int K { nx := fun _ H' => Q .non H', rt := Q } (L2.start N_law_int vs) H := fnD (Jx := fun _ _ _ _ => False) (rh_law_int CF) h pdh_law_int
def sd_hot_law_like : DSp := fun ds Q => ∃ x y, ds = [x, y] ∧ (hsc x = true ∧ hsc y = true) ∧ Q (.bl (like (pyD x) (pyD y)))
def th_law_like (K : PySem.W.Frag) : TS :=
  (tSeq (tIfS (tTest (tOp rIsN (tVar 1) (tC .non))) (tRet (tOp rIsN (tVar 0) (tC .non))) tNext)
    (tSeq (tIfS (tB (tCB (rIsiU K) (tCons (tVar 1) (tCons (tC (.ty "bool")) tNil)))) (tRet (tAndV (tCB (rIsiU K) (tCons (tVar 0) (tCons (tC (.ty "bool")) tNil))) (tOp (rEqU K) (tVar 0) (tVar 1)))) tNext)
    (tSeq (tIfS (tB (tCallS (sp_hot_law_int K) (fun _ => E0) (tCons (tVar 1) tNil))) (tRet (tAndV (tCallS (sp_hot_law_int K) (fun _ => E0) (tCons (tVar 0) tNil)) (tOp (rEqU K) (tVar 0) (tVar 1)))) tNext)
    (tSeq (tIfS (tB (tCB (rIsiU K) (tCons (tVar 1) (tCons (tC (.ty "str")) tNil)))) (tRet (tAndV (tCB (rIsiU K) (tCons (tVar 0) (tCons (tC (.ty "str")) tNil))) (tOp (rEqU K) (tVar 0) (tVar 1)))) tNext)
    tBotS))))
def ah_law_like : DS :=
  (dSeq (dIfS (dTest (dOp oIs (dRd 1) (dC .non))) (dRet (dOp oIs (dRd 0) (dC .non))) dNext)
    (dSeq (dIfS (dTest (dCB (cIsi CLr) (dCons (dRd 1) (dCons (dC (.ty "bool")) dNil)))) (dRet (dAndV (dCB (cIsi CLr) (dCons (dRd 0) (dCons (dC (.ty "bool")) dNil))) (dOp oEq (dRd 0) (dRd 1)))) dNext)
    (dSeq (dIfS (dTest (dCall sd_hot_law_int (dCons (dVar 1) dNil))) (dRet (dAndV (dCall sd_hot_law_int (dCons (dVar 0) dNil)) (dOp oEq (dRd 0) (dRd 1)))) dNext)
    (dSeq (dIfS (dTest (dCB (cIsi CLr) (dCons (dRd 1) (dCons (dC (.ty "str")) dNil)))) (dRet (dAndV (dCB (cIsi CLr) (dCons (dRd 0) (dCons (dC (.ty "str")) dNil))) (dOp oEq (dRd 0) (dRd 1)))) dNext)
    dBot))))
theorem rh_law_like {K : PySem.W.Frag} {Jx : WX} {Xd : XD} (CF : ClsF CLr K) : RefS K Jx Xd (th_law_like K) ah_law_like :=
  (rSeq (rIfS (rTest (rOp foIs (rRd 1) (RefE.b rNon))) (rRet (rOp foIs (rRd 0) (RefE.b rNon))) rNext)
    (rSeq (rIfS (rB (rCB (fcIsi CF) (rConsX (rRd 1) (rConsX (RefE.b (rTy "bool")) rNilX)))) (rRet (rAndV (rCB (fcIsi CF) (rConsX (rRd 0) (rConsX (RefE.b (rTy "bool")) rNilX))) (rOp foEq (rRd 0) (rRd 1)))) rNext)
    (rSeq (rIfS (rB (rHfd (fun _ _ _ h => h) (rCons (rVar 1) rNil))) (rRet (rAndV (rHfd (fun _ _ _ h => h) (rCons (rVar 0) rNil)) (rOp foEq (rRd 0) (rRd 1)))) rNext)
    (rSeq (rIfS (rB (rCB (fcIsi CF) (rConsX (rRd 1) (rConsX (RefE.b (rTy "str")) rNilX)))) (rRet (rAndV (rCB (fcIsi CF) (rConsX (rRd 0) (rConsX (RefE.b (rTy "str")) rNilX))) (rOp foEq (rRd 0) (rRd 1)))) rNext)
    rBot))))
theorem pdh_law_like (ds : List Dt) (Qd : Dt → Prop) (h : sd_hot_law_like ds Qd) : ds.length ≤ N_law_like.length ∧ ah_law_like ⟨fun _ => Qd .non, Qd, fun _ => False, fun _ => False⟩ (vals ds ++ List.replicate (N_law_like.length - ds.length) .no) := by
  obtain ⟨x, y, rfl, ⟨hx, hy⟩, h⟩ := h
  refine ⟨Nat.le_of_ble_eq_true rfl, ?_⟩
  cases y with
  | non =>
    walk_at "dl"
    refine ⟨fun _ => ?_, fun z => (nomatch z)⟩
    walk_at "dl"
    cases x <;> first | exact h | cases hx
  | bl b =>
    walk_at "dl"
    refine ⟨fun z => (nomatch z), fun _ => ?_⟩
    walk_at "dl"
    refine ⟨fun _ => ?_, fun z => (nomatch z)⟩
    cases x with
    | bl a =>
      walk_at "dl"
      refine ⟨fun _ => ?_, fun z => (nomatch z)⟩
      walk_at "dl"
      exact h
    | non => walk_at "dl"; exact ⟨fun z => (nomatch z), fun _ => h⟩
    | int a => walk_at "dl"; exact ⟨fun z => (nomatch z), fun _ => h⟩
    | str a => walk_at "dl"; exact ⟨fun z => (nomatch z), fun _ => h⟩
    | _ => cases hx
  | int b =>
    walk_at "dl"
    refine ⟨fun z => (nomatch z), fun _ => ?_⟩
    walk_at "dl"
    refine ⟨fun z => (nomatch z), fun _ => ?_⟩
    walk_at "dl"
    refine ⟨_, rfl, rfl, ?_⟩
    refine ⟨fun _ => ?_, fun z => (nomatch z)⟩
    walk_at "dl"
    refine ⟨x, rfl, hx, ?_⟩
    cases x with
    | int a =>
      refine ⟨fun _ => ?_, fun z => (nomatch z)⟩
      walk_at "dl"
      exact h
    | non => exact ⟨fun z => (nomatch z), fun _ => h⟩
    | bl a => exact ⟨fun z => (nomatch z), fun _ => h⟩
    | str a => exact ⟨fun z => (nomatch z), fun _ => h⟩
    | _ => cases hx
  | str b =>
    walk_at "dl"
    refine ⟨fun z => (nomatch z), fun _ => ?_⟩
    walk_at "dl"
    refine ⟨fun z => (nomatch z), fun _ => ?_⟩
    walk_at "dl"
    refine ⟨_, rfl, rfl, ?_⟩
    refine ⟨fun z => (nomatch z), fun _ => ?_⟩
    walk_at "dl"
    refine ⟨fun _ => ?_, fun z => (nomatch z)⟩
    cases x with
    | str a =>
      walk_at "dl"
      refine ⟨fun _ => ?_, fun z => (nomatch z)⟩
      walk_at "dl"
      exact h
    | non => walk_at "dl"; exact ⟨fun z => (nomatch z), fun _ => h⟩
    | bl a => walk_at "dl"; exact ⟨fun z => (nomatch z), fun _ => h⟩
    | int a => walk_at "dl"; exact ⟨fun z => (nomatch z), fun _ => h⟩
    | _ => cases hx
  | _ => cases hy
abbrev sp_hot_law_like (K : PySem.W.Frag) : Sp := spD K sd_hot_law_like
theorem pureh_law_like {K : PySem.W.Frag} (CF : ClsF CLr K) (vs : List V) (H : Hp) (Q : VK) (E : XK) (h : sp_hot_law_like K vs H Q E) : th_law_like K { nx := fun _ H' => Q .non H', rt := Q } (L2.start N_law_like vs) H := fnD (Jx := fun _ _ _ _ => False) (rh_law_like CF) h pdh_law_like


end
section

def sd_law_zero_refused : DSp := fun ds Q => ∃ p : Int, ds = [.int p] ∧ p.natAbs < 2 ^ 6000 ∧ Q (.bl true)
abbrev N_law_zero_refused : List Str := ["up", "told", "e"]
def t_law_zero_refused (K : PySem.W.Frag) : TS :=
  (tMid (TY.tTry K TY.J0 (fun Jy => (tAsg (TY.tNdx (He.ga K "Ratio") (sp_Ratio_init K) [] Jy (tCons (tVar 0) (tCons (tC (.int 0)) tNil))) (gName 1))) [⟨.ref (He.ga K "InvalidNumber"), some 2, fun a cls d => (tRet (tCallS (sp_hot_law_like K) (fun _ => E0) (tCons (tXf a cls d (He.ga K "InvalidNumber") "value" (tVar 2)) (tCons (tC (.int 0)) tNil))))⟩])
    (tRet (tOp rIsN (tVar 1) (tC .non))))
def a_law_zero_refused : DS :=
  (dMid (dTry xm X0 (fun Xe => (dAsg (dCallX Xe sd_Ratio_init (dCons (dVar 0) (dCons (dC (.int 0)) dNil))) (gN 1))) [⟨"InvalidNumber", some 2, fun a dd C => (dRet (dCall sd_hot_law_like (dCons (dXf a dd C "InvalidNumber" 2 "value") (dCons (dC (.int 0)) dNil))))⟩])
    (dRet (dOp oIs (dRd 1) (dC .non))))
theorem r_law_zero_refused {K : PySem.W.Frag} {Jx : WX} {Xd : XD} (XM : XmOk K xm) : RefS K Jx Xd (t_law_zero_refused K) a_law_zero_refused :=
  (rMid (rTry0 XM (fun Jy Xe => (rAsg (rNdx (fun _ _ _ _ h => h) (rCons (rVar 0) (rCons (rInt 0) rNil))) (rgN 1))) (.cons rfl rfl (fun a dd C => (rRet (rHfd (fun _ _ _ h => h) (rCons rXf (rCons (rInt 0) rNil))))) .nil))
    (rRet (rOp foIs (rRd 1) (RefE.b rNon))))
theorem pd_law_zero_refused (ds : List Dt) (Qd : Dt → Prop) (h : sd_law_zero_refused ds Qd) : ds.length ≤ N_law_zero_refused.length ∧ a_law_zero_refused ⟨fun _ => Qd .non, Qd, fun _ => False, fun _ => False⟩ (vals ds ++ List.replicate (N_law_zero_refused.length - ds.length) .no) := by
  obtain ⟨p, rfl, hp, q⟩ := h
  refine ⟨Nat.le_of_ble_eq_true rfl, ?_⟩
  walk_at "dl"
  refine ⟨fun _ => False, ?_, fun _ z => z.elim⟩
  walk_at "dl"
  refine ⟨p, 0, rfl, ⟨hp, by decide⟩, fun _ => ?_, fun z => absurd rfl z⟩
  refine ⟨true, rfl, fun _ a dd => ?_, fun z => (nomatch z)⟩
  walk_at "dl"
  refine ⟨rfl, _, _, rfl, rfl, ?_⟩
  walk_at "dl"
  exact ⟨_, _, rfl, ⟨rfl, rfl⟩, q⟩
abbrev sp_law_zero_refused (K : PySem.W.Frag) : Sp := spD K sd_law_zero_refused
theorem pure_law_zero_refused {K : PySem.W.Frag} (XM : XmOk K xm) (vs : List V) (H : Hp) (Q : VK) (E : XK) (h : sp_law_zero_refused K vs H Q E) : t_law_zero_refused K { nx := fun _ H' => Q .non H', rt := Q } (L2.start N_law_zero_refused vs) H := fnD (Jx := fun _ _ _ _ => False) (r_law_zero_refused XM) h pd_law_zero_refused

end
section

/-! ### the law: drawn numbers, two ratios, floor and ceiling -/
local macro_rules | `(tactic| walk_at "pw") => `(tactic| (refine ⟨⟨by decide, by decide, by decide⟩, ?_⟩; walk_at "dg"))
theorem e12 : (10 : Int) ^ Int.toNat 12 = 1000000000000 := by decide
theorem far_bd {d v : Int} (h0 : 0 ≤ d) (h1 : d < 10 ^ Int.toNat 12 ∨ d = 0) (hv : Dt.int v ∈ [Dt.int 1, .int (10 ^ Int.toNat 18), .int (10 ^ Int.toNat 48), .int (10 ^ Int.toNat 54 * 10 ^ Int.toNat 54)]) : ((d + 1) * v).natAbs < 2 ^ 400 ∧ (v ≠ 0) ∧ 0 ≤ v := by
  have hd : (d + 1).natAbs < 2 ^ 40 := by
    have e : (2 : Nat) ^ 40 = 1099511627776 := by decide
    rw [e]
    rw [e12] at h1
    omega
  simp only [List.mem_cons, List.not_mem_nil, or_false, Dt.int.injEq] at hv
  have hb : v.natAbs < 2 ^ 359 ∧ v ≠ 0 ∧ 0 ≤ v := by
    rcases hv with rfl | rfl | rfl | rfl <;> exact ⟨by decide, by decide, by decide⟩
  exact ⟨mul_bd hd hb.1 (by decide), hb.2⟩
def sd_law_up : DSp := fun ds Q => ds = [.bag] ∧ ∀ p : Int, p.natAbs < 2 ^ 400 → Q (.int p)
abbrev N_law_up : List Str := ["bag", "far"]
def t_law_up (K : PySem.W.Frag) : TS :=
  (tSeq (tAsg (tOp rMulU (tOp (rAddU K) (tCall (sp_law_draw K) [] E0 (tCons (tVar 0) (tCons (tOp rPowU (tC (.int 10)) (tC (.int 12))) tNil))) (tC (.int 1))) (tCall (sp_law_of K) [] E0 (tCons (tVar 0) (tCons (tLst (tCons (tC (.int 1)) (tCons (tOp rPowU (tC (.int 10)) (tC (.int 18))) (tCons (tOp rPowU (tC (.int 10)) (tC (.int 48))) (tCons (tOp rMulU (tOp rPowU (tC (.int 10)) (tC (.int 54))) (tOp rPowU (tC (.int 10)) (tC (.int 54)))) tNil))))) tNil)))) (gName 1))
    (tRet (tCall (sp_law_of K) [] E0 (tCons (tVar 0) (tCons (tLst (tCons (tC (.int 0)) (tCons (tC (.int 1)) (tCons (tUn rNegI (tC (.int 1))) (tCons (tC (.int 2)) (tCons (tC (.int 3)) (tCons (tUn rNegI (tC (.int 4))) (tCons (tC (.int 6)) (tCons (tOp rSubI (tCall (sp_law_draw K) [] E0 (tCons (tVar 0) (tCons (tC (.int 101)) tNil))) (tC (.int 50))) (tCons (tVar 1) (tCons (tOp rSubI (tC (.int 0)) (tVar 1)) (tCons (tOp rPowU (tC (.int 10)) (tC (.int 59))) (tCons (tOp rSubI (tOp rPowU (tC (.int 10)) (tC (.int 60))) (tC (.int 1))) (tCons (tOp rSubI (tC (.int 1)) (tOp rPowU (tC (.int 10)) (tC (.int 60)))) tNil)))))))))))))) tNil)))))
def a_law_up : DS :=
  (dSeq (dAsg (dOp oMul (dOp oAdd (dCall sd_law_draw (dCons (dVar 0) (dCons (dOp oPow (dC (.int 10)) (dC (.int 12))) dNil))) (dC (.int 1))) (dCall sd_law_of (dCons (dVar 0) (dCons (dLst (dCons (dC (.int 1)) (dCons (dOp oPow (dC (.int 10)) (dC (.int 18))) (dCons (dOp oPow (dC (.int 10)) (dC (.int 48))) (dCons (dOp oMul (dOp oPow (dC (.int 10)) (dC (.int 54))) (dOp oPow (dC (.int 10)) (dC (.int 54)))) dNil))))) dNil)))) (gN 1))
    (dRet (dCall sd_law_of (dCons (dVar 0) (dCons (dLst (dCons (dC (.int 0)) (dCons (dC (.int 1)) (dCons (dUn uNeg (dC (.int 1))) (dCons (dC (.int 2)) (dCons (dC (.int 3)) (dCons (dUn uNeg (dC (.int 4))) (dCons (dC (.int 6)) (dCons (dOp oSub (dCall sd_law_draw (dCons (dVar 0) (dCons (dC (.int 101)) dNil))) (dC (.int 50))) (dCons (dVar 1) (dCons (dOp oSub (dC (.int 0)) (dRd 1)) (dCons (dOp oPow (dC (.int 10)) (dC (.int 59))) (dCons (dOp oSub (dOp oPow (dC (.int 10)) (dC (.int 60))) (dC (.int 1))) (dCons (dOp oSub (dC (.int 1)) (dOp oPow (dC (.int 10)) (dC (.int 60)))) dNil)))))))))))))) dNil)))))
theorem r_law_up {K : PySem.W.Frag} {Jx : WX} {Xd : XD} : RefS K Jx Xd (t_law_up K) a_law_up :=
  (rSeq (rAsg (rOp foMul (RefE.b (rOp foAdd (RefE.b (rCall hw_law_draw (rCons (rVar 0) (rCons (rOp foPow (RefE.b (rInt 10)) (RefE.b (rInt 12))) rNil)))) (RefE.b (rInt 1)))) (RefE.b (rCall hw_law_of (rCons (rVar 0) (rCons (rLst (rCons (rInt 1) (rCons (rOp foPow (RefE.b (rInt 10)) (RefE.b (rInt 18))) (rCons (rOp foPow (RefE.b (rInt 10)) (RefE.b (rInt 48))) (rCons (rOp foMul (RefE.b (rOp foPow (RefE.b (rInt 10)) (RefE.b (rInt 54)))) (RefE.b (rOp foPow (RefE.b (rInt 10)) (RefE.b (rInt 54))))) rNil))))) rNil))))) (rgN 1))
    (rRet (rCall hw_law_of (rCons (rVar 0) (rCons (rLst (rCons (rInt 0) (rCons (rInt 1) (rCons (rUn fuNeg (RefE.b (rInt 1))) (rCons (rInt 2) (rCons (rInt 3) (rCons (rUn fuNeg (RefE.b (rInt 4))) (rCons (rInt 6) (rCons (rOp foSub (RefE.b (rCall hw_law_draw (rCons (rVar 0) (rCons (rInt 101) rNil)))) (RefE.b (rInt 50))) (rCons (rVar 1) (rCons (rOp foSub (RefE.b (rInt 0)) (rRd 1)) (rCons (rOp foPow (RefE.b (rInt 10)) (RefE.b (rInt 59))) (rCons (rOp foSub (RefE.b (rOp foPow (RefE.b (rInt 10)) (RefE.b (rInt 60)))) (RefE.b (rInt 1))) (rCons (rOp foSub (RefE.b (rInt 1)) (RefE.b (rOp foPow (RefE.b (rInt 10)) (RefE.b (rInt 60))))) rNil)))))))))))))) rNil)))))
theorem pd_law_up (ds : List Dt) (Qd : Dt → Prop) (h : sd_law_up ds Qd) : ds.length ≤ N_law_up.length ∧ a_law_up ⟨fun _ => Qd .non, Qd, fun _ => False, fun _ => False⟩ (vals ds ++ List.replicate (N_law_up.length - ds.length) .no) := by
  obtain ⟨rfl, h⟩ := h
  refine ⟨Nat.le_of_ble_eq_true rfl, ?_⟩
  walk_at "dg"
  walk_at "pw"
  refine ⟨by decide, fun d d0 d1 => ?_⟩
  walk_at "dg"
  walk_at "pw"
  walk_at "pw"
  walk_at "pw"
  walk_at "pw"
  refine ⟨.inr (show (Int.natAbs _).log2 + (Int.natAbs _).log2 < _ by decide), ?_⟩
  walk_at "dg"
  refine ⟨⟨by decide, by decide⟩, fun v hv => ?_⟩
  have hv' : ∃ w, v = Dt.int w := by
    simp only [List.mem_cons, List.not_mem_nil, or_false] at hv
    rcases hv with rfl | rfl | rfl | rfl <;> exact ⟨_, rfl⟩
  obtain ⟨w, rfl⟩ := hv'
  obtain ⟨fb, f0, f1⟩ := far_bd d0 d1 hv
  have d3 : d < 1000000000000 := by
    rw [e12] at d1
    omega
  walk_at "dg"
  refine ⟨.inl (.inl ⟨by omega, by omega⟩), ?_⟩
  have fp : (d + 1) * w ≠ 0 := Int.mul_ne_zero (by omega) f0
  generalize (d + 1) * w = far at fb fp
  walk_at "dg"
  refine ⟨by decide, fun k k0 k1 => ?_⟩
  walk_at "dg"
  walk_at "pw"
  walk_at "pw"
  walk_at "pw"
  refine ⟨⟨Nat.le_of_ble_eq_true rfl, Nat.le_of_ble_eq_true rfl⟩, fun x hx => ?_⟩
  simp only [List.mem_cons, List.not_mem_nil, or_false] at hx
  have nf : (0 - far).natAbs = far.natAbs := by omega
  have e : (2 : Nat) ^ 400 = 2582249878086908589655919172003011874329705792829223512830659356540647622016841194629645353280137831435903171972747493376 := by decide
  have kb : (k - 50).natAbs < 2 ^ 400 := by
    rw [e]
    omega
  rcases hx with rfl | rfl | rfl | rfl | rfl | rfl | rfl | rfl | rfl | rfl | rfl | rfl | rfl <;> exact h _ (by first | exact kb | exact fb | (rw [nf]; exact fb) | decide)
abbrev sp_law_up (K : PySem.W.Frag) : Sp := spD K sd_law_up
theorem pure_law_up {K : PySem.W.Frag} (vs : List V) (H : Hp) (Q : VK) (E : XK) (h : sp_law_up K vs H Q E) : t_law_up K { nx := fun _ H' => Q .non H', rt := Q } (L2.start N_law_up vs) H := fnD (Jx := fun _ _ _ _ => False) (r_law_up) h pd_law_up
def sd_law_down : DSp := fun ds Q => ds = [.bag] ∧ ∀ p : Int, p ≠ 0 → p.natAbs < 2 ^ 400 → Q (.int p)
abbrev N_law_down : List Str := ["bag", "far"]
def t_law_down (K : PySem.W.Frag) : TS :=
  (tSeq (tAsg (tOp rMulU (tOp (rAddU K) (tCall (sp_law_draw K) [] E0 (tCons (tVar 0) (tCons (tOp rPowU (tC (.int 10)) (tC (.int 12))) tNil))) (tC (.int 1))) (tCall (sp_law_of K) [] E0 (tCons (tVar 0) (tCons (tLst (tCons (tC (.int 1)) (tCons (tOp rPowU (tC (.int 10)) (tC (.int 18))) (tCons (tOp rPowU (tC (.int 10)) (tC (.int 48))) (tCons (tOp rMulU (tOp rPowU (tC (.int 10)) (tC (.int 54))) (tOp rPowU (tC (.int 10)) (tC (.int 54)))) tNil))))) tNil)))) (gName 1))
    (tRet (tCall (sp_law_of K) [] E0 (tCons (tVar 0) (tCons (tLst (tCons (tC (.int 1)) (tCons (tC (.int 2)) (tCons (tUn rNegI (tC (.int 1))) (tCons (tC (.int 3)) (tCons (tC (.int 4)) (tCons (tUn rNegI (tC (.int 6))) (tCons (tC (.int 12)) (tCons (tOp (rAddU K) (tC (.int 1)) (tCall (sp_law_draw K) [] E0 (tCons (tVar 0) (tCons (tC (.int 60)) tNil)))) (tCons (tVar 1) (tCons (tOp rSubI (tC (.int 0)) (tVar 1)) (tCons (tOp rPowU (tC (.int 10)) (tC (.int 59))) (tCons (tOp rSubI (tC (.int 1)) (tOp rPowU (tC (.int 10)) (tC (.int 60)))) tNil))))))))))))) tNil)))))
def a_law_down : DS :=
  (dSeq (dAsg (dOp oMul (dOp oAdd (dCall sd_law_draw (dCons (dVar 0) (dCons (dOp oPow (dC (.int 10)) (dC (.int 12))) dNil))) (dC (.int 1))) (dCall sd_law_of (dCons (dVar 0) (dCons (dLst (dCons (dC (.int 1)) (dCons (dOp oPow (dC (.int 10)) (dC (.int 18))) (dCons (dOp oPow (dC (.int 10)) (dC (.int 48))) (dCons (dOp oMul (dOp oPow (dC (.int 10)) (dC (.int 54))) (dOp oPow (dC (.int 10)) (dC (.int 54)))) dNil))))) dNil)))) (gN 1))
    (dRet (dCall sd_law_of (dCons (dVar 0) (dCons (dLst (dCons (dC (.int 1)) (dCons (dC (.int 2)) (dCons (dUn uNeg (dC (.int 1))) (dCons (dC (.int 3)) (dCons (dC (.int 4)) (dCons (dUn uNeg (dC (.int 6))) (dCons (dC (.int 12)) (dCons (dOp oAdd (dC (.int 1)) (dCall sd_law_draw (dCons (dVar 0) (dCons (dC (.int 60)) dNil)))) (dCons (dVar 1) (dCons (dOp oSub (dC (.int 0)) (dRd 1)) (dCons (dOp oPow (dC (.int 10)) (dC (.int 59))) (dCons (dOp oSub (dC (.int 1)) (dOp oPow (dC (.int 10)) (dC (.int 60)))) dNil))))))))))))) dNil)))))
theorem r_law_down {K : PySem.W.Frag} {Jx : WX} {Xd : XD} : RefS K Jx Xd (t_law_down K) a_law_down :=
  (rSeq (rAsg (rOp foMul (RefE.b (rOp foAdd (RefE.b (rCall hw_law_draw (rCons (rVar 0) (rCons (rOp foPow (RefE.b (rInt 10)) (RefE.b (rInt 12))) rNil)))) (RefE.b (rInt 1)))) (RefE.b (rCall hw_law_of (rCons (rVar 0) (rCons (rLst (rCons (rInt 1) (rCons (rOp foPow (RefE.b (rInt 10)) (RefE.b (rInt 18))) (rCons (rOp foPow (RefE.b (rInt 10)) (RefE.b (rInt 48))) (rCons (rOp foMul (RefE.b (rOp foPow (RefE.b (rInt 10)) (RefE.b (rInt 54)))) (RefE.b (rOp foPow (RefE.b (rInt 10)) (RefE.b (rInt 54))))) rNil))))) rNil))))) (rgN 1))
    (rRet (rCall hw_law_of (rCons (rVar 0) (rCons (rLst (rCons (rInt 1) (rCons (rInt 2) (rCons (rUn fuNeg (RefE.b (rInt 1))) (rCons (rInt 3) (rCons (rInt 4) (rCons (rUn fuNeg (RefE.b (rInt 6))) (rCons (rInt 12) (rCons (rOp foAdd (RefE.b (rInt 1)) (RefE.b (rCall hw_law_draw (rCons (rVar 0) (rCons (rInt 60) rNil))))) (rCons (rVar 1) (rCons (rOp foSub (RefE.b (rInt 0)) (rRd 1)) (rCons (rOp foPow (RefE.b (rInt 10)) (RefE.b (rInt 59))) (rCons (rOp foSub (RefE.b (rInt 1)) (RefE.b (rOp foPow (RefE.b (rInt 10)) (RefE.b (rInt 60))))) rNil))))))))))))) rNil)))))
theorem pd_law_down (ds : List Dt) (Qd : Dt → Prop) (h : sd_law_down ds Qd) : ds.length ≤ N_law_down.length ∧ a_law_down ⟨fun _ => Qd .non, Qd, fun _ => False, fun _ => False⟩ (vals ds ++ List.replicate (N_law_down.length - ds.length) .no) := by
  obtain ⟨rfl, h⟩ := h
  refine ⟨Nat.le_of_ble_eq_true rfl, ?_⟩
  walk_at "dg"
  walk_at "pw"
  refine ⟨by decide, fun d d0 d1 => ?_⟩
  walk_at "dg"
  walk_at "pw"
  walk_at "pw"
  walk_at "pw"
  walk_at "pw"
  refine ⟨.inr (show (Int.natAbs _).log2 + (Int.natAbs _).log2 < _ by decide), ?_⟩
  walk_at "dg"
  refine ⟨⟨by decide, by decide⟩, fun v hv => ?_⟩
  have hv' : ∃ w, v = Dt.int w := by
    simp only [List.mem_cons, List.not_mem_nil, or_false] at hv
    rcases hv with rfl | rfl | rfl | rfl <;> exact ⟨_, rfl⟩
  obtain ⟨w, rfl⟩ := hv'
  obtain ⟨fb, f0, f1⟩ := far_bd d0 d1 hv
  have d3 : d < 1000000000000 := by
    rw [e12] at d1
    omega
  walk_at "dg"
  refine ⟨.inl (.inl ⟨by omega, by omega⟩), ?_⟩
  have fp : (d + 1) * w ≠ 0 := Int.mul_ne_zero (by omega) f0
  generalize (d + 1) * w = far at fb fp
  walk_at "dg"
  refine ⟨by decide, fun k k0 k1 => ?_⟩
  walk_at "dg"
  walk_at "pw"
  walk_at "pw"
  refine ⟨⟨Nat.le_of_ble_eq_true rfl, Nat.le_of_ble_eq_true rfl⟩, fun x hx => ?_⟩
  simp only [List.mem_cons, List.not_mem_nil, or_false] at hx
  have nf : (0 - far).natAbs = far.natAbs := by omega
  have e : (2 : Nat) ^ 400 = 2582249878086908589655919172003011874329705792829223512830659356540647622016841194629645353280137831435903171972747493376 := by decide
  have kb : (1 + k).natAbs < 2 ^ 400 := by
    rw [e]
    omega
  have k2 : 1 + k ≠ 0 := by omega
  have f2 : 0 - far ≠ 0 := by omega
  rcases hx with rfl | rfl | rfl | rfl | rfl | rfl | rfl | rfl | rfl | rfl | rfl | rfl <;> exact h _ (by first | exact k2 | exact fp | exact f2 | decide) (by first | exact kb | exact fb | (rw [nf]; exact fb) | decide)
abbrev sp_law_down (K : PySem.W.Frag) : Sp := spD K sd_law_down
theorem pure_law_down {K : PySem.W.Frag} (vs : List V) (H : Hp) (Q : VK) (E : XK) (h : sp_law_down K vs H Q E) : t_law_down K { nx := fun _ H' => Q .non H', rt := Q } (L2.start N_law_down vs) H := fnD (Jx := fun _ _ _ _ => False) (r_law_down) h pd_law_down
def sd_law_whole_parts_so : DSp := fun ds Q => ∃ p q : Int, ds = [ratD p q, .tup [.int p, .int q]] ∧ 0 < q ∧ p.natAbs < 2 ^ 2000 ∧ q.natAbs < 2 ^ 2000 ∧ Q (.bl true)
abbrev N_law_whole_parts_so : List Str := ["a", "x", "low", "high"]
def t_law_whole_parts_so (K : PySem.W.Frag) : TS :=
  (tSeq (tPar 2 3 (tCons (tMeth (He.ga K "Ratio") "floor" (sp_Ratio_floor K) [] E0 (tVar 0) tNil) (tCons (tMeth (He.ga K "Ratio") "ceiling" (sp_Ratio_ceiling K) [] E0 (tVar 0) tNil) tNil)))
    (tSeq (tIfS (tOr (tNot (tB (tCall (sp_law_int K) [] E0 (tCons (tVar 2) tNil)))) (tNot (tB (tCall (sp_law_int K) [] E0 (tCons (tVar 3) tNil))))) (tRet (tC (.bl false))) tNext)
    (tRet (tAndV (tOp rLeI (tOp rMulU (tVar 2) (tOp (rIx K) (tVar 1) (tC (.int 1)))) (tOp (rIx K) (tVar 1) (tC (.int 0)))) (tAndV (tOp rLtI (tOp (rIx K) (tVar 1) (tC (.int 0))) (tOp rMulU (tOp (rAddU K) (tVar 2) (tC (.int 1))) (tOp (rIx K) (tVar 1) (tC (.int 1))))) (tAndV (tOp rLtI (tOp rMulU (tOp rSubI (tVar 3) (tC (.int 1))) (tOp (rIx K) (tVar 1) (tC (.int 1)))) (tOp (rIx K) (tVar 1) (tC (.int 0)))) (tOp rLeI (tOp (rIx K) (tVar 1) (tC (.int 0))) (tOp rMulU (tVar 3) (tOp (rIx K) (tVar 1) (tC (.int 1)))))))))))
def a_law_whole_parts_so : DS :=
  (dSeq (dPar [2, 3] (pVal (dMd "Ratio" "floor" sd_Ratio_floor (dVar 0) dNil) (pVal (dMd "Ratio" "ceiling" sd_Ratio_ceiling (dVar 0) dNil) pNil)))
    (dSeq (dIfS (dOr (dNot (dTest (dCall sd_law_int (dCons (dVar 2) dNil)))) (dNot (dTest (dCall sd_law_int (dCons (dVar 3) dNil))))) (dRet (dC (.bl false))) dNext)
    (dRet (dAndV (dOp oLe (dOp oMul (dRd 2) (dOp oIx (dRd 1) (dC (.int 1)))) (dOp oIx (dRd 1) (dC (.int 0)))) (dAndV (dOp oLt (dOp oIx (dRd 1) (dC (.int 0))) (dOp oMul (dOp oAdd (dRd 2) (dC (.int 1))) (dOp oIx (dRd 1) (dC (.int 1))))) (dAndV (dOp oLt (dOp oMul (dOp oSub (dRd 3) (dC (.int 1))) (dOp oIx (dRd 1) (dC (.int 1)))) (dOp oIx (dRd 1) (dC (.int 0)))) (dOp oLe (dOp oIx (dRd 1) (dC (.int 0))) (dOp oMul (dRd 3) (dOp oIx (dRd 1) (dC (.int 1)))))))))))
theorem r_law_whole_parts_so {K : PySem.W.Frag} {Jx : WX} {Xd : XD} : RefS K Jx Xd (t_law_whole_parts_so K) a_law_whole_parts_so :=
  (rSeq (rPar2 (rpVal (rMd0 (fun _ _ _ h => h) (rVar 0)) (rpVal (rMd0 (fun _ _ _ h => h) (rVar 0)) rpNil)))
    (rSeq (rIfS (rOr (rNot (rB (rCall hw_law_int (rCons (rVar 2) rNil)))) (rNot (rB (rCall hw_law_int (rCons (rVar 3) rNil))))) (rRet (rBl false)) rNext)
    (rRet (rAndV (rOp foLe (RefE.b (rOp foMul (rRd 2) (RefE.b (rOp foIx (rRd 1) (RefE.b (rInt 1)))))) (RefE.b (rOp foIx (rRd 1) (RefE.b (rInt 0))))) (rAndV (rOp foLt (RefE.b (rOp foIx (rRd 1) (RefE.b (rInt 0)))) (RefE.b (rOp foMul (RefE.b (rOp foAdd (rRd 2) (RefE.b (rInt 1)))) (RefE.b (rOp foIx (rRd 1) (RefE.b (rInt 1))))))) (rAndV (rOp foLt (RefE.b (rOp foMul (RefE.b (rOp foSub (rRd 3) (RefE.b (rInt 1)))) (RefE.b (rOp foIx (rRd 1) (RefE.b (rInt 1)))))) (RefE.b (rOp foIx (rRd 1) (RefE.b (rInt 0))))) (rOp foLe (RefE.b (rOp foIx (rRd 1) (RefE.b (rInt 0)))) (RefE.b (rOp foMul (rRd 3) (RefE.b (rOp foIx (rRd 1) (RefE.b (rInt 1)))))))))))))
theorem pd_law_whole_parts_so (ds : List Dt) (Qd : Dt → Prop) (h : sd_law_whole_parts_so ds Qd) : ds.length ≤ N_law_whole_parts_so.length ∧ a_law_whole_parts_so ⟨fun _ => Qd .non, Qd, fun _ => False, fun _ => False⟩ (vals ds ++ List.replicate (N_law_whole_parts_so.length - ds.length) .no) := by
  obtain ⟨p, q, rfl, q0, hp, hq, h⟩ := h
  refine ⟨Nat.le_of_ble_eq_true rfl, ?_⟩
  have hp6 : p.natAbs < 2 ^ 6000 := Nat.lt_of_lt_of_le hp (Nat.pow_le_pow_right (by decide) (by decide))
  walk_at "dg"
  refine ⟨⟨rfl, rfl⟩, ?_⟩
  walk_at "dg"
  refine ⟨p, q, rfl, ⟨by omega, hp6⟩, ?_⟩
  walk_at "dg"
  refine ⟨⟨rfl, rfl⟩, ?_⟩
  walk_at "dg"
  refine ⟨p, q, rfl, ⟨by omega, hp6⟩, ?_⟩
  walk_at "dg"
  have f1 : p.fdiv q = p / q := Int.fdiv_eq_ediv_of_nonneg _ (by omega)
  have f2 : (-p).fdiv q = (-p) / q := Int.fdiv_eq_ediv_of_nonneg _ (by omega)
  have g1 : p / q * q ≤ p := Int.ediv_mul_le p (by omega)
  have g2 : p < (p / q + 1) * q := Int.lt_ediv_add_one_mul_self p q0
  have g3 : (-p) / q * q ≤ -p := Int.ediv_mul_le (-p) (by omega)
  have g4 : -p < ((-p) / q + 1) * q := Int.lt_ediv_add_one_mul_self (-p) q0
  have ab : ∀ x : Int, x.natAbs < 2 ^ 2000 → (x / q).natAbs < 2 ^ 2001 := fun x hx => by
    have := Int.natAbs_ediv_le_natAbs x q
    exact Nat.lt_of_le_of_lt this (Nat.lt_of_lt_of_le hx (Nat.pow_le_pow_right (by decide) (by decide)))
  have b1 := ab p hp
  have b2 := ab (-p) (by rw [Int.natAbs_neg]; exact hp)
  rw [f1, f2]
  generalize p / q = lo at g1 g2 b1
  generalize (-p) / q = hi at g3 g4 b2
  have e1 : (hi + 1) * q = hi * q + q := by rw [Int.add_mul, Int.one_mul]
  have e2 : (-hi - 1) * q = -(hi * q) - q := by rw [Int.sub_mul, Int.one_mul, Int.neg_mul]
  have e3 : -hi * q = -(hi * q) := Int.neg_mul ..
  have hi1 : (-hi).natAbs < 2 ^ 2001 := by rw [Int.natAbs_neg]; exact b2
  have o1 : (1 : Int).natAbs < 2 ^ 2001 := Nat.one_lt_two_pow (by decide)
  refine ⟨fun c => (nomatch c), fun _ => ?_⟩
  walk_at "dg"
  refine ⟨fun c => (nomatch c), fun _ => ?_⟩
  walk_at "dg"
  refine ⟨cmul_of b1 hq, ?_⟩
  walk_at "dg"
  refine ⟨fun _ => ?_, fun c => absurd g1 (of_decide_eq_false c)⟩
  walk_at "dg"
  refine ⟨cmul_of (add_bd b1 o1 (k := 2002) (by decide)) hq, ?_⟩
  walk_at "dg"
  refine ⟨fun _ => ?_, fun c => absurd g2 (of_decide_eq_false c)⟩
  walk_at "dg"
  refine ⟨cmul_of (sub_bd hi1 o1 (k := 2002) (by decide)) hq, ?_⟩
  walk_at "dg"
  refine ⟨fun _ => ?_, fun c => absurd (show (-hi - 1) * q < p by omega) (of_decide_eq_false c)⟩
  walk_at "dg"
  refine ⟨cmul_of hi1 hq, ?_⟩
  walk_at "dg"
  rw [decide_eq_true (show p ≤ -hi * q by omega)]
  exact h
abbrev sp_law_whole_parts_so (K : PySem.W.Frag) : Sp := spD K sd_law_whole_parts_so
theorem pure_law_whole_parts_so {K : PySem.W.Frag} (vs : List V) (H : Hp) (Q : VK) (E : XK) (h : sp_law_whole_parts_so K vs H Q E) : t_law_whole_parts_so K { nx := fun _ H' => Q .non H', rt := Q } (L2.start N_law_whole_parts_so vs) H := fnD (Jx := fun _ _ _ _ => False) (r_law_whole_parts_so) h pd_law_whole_parts_so
def sd_law_two_so : DSp := fun ds Q => ∃ p q y r s pl, ds = [ratD p q, y, .tup [.int p, .int q], .tup [.int r, .int s], .bl pl] ∧ Low p q ∧ Low r s ∧ (y = ratD r s ∧ pl = false ∨ y = .int r ∧ s = 1 ∧ pl = true) ∧ (p.natAbs < 2 ^ 400 ∧ q.natAbs < 2 ^ 400 ∧ r.natAbs < 2 ^ 400 ∧ s.natAbs < 2 ^ 400) ∧ Q (.bl true)
abbrev N_law_two_so : List Str := ["a", "b", "x", "y", "plain", "apart", "sign"]
def t_law_two_so (K : PySem.W.Frag) : TS :=
  (tSeq (tIfS (tNot (tB (tCall (sp_law_is K) [] E0 (tCons (tOp (RM.rSelfN (He.ga K "Ratio") (sp_Ratio_add K)) (tVar 0) (tVar 1)) (tCons (tCall (sp_law_low K) [] E0 (tCons (tOp (rAddU K) (tOp rMulU (tOp (rIx K) (tVar 2) (tC (.int 0))) (tOp (rIx K) (tVar 3) (tC (.int 1)))) (tOp rMulU (tOp (rIx K) (tVar 3) (tC (.int 0))) (tOp (rIx K) (tVar 2) (tC (.int 1))))) (tCons (tOp rMulU (tOp (rIx K) (tVar 2) (tC (.int 1))) (tOp (rIx K) (tVar 3) (tC (.int 1)))) tNil))) tNil))))) (tRet (tC (.bl false))) tNext)
    (tSeq (tIfS (tNot (tB (tCall (sp_law_is K) [] E0 (tCons (tOp (RM.rSelfN (He.ga K "Ratio") (sp_Ratio_sub K)) (tVar 0) (tVar 1)) (tCons (tCall (sp_law_low K) [] E0 (tCons (tOp rSubI (tOp rMulU (tOp (rIx K) (tVar 2) (tC (.int 0))) (tOp (rIx K) (tVar 3) (tC (.int 1)))) (tOp rMulU (tOp (rIx K) (tVar 3) (tC (.int 0))) (tOp (rIx K) (tVar 2) (tC (.int 1))))) (tCons (tOp rMulU (tOp (rIx K) (tVar 2) (tC (.int 1))) (tOp (rIx K) (tVar 3) (tC (.int 1)))) tNil))) tNil))))) (tRet (tC (.bl false))) tNext)
    (tSeq (tIfS (tOr (tNot (tB (tCall (sp_law_is K) [] E0 (tCons (tOp (RM.rSelfN (He.ga K "Ratio") (sp_Ratio_mul K)) (tVar 0) (tVar 1)) (tCons (tCall (sp_law_low K) [] E0 (tCons (tOp rMulU (tOp (rIx K) (tVar 2) (tC (.int 0))) (tOp (rIx K) (tVar 3) (tC (.int 0)))) (tCons (tOp rMulU (tOp (rIx K) (tVar 2) (tC (.int 1))) (tOp (rIx K) (tVar 3) (tC (.int 1)))) tNil))) tNil))))) (tNot (tB (tCall (sp_law_is K) [] E0 (tCons (tOp (RM.rSelfN (He.ga K "Ratio") (sp_Ratio_sub K)) (tOp (RM.rSelfN (He.ga K "Ratio") (sp_Ratio_add K)) (tVar 0) (tVar 1)) (tVar 1)) (tCons (tVar 2) tNil)))))) (tRet (tC (.bl false))) tNext)
    (tSeq (tAsg (tOp rSubI (tOp rMulU (tOp (rIx K) (tVar 2) (tC (.int 0))) (tOp (rIx K) (tVar 3) (tC (.int 1)))) (tOp rMulU (tOp (rIx K) (tVar 3) (tC (.int 0))) (tOp (rIx K) (tVar 2) (tC (.int 1))))) (gName 5))
    (tSeq (tAsg (tIf (tTest (tOp (rEqU K) (tVar 5) (tC (.int 0)))) (tC (.int 0)) (tIf (tTest (tOp rGtI (tVar 5) (tC (.int 0)))) (tC (.int 1)) (tOp rSubI (tC (.int 0)) (tC (.int 1))))) (gName 6))
    (tRet (tCall (sp_law_like K 12) [] E0 (tCons (tLst (tCons (tMd (He.ga K "Ratio") "compare" (sp_Ratio_compare K) (tVar 0) (tCons (tVar 1) tNil)) (tCons (tMd (He.ga K "Ratio") "compare" (sp_Ratio_compare K) (tVar 0) (tCons (tVar 1) tNil)) (tCons (tOp (RM.rSelfC (He.ga K "Ratio") (sp_Ratio_eq K)) (tVar 0) (tVar 1)) tNil)))) (tCons (tLst (tCons (tVar 6) (tCons (tVar 6) (tCons (tAndV (tOp (rEqU K) (tVar 6) (tC (.int 0))) (tNotV (tVar 4))) tNil)))) tNil)))))))))
def a_law_two_so : DS :=
  (dSeq (dIfS (dNot (dTest (dCall sd_law_is (dCons (dOp (oOwnN "Ratio" sd_Ratio_add) (dVar 0) (dVar 1)) (dCons (dCall sd_law_low (dCons (dOp oAdd (dOp oMul (dOp oIx (dRd 2) (dC (.int 0))) (dOp oIx (dRd 3) (dC (.int 1)))) (dOp oMul (dOp oIx (dRd 3) (dC (.int 0))) (dOp oIx (dRd 2) (dC (.int 1))))) (dCons (dOp oMul (dOp oIx (dRd 2) (dC (.int 1))) (dOp oIx (dRd 3) (dC (.int 1)))) dNil))) dNil))))) (dRet (dC (.bl false))) dNext)
    (dSeq (dIfS (dNot (dTest (dCall sd_law_is (dCons (dOp (oOwnN "Ratio" sd_Ratio_sub) (dVar 0) (dVar 1)) (dCons (dCall sd_law_low (dCons (dOp oSub (dOp oMul (dOp oIx (dRd 2) (dC (.int 0))) (dOp oIx (dRd 3) (dC (.int 1)))) (dOp oMul (dOp oIx (dRd 3) (dC (.int 0))) (dOp oIx (dRd 2) (dC (.int 1))))) (dCons (dOp oMul (dOp oIx (dRd 2) (dC (.int 1))) (dOp oIx (dRd 3) (dC (.int 1)))) dNil))) dNil))))) (dRet (dC (.bl false))) dNext)
    (dSeq (dIfS (dOr (dNot (dTest (dCall sd_law_is (dCons (dOp (oOwnN "Ratio" sd_Ratio_mul) (dVar 0) (dVar 1)) (dCons (dCall sd_law_low (dCons (dOp oMul (dOp oIx (dRd 2) (dC (.int 0))) (dOp oIx (dRd 3) (dC (.int 0)))) (dCons (dOp oMul (dOp oIx (dRd 2) (dC (.int 1))) (dOp oIx (dRd 3) (dC (.int 1)))) dNil))) dNil))))) (dNot (dTest (dCall sd_law_is (dCons (dOp (oOwnN "Ratio" sd_Ratio_sub) (dOp (oOwnN "Ratio" sd_Ratio_add) (dVar 0) (dVar 1)) (dVar 1)) (dCons (dVar 2) dNil)))))) (dRet (dC (.bl false))) dNext)
    (dSeq (dAsg (dOp oSub (dOp oMul (dOp oIx (dRd 2) (dC (.int 0))) (dOp oIx (dRd 3) (dC (.int 1)))) (dOp oMul (dOp oIx (dRd 3) (dC (.int 0))) (dOp oIx (dRd 2) (dC (.int 1))))) (gN 5))
    (dSeq (dAsg (dIf (dTest (dOp oEq (dRd 5) (dC (.int 0)))) (dC (.int 0)) (dIf (dTest (dOp oGt (dRd 5) (dC (.int 0)))) (dC (.int 1)) (dOp oSub (dC (.int 0)) (dC (.int 1))))) (gN 6))
    (dRet (dCall (sd_law_like 12) (dCons (dLst (dCons (dMd "Ratio" "compare" sd_Ratio_compare (dVar 0) (dCons (dVar 1) dNil)) (dCons (dMd "Ratio" "compare" sd_Ratio_compare (dVar 0) (dCons (dVar 1) dNil)) (dCons (dOp (oOwnC "Ratio" sd_Ratio_eq) (dVar 0) (dVar 1)) dNil)))) (dCons (dLst (dCons (dVar 6) (dCons (dVar 6) (dCons (dAndV (dOp oEq (dRd 6) (dC (.int 0))) (dNotV (dVar 4))) dNil)))) dNil)))))))))
theorem r_law_two_so {K : PySem.W.Frag} {Jx : WX} {Xd : XD} (CF : ClsF CLr K) : RefS K Jx Xd (t_law_two_so K) a_law_two_so :=
  (rSeq (rIfS (rNot (rB (rCall (fun _ _ _ h => h) (rCons (rOpE (foOwnN fun _ _ _ h => h) (rVar 0) (rVar 1)) (rCons (rCall (fun _ _ _ h => h) (rCons (rOp foAdd (RefE.b (rOp foMul (RefE.b (rOp foIx (rRd 2) (RefE.b (rInt 0)))) (RefE.b (rOp foIx (rRd 3) (RefE.b (rInt 1)))))) (RefE.b (rOp foMul (RefE.b (rOp foIx (rRd 3) (RefE.b (rInt 0)))) (RefE.b (rOp foIx (rRd 2) (RefE.b (rInt 1))))))) (rCons (rOp foMul (RefE.b (rOp foIx (rRd 2) (RefE.b (rInt 1)))) (RefE.b (rOp foIx (rRd 3) (RefE.b (rInt 1))))) rNil))) rNil))))) (rRet (rBl false)) rNext)
    (rSeq (rIfS (rNot (rB (rCall (fun _ _ _ h => h) (rCons (rOpE (foOwnN fun _ _ _ h => h) (rVar 0) (rVar 1)) (rCons (rCall (fun _ _ _ h => h) (rCons (rOp foSub (RefE.b (rOp foMul (RefE.b (rOp foIx (rRd 2) (RefE.b (rInt 0)))) (RefE.b (rOp foIx (rRd 3) (RefE.b (rInt 1)))))) (RefE.b (rOp foMul (RefE.b (rOp foIx (rRd 3) (RefE.b (rInt 0)))) (RefE.b (rOp foIx (rRd 2) (RefE.b (rInt 1))))))) (rCons (rOp foMul (RefE.b (rOp foIx (rRd 2) (RefE.b (rInt 1)))) (RefE.b (rOp foIx (rRd 3) (RefE.b (rInt 1))))) rNil))) rNil))))) (rRet (rBl false)) rNext)
    (rSeq (rIfS (rOr (rNot (rB (rCall (fun _ _ _ h => h) (rCons (rOpE (foOwnN fun _ _ _ h => h) (rVar 0) (rVar 1)) (rCons (rCall (fun _ _ _ h => h) (rCons (rOp foMul (RefE.b (rOp foIx (rRd 2) (RefE.b (rInt 0)))) (RefE.b (rOp foIx (rRd 3) (RefE.b (rInt 0))))) (rCons (rOp foMul (RefE.b (rOp foIx (rRd 2) (RefE.b (rInt 1)))) (RefE.b (rOp foIx (rRd 3) (RefE.b (rInt 1))))) rNil))) rNil))))) (rNot (rB (rCall (fun _ _ _ h => h) (rCons (rOpE (foOwnN fun _ _ _ h => h) (rOpE (foOwnN fun _ _ _ h => h) (rVar 0) (rVar 1)) (rVar 1)) (rCons (rVar 2) rNil)))))) (rRet (rBl false)) rNext)
    (rSeq (rAsg (rOp foSub (RefE.b (rOp foMul (RefE.b (rOp foIx (rRd 2) (RefE.b (rInt 0)))) (RefE.b (rOp foIx (rRd 3) (RefE.b (rInt 1)))))) (RefE.b (rOp foMul (RefE.b (rOp foIx (rRd 3) (RefE.b (rInt 0)))) (RefE.b (rOp foIx (rRd 2) (RefE.b (rInt 1))))))) (rgN 5))
    (rSeq (rAsg (rIf (rTest (rOp foEq (rRd 5) (RefE.b (rInt 0)))) (rInt 0) (rIf (rTest (rOp foGt (rRd 5) (RefE.b (rInt 0)))) (rInt 1) (rOp foSub (RefE.b (rInt 0)) (RefE.b (rInt 1))))) (rgN 6))
    (rRet (rCall hw_law_like (rCons (rLst (rCons (rMd (fun _ _ _ h => h) (rVar 0) (rCons (rVar 1) rNil)) (rCons (rMd (fun _ _ _ h => h) (rVar 0) (rCons (rVar 1) rNil)) (rCons (rOpE (foOwnC fun _ _ _ h => h) (rVar 0) (rVar 1)) rNil)))) (rCons (rLst (rCons (rVar 6) (rCons (rVar 6) (rCons (rAndV (rOp foEq (rRd 6) (RefE.b (rInt 0))) (rNotV (rVar 4))) rNil)))) rNil)))))))))
theorem low_bdn {p q : Int} {n : Nat} (hq : q ≠ 0) (h1 : p.natAbs < 2 ^ n) (h2 : q.natAbs < 2 ^ n) : (p.fdiv (shr p q)).natAbs < 2 ^ n ∧ (q.fdiv (shr p q)).natAbs < 2 ^ n := by
  have k := low_bd (p := p) (n := n) hq
  exact ⟨Nat.lt_of_le_of_lt k.1 h1, Nat.lt_of_le_of_lt k.2 h2⟩
theorem own_N {sd : DSp} {p q r s : Int} {y : Dt} {Q : Dt → Prop} (vy : RatV y r s) (h : sd [ratD p q, y] Q) : oOwnN "Ratio" sd (ratD p q) y Q := by
  obtain ⟨rfl | ⟨rfl, _⟩, _⟩ := vy
  · exact ⟨⟨rfl, rfl⟩, h⟩
  · exact ⟨rfl, h⟩
theorem own_C {p q r s : Int} {y : Dt} {pl : Bool} {Q : Dt → Prop} (hy : y = ratD r s ∧ pl = false ∨ y = .int r ∧ s = 1 ∧ pl = true) (h : Q (.bl (decide (p = r ∧ q = s) && !pl))) : oOwnC "Ratio" sd_Ratio_eq (ratD p q) y Q := by
  rcases hy with ⟨rfl, rfl⟩ | ⟨rfl, _, rfl⟩
  · rw [show (!false) = true from rfl, Bool.and_true] at h
    exact ⟨⟨rfl, rfl⟩, p, q, _, rfl, .inl ⟨r, s, rfl, h⟩⟩
  · rw [show (!true) = false from rfl, Bool.and_false] at h
    exact ⟨rfl, p, q, _, rfl, .inr (.inl ⟨r, rfl, h⟩)⟩
theorem fit3 (a b : Int) (c : Bool) : fit 12 (pyD (.lst [.int a, .int b, .bl c])) := ⟨Nat.le_of_ble_eq_true rfl, fun x hx => by
  have hx' : x ∈ [PyData.int a, .int b, .bool c] := hx
  simp only [List.mem_cons, List.not_mem_nil, or_false] at hx'
  rcases hx' with rfl | rfl | rfl <;> trivial⟩
theorem up_bd {a : Int} {m n : Nat} (h : a.natAbs < 2 ^ m) (l : m ≤ n) : a.natAbs < 2 ^ n := Nat.lt_of_lt_of_le h (Nat.pow_le_pow_right (by decide) l)
theorem pd_law_two_so (ds : List Dt) (Qd : Dt → Prop) (h : sd_law_two_so ds Qd) : ds.length ≤ N_law_two_so.length ∧ a_law_two_so ⟨fun _ => Qd .non, Qd, fun _ => False, fun _ => False⟩ (vals ds ++ List.replicate (N_law_two_so.length - ds.length) .no) := by
  obtain ⟨p, q, y, r, s, pl, rfl, lx, ly, hy, ⟨hp, hq, hr, hs⟩, h⟩ := h
  refine ⟨Nat.le_of_ble_eq_true rfl, ?_⟩
  have q0 : q ≠ 0 := by have := lx.1; omega
  have s0 : s ≠ 0 := by have := ly.1; omega
  have vx : RatV (ratD p q) p q := ⟨.inl rfl, q0, up_bd hp (by decide), up_bd hq (by decide)⟩
  have vy : RatV y r s := ⟨by
    rcases hy with ⟨e, _⟩ | ⟨e, e1, _⟩
    · exact .inl e
    · exact .inr ⟨e, e1⟩, s0, up_bd hr (by decide), up_bd hs (by decide)⟩
  have qs0 : q * s ≠ 0 := Int.mul_ne_zero q0 s0
  have bps : (p * s).natAbs < 2 ^ 800 := mul_bd hp hs (by decide)
  have brq : (r * q).natAbs < 2 ^ 800 := mul_bd hr hq (by decide)
  have bqs : (q * s).natAbs < 2 ^ 801 := mul_bd hq hs (by decide)
  have bpr : (p * r).natAbs < 2 ^ 801 := mul_bd hp hr (by decide)
  have bsum : (p * s + r * q).natAbs < 2 ^ 801 := add_bd bps brq (by decide)
  have bdif : (p * s - r * q).natAbs < 2 ^ 801 := sub_bd bps brq (by decide)
  obtain ⟨c1, c2⟩ := low_bdn qs0 bsum bqs
  obtain ⟨d1, d2⟩ := low_bdn qs0 bdif bqs
  obtain ⟨m1, m2⟩ := low_bdn qs0 bpr bqs
  have L := low_low (p := p * s + r * q) qs0
  have bk := low_back (r := r) lx s0
  dsimp only at bk
  walk_at "dg"
  refine own_N vy ⟨p, q, y, r, s, rfl, vx, vy, ?_⟩
  walk_at "dg"
  refine ⟨cmul_of hp hs, ?_⟩
  walk_at "dg"
  refine ⟨cmul_of hr hq, ?_⟩
  walk_at "dg"
  refine ⟨cmul_of hq hs, ?_⟩
  walk_at "dg"
  refine ⟨_, _, rfl, qs0, up_bd bqs (by decide), ?_⟩
  walk_at "dg"
  refine ⟨_, _, rfl, ⟨up_bd c1 (by decide), up_bd c2 (by decide)⟩, ?_⟩
  refine ⟨fun c => (nomatch c), fun _ => ?_⟩
  walk_at "dg"
  refine own_N vy ⟨p, q, y, r, s, rfl, vx, vy, ?_⟩
  walk_at "dg"
  refine ⟨cmul_of hp hs, ?_⟩
  walk_at "dg"
  refine ⟨cmul_of hr hq, ?_⟩
  walk_at "dg"
  refine ⟨cmul_of hq hs, ?_⟩
  walk_at "dg"
  refine ⟨_, _, rfl, qs0, up_bd bqs (by decide), ?_⟩
  walk_at "dg"
  refine ⟨_, _, rfl, ⟨up_bd d1 (by decide), up_bd d2 (by decide)⟩, ?_⟩
  refine ⟨fun c => (nomatch c), fun _ => ?_⟩
  walk_at "dg"
  refine own_N vy ⟨p, q, y, r, s, rfl, vx, vy, ?_⟩
  walk_at "dg"
  refine ⟨cmul_of hp hr, ?_⟩
  walk_at "dg"
  refine ⟨cmul_of hq hs, ?_⟩
  walk_at "dg"
  refine ⟨_, _, rfl, qs0, up_bd bqs (by decide), ?_⟩
  walk_at "dg"
  refine ⟨_, _, rfl, ⟨up_bd m1 (by decide), up_bd m2 (by decide)⟩, ?_⟩
  refine ⟨fun c => (nomatch c), fun _ => ?_⟩
  walk_at "dg"
  refine own_N vy ⟨p, q, y, r, s, rfl, vx, vy, ?_⟩
  refine own_N vy ⟨_, _, y, r, s, rfl, ⟨.inl rfl, by have := L.1; omega, up_bd c1 (by decide), up_bd c2 (by decide)⟩, vy, ?_⟩
  refine ⟨p, q, ?_, ⟨up_bd hp (by decide), up_bd hq (by decide)⟩, ?_⟩
  · unfold lowD
    rw [bk.1, bk.2]
  refine ⟨fun c => (nomatch c), fun _ => ?_⟩
  walk_at "dg"
  refine ⟨cmul_of hp hs, ?_⟩
  walk_at "dg"
  refine ⟨cmul_of hr hq, ?_⟩
  walk_at "dg"
  refine ⟨fun c => ?_, fun c => ?_⟩
  · have e0 : p * s - r * q = 0 := of_decide_eq_true c
    have eu := low_uniq lx ly (show p * s = r * q by omega)
    have es : sgn (p * s - r * q) = 0 := if_pos e0
    walk_at "dg"
    refine ⟨⟨rfl, rfl⟩, ?_⟩
    refine ⟨p, q, y, r, s, rfl, vx, vy, ?_⟩
    walk_at "dg"
    refine ⟨⟨rfl, rfl⟩, ?_⟩
    refine ⟨p, q, y, r, s, rfl, vx, vy, ?_⟩
    walk_at "dg"
    refine own_C hy ?_
    walk_at "dg"
    refine ⟨fun _ => ?_, fun c => (nomatch c)⟩
    walk_at "dg"
    rw [es, decide_eq_true eu, Bool.true_and]
    exact like_same (n := 12) rfl (fit3 _ _ _) h
  · have e0 : p * s - r * q ≠ 0 := of_decide_eq_false c
    have eu : ¬(p = r ∧ q = s) := fun ⟨a, b⟩ => e0 (by rw [a, b, Int.sub_self])
    walk_at "dg"
    refine ⟨fun c2 => ?_, fun c2 => ?_⟩
    · have es : sgn (p * s - r * q) = 1 := (if_neg e0).trans (if_pos (of_decide_eq_true c2))
      walk_at "dg"
      refine ⟨⟨rfl, rfl⟩, ?_⟩
      refine ⟨p, q, y, r, s, rfl, vx, vy, ?_⟩
      walk_at "dg"
      refine ⟨⟨rfl, rfl⟩, ?_⟩
      refine ⟨p, q, y, r, s, rfl, vx, vy, ?_⟩
      walk_at "dg"
      refine own_C hy ?_
      walk_at "dg"
      refine ⟨fun c => (nomatch c), fun _ => ?_⟩
      walk_at "dg"
      rw [es, decide_eq_false eu, Bool.false_and]
      exact like_same (n := 12) rfl (fit3 _ _ _) h
    · have es : sgn (p * s - r * q) = -1 := (if_neg e0).trans (if_neg (of_decide_eq_false c2))
      walk_at "dg"
      refine ⟨⟨rfl, rfl⟩, ?_⟩
      refine ⟨p, q, y, r, s, rfl, vx, vy, ?_⟩
      walk_at "dg"
      refine ⟨⟨rfl, rfl⟩, ?_⟩
      refine ⟨p, q, y, r, s, rfl, vx, vy, ?_⟩
      walk_at "dg"
      refine own_C hy ?_
      walk_at "dg"
      refine ⟨fun c => (nomatch c), fun _ => ?_⟩
      walk_at "dg"
      rw [es, decide_eq_false eu, Bool.false_and]
      exact like_same (n := 12) rfl (fit3 _ _ _) h
abbrev sp_law_two_so (K : PySem.W.Frag) : Sp := spD K sd_law_two_so
theorem pure_law_two_so {K : PySem.W.Frag} (CF : ClsF CLr K) (vs : List V) (H : Hp) (Q : VK) (E : XK) (h : sp_law_two_so K vs H Q E) : t_law_two_so K { nx := fun _ H' => Q .non H', rt := Q } (L2.start N_law_two_so vs) H := fnD (Jx := fun _ _ _ _ => False) (r_law_two_so CF) h pd_law_two_so

end
section

/-! ### words of digits: plain -/
section
open TL PySem.NumText
/-- a word of digits as it is written: up to 60, no 0 ahead -/
def canL (l : List Nat) : Bool := decide (0 < l.length) && decide (l.length ≤ 60) && l.all (fun c => decide (48 ≤ c) && decide (c ≤ 57)) && (decide (l = [48]) || !decide (l[0]? = some 48))
theorem canL_iff {l : List Nat} : canL l = true ↔ (0 < l.length ∧ l.length ≤ 60) ∧ AllDigits l ∧ (l = [48] ∨ l[0]? ≠ some 48) := by
  unfold canL AllDigits
  simp only [Bool.and_eq_true, Bool.or_eq_true, decide_eq_true_eq, List.all_eq_true, Bool.not_eq_true', decide_eq_false_iff_not, and_assoc, ne_eq]
theorem val_snoc (l : List Nat) (c : Nat) : digitsVal (l ++ [c]) = digitsVal l * 10 + (c - 48) := by
  unfold digitsVal
  rw [List.foldl_append]
  rfl
theorem val_one (c : Nat) : digitsVal [c] = c - 48 := by
  unfold digitsVal
  simp
/-- what is written is told back -/
theorem num_val : ∀ (n : Nat) (l : List Nat), l.length = n → 0 < n → AllDigits l → (l = [48] ∨ l[0]? ≠ some 48) → numL (digitsVal l) = l ∧ (l ≠ [48] → 0 < digitsVal l) := by
  intro n
  induction n with
  | zero => intro l _ h; omega
  | succ n ih =>
    intro l hl _ hd h0
    rcases List.eq_nil_or_concat l with rfl | ⟨r, c, rfl⟩
    · simp at hl
    · rw [List.concat_eq_append] at *
      have hc := hd c (by simp)
      have hr : AllDigits r := fun d hm => hd d (by simp [hm])
      rw [List.length_append, List.length_singleton] at hl
      by_cases rn : r = []
      · subst rn
        rw [List.nil_append, val_one]
        refine ⟨?_, fun h => ?_⟩
        · rw [numL_lt (by omega)]
          congr 1
          omega
        · have : c ≠ 48 := fun e => h (by rw [e])
          omega
      · have rl : 0 < r.length := List.length_pos_iff.mpr rn
        have r0 : r = [48] ∨ r[0]? ≠ some 48 := by
          right
          rcases h0 with e | e
          · have : r.length + 1 = 1 := by
              have := congrArg List.length e
              simpa using this
            omega
          · rwa [List.getElem?_append_left rl] at e
        obtain ⟨e, p⟩ := ih r (by omega) (by omega) hr r0
        have rne : r ≠ [48] := by
          rcases h0 with e2 | e2
          · intro z
            rw [z] at e2
            simp at e2
          · intro z
            rw [z] at e2
            simp at e2
        have p' := p rne
        rw [val_snoc]
        refine ⟨?_, fun _ => by omega⟩
        rw [numL_step (by omega)]
        have d1 : (digitsVal r * 10 + (c - 48)) / 10 = digitsVal r := by omega
        have d2 : (digitsVal r * 10 + (c - 48)) % 10 = c - 48 := by omega
        rw [d1, d2, e]
        congr 2
        omega
theorem can_num {l : List Nat} (h : canL l = true) : numL (digitsVal l) = l := by
  obtain ⟨⟨h1, _⟩, h2, h3⟩ := canL_iff.mp h
  exact (num_val l.length l rfl h1 h2 h3).1
theorem can_zero {l : List Nat} (h : canL l = true) : digitsVal l = 0 ↔ l = [48] := by
  obtain ⟨⟨h1, _⟩, h2, h3⟩ := canL_iff.mp h
  have k := (num_val l.length l rfl h1 h2 h3).2
  refine ⟨fun e => Classical.byContradiction fun n => ?_, fun e => by rw [e]; rfl⟩
  have := k n
  omega
theorem val_lt : ∀ (n : Nat) (l : List Nat), l.length = n → AllDigits l → digitsVal l < 10 ^ n := by
  intro n
  induction n with
  | zero =>
    intro l hl _
    rw [List.length_eq_zero_iff.mp hl]
    decide
  | succ n ih =>
    intro l hl hd
    rcases List.eq_nil_or_concat l with rfl | ⟨r, c, rfl⟩
    · simp at hl
    · rw [List.concat_eq_append] at *
      have hc := hd c (by simp)
      rw [List.length_append, List.length_singleton] at hl
      have := ih r (by omega) (fun d hm => hd d (by simp [hm]))
      rw [val_snoc, Nat.pow_succ]
      omega
theorem can_lt {l : List Nat} (h : canL l = true) : digitsVal l < 2 ^ 200 := by
  obtain ⟨⟨h1, h4⟩, h2, h3⟩ := canL_iff.mp h
  have a := val_lt l.length l rfl h2
  have b : (10 : Nat) ^ l.length ≤ 10 ^ 60 := Nat.pow_le_pow_right (by decide) h4
  have c : (10 : Nat) ^ 60 ≤ 2 ^ 200 := by decide
  omega
theorem can_free {l : List Nat} (h : canL l = true) {c : Nat} (hc : c < 48 ∨ 57 < c) : c ∉ l := fun m => by
  have := (canL_iff.mp h).2.1 c m
  omega
/-- the text of a number, by its signs -/
def intL (i : Int) : List Nat := if i < 0 then 45 :: numL i.natAbs else numL i.natAbs
theorem intL_free {i : Int} {c : Nat} (h : c < 45 ∨ 45 < c ∧ c < 48 ∨ 57 < c) : c ∉ intL i := by
  unfold intL
  have n : c ∉ numL i.natAbs := numL_free (by omega)
  split
  · simp only [List.mem_cons, not_or]
    exact ⟨by omega, n⟩
  · exact n
theorem intL_inj {i j : Int} (h : intL i = intL j) : i = j := by
  have hd : ∀ n : Nat, ∀ r, numL n ≠ 45 :: r := fun n r e => by
    have := numL_digits n 45 (by rw [e]; simp)
    omega
  unfold intL at h
  split at h <;> split at h
  · have := numL_inj (List.cons.inj h).2
    omega
  · exact absurd h.symm (hd _ _)
  · exact absurd h (hd _ _)
  · have := numL_inj h
    omega
/-- the number of a word: a sign, digits -/
def wdV (ng : Bool) (a : List Nat) : Int := if ng then -(digitsVal a : Int) else (digitsVal a : Int)
theorem wd_txt {ng : Bool} {a : List Nat} (h : canL a = true) (hz : ng = true → a ≠ [48]) : intL (wdV ng a) = if ng then 45 :: a else a := by
  have z := can_zero h
  have n := can_num h
  cases ng with
  | true =>
    have : digitsVal a ≠ 0 := fun e => hz rfl (z.mp e)
    show intL (-(digitsVal a : Int)) = 45 :: a
    unfold intL
    rw [if_pos (by omega), show (-(digitsVal a : Int)).natAbs = digitsVal a by omega, n]
  | false =>
    show intL ((digitsVal a : Int)) = a
    unfold intL
    rw [if_neg (by omega), show ((digitsVal a : Int)).natAbs = digitsVal a by omega, n]
/-- what the law reads: a fraction, or nothing -/
def fracP (ng : Bool) (ps : List (List Nat)) : Option (Int × Int) := match ps with
  | [a] => if canL a && !(ng && decide (a = [48])) then some (wdV ng a, 1) else none
  | [a, b] => if (canL a && !(ng && decide (a = [48]))) && canL b && decide (2 ≤ digitsVal b) && decide (Nat.gcd (digitsVal a) (digitsVal b) = 1) then some (wdV ng a, (digitsVal b : Int)) else none
  | _ => none
def ngL (l : List Nat) : Bool := decide (l[0]? = some 45)
def bareL (l : List Nat) : List Nat := if ngL l then l.drop 1 else l
def frac (l : List Nat) : Option (Int × Int) := fracP (ngL l) (spl [47] 0 [] (bareL l))
/-- the text of a ratio, by its signs -/
theorem tl_rat (p q : Int) : tl (ratTxt p q) = if q = 1 then intL p else intL p ++ 47 :: intL q := by
  unfold ratTxt
  split
  · exact tl_int p
  · rw [tl_append, tl_append, tl_int, tl_int]
    show (intL p ++ [47]) ++ intL q = _
    rw [List.append_assoc]
    rfl
theorem app_cut {a b c d : List Nat} {s : Nat} (ha : s ∉ a) (hc : s ∉ c) (h : a ++ s :: b = c ++ s :: d) : a = c ∧ b = d := by
  induction a generalizing c with
  | nil =>
    cases c with
    | nil => exact ⟨rfl, (List.cons.inj h).2⟩
    | cons x c =>
      have := (List.cons.inj h).1
      exact absurd (by rw [this]; simp) hc
  | cons x a ih =>
    cases c with
    | nil =>
      have := (List.cons.inj h).1
      exact absurd (by rw [← this]; simp) ha
    | cons y c =>
      obtain ⟨e1, e2⟩ := List.cons.inj h
      obtain ⟨f1, f2⟩ := ih (c := c) (fun m => ha (by simp [m])) (fun m => hc (by simp [m])) e2
      exact ⟨by rw [e1, f1], f2⟩
/-- the ratio of two words has just this text exactly if they stand in lowest terms -/
theorem rat_text {ng : Bool} {a b : List Nat} (ha : canL a = true) (hz : ng = true → a ≠ [48]) (hb : canL b = true) (b0 : b ≠ [48]) :
    (tl (ratTxt ((wdV ng a).fdiv (shr (wdV ng a) (digitsVal b))) ((digitsVal b : Int).fdiv (shr (wdV ng a) (digitsVal b)))) = (if ng then 45 :: a else a) ++ 47 :: b ↔ 2 ≤ digitsVal b ∧ Nat.gcd (digitsVal a) (digitsVal b) = 1) ∧
    (2 ≤ digitsVal b ∧ Nat.gcd (digitsVal a) (digitsVal b) = 1 → ratD ((wdV ng a).fdiv (shr (wdV ng a) (digitsVal b))) ((digitsVal b : Int).fdiv (shr (wdV ng a) (digitsVal b))) = ratD (wdV ng a) (digitsVal b)) := by
  have m0 : digitsVal b ≠ 0 := fun e => b0 ((can_zero hb).mp e)
  have mi : ((digitsVal b : Nat) : Int) ≠ 0 := by omega
  have gq : Int.gcd (wdV ng a) (digitsVal b : Int) = Nat.gcd (digitsVal a) (digitsVal b) := by
    unfold wdV Int.gcd
    cases ng <;> simp
  have ta := wd_txt ha hz
  have tb : intL (digitsVal b : Int) = b := by
    unfold intL
    rw [if_neg (by omega), show ((digitsVal b : Int)).natAbs = digitsVal b by omega, can_num hb]
  have sf : ∀ i : Int, 47 ∉ intL i := fun i => intL_free (by omega)
  have self : Nat.gcd (digitsVal a) (digitsVal b) = 1 → (wdV ng a).fdiv (shr (wdV ng a) (digitsVal b)) = wdV ng a ∧ ((digitsVal b : Nat) : Int).fdiv (shr (wdV ng a) (digitsVal b)) = (digitsVal b : Int) := fun h => low_self ⟨by omega, by rw [gq]; exact h⟩
  refine ⟨⟨fun h => ?_, fun ⟨h1, h2⟩ => ?_⟩, fun ⟨_, h2⟩ => by rw [(self h2).1, (self h2).2]⟩
  · obtain ⟨l1, l2⟩ := low_mul (p := wdV ng a) mi
    have lo := low_low (p := wdV ng a) mi
    generalize hP : (wdV ng a).fdiv (shr (wdV ng a) (digitsVal b)) = P at h l1 lo
    generalize hQ : ((digitsVal b : Nat) : Int).fdiv (shr (wdV ng a) (digitsVal b)) = Q at h l2 lo
    rw [tl_rat] at h
    by_cases c : Q = 1
    · rw [if_pos c] at h
      exact absurd (by rw [h]; simp) (sf P)
    · rw [if_neg c] at h
      have fa : 47 ∉ (if ng then 45 :: a else a) := by
        rw [← ta]
        exact sf _
      obtain ⟨e1, e2⟩ := app_cut (sf P) fa h
      have eP : P = wdV ng a := intL_inj (e1.trans ta.symm)
      have eQ : Q = (digitsVal b : Int) := intL_inj (e2.trans tb.symm)
      subst eP eQ
      refine ⟨?_, by rw [← gq]; exact lo.2⟩
      have := lo.1
      omega
  · rw [(self h2).1, (self h2).2, tl_rat, if_neg (by omega), ta, tb]
end

end
section

/-! ### ratios read -/
section
open TL PySem.NumText
theorem dig_ascii : ∀ c : Nat, c < 128 → Unicode.isDigit c = (decide (48 ≤ c) && decide (c ≤ 57)) := by decide +kernel
theorem all_tl (w : Str) (p : Nat → Bool) : w.cps.all p = (tl w).all p := by
  show w.cps.all p = w.cps.toList.all p
  rw [Array.all_toList]
theorem ascii_dig (w : Str) : (Txt.isascii w && Txt.isdigit w) = (decide (0 < (tl w).length) && (tl w).all fun c => decide (48 ≤ c) && decide (c ≤ 57)) := by
  unfold Txt.isascii Txt.isdigit
  rw [all_tl, all_tl, len_tl, Bool.eq_iff_iff]
  simp only [Bool.and_eq_true, List.all_eq_true, decide_eq_true_eq]
  constructor
  · rintro ⟨h1, h2, h3⟩
    exact ⟨h2, fun c hc => by
      have := h3 c hc
      rw [dig_ascii c (h1 c hc)] at this
      simpa using this⟩
  · rintro ⟨h1, h2⟩
    exact ⟨fun c hc => by have := h2 c hc; omega, h1, fun c hc => by
      have := h2 c hc
      rw [dig_ascii c (by omega)]
      simpa using this⟩
theorem one_eq {c d : Nat} : ((⟨#[c]⟩ : Str) = ⟨#[d]⟩) ↔ c = d := by
  constructor
  · intro h
    have := congrArg tl h
    simpa [tl] using this
  · intro h
    rw [h]
theorem str_eq (w : Str) (s : Str) : decide (w = s) = decide (tl w = tl s) := by
  by_cases h : w = s
  · rw [h, decide_eq_true rfl, decide_eq_true rfl]
  · rw [decide_eq_false h, decide_eq_false fun e => h (ext_tl e)]
theorem ix_zero {l : List Nat} {c : Nat} (h : l[0]? = some c) : atI l 0 = some c := by
  cases l with
  | nil => cases h
  | cons x r =>
    cases h
    unfold atI ixN
    rw [if_pos (by decide), if_pos (by rw [List.length_cons]; omega)]
    rfl
theorem zero_ok : tl (Str.ofString "0") = [48] := rfl
theorem zero_mk : Str.ofString "0" = ⟨#[48]⟩ := rfl
def sd_is_amount : DSp := fun ds Q => ∃ w : Str, ds = [.str w] ∧ w.length ≤ 1000000 ∧ Q (.bl (canL (tl w)))
abbrev N_is_amount : List Str := ["word"]
def t_is_amount (K : PySem.W.Frag) : TS :=
  (tSeq (tIfS (tOr (tNot (tTest (tChain rLtI rLeI (tC (.int 0)) (tCB (rLenU K) (tCons (tVar 0) tNil)) (tC (.int 60))))) (tNot (tAnd (tB (tM0 rAscii (tVar 0))) (tB (tM0 rDigit (tVar 0)))))) (tRet (tC (.bl false))) tNext)
    (tRet (tOrV (tOp (rEqU K) (tVar 0) (tC (.str "0"))) (tOp (rNeU K) (tOp (rIx K) (tVar 0) (tC (.int 0))) (tC (.str "0"))))))
def a_is_amount : DS :=
  (dSeq (dIfS (dOr (dNot (dTest (dChain oLt oLe (dC (.int 0)) (dCB (c1 uLen) (dCons (dRd 0) dNil)) (dC (.int 60))))) (dNot (dAnd (dTest (dTx0 Txt.isascii (dVar 0))) (dTest (dTx0 Txt.isdigit (dVar 0)))))) (dRet (dC (.bl false))) dNext)
    (dRet (dOrV (dOp oEq (dRd 0) (dC (.str "0"))) (dOp oNe (dOp oIxS (dRd 0) (dC (.int 0))) (dC (.str "0"))))))
theorem r_is_amount {K : PySem.W.Frag} {Jx : WX} {Xd : XD} : RefS K Jx Xd (t_is_amount K) a_is_amount :=
  (rSeq (rIfS (rOr (rNot (rTest (rChain foLt foLe (RefE.b (rInt 0)) (RefE.b (rCB fcLen (rConsX (rRd 0) rNilX))) (RefE.b (rInt 60))))) (rNot (rAnd (rB (rAscii0 (rVar 0))) (rB (rDigit0 (rVar 0)))))) (rRet (rBl false)) rNext)
    (rRet (rOrV (rOp foEq (rRd 0) (RefE.b (rStr' "0"))) (rOp foNe (RefE.b (rOp foIxS (rRd 0) (RefE.b (rInt 0)))) (RefE.b (rStr' "0"))))))
theorem pd_is_amount (ds : List Dt) (Qd : Dt → Prop) (h : sd_is_amount ds Qd) : ds.length ≤ N_is_amount.length ∧ a_is_amount ⟨fun _ => Qd .non, Qd, fun _ => False, fun _ => False⟩ (vals ds ++ List.replicate (N_is_amount.length - ds.length) .no) := by
  obtain ⟨w, rfl, hw, h⟩ := h
  refine ⟨Nat.le_of_ble_eq_true rfl, ?_⟩
  have ad := ascii_dig w
  have lt := len_tl w
  have F : ¬(0 < (tl w).length ∧ (tl w).length ≤ 60) ∨ (Txt.isascii w && Txt.isdigit w) = false → Qd (.bl false) := fun c => by
    have e : canL (tl w) = false := by
      apply Bool.eq_false_iff.mpr
      intro z
      obtain ⟨z1, z2, _⟩ := canL_iff.mp z
      rcases c with c | c
      · exact c z1
      · rw [ad, decide_eq_true z1.1, Bool.true_and] at c
        have : ((tl w).all fun c => decide (48 ≤ c) && decide (c ≤ 57)) = true := List.all_eq_true.mpr fun c hc => by
          have := z2 c hc
          simpa using this
        rw [this] at c
        cases c
    rw [e] at h
    exact h
  walk_at "dg"
  refine ⟨by omega, ?_⟩
  walk_at "dg"
  refine ⟨fun c1 => ?_, fun c1 => ?_⟩
  rotate_left
  · have n := of_decide_eq_false c1
    exact ⟨fun _ => ⟨fun _ => F (.inl (by omega)), fun z => (nomatch z)⟩, fun z => (nomatch z)⟩
  have l1 := of_decide_eq_true c1
  walk_at "dg"
  refine ⟨fun c2 => ?_, fun c2 => ?_⟩
  · have n : ¬ ((w.length : Nat) : Int) ≤ 60 := by simpa using c2
    exact ⟨fun _ => F (.inl (by omega)), fun z => (nomatch z)⟩
  have l2 : ((w.length : Nat) : Int) ≤ 60 := by simpa using c2
  walk_at "dg"
  refine ⟨fun c3 => ?_, fun c3 => ?_⟩
  rotate_left
  · exact ⟨fun _ => F (.inr (by rw [c3]; rfl)), fun z => (nomatch z)⟩
  walk_at "dg"
  refine ⟨fun c4 => ?_, fun c4 => ?_⟩
  · refine F (.inr ?_)
    rw [c3, Bool.true_and]
    simpa using c4
  have c4' : Txt.isdigit w = true := by simpa using c4
  walk_at "dg"
  rw [c3, c4'] at ad
  have ad' := Bool.and_eq_true_iff.mp ad.symm
  have d : AllDigits (tl w) := fun c hc => by
    have := List.all_eq_true.mp ad'.2 c hc
    simpa using this
  refine ⟨fun c5 => ?_, fun c5 => ?_⟩
  · walk_at "dg"
    have e : tl w = [48] := by
      have := of_decide_eq_true c5
      rw [this]
      rfl
    rw [e] at h
    exact h
  · walk_at "dg"
    have e : tl w ≠ [48] := fun z => (of_decide_eq_false c5) (ext_tl z)
    cases z : tl w with
    | nil =>
      rw [z] at lt
      simp at lt
      omega
    | cons x r =>
      have z0 : w.cps.toList[0]? = some x := by
        show (tl w)[0]? = some x
        rw [z]
        rfl
      rw [ix_zero z0]
      walk_at "dg"
      have e2 : (!decide ((⟨#[x]⟩ : Str) = Str.ofString "0")) = canL (tl w) := by
        rw [Bool.eq_iff_iff, canL_iff, Bool.not_eq_true', decide_eq_false_iff_not, zero_mk, one_eq]
        constructor
        · intro q
          refine ⟨by omega, d, .inr ?_⟩
          rw [z]
          simpa using q
        · rintro ⟨_, _, q | q⟩
          · exact absurd q e
          · rw [z] at q
            simpa using q
      refine ⟨by omega, ?_⟩
      walk_at "dg"
      rw [e2]
      exact h
abbrev sp_is_amount (K : PySem.W.Frag) : Sp := spD K sd_is_amount
theorem pure_is_amount {K : PySem.W.Frag} (vs : List V) (H : Hp) (Q : VK) (E : XK) (h : sp_is_amount K vs H Q E) : t_is_amount K { nx := fun _ H' => Q .non H', rt := Q } (L2.start N_is_amount vs) H := fnD (Jx := fun _ _ _ _ => False) (r_is_amount) h pd_is_amount
/-! a sign ahead -/
theorem starts_one (w : Str) : Txt.startswith w "-" = ngL (tl w) := by
  have e : (Str.ofString "-") = ⟨#[45]⟩ := rfl
  have k := StrLaws.subAt_one w 45 0
  unfold Txt.startswith ngL
  rw [e, Bool.eq_iff_iff, Bool.and_eq_true, decide_eq_true_eq, decide_eq_true_eq]
  exact k
theorem cut_from1 (w : Str) : tl (cutS w (some 1) none) = (tl w).drop 1 := by
  show List.take (w.length - HT.sIx w.length 0 (some ((1 : Nat) : Int))) (List.drop (HT.sIx w.length 0 (some ((1 : Nat) : Int))) (tl w)) = _
  rw [HT.sIx_nat]
  have l := len_tl w
  by_cases c : 1 ≤ w.length
  · rw [Nat.min_eq_left c, List.take_of_length_le (by rw [List.length_drop]; omega)]
  · have e : tl w = [] := List.eq_nil_of_length_eq_zero (by omega)
    rw [e]
    simp
theorem cut_to1 (w : Str) : tl (cutS w none (some 1)) = (tl w).take 1 := by
  show List.take (HT.sIx w.length w.length (some ((1 : Nat) : Int)) - 0) (List.drop 0 (tl w)) = _
  rw [HT.sIx_nat, List.drop_zero, Nat.sub_zero]
  have l := len_tl w
  by_cases c : 1 ≤ w.length
  · rw [Nat.min_eq_left c]
  · have e : tl w = [] := List.eq_nil_of_length_eq_zero (by omega)
    rw [e]
    simp
def intOk (l : List Nat) : Bool := canL (bareL l) && !(ngL l && decide (bareL l = [48]))
theorem ng_cons {l : List Nat} (h : ngL l = true) : l = 45 :: bareL l := by
  unfold bareL
  rw [if_pos h]
  have := of_decide_eq_true h
  cases l with
  | nil => cases this
  | cons x r =>
    have : x = 45 := by simpa using this
    rw [this]
    rfl
theorem bare_len (w : Str) : (tl w).length = w.length := (len_tl w).symm
def sd_is_integer : DSp := fun ds Q => ∃ w : Str, ds = [.str w] ∧ w.length ≤ 1000000 ∧ Q (.bl (intOk (tl w)))
abbrev N_is_integer : List Str := ["word"]
def t_is_integer (K : PySem.W.Frag) : TS :=
  (tSeq (tIfS (tB (tM1 rStarts (tVar 0) (tC (.str "-")))) (tRet (tAndV (tCall (sp_is_amount K) [] E0 (tCons (tSl (rSlU K) (tVar 0) (tPart (tC (.int 1))) tNoPart) tNil)) (tOp (rNeU K) (tVar 0) (tC (.str "-0"))))) tNext)
    (tRet (tCall (sp_is_amount K) [] E0 (tCons (tVar 0) tNil))))
def a_is_integer : DS :=
  (dSeq (dIfS (dTest (dM1 oStarts (dVar 0) (dC (.str "-")))) (dRet (dAndV (dCall sd_is_amount (dCons (dSl (dRd 0) (dPart (dC (.int 1))) dNoPart) dNil)) (dOp oNe (dRd 0) (dC (.str "-0"))))) dNext)
    (dRet (dCall sd_is_amount (dCons (dVar 0) dNil))))
theorem r_is_integer {K : PySem.W.Frag} {Jx : WX} {Xd : XD} : RefS K Jx Xd (t_is_integer K) a_is_integer :=
  (rSeq (rIfS (rB (rM1 foStarts (rVar 0) (RefE.b (rStr' "-")))) (rRet (rAndV (rCall (fun _ _ _ h => h) (rCons (rSl (rRd 0) (rPart (rInt 1)) rNoPart) rNil)) (rOp foNe (rRd 0) (RefE.b (rStr' "-0"))))) rNext)
    (rRet (rCall (fun _ _ _ h => h) (rCons (rVar 0) rNil))))
theorem pd_is_integer (ds : List Dt) (Qd : Dt → Prop) (h : sd_is_integer ds Qd) : ds.length ≤ N_is_integer.length ∧ a_is_integer ⟨fun _ => Qd .non, Qd, fun _ => False, fun _ => False⟩ (vals ds ++ List.replicate (N_is_integer.length - ds.length) .no) := by
  obtain ⟨w, rfl, hw, h⟩ := h
  refine ⟨Nat.le_of_ble_eq_true rfl, ?_⟩
  walk_at "dg"
  refine ⟨fun c => ?_, fun c => ?_⟩
  · rw [starts_one] at c
    have e := ng_cons c
    have b : bareL (tl w) = (tl w).drop 1 := if_pos c
    walk_at "dg"
    refine ⟨by omega, ?_⟩
    walk_at "dg"
    have cl := cutS_length w (some 1) none
    refine ⟨_, rfl, by omega, ?_⟩
    refine ⟨fun c1 => ?_, fun c1 => ?_⟩
    · walk_at "dg"
      rw [cut_from1, ← b] at c1
      have e2 : (!decide (w = Str.ofString "-0")) = intOk (tl w) := by
        unfold intOk
        rw [c1, c, Bool.true_and, Bool.true_and, str_eq]
        congr 2
        rw [e]
        show (45 :: bareL (tl w) = [45, 48]) = _
        rw [show bareL (45 :: bareL (tl w)) = bareL (tl w) by rw [← e]]
        simp
      rw [e2]
      exact h
    · rw [cut_from1, ← b] at c1
      have e2 : intOk (tl w) = false := by
        unfold intOk
        rw [c1, Bool.false_and]
      rw [e2] at h
      exact h
  · rw [starts_one] at c
    have b : bareL (tl w) = tl w := if_neg (by rw [c]; exact Bool.false_ne_true)
    walk_at "dg"
    refine ⟨w, rfl, hw, ?_⟩
    have e2 : intOk (tl w) = canL (tl w) := by
      unfold intOk
      rw [c, b, Bool.false_and, Bool.not_false, Bool.and_true]
    rw [e2] at h
    exact h
abbrev sp_is_integer (K : PySem.W.Frag) : Sp := spD K sd_is_integer
theorem pure_is_integer {K : PySem.W.Frag} (vs : List V) (H : Hp) (Q : VK) (E : XK) (h : sp_is_integer K vs H Q E) : t_is_integer K { nx := fun _ H' => Q .non H', rt := Q } (L2.start N_is_integer vs) H := fnD (Jx := fun _ _ _ _ => False) (r_is_integer) h pd_is_integer
def digV (l : List Nat) : Int := if canL l then (digitsVal l : Int) else -1
def sd_law_digits : DSp := fun ds Q => ∃ w : Str, ds = [.str w] ∧ w.length ≤ 1000000 ∧ Q (.int (digV (tl w)))
abbrev N_law_digits : List Str := ["word", "c"]
def t_law_digits (K : PySem.W.Frag) : TS :=
  (tSeq (tIfS (tOr (tTest (tOp rLtI (tCB (rLenU K) (tCons (tVar 0) tNil)) (tC (.int 1)))) (tOr (tTest (tOp rGtI (tCB (rLenU K) (tCons (tVar 0) tNil)) (tC (.int 60)))) (tAnd (tTest (tOp (rEqU K) (tOp (rIx K) (tVar 0) (tC (.int 0))) (tC (.str "0")))) (tTest (tOp rGtI (tCB (rLenU K) (tCons (tVar 0) tNil)) (tC (.int 1))))))) (tRet (tOp rSubI (tC (.int 0)) (tC (.int 1)))) tNext)
    (tRet (tIf (tTruth K (tLc (iStr (tVar 0)) (gName 1) (tTest (tOp rNInS1 (tVar 1) (tC (.str "0123456789")))) (tVar 1) [1])) (tOp rSubI (tC (.int 0)) (tC (.int 1))) (tCB rIntT (tCons (tVar 0) tNil)))))
def a_law_digits : DS :=
  (dSeq (dIfS (dOr (dTest (dOp oLt (dCB (c1 uLen) (dCons (dRd 0) dNil)) (dC (.int 1)))) (dOr (dTest (dOp oGt (dCB (c1 uLen) (dCons (dRd 0) dNil)) (dC (.int 60)))) (dAnd (dTest (dOp oEq (dOp oIxS (dRd 0) (dC (.int 0))) (dC (.str "0")))) (dTest (dOp oGt (dCB (c1 uLen) (dCons (dRd 0) dNil)) (dC (.int 1))))))) (dRet (dOp oSub (dC (.int 0)) (dC (.int 1)))) dNext)
    (dRet (dIf (dTruth (dLc (jStr (dVar 0)) (gN 1) (dTest (dOp oNinS (dRd 1) (dC (.str "0123456789")))) (dVar 1) [1])) (dOp oSub (dC (.int 0)) (dC (.int 1))) (dCB (c1 uIntT) (dCons (dRd 0) dNil)))))
theorem r_law_digits {K : PySem.W.Frag} {Jx : WX} {Xd : XD} : RefS K Jx Xd (t_law_digits K) a_law_digits :=
  (rSeq (rIfS (rOr (rTest (rOp foLt (RefE.b (rCB fcLen (rConsX (rRd 0) rNilX))) (RefE.b (rInt 1)))) (rOr (rTest (rOp foGt (RefE.b (rCB fcLen (rConsX (rRd 0) rNilX))) (RefE.b (rInt 60)))) (rAnd (rTest (rOp foEq (RefE.b (rOp foIxS (rRd 0) (RefE.b (rInt 0)))) (RefE.b (rStr' "0")))) (rTest (rOp foGt (RefE.b (rCB fcLen (rConsX (rRd 0) rNilX))) (RefE.b (rInt 1))))))) (rRet (rOp foSub (RefE.b (rInt 0)) (RefE.b (rInt 1)))) rNext)
    (rRet (rIf (rTruth (RefE.b (rLc (RefI.j (riStr (rVar 0))) (rcN 1 (by decide)) (rTest (rOp foNinS (rRd 1) (RefE.b (rStr' "0123456789")))) (rVar 1)))) (rOp foSub (RefE.b (rInt 0)) (RefE.b (rInt 1))) (rCB fcIntT (rConsX (rRd 0) rNilX)))))
theorem dig_in (c : Nat) : decide (c ∈ (Str.ofString "0123456789").cps.toList) = (decide (48 ≤ c) && decide (c ≤ 57)) := by
  rw [Bool.eq_iff_iff, Bool.and_eq_true, decide_eq_true_eq, decide_eq_true_eq, decide_eq_true_eq]
  show c ∈ [48, 49, 50, 51, 52, 53, 54, 55, 56, 57] ↔ _
  simp only [List.mem_cons, List.not_mem_nil, or_false]
  omega
theorem pd_law_digits (ds : List Dt) (Qd : Dt → Prop) (h : sd_law_digits ds Qd) : ds.length ≤ N_law_digits.length ∧ a_law_digits ⟨fun _ => Qd .non, Qd, fun _ => False, fun _ => False⟩ (vals ds ++ List.replicate (N_law_digits.length - ds.length) .no) := by
  obtain ⟨w, rfl, hw, h⟩ := h
  refine ⟨Nat.le_of_ble_eq_true rfl, ?_⟩
  have lt := len_tl w
  have F : canL (tl w) = false → Qd (.int (-1)) := fun c => by
    have : digV (tl w) = -1 := if_neg (by rw [c]; exact Bool.false_ne_true)
    rw [this] at h
    exact h
  walk_at "dg"
  refine ⟨by omega, ?_⟩
  walk_at "dg"
  have N1 : ¬(0 < (tl w).length ∧ (tl w).length ≤ 60) → canL (tl w) = false := fun n => Bool.eq_false_iff.mpr fun z => n (canL_iff.mp z).1
  refine ⟨fun c1 => ⟨fun _ => F (N1 (by have := of_decide_eq_true c1; omega)), fun z => (nomatch z)⟩, fun c1 => ?_⟩
  have l1 := of_decide_eq_false c1
  walk_at "dg"
  refine ⟨by omega, ?_⟩
  walk_at "dg"
  refine ⟨fun c2 => ⟨fun _ => F (N1 (by have := of_decide_eq_true c2; omega)), fun z => (nomatch z)⟩, fun c2 => ?_⟩
  have l2 := of_decide_eq_false c2
  walk_at "dg"
  refine ⟨by omega, ?_⟩
  cases z : tl w with
  | nil =>
    rw [z] at lt
    simp at lt
    omega
  | cons x r =>
    have z0 : w.cps.toList[0]? = some x := by
      show (tl w)[0]? = some x
      rw [z]
      rfl
    rw [ix_zero z0]
    walk_at "dg"
    refine (fun (R : (x = 48 → r.length = 0) → _) => ⟨fun c3 => ?_, fun c3 => ⟨fun e => (nomatch e), fun _ => R fun e => absurd (one_eq.mpr e) (of_decide_eq_false c3)⟩⟩) ?_
    rotate_left
    · walk_at "dg"
      have x48 : x = 48 := one_eq.mp (of_decide_eq_true c3)
      refine ⟨by omega, ?_⟩
      walk_at "dg"
      refine ⟨fun c4 => ?_, fun c4 => R fun _ => ?_⟩
      · refine F (Bool.eq_false_iff.mpr fun q => ?_)
        obtain ⟨_, _, q | q⟩ := canL_iff.mp q
        · rw [q] at lt
          have := of_decide_eq_true c4
          simp at lt
          omega
        · exact q (by rw [z, x48]; rfl)
      · have := of_decide_eq_false c4
        rw [z, List.length_cons] at lt
        omega
    · intro h0
      walk_at "dg"
      refine ⟨by unfold signs; rw [List.length_map]; show (tl w).length ≤ _; omega, ?_⟩
      refine lc_keep (xs := tl w) (enc := fun c => .str ⟨#[c]⟩) (f := fun c => .str ⟨#[c]⟩) (p := fun c => !(decide (48 ≤ c) && decide (c ≤ 57))) (fun i c R R' hc h1 h2 => ?_) ?_
      · walk_at "dg"
        refine ⟨c, rfl, ?_⟩
        walk_at "dg"
        rw [dig_in]
        revert h1 h2
        cases (!(decide (48 ≤ c) && decide (c ≤ 57))) with
        | true => exact fun h1 _ => h1 rfl
        | false => exact fun _ h2 => h2 rfl
      · walk_at "dg"
        have e : (!(((tl w).filter fun c => !(decide (48 ≤ c) && decide (c ≤ 57))).map fun c => Dt.str ⟨#[c]⟩).isEmpty) = !(tl w).all fun c => decide (48 ≤ c) && decide (c ≤ 57) := by
          congr 1
          rw [Bool.eq_iff_iff, List.isEmpty_iff, List.map_eq_nil_iff, List.filter_eq_nil_iff, List.all_eq_true]
          simp
        rw [e]
        refine ⟨fun c4 => ?_, fun c4 => ?_⟩
        · walk_at "dg"
          refine F (Bool.eq_false_iff.mpr fun q => ?_)
          have d := (canL_iff.mp q).2.1
          have : ((tl w).all fun c => decide (48 ≤ c) && decide (c ≤ 57)) = true := List.all_eq_true.mpr fun c hc => by
            have := d c hc
            simpa using this
          rw [this] at c4
          cases c4
        · walk_at "dg"
          have d : AllDigits (tl w) := fun c hc => by
            have q : ((tl w).all fun c => decide (48 ≤ c) && decide (c ≤ 57)) = true := by simpa using c4
            have := List.all_eq_true.mp q c hc
            simpa using this
          have cn : canL (tl w) = true := canL_iff.mpr ⟨by omega, d, by
            by_cases q : x = 48
            · left
              have := h0 q
              rw [z, q, List.eq_nil_of_length_eq_zero this]
            · right
              rw [z]
              simpa using q⟩
          have e2 : digV (tl w) = (digitsVal (tl w) : Int) := if_pos cn
          rw [e2] at h
          exact ⟨_, intText_digits d (by rw [show w.cps.toList = tl w from rfl, z]; simp) (by omega), by omega, h⟩
abbrev sp_law_digits (K : PySem.W.Frag) : Sp := spD K sd_law_digits
theorem pure_law_digits {K : PySem.W.Frag} (vs : List V) (H : Hp) (Q : VK) (E : XK) (h : sp_law_digits K vs H Q E) : t_law_digits K { nx := fun _ H' => Q .non H', rt := Q } (L2.start N_law_digits vs) H := fnD (Jx := fun _ _ _ _ => False) (r_law_digits) h pd_law_digits
end

end
section

section
open TL PySem.NumText
theorem par_cases (l : List Nat) : (47 ∉ l ∧ par [47] [] l = none ∧ spl [47] 0 [] l = [l]) ∨ ∃ a b, l = a ++ 47 :: b ∧ 47 ∉ a ∧ par [47] [] l = some (a, b) ∧ spl [47] 0 [] l = a :: spl [47] 0 [] b := by
  by_cases h : 47 ∈ l
  · right
    obtain ⟨a, b, rfl, ha⟩ := List.eq_append_cons_of_mem h
    exact ⟨a, b, rfl, ha, par_part1 ha, spl_part1 ha⟩
  · left
    exact ⟨h, par_none1 h, spl_last1 h⟩
theorem frac_a {l : List Nat} (h : 47 ∉ l) : frac l = if intOk l then some (wdV (ngL l) (bareL l), 1) else none := by
  have n : 47 ∉ bareL l := by
    unfold bareL
    split
    · exact fun m => h (List.mem_of_mem_drop m)
    · exact h
  have e : spl [47] 0 [] (bareL l) = [bareL l] := spl_last1 n
  unfold frac
  rw [e]
  rfl
theorem spl_ne (S l : List Nat) : ∀ acc, ∃ x r, spl S 0 acc l = x :: r := by
  induction l with
  | nil => exact fun acc => ⟨acc, [], spl_nil S 0 acc⟩
  | cons c l ih =>
    intro acc
    cases h : pre S (c :: l) with
    | true => exact ⟨_, _, spl_hit h⟩
    | false =>
      rw [spl_miss h]
      exact ih _
theorem ng_app {a b : List Nat} : ngL (a ++ 47 :: b) = ngL a ∧ bareL (a ++ 47 :: b) = bareL a ++ 47 :: b := by
  cases a with
  | nil => exact ⟨rfl, rfl⟩
  | cons x a =>
    have e : ngL (x :: a ++ 47 :: b) = ngL (x :: a) := rfl
    refine ⟨e, ?_⟩
    unfold bareL
    rw [e]
    split <;> rfl
theorem frac_b {a b : List Nat} (h : 47 ∉ a) : frac (a ++ 47 :: b) = if (intOk a && canL b && decide (2 ≤ digitsVal b) && decide (Nat.gcd (digitsVal (bareL a)) (digitsVal b) = 1)) = true then some (wdV (ngL a) (bareL a), (digitsVal b : Int)) else none := by
  have n : 47 ∉ bareL a := by
    unfold bareL
    split
    · exact fun m => h (List.mem_of_mem_drop m)
    · exact h
  unfold frac
  rw [ng_app.1, ng_app.2, show spl [47] 0 [] (bareL a ++ 47 :: b) = bareL a :: spl [47] 0 [] b from spl_part1 (S := []) n]
  rcases par_cases b with ⟨nb, _, e⟩ | ⟨c, d, rfl, _, _, e⟩
  · rw [e]
    rfl
  · rw [e]
    obtain ⟨x, r, e2⟩ := spl_ne [47] d []
    rw [e2]
    have : canL (c ++ 47 :: d) = false := Bool.eq_false_iff.mpr fun q => can_free q (c := 47) (by omega) (by simp)
    rw [this, Bool.and_false, Bool.false_and, Bool.false_and, if_neg Bool.false_ne_true]
    rfl
theorem int_wd {w : Str} (h : intOk (tl w) = true) : PySem.intText? w = some (wdV (ngL (tl w)) (bareL (tl w))) ∧ w.length ≤ 61 := by
  obtain ⟨h1, h2⟩ := Bool.and_eq_true_iff.mp h
  obtain ⟨⟨l1, l2⟩, d, _⟩ := canL_iff.mp h1
  have lt := len_tl w
  cases c : ngL (tl w) with
  | true =>
    have e := ng_cons c
    have le : (tl w).length = (bareL (tl w)).length + 1 := (congrArg List.length e).trans List.length_cons
    refine ⟨?_, by omega⟩
    exact intText_neg (x := w) (cs := bareL (tl w)) e d (by intro z; rw [z] at l1; simp at l1) (by omega)
  | false =>
    have e : bareL (tl w) = tl w := if_neg (by rw [c]; exact Bool.false_ne_true)
    rw [e] at l1 l2 d ⊢
    refine ⟨?_, by omega⟩
    exact intText_digits (x := w) d (by intro z; rw [show w.cps.toList = tl w from rfl] at z; rw [z] at l1; simp at l1) (by omega)
theorem wd_bd {ng : Bool} {a : List Nat} (h : canL a = true) : (wdV ng a).natAbs < 2 ^ 400 := by
  have := can_lt h
  unfold wdV
  refine Nat.lt_of_lt_of_le (m := 2 ^ 200) ?_ (Nat.pow_le_pow_right (by decide) (by decide))
  split <;> omega
def sd_Ratio_read : DSpX := fun ds Q E => ∃ w : Str, ds = [.str w] ∧ w.length ≤ 1000000 ∧ (frac (tl w) = none → E (.err "InvalidText" [("text", .str w), ("code", .str "InvalidText")])) ∧ ∀ p q, frac (tl w) = some (p, q) → Q (ratD p q)
abbrev N_Ratio_read : List Str := ["text", "top", "slash", "bottom", "told"]
def t_Ratio_read (K : PySem.W.Frag) (Jx : WX) : TS :=
  (tSeq (tAsg (tM1 rParti (tVar 0) (tC (.str "/"))) (gTup K 3 (gCons (gName 1) (gCons (gName 2) (gCons (gName 3) gNil)))))
    (tMid (tIfS (tB (tCall (sp_is_integer K) [] E0 (tCons (tVar 1) tNil))) (tSeq (tIfS (tTest (tOp (rEqU K) (tVar 2) (tC (.str "")))) (tRet (tMake (He.ga K "Ratio") (TY.spC (sp_Ratio_init K)) [.int 1] E0 (tCons (tCB rIntT (tCons (tVar 1) tNil)) tNil))) tNext)
    (tIfS (tAnd (tB (tCall (sp_is_amount K) [] E0 (tCons (tVar 3) tNil))) (tTest (tOp (rNeU K) (tVar 3) (tC (.str "0"))))) (tSeq (tAsg (TY.tNdx (He.ga K "Ratio") (sp_Ratio_init K) [] Jx (tCons (tCB rIntT (tCons (tVar 1) tNil)) (tCons (tCB rIntT (tCons (tVar 3) tNil)) tNil))) (gName 4))
    (tIfS (tTest (tOp (rEqU K) (tFld K (tVar 4) "text") (tVar 0))) (tRet (tVar 4)) tNext)) tNext)) tNext)
    (tRaiseF (He.ga K "InvalidText") psInvalidText flInvalidText Jx (tCons (tVar 0) tNil))))
def a_Ratio_read (Xd : XD) : DS :=
  (dSeq (dAsg (dM1 oParti (dVar 0) (dC (.str "/"))) (gT 3 (gsCons (gN 1) (gsCons (gN 2) (gsCons (gN 3) gsNil)))))
    (dMid (dIfS (dTest (dCall sd_is_integer (dCons (dVar 1) dNil))) (dSeq (dIfS (dTest (dOp oEq (dRd 2) (dC (.str "")))) (dRet (dNewD (cD sd_Ratio_init) [.int 1] (dCons (dCB (c1 uIntT) (dCons (dRd 1) dNil)) dNil))) dNext)
    (dIfS (dAnd (dTest (dCall sd_is_amount (dCons (dVar 3) dNil))) (dTest (dOp oNe (dRd 3) (dC (.str "0"))))) (dSeq (dAsg (dCallX Xd sd_Ratio_init (dCons (dCB (c1 uIntT) (dCons (dRd 1) dNil)) (dCons (dCB (c1 uIntT) (dCons (dRd 3) dNil)) dNil))) (gN 4))
    (dIfS (dTest (dOp oEq (dFld CLr (dRd 4) "text") (dRd 0))) (dRet (dVar 4)) dNext)) dNext)) dNext)
    (dRaise Xd "InvalidText" psInvalidText flInvalidText (dCons (dVar 0) dNil))))
theorem r_Ratio_read {K : PySem.W.Frag} {Jx : WX} {Xd : XD} (CF : ClsF CLr K) : RefS K Jx Xd (t_Ratio_read K Jx) (a_Ratio_read Xd) :=
  (rSeq (rAsg (rM1 foParti (rVar 0) (RefE.b (rStr' "/"))) (rgT 3 (rgsCons (rgN 1) (rgsCons (rgN 2) (rgsCons (rgN 3) rgsNil)))))
    (rMid (rIfS (rB (rCall (fun _ _ _ h => h) (rCons (rVar 1) rNil))) (rSeq (rIfS (rTest (rOp foEq (rRd 2) (RefE.b (rStr' "")))) (rRet (rNdd (fun _ _ _ h => calmNX h) (fun _ _ => (.cons (.int 1) .nil)) (rCons (rCB fcIntT (rConsX (rRd 1) rNilX)) rNil))) rNext)
    (rIfS (rAnd (rB (rCall (fun _ _ _ h => h) (rCons (rVar 3) rNil))) (rTest (rOp foNe (rRd 3) (RefE.b (rStr' "0"))))) (rSeq (rAsg (rNdx (fun _ _ _ _ h => h) (rCons (rCB fcIntT (rConsX (rRd 1) rNilX)) (rCons (rCB fcIntT (rConsX (rRd 3) rNilX)) rNil))) (rgN 4))
    (rIfS (rTest (rOp foEq (RefE.b (rFld CF "text" (rRd 4))) (rRd 0))) (rRet (rVar 4)) rNext)) rNext)) rNext)
    (rRaise (rCons (rVar 0) rNil) (by decide))))
theorem pd_Ratio_read (ds : List Dt) (Qd Ed : Dt → Prop) (h : sd_Ratio_read ds Qd Ed) : ds.length ≤ N_Ratio_read.length ∧ a_Ratio_read (fun d _ => Ed d) ⟨fun _ => Qd .non, Qd, fun _ => False, fun _ => False⟩ (vals ds ++ List.replicate (N_Ratio_read.length - ds.length) .no) := by
  obtain ⟨w, rfl, hw, hE, hQ⟩ := h
  refine ⟨Nat.le_of_ble_eq_true rfl, ?_⟩
  have hp := partition_par w "/" (show tl (Str.ofString "/") ≠ [] by decide)
  have R : frac (tl w) = none → Ed (.err "InvalidText" [("text", .str w), ("code", .str "InvalidText")]) := hE
  rcases par_cases (tl w) with ⟨n47, e1, e2⟩ | ⟨a, b, el, na, e1, e2⟩
  · -- no /
    rw [show tl (Str.ofString "/") = [47] from rfl, e1] at hp
    walk_at "dg"
    rw [hp]
    refine ⟨by omega, ?_⟩
    walk_at "dg"
    refine ⟨fun ρ => frac (tl w) = none ∧ gt ρ 0 = .val (.str w), ?_, ?_⟩
    · walk_at "dg"
      refine ⟨w, rfl, hw, ?_⟩
      have fa := frac_a n47
      refine ⟨fun c => ?_, fun c => ⟨by rw [fa, c]; rfl, rfl⟩⟩
      obtain ⟨iw, lw⟩ := int_wd c
      rw [c, if_pos rfl] at fa
      have bd := wd_bd (ng := ngL (tl w)) (Bool.and_eq_true_iff.mp c).1
      walk_at "dg"
      refine ⟨fun _ => ?_, fun z => (nomatch z)⟩
      walk_at "dg"
      refine ⟨_, iw, by omega, ?_⟩
      refine ⟨_, 1, rfl, ⟨Nat.lt_of_lt_of_le bd (Nat.pow_le_pow_right (by decide) (by decide)), Nat.one_lt_two_pow (by decide)⟩, fun z => absurd z (by decide), fun _ => ?_⟩
      rw [shr_one, Int.fdiv_one, Int.fdiv_one]
      exact hQ _ _ fa
    · rintro ρ ⟨h1, h2⟩
      walk_at "dg"
      rw [h2]
      walk_at "dg"
      exact R h1
  · rw [show tl (Str.ofString "/") = [47] from rfl, e1] at hp
    have fb := frac_b (b := b) na
    rw [← el] at fb
    have la : (⟨a.toArray⟩ : Str).length = a.length := len_tl _
    have lb : (⟨b.toArray⟩ : Str).length = b.length := len_tl _
    have lw : w.length = a.length + (b.length + 1) := by rw [len_tl, el, List.length_append, List.length_cons]
    walk_at "dg"
    rw [hp]
    refine ⟨by omega, ?_⟩
    walk_at "dg"
    refine ⟨fun ρ => frac (tl w) = none ∧ gt ρ 0 = .val (.str w), ?_, ?_⟩
    · walk_at "dg"
      refine ⟨⟨a.toArray⟩, rfl, by omega, ?_⟩
      rw [tl_mk]
      refine ⟨fun c => ?_, fun c => ⟨by rw [fb, c]; rfl, rfl⟩⟩
      obtain ⟨iw, _⟩ := int_wd (w := ⟨a.toArray⟩) (by rw [tl_mk]; exact c)
      rw [tl_mk] at iw
      obtain ⟨ca, cz⟩ := Bool.and_eq_true_iff.mp c
      have bd := wd_bd (ng := ngL a) ca
      have hz : ngL a = true → bareL a ≠ [48] := fun z1 z2 => by
        rw [z1, z2] at cz
        cases cz
      walk_at "dg"
      refine ⟨fun z => (nomatch z), fun _ => ?_⟩
      walk_at "dg"
      refine ⟨⟨b.toArray⟩, rfl, by omega, ?_⟩
      rw [tl_mk]
      refine ⟨fun c2 => ?_, fun c2 => ⟨fun z => (nomatch z), fun _ => ⟨by rw [fb, c, c2]; rfl, rfl⟩⟩⟩
      walk_at "dg"
      refine ⟨fun c3 => ?_, fun c3 => ?_⟩
      · have b0 : b ≠ [48] := fun z => by
          subst z
          exact absurd c3 (by decide)
        walk_at "dg"
        refine ⟨_, iw, by omega, ?_⟩
        walk_at "dg"
        have bi : intText? (⟨b.toArray⟩ : Str) = some ((digitsVal b : Nat) : Int) := intText_digits (canL_iff.mp c2).2.1 (by
          intro z
          have := (canL_iff.mp c2).1.1
          have z' : b = [] := z
          rw [z'] at this
          simp at this) (by have := (canL_iff.mp c2).1; omega)
        have blt := can_lt c2
        have m0 : digitsVal b ≠ 0 := fun e => b0 ((can_zero c2).mp e)
        refine ⟨_, bi, by have := (canL_iff.mp c2).1; omega, ?_⟩
        refine ⟨_, _, rfl, ⟨Nat.lt_of_lt_of_le bd (Nat.pow_le_pow_right (by decide) (by decide)), Nat.lt_of_lt_of_le (show ((digitsVal b : Nat) : Int).natAbs < 2 ^ 200 by rw [Int.natAbs_natCast]; exact blt) (Nat.pow_le_pow_right (by decide) (by decide))⟩, fun z => absurd z (by omega), fun _ => ?_⟩
        obtain ⟨rt1, rt2⟩ := rat_text ca hz c2 b0
        have eb : (if ngL a then 45 :: bareL a else bareL a) = a := by
          cases q : ngL a with
          | true => exact (ng_cons q).symm
          | false =>
            show bareL a = a
            unfold bareL
            rw [q]
            rfl
        rw [eb, ← el] at rt1
        walk_at "dg"
        refine ⟨fun c4 => ?_, fun c4 => ⟨?_, rfl⟩⟩
        · walk_at "dg"
          have g := rt1.mp (congrArg tl (of_decide_eq_true c4))
          have e := rt2 g
          refine (show Qd (ratD _ _) from ?_)
          rw [e]
          refine hQ _ _ ?_
          rw [fb, if_pos]
          rw [c, c2, decide_eq_true g.1, decide_eq_true g.2]
          rfl
        · rw [fb, if_neg]
          intro q
          simp only [Bool.and_eq_true, decide_eq_true_eq] at q
          exact of_decide_eq_false c4 (ext_tl (rt1.mpr ⟨q.1.2, q.2⟩))
      · refine ⟨?_, rfl⟩
        have b0 : b = [48] := by
          have : (⟨b.toArray⟩ : Str) = Str.ofString "0" := by simpa using c3
          have := congrArg tl this
          exact this
        rw [fb, b0]
        exact if_neg (by rw [show decide (2 ≤ digitsVal [48]) = false from rfl, Bool.and_false, Bool.false_and]; exact Bool.false_ne_true)
    · rintro ρ ⟨h1, h2⟩
      walk_at "dg"
      rw [h2]
      walk_at "dg"
      exact R h1
abbrev sp_Ratio_read (K : PySem.W.Frag) : Sp := spX K sd_Ratio_read
theorem pure_Ratio_read {K : PySem.W.Frag} (CF : ClsF CLr K) (vs : List V) (H : Hp) (Q : VK) (E : XK) (h : sp_Ratio_read K vs H Q E) : t_Ratio_read K (fun cls d _ H => E cls d H) { nx := fun _ H' => Q .non H', rt := Q } (L2.start N_Ratio_read vs) H := fnX (ts := t_Ratio_read K) (a := a_Ratio_read) (fun Jx Xd => r_Ratio_read CF) h pd_Ratio_read
end

end
section

section
open TL PySem.NumText
theorem cut_ng (w : Str) : decide (cutS w none (some 1) = Str.ofString "-") = ngL (tl w) := by
  rw [str_eq, cut_to1]
  unfold ngL
  rw [Bool.eq_iff_iff, decide_eq_true_eq, decide_eq_true_eq]
  show List.take 1 (tl w) = [45] ↔ _
  cases tl w with
  | nil => simp
  | cons x r => simp
theorem digV_neg {l : List Nat} : digV l < 0 ↔ canL l = false := by
  unfold digV
  cases canL l with
  | true =>
    rw [if_pos rfl]
    constructor
    · intro h
      exact absurd h (by omega)
    · intro h
      cases h
  | false =>
    rw [if_neg Bool.false_ne_true]
    exact ⟨fun _ => rfl, fun _ => by decide⟩
theorem digV_zero {l : List Nat} (h : canL l = true) : digV l = 0 ↔ l = [48] := by
  have := can_zero h
  unfold digV
  rw [if_pos h, ← this]
  omega
theorem spl_len (S : List Nat) : ∀ (n : Nat) (l acc : List Nat), l.length ≤ n → (spl S 0 acc l).length ≤ l.length + 1 ∧ ∀ p, p ∈ spl S 0 acc l → p.length ≤ acc.length + l.length := by
  intro n
  induction n with
  | zero =>
    intro l acc hl
    rw [List.eq_nil_of_length_eq_zero (by omega : l.length = 0), spl_nil]
    exact ⟨Nat.le_refl _, fun p hp => by rw [List.mem_singleton.mp hp]; omega⟩
  | succ n ih =>
    intro l acc hl
    cases l with
    | nil =>
      rw [spl_nil]
      exact ⟨Nat.le_refl _, fun p hp => by rw [List.mem_singleton.mp hp]; omega⟩
    | cons c r =>
      rw [List.length_cons] at *
      cases h : pre S (c :: r) with
      | true =>
        rw [spl_hit h, spl_pass]
        have k := ih (r.drop (S.length - 1)) [] (by rw [List.length_drop]; omega)
        rw [List.length_drop] at k
        refine ⟨by rw [List.length_cons]; omega, fun p hp => ?_⟩
        rcases List.mem_cons.mp hp with rfl | hp
        · omega
        · have := k.2 p hp
          simp only [List.length_nil] at this
          omega
      | false =>
        rw [spl_miss h]
        have k := ih r (acc ++ [c]) (by omega)
        refine ⟨by omega, fun p hp => ?_⟩
        have := k.2 p hp
        rw [List.length_append, List.length_singleton] at this
        omega
theorem split_tl (w : Str) : (Txt.split w (Str.ofString "/")).map tl = spl [47] 0 [] (tl w) := split_spl w "/" (show tl (Str.ofString "/") ≠ [] by decide) (kind_ok (by decide +kernel))
def fracD : Option (Int × Int) → Dt
  | none => .non
  | some (p, q) => .tup [.int p, .int q]
def sd_law_fraction : DSp := fun ds Q => ∃ w : Str, ds = [.str w] ∧ w.length ≤ 900000 ∧ Q (fracD (frac (tl w)))
abbrev N_law_fraction : List Str := ["said", "parts", "found", "part"]
def t_law_fraction (K : PySem.W.Frag) : TS :=
  (tSeq (tAsg (tM1 rSplitT (tIf (tTest (tOp (rEqU K) (tSl (rSlU K) (tVar 0) tNoPart (tPart (tC (.int 1)))) (tC (.str "-")))) (tSl (rSlU K) (tVar 0) (tPart (tC (.int 1))) tNoPart) (tVar 0)) (tC (.str "/"))) (gName 1))
    (tSeq (tAsg (tLc (iSq K (tVar 1)) (gName 3) tYes (tIf (tTest (tOp rLtI (tCB (rLenU K) (tCons (tVar 3) tNil)) (tC (.int 61)))) (tCall (sp_law_digits K) [] E0 (tCons (tVar 3) tNil)) (tOp rSubI (tC (.int 0)) (tC (.int 1)))) [3]) (gName 2))
    (tSeq (tIfS (tOr (tTest (tOp rGtI (tCB (rLenU K) (tCons (tVar 2) tNil)) (tC (.int 2)))) (tOr (tTest (tOp rLtI (tCB (rMin K) (tCons (tVar 2) tNil)) (tC (.int 0)))) (tAnd (tTest (tOp (rEqU K) (tOp (rIx K) (tVar 2) (tC (.int 0))) (tC (.int 0)))) (tTest (tOp (rEqU K) (tSl (rSlU K) (tVar 0) tNoPart (tPart (tC (.int 1)))) (tC (.str "-"))))))) (tRet (tC .non)) tNext)
    (tSeq (tIfS (tTest (tOp (rEqU K) (tCB (rLenU K) (tCons (tVar 2) tNil)) (tC (.int 1)))) (tRet (tTup (tCons (tIf (tTest (tOp (rEqU K) (tSl (rSlU K) (tVar 0) tNoPart (tPart (tC (.int 1)))) (tC (.str "-")))) (tOp rSubI (tC (.int 0)) (tOp (rIx K) (tVar 2) (tC (.int 0)))) (tOp (rIx K) (tVar 2) (tC (.int 0)))) (tCons (tC (.int 1)) tNil)))) tNext)
    (tSeq (tIfS (tOr (tTest (tOp rLtI (tOp (rIx K) (tVar 2) (tC (.int 1))) (tC (.int 2)))) (tTest (tOp (rNeU K) (tCall (sp_law_gcd K) [] E0 (tCons (tOp (rIx K) (tVar 2) (tC (.int 0))) (tCons (tOp (rIx K) (tVar 2) (tC (.int 1))) tNil))) (tC (.int 1))))) (tRet (tC .non)) tNext)
    (tRet (tTup (tCons (tIf (tTest (tOp (rEqU K) (tSl (rSlU K) (tVar 0) tNoPart (tPart (tC (.int 1)))) (tC (.str "-")))) (tOp rSubI (tC (.int 0)) (tOp (rIx K) (tVar 2) (tC (.int 0)))) (tOp (rIx K) (tVar 2) (tC (.int 0)))) (tCons (tOp (rIx K) (tVar 2) (tC (.int 1))) tNil)))))))))
def a_law_fraction : DS :=
  (dSeq (dAsg (dM1 oSplitT (dIf (dTest (dOp oEq (dSl (dRd 0) dNoPart (dPart (dC (.int 1)))) (dC (.str "-")))) (dSl (dRd 0) (dPart (dC (.int 1))) dNoPart) (dVar 0)) (dC (.str "/"))) (gN 1))
    (dSeq (dAsg (dLc (jSq (dRd 1)) (gN 3) dYes (dIf (dTest (dOp oLt (dCB (c1 uLen) (dCons (dRd 3) dNil)) (dC (.int 61)))) (dCall sd_law_digits (dCons (dVar 3) dNil)) (dOp oSub (dC (.int 0)) (dC (.int 1)))) [3]) (gN 2))
    (dSeq (dIfS (dOr (dTest (dOp oGt (dCB (c1 uLen) (dCons (dRd 2) dNil)) (dC (.int 2)))) (dOr (dTest (dOp oLt (dCB (c1 uMinL) (dCons (dRd 2) dNil)) (dC (.int 0)))) (dAnd (dTest (dOp oEq (dOp oIx (dRd 2) (dC (.int 0))) (dC (.int 0)))) (dTest (dOp oEq (dSl (dRd 0) dNoPart (dPart (dC (.int 1)))) (dC (.str "-"))))))) (dRet (dC .non)) dNext)
    (dSeq (dIfS (dTest (dOp oEq (dCB (c1 uLen) (dCons (dRd 2) dNil)) (dC (.int 1)))) (dRet (dTup (dCons (dIf (dTest (dOp oEq (dSl (dRd 0) dNoPart (dPart (dC (.int 1)))) (dC (.str "-")))) (dOp oSub (dC (.int 0)) (dOp oIx (dRd 2) (dC (.int 0)))) (dOp oIx (dRd 2) (dC (.int 0)))) (dCons (dC (.int 1)) dNil)))) dNext)
    (dSeq (dIfS (dOr (dTest (dOp oLt (dOp oIx (dRd 2) (dC (.int 1))) (dC (.int 2)))) (dTest (dOp oNe (dCall sd_law_gcd (dCons (dOp oIx (dRd 2) (dC (.int 0))) (dCons (dOp oIx (dRd 2) (dC (.int 1))) dNil))) (dC (.int 1))))) (dRet (dC .non)) dNext)
    (dRet (dTup (dCons (dIf (dTest (dOp oEq (dSl (dRd 0) dNoPart (dPart (dC (.int 1)))) (dC (.str "-")))) (dOp oSub (dC (.int 0)) (dOp oIx (dRd 2) (dC (.int 0)))) (dOp oIx (dRd 2) (dC (.int 0)))) (dCons (dOp oIx (dRd 2) (dC (.int 1))) dNil)))))))))
theorem r_law_fraction {K : PySem.W.Frag} {Jx : WX} {Xd : XD} : RefS K Jx Xd (t_law_fraction K) a_law_fraction :=
  (rSeq (rAsg (rM1 foSplitT (rIf (rTest (rOp foEq (RefE.b (rSl (rRd 0) rNoPart (rPart (rInt 1)))) (RefE.b (rStr' "-")))) (rSl (rRd 0) (rPart (rInt 1)) rNoPart) (rVar 0)) (RefE.b (rStr' "/"))) (rgN 1))
    (rSeq (rAsg (rLc (rjSq (rRd 1)) (rcN 3 (by decide)) rYes (rIf (rTest (rOp foLt (RefE.b (rCB fcLen (rConsX (rRd 3) rNilX))) (RefE.b (rInt 61)))) (rCall (fun _ _ _ h => h) (rCons (rVar 3) rNil)) (rOp foSub (RefE.b (rInt 0)) (RefE.b (rInt 1))))) (rgN 2))
    (rSeq (rIfS (rOr (rTest (rOp foGt (RefE.b (rCB fcLen (rConsX (rRd 2) rNilX))) (RefE.b (rInt 2)))) (rOr (rTest (rOp foLt (RefE.b (rCB fcMinL (rConsX (rRd 2) rNilX))) (RefE.b (rInt 0)))) (rAnd (rTest (rOp foEq (RefE.b (rOp foIx (rRd 2) (RefE.b (rInt 0)))) (RefE.b (rInt 0)))) (rTest (rOp foEq (RefE.b (rSl (rRd 0) rNoPart (rPart (rInt 1)))) (RefE.b (rStr' "-"))))))) (rRet rNon) rNext)
    (rSeq (rIfS (rTest (rOp foEq (RefE.b (rCB fcLen (rConsX (rRd 2) rNilX))) (RefE.b (rInt 1)))) (rRet (rTup (rCons (rIf (rTest (rOp foEq (RefE.b (rSl (rRd 0) rNoPart (rPart (rInt 1)))) (RefE.b (rStr' "-")))) (rOp foSub (RefE.b (rInt 0)) (RefE.b (rOp foIx (rRd 2) (RefE.b (rInt 0))))) (rOp foIx (rRd 2) (RefE.b (rInt 0)))) (rCons (rInt 1) rNil)))) rNext)
    (rSeq (rIfS (rOr (rTest (rOp foLt (RefE.b (rOp foIx (rRd 2) (RefE.b (rInt 1)))) (RefE.b (rInt 2)))) (rTest (rOp foNe (RefE.b (rCall (fun _ _ _ h => h) (rCons (rOp foIx (rRd 2) (RefE.b (rInt 0))) (rCons (rOp foIx (rRd 2) (RefE.b (rInt 1))) rNil)))) (RefE.b (rInt 1))))) (rRet rNon) rNext)
    (rRet (rTup (rCons (rIf (rTest (rOp foEq (RefE.b (rSl (rRd 0) rNoPart (rPart (rInt 1)))) (RefE.b (rStr' "-")))) (rOp foSub (RefE.b (rInt 0)) (RefE.b (rOp foIx (rRd 2) (RefE.b (rInt 0))))) (rOp foIx (rRd 2) (RefE.b (rInt 0)))) (rCons (rOp foIx (rRd 2) (RefE.b (rInt 1))) rNil)))))))))
theorem pd_law_fraction (ds : List Dt) (Qd : Dt → Prop) (h : sd_law_fraction ds Qd) : ds.length ≤ N_law_fraction.length ∧ a_law_fraction ⟨fun _ => Qd .non, Qd, fun _ => False, fun _ => False⟩ (vals ds ++ List.replicate (N_law_fraction.length - ds.length) .no) := by
  obtain ⟨w, rfl, hw, h⟩ := h
  refine ⟨Nat.le_of_ble_eq_true rfl, ?_⟩
  walk_at "dg"
  refine ⟨by omega, ?_⟩
  walk_at "dg"
  rw [cut_ng]
  have bl : (bareL (tl w)).length ≤ 900000 := by
    have := len_tl w
    unfold bareL
    split
    · rw [List.length_drop]; omega
    · omega
  refine ⟨fun c => ?_, fun c => ?_⟩
  · walk_at "dg"
    refine ⟨by omega, ?_⟩
    have cl := cutS_length w (some 1) none
    walk_at "dg"
    refine ⟨by omega, ?_⟩
    generalize hps : Txt.split (cutS w (some 1) none) (Str.ofString "/") = ps
    have hps' : (ps.map tl) = spl [47] 0 [] (bareL (tl w)) := by rw [← hps]; exact (split_tl _).trans (by rw [cut_from1, show bareL (tl w) = (tl w).drop 1 from if_pos c])
    have lps : ps.length ≤ 900001 := by
      have := (spl_len [47] (bareL (tl w)).length (bareL (tl w)) [] (Nat.le_refl _)).1
      rw [← hps', List.length_map] at this
      omega
    have lp : ∀ p, p ∈ ps → p.length ≤ 900000 := fun p hp => by
      have := (spl_len [47] (bareL (tl w)).length (bareL (tl w)) [] (Nat.le_refl _)).2 (tl p) (by rw [← hps']; exact List.mem_map_of_mem hp)
      rw [len_tl]
      simp only [List.length_nil, Nat.zero_add] at this
      omega
    have fr : frac (tl w) = fracP (ngL (tl w)) (ps.map tl) := by rw [hps']; rfl
    rw [fr] at h
    have pne : ps ≠ [] := fun e => by
      obtain ⟨x, r, e2⟩ := spl_ne [47] (bareL (tl w)) []
      rw [e, e2] at hps'
      cases hps'
    clear hps hps' fr
    walk_at "dg"
    refine ⟨by rw [List.length_map]; omega, ?_⟩
    refine lc_map (xs := ps) (enc := .str) (f := fun p => .int (digV (tl p))) (fun i p R hp hR => ?_) ?_
    · have pl := lp p (List.mem_of_getElem? hp)
      walk_at "dg"
      refine ⟨by omega, ?_⟩
      walk_at "dg"
      refine ⟨fun c1 => ?_, fun c1 => ?_⟩
      · walk_at "dg"
        exact ⟨p, rfl, by omega, hR⟩
      · walk_at "dg"
        have : digV (tl p) = 0 - 1 := if_neg fun z => by
          have := (canL_iff.mp z).1
          have := of_decide_eq_false c1
          have := len_tl p
          omega
        rw [← this]
        exact hR
    walk_at "dg"
    cases ps with
    | nil => exact absurd rfl pne
    | cons A r =>
      have one : ∀ z : Int, (z = 0 ∧ ngL (tl w) = true) ∨ ¬(z = 0 ∧ ngL (tl w) = true) := fun z => Classical.em _
      cases r with
      | nil =>
        have f1 : fracP (ngL (tl w)) ([A].map tl) = if (canL (tl A) && !(ngL (tl w) && decide (tl A = [48]))) = true then some (wdV (ngL (tl w)) (tl A), 1) else none := rfl
        rw [f1] at h
        refine ⟨fun z => absurd (of_decide_eq_true z) (by simp), fun _ => ?_⟩
        walk_at "dg"
        refine ⟨[digV (tl A)], rfl, by simp, fun m hm hle => ?_⟩
        have em : m = digV (tl A) := by simpa using hm
        subst em
        walk_at "dg"
        refine ⟨fun z => ⟨fun _ => ?_, fun z => (nomatch z)⟩, fun z => ?_⟩
        · have c0 := digV_neg.mp (of_decide_eq_true z)
          rw [c0, Bool.false_and, if_neg Bool.false_ne_true] at h
          exact h
        have cA : canL (tl A) = true := by
          cases q : canL (tl A) with
          | true => rfl
          | false => exact absurd (digV_neg.mpr q) (of_decide_eq_false z)
        rw [cA, Bool.true_and] at h
        have vA : digV (tl A) = (digitsVal (tl A) : Int) := if_pos cA
        walk_at "dg"
        refine (fun (R : ¬(tl A = [48] ∧ ngL (tl w) = true) → _) => ⟨fun z0 => ?_, fun z0 => ⟨fun e => (nomatch e), fun _ => R fun ⟨q, _⟩ => of_decide_eq_false z0 ((digV_zero cA).mpr q)⟩⟩) ?_
        rotate_left
        · walk_at "dg"
          refine ⟨by omega, ?_⟩
          walk_at "dg"
          rw [cut_ng]
          have a48 := (digV_zero cA).mp (of_decide_eq_true z0)
          refine ⟨fun z1 => ?_, fun z1 => R fun ⟨_, q⟩ => absurd (q.symm.trans z1) (by decide)⟩
          rw [z1, decide_eq_true a48] at h
          exact h
        · intro na
          have ok : (!(ngL (tl w) && decide (tl A = [48]))) = true := by
            cases q : ngL (tl w) with
            | true =>
              have : ¬ tl A = [48] := fun e => na ⟨e, q⟩
              rw [decide_eq_false this]
              rfl
            | false => rfl
          rw [ok, if_pos rfl] at h
          walk_at "dg"
          refine ⟨fun _ => ?_, fun z => absurd (of_decide_eq_false z) (by simp)⟩
          walk_at "dg"
          refine ⟨by omega, ?_⟩
          walk_at "dg"
          rw [cut_ng]
          refine ⟨fun z2 => ?_, fun z2 => ?_⟩
          · walk_at "dg"
            rw [z2] at h
            rw [vA, Int.zero_sub]
            exact h
          · walk_at "dg"
            rw [z2] at h
            rw [vA]
            exact h
      | cons B r =>
        cases r with
        | cons C r => exact ⟨fun _ => ⟨fun _ => h, fun z => (nomatch z)⟩, fun z => absurd (of_decide_eq_false z) (by simp; omega)⟩
        | nil =>
          have f2 : fracP (ngL (tl w)) ([A, B].map tl) = if ((canL (tl A) && !(ngL (tl w) && decide (tl A = [48]))) && canL (tl B) && decide (2 ≤ digitsVal (tl B)) && decide (Nat.gcd (digitsVal (tl A)) (digitsVal (tl B)) = 1)) = true then some (wdV (ngL (tl w)) (tl A), (digitsVal (tl B) : Int)) else none := rfl
          rw [f2] at h
          refine ⟨fun z => absurd (of_decide_eq_true z) (by simp), fun _ => ?_⟩
          walk_at "dg"
          refine ⟨[digV (tl A), digV (tl B)], rfl, by simp, fun m hm hle => ?_⟩
          have hm' : m = digV (tl A) ∨ m = digV (tl B) := by simpa using hm
          have h1 := hle (digV (tl A)) (by simp)
          have h2 := hle (digV (tl B)) (by simp)
          walk_at "dg"
          refine ⟨fun z => ⟨fun _ => ?_, fun z => (nomatch z)⟩, fun z => ?_⟩
          · have m0 := of_decide_eq_true z
            have : (canL (tl A) && !(ngL (tl w) && decide (tl A = [48]))) = false ∨ canL (tl B) = false := by
              rcases hm' with e | e
              · left
                rw [digV_neg.mp (by omega), Bool.false_and]
              · right
                exact digV_neg.mp (by omega)
            rw [if_neg] at h
            · exact h
            · intro q
              simp only [Bool.and_eq_true] at q
              rcases this with e | e
              · rw [q.1.1.1.1, q.1.1.1.2] at e
                cases e
              · rw [q.1.1.2] at e
                cases e
          have m0 := of_decide_eq_false z
          have cA : canL (tl A) = true := by
            cases q : canL (tl A) with
            | true => rfl
            | false => exact absurd (digV_neg.mpr q) (by omega)
          have cB : canL (tl B) = true := by
            cases q : canL (tl B) with
            | true => rfl
            | false => exact absurd (digV_neg.mpr q) (by omega)
          rw [cA, cB, Bool.true_and, Bool.and_true] at h
          have vA : digV (tl A) = (digitsVal (tl A) : Int) := if_pos cA
          have vB : digV (tl B) = (digitsVal (tl B) : Int) := if_pos cB
          clear hm hm' hle h1 h2 z m0
          walk_at "dg"
          refine (fun (R : ¬(tl A = [48] ∧ ngL (tl w) = true) → _) => ⟨fun z0 => ?_, fun z0 => ⟨fun e => (nomatch e), fun _ => R fun ⟨q, _⟩ => of_decide_eq_false z0 ((digV_zero cA).mpr q)⟩⟩) ?_
          rotate_left
          · walk_at "dg"
            refine ⟨by omega, ?_⟩
            walk_at "dg"
            rw [cut_ng]
            have a48 := (digV_zero cA).mp (of_decide_eq_true z0)
            refine ⟨fun z1 => ?_, fun z1 => R fun ⟨_, q⟩ => absurd (q.symm.trans z1) (by decide)⟩
            rw [z1, decide_eq_true a48] at h
            exact h
          · intro na
            have ok : (!(ngL (tl w) && decide (tl A = [48]))) = true := by
              cases q : ngL (tl w) with
              | true =>
                have : ¬ tl A = [48] := fun e => na ⟨e, q⟩
                rw [decide_eq_false this]
                rfl
              | false => rfl
            rw [ok, Bool.true_and] at h
            walk_at "dg"
            refine ⟨fun z => absurd (of_decide_eq_true z) (by simp), fun _ => ?_⟩
            walk_at "dg"
            refine ⟨fun z => ⟨fun _ => ?_, fun z => (nomatch z)⟩, fun z => ?_⟩
            · have := of_decide_eq_true z
              rw [decide_eq_false (show ¬ 2 ≤ digitsVal (tl B) by omega), Bool.false_and, if_neg Bool.false_ne_true] at h
              exact h
            have b2 := of_decide_eq_false z
            rw [decide_eq_true (show 2 ≤ digitsVal (tl B) by omega), Bool.true_and] at h
            walk_at "dg"
            refine ⟨_, _, rfl, ?_⟩
            walk_at "dg"
            have eg : Int.gcd (digV (tl A)) (digV (tl B)) = Nat.gcd (digitsVal (tl A)) (digitsVal (tl B)) := by rw [vA, vB]; rfl
            rw [eg]
            refine ⟨fun z => ?_, fun z => ?_⟩
            · walk_at "dg"
              rw [decide_eq_false (fun q => by simp [q] at z), if_neg Bool.false_ne_true] at h
              exact h
            · have q : Nat.gcd (digitsVal (tl A)) (digitsVal (tl B)) = 1 := by
                have : ((Nat.gcd (digitsVal (tl A)) (digitsVal (tl B)) : Nat) : Int) = 1 := by simpa using z
                omega
              rw [decide_eq_true q, if_pos rfl] at h
              walk_at "dg"
              refine ⟨by omega, ?_⟩
              walk_at "dg"
              rw [cut_ng]
              refine ⟨fun z2 => ?_, fun z2 => ?_⟩
              · walk_at "dg"
                rw [z2] at h
                rw [vA, vB, Int.zero_sub]
                exact h
              · walk_at "dg"
                rw [z2] at h
                rw [vA, vB]
                exact h
  · walk_at "dg"
    refine ⟨by omega, ?_⟩
    generalize hps : Txt.split w (Str.ofString "/") = ps
    have hps' : (ps.map tl) = spl [47] 0 [] (bareL (tl w)) := by rw [← hps]; exact (split_tl _).trans (by rw [show bareL (tl w) = tl w from if_neg (by rw [c]; exact Bool.false_ne_true)])
    have lps : ps.length ≤ 900001 := by
      have := (spl_len [47] (bareL (tl w)).length (bareL (tl w)) [] (Nat.le_refl _)).1
      rw [← hps', List.length_map] at this
      omega
    have lp : ∀ p, p ∈ ps → p.length ≤ 900000 := fun p hp => by
      have := (spl_len [47] (bareL (tl w)).length (bareL (tl w)) [] (Nat.le_refl _)).2 (tl p) (by rw [← hps']; exact List.mem_map_of_mem hp)
      rw [len_tl]
      simp only [List.length_nil, Nat.zero_add] at this
      omega
    have fr : frac (tl w) = fracP (ngL (tl w)) (ps.map tl) := by rw [hps']; rfl
    rw [fr] at h
    have pne : ps ≠ [] := fun e => by
      obtain ⟨x, r, e2⟩ := spl_ne [47] (bareL (tl w)) []
      rw [e, e2] at hps'
      cases hps'
    clear hps hps' fr
    walk_at "dg"
    refine ⟨by rw [List.length_map]; omega, ?_⟩
    refine lc_map (xs := ps) (enc := .str) (f := fun p => .int (digV (tl p))) (fun i p R hp hR => ?_) ?_
    · have pl := lp p (List.mem_of_getElem? hp)
      walk_at "dg"
      refine ⟨by omega, ?_⟩
      walk_at "dg"
      refine ⟨fun c1 => ?_, fun c1 => ?_⟩
      · walk_at "dg"
        exact ⟨p, rfl, by omega, hR⟩
      · walk_at "dg"
        have : digV (tl p) = 0 - 1 := if_neg fun z => by
          have := (canL_iff.mp z).1
          have := of_decide_eq_false c1
          have := len_tl p
          omega
        rw [← this]
        exact hR
    walk_at "dg"
    cases ps with
    | nil => exact absurd rfl pne
    | cons A r =>
      have one : ∀ z : Int, (z = 0 ∧ ngL (tl w) = true) ∨ ¬(z = 0 ∧ ngL (tl w) = true) := fun z => Classical.em _
      cases r with
      | nil =>
        have f1 : fracP (ngL (tl w)) ([A].map tl) = if (canL (tl A) && !(ngL (tl w) && decide (tl A = [48]))) = true then some (wdV (ngL (tl w)) (tl A), 1) else none := rfl
        rw [f1] at h
        refine ⟨fun z => absurd (of_decide_eq_true z) (by simp), fun _ => ?_⟩
        walk_at "dg"
        refine ⟨[digV (tl A)], rfl, by simp, fun m hm hle => ?_⟩
        have em : m = digV (tl A) := by simpa using hm
        subst em
        walk_at "dg"
        refine ⟨fun z => ⟨fun _ => ?_, fun z => (nomatch z)⟩, fun z => ?_⟩
        · have c0 := digV_neg.mp (of_decide_eq_true z)
          rw [c0, Bool.false_and, if_neg Bool.false_ne_true] at h
          exact h
        have cA : canL (tl A) = true := by
          cases q : canL (tl A) with
          | true => rfl
          | false => exact absurd (digV_neg.mpr q) (of_decide_eq_false z)
        rw [cA, Bool.true_and] at h
        have vA : digV (tl A) = (digitsVal (tl A) : Int) := if_pos cA
        walk_at "dg"
        refine (fun (R : ¬(tl A = [48] ∧ ngL (tl w) = true) → _) => ⟨fun z0 => ?_, fun z0 => ⟨fun e => (nomatch e), fun _ => R fun ⟨q, _⟩ => of_decide_eq_false z0 ((digV_zero cA).mpr q)⟩⟩) ?_
        rotate_left
        · walk_at "dg"
          refine ⟨by omega, ?_⟩
          walk_at "dg"
          rw [cut_ng]
          have a48 := (digV_zero cA).mp (of_decide_eq_true z0)
          refine ⟨fun z1 => ?_, fun z1 => R fun ⟨_, q⟩ => absurd (q.symm.trans z1) (by decide)⟩
          rw [z1, decide_eq_true a48] at h
          exact h
        · intro na
          have ok : (!(ngL (tl w) && decide (tl A = [48]))) = true := by
            cases q : ngL (tl w) with
            | true =>
              have : ¬ tl A = [48] := fun e => na ⟨e, q⟩
              rw [decide_eq_false this]
              rfl
            | false => rfl
          rw [ok, if_pos rfl] at h
          walk_at "dg"
          refine ⟨fun _ => ?_, fun z => absurd (of_decide_eq_false z) (by simp)⟩
          walk_at "dg"
          refine ⟨by omega, ?_⟩
          walk_at "dg"
          rw [cut_ng]
          refine ⟨fun z2 => ?_, fun z2 => ?_⟩
          · walk_at "dg"
            rw [z2] at h
            rw [vA, Int.zero_sub]
            exact h
          · walk_at "dg"
            rw [z2] at h
            rw [vA]
            exact h
      | cons B r =>
        cases r with
        | cons C r => exact ⟨fun _ => ⟨fun _ => h, fun z => (nomatch z)⟩, fun z => absurd (of_decide_eq_false z) (by simp; omega)⟩
        | nil =>
          have f2 : fracP (ngL (tl w)) ([A, B].map tl) = if ((canL (tl A) && !(ngL (tl w) && decide (tl A = [48]))) && canL (tl B) && decide (2 ≤ digitsVal (tl B)) && decide (Nat.gcd (digitsVal (tl A)) (digitsVal (tl B)) = 1)) = true then some (wdV (ngL (tl w)) (tl A), (digitsVal (tl B) : Int)) else none := rfl
          rw [f2] at h
          refine ⟨fun z => absurd (of_decide_eq_true z) (by simp), fun _ => ?_⟩
          walk_at "dg"
          refine ⟨[digV (tl A), digV (tl B)], rfl, by simp, fun m hm hle => ?_⟩
          have hm' : m = digV (tl A) ∨ m = digV (tl B) := by simpa using hm
          have h1 := hle (digV (tl A)) (by simp)
          have h2 := hle (digV (tl B)) (by simp)
          walk_at "dg"
          refine ⟨fun z => ⟨fun _ => ?_, fun z => (nomatch z)⟩, fun z => ?_⟩
          · have m0 := of_decide_eq_true z
            have : (canL (tl A) && !(ngL (tl w) && decide (tl A = [48]))) = false ∨ canL (tl B) = false := by
              rcases hm' with e | e
              · left
                rw [digV_neg.mp (by omega), Bool.false_and]
              · right
                exact digV_neg.mp (by omega)
            rw [if_neg] at h
            · exact h
            · intro q
              simp only [Bool.and_eq_true] at q
              rcases this with e | e
              · rw [q.1.1.1.1, q.1.1.1.2] at e
                cases e
              · rw [q.1.1.2] at e
                cases e
          have m0 := of_decide_eq_false z
          have cA : canL (tl A) = true := by
            cases q : canL (tl A) with
            | true => rfl
            | false => exact absurd (digV_neg.mpr q) (by omega)
          have cB : canL (tl B) = true := by
            cases q : canL (tl B) with
            | true => rfl
            | false => exact absurd (digV_neg.mpr q) (by omega)
          rw [cA, cB, Bool.true_and, Bool.and_true] at h
          have vA : digV (tl A) = (digitsVal (tl A) : Int) := if_pos cA
          have vB : digV (tl B) = (digitsVal (tl B) : Int) := if_pos cB
          clear hm hm' hle h1 h2 z m0
          walk_at "dg"
          refine (fun (R : ¬(tl A = [48] ∧ ngL (tl w) = true) → _) => ⟨fun z0 => ?_, fun z0 => ⟨fun e => (nomatch e), fun _ => R fun ⟨q, _⟩ => of_decide_eq_false z0 ((digV_zero cA).mpr q)⟩⟩) ?_
          rotate_left
          · walk_at "dg"
            refine ⟨by omega, ?_⟩
            walk_at "dg"
            rw [cut_ng]
            have a48 := (digV_zero cA).mp (of_decide_eq_true z0)
            refine ⟨fun z1 => ?_, fun z1 => R fun ⟨_, q⟩ => absurd (q.symm.trans z1) (by decide)⟩
            rw [z1, decide_eq_true a48] at h
            exact h
          · intro na
            have ok : (!(ngL (tl w) && decide (tl A = [48]))) = true := by
              cases q : ngL (tl w) with
              | true =>
                have : ¬ tl A = [48] := fun e => na ⟨e, q⟩
                rw [decide_eq_false this]
                rfl
              | false => rfl
            rw [ok, Bool.true_and] at h
            walk_at "dg"
            refine ⟨fun z => absurd (of_decide_eq_true z) (by simp), fun _ => ?_⟩
            walk_at "dg"
            refine ⟨fun z => ⟨fun _ => ?_, fun z => (nomatch z)⟩, fun z => ?_⟩
            · have := of_decide_eq_true z
              rw [decide_eq_false (show ¬ 2 ≤ digitsVal (tl B) by omega), Bool.false_and, if_neg Bool.false_ne_true] at h
              exact h
            have b2 := of_decide_eq_false z
            rw [decide_eq_true (show 2 ≤ digitsVal (tl B) by omega), Bool.true_and] at h
            walk_at "dg"
            refine ⟨_, _, rfl, ?_⟩
            walk_at "dg"
            have eg : Int.gcd (digV (tl A)) (digV (tl B)) = Nat.gcd (digitsVal (tl A)) (digitsVal (tl B)) := by rw [vA, vB]; rfl
            rw [eg]
            refine ⟨fun z => ?_, fun z => ?_⟩
            · walk_at "dg"
              rw [decide_eq_false (fun q => by simp [q] at z), if_neg Bool.false_ne_true] at h
              exact h
            · have q : Nat.gcd (digitsVal (tl A)) (digitsVal (tl B)) = 1 := by
                have : ((Nat.gcd (digitsVal (tl A)) (digitsVal (tl B)) : Nat) : Int) = 1 := by simpa using z
                omega
              rw [decide_eq_true q, if_pos rfl] at h
              walk_at "dg"
              refine ⟨by omega, ?_⟩
              walk_at "dg"
              rw [cut_ng]
              refine ⟨fun z2 => ?_, fun z2 => ?_⟩
              · walk_at "dg"
                rw [z2] at h
                rw [vA, vB, Int.zero_sub]
                exact h
              · walk_at "dg"
                rw [z2] at h
                rw [vA, vB]
                exact h
abbrev sp_law_fraction (K : PySem.W.Frag) : Sp := spD K sd_law_fraction
theorem pure_law_fraction {K : PySem.W.Frag} (vs : List V) (H : Hp) (Q : VK) (E : XK) (h : sp_law_fraction K vs H Q E) : t_law_fraction K { nx := fun _ H' => Q .non H', rt := Q } (L2.start N_law_fraction vs) H := fnD (Jx := fun _ _ _ _ => False) (r_law_fraction) h pd_law_fraction
end

end
section

section
open TL PySem.NumText
theorem frac_bd {l : List Nat} {p q : Int} (h : frac l = some (p, q)) : p.natAbs < 2 ^ 400 ∧ q.natAbs < 2 ^ 400 := by
  have vb : ∀ b, canL b = true → ((digitsVal b : Nat) : Int).natAbs < 2 ^ 400 := fun b hb => by
    rw [Int.natAbs_natCast]
    exact Nat.lt_of_lt_of_le (can_lt hb) (Nat.pow_le_pow_right (by decide) (by decide))
  unfold frac at h
  generalize ngL l = ng at h
  generalize spl [47] 0 [] (bareL l) = ps at h
  unfold fracP at h
  split at h
  · rename_i a
    split at h
    · rename_i c
      cases h
      exact ⟨wd_bd (Bool.and_eq_true_iff.mp c).1, Nat.one_lt_two_pow (by decide)⟩
    · cases h
  · rename_i a b
    split at h
    · rename_i c
      simp only [Bool.and_eq_true] at c
      cases h
      exact ⟨wd_bd c.1.1.1.1, vb _ c.1.1.2⟩
    · cases h
  · cases h
def sd_law_reads : DSp := fun ds Q => ∃ w : Str, ds = [.str w] ∧ w.length ≤ 900000 ∧ Q (.bl true)
abbrev N_law_reads : List Str := ["said", "due", "told", "e"]
def t_law_reads (K : PySem.W.Frag) : TS :=
  (tSeq (tAsg (tCall (sp_law_fraction K) [] E0 (tCons (tVar 0) tNil)) (gName 1))
    (tMid (TY.tTry K TY.J0 (fun Jy => (tAsg (tIf (tTest (tOp rLtI (tCB (rLenU K) (tCons (tVar 0) tNil)) (tC (.int 4)))) (TY.tSdx (He.ga K "Ratio") (sp_Ratio_read K) Jy (tC (.ref (He.ga K "Ratio"))) (tCons (tVar 0) tNil)) (TY.tSdx (He.ga K "Ratio") (sp_Ratio_read K) Jy (tC (.ref (He.ga K "Ratio"))) (tCons (tVar 0) tNil))) (gName 2))) [⟨.ref (He.ga K "InvalidText"), some 3, fun a cls d => (tRet (tAndV (tOp rIsN (tVar 1) (tC .non)) (tCallS (sp_hot_law_like K) (fun _ => E0) (tCons (tXf a cls d (He.ga K "InvalidText") "text" (tVar 3)) (tCons (tVar 0) tNil)))))⟩, ⟨.ref (He.ga K "NestError"), none, fun a cls d => (tRet (tC (.bl false)))⟩])
    (tRet (tAndV (tOp rNotN (tVar 1) (tC .non)) (tCall (sp_law_is K) [] E0 (tCons (tVar 2) (tCons (tVar 1) tNil)))))))
def a_law_reads : DS :=
  (dSeq (dAsg (dCall sd_law_fraction (dCons (dVar 0) dNil)) (gN 1))
    (dMid (dTry xm X0 (fun Xe => (dAsg (dIf (dTest (dOp oLt (dCB (c1 uLen) (dCons (dRd 0) dNil)) (dC (.int 4)))) (dCallX Xe sd_Ratio_read (dCons (dVar 0) dNil)) (dCallX Xe sd_Ratio_read (dCons (dVar 0) dNil))) (gN 2))) [⟨"InvalidText", some 3, fun a dd C => (dRet (dAndV (dOp oIs (dRd 1) (dC .non)) (dCall sd_hot_law_like (dCons (dXf a dd C "InvalidText" 3 "text") (dCons (dVar 0) dNil)))))⟩, ⟨"NestError", none, fun a dd C => (dRet (dC (.bl false)))⟩])
    (dRet (dAndV (dOp oNot (dRd 1) (dC .non)) (dCall sd_law_is (dCons (dVar 2) (dCons (dVar 1) dNil)))))))
theorem r_law_reads {K : PySem.W.Frag} {Jx : WX} {Xd : XD} (XM : XmOk K xm) : RefS K Jx Xd (t_law_reads K) a_law_reads :=
  (rSeq (rAsg (rCall (fun _ _ _ h => h) (rCons (rVar 0) rNil)) (rgN 1))
    (rMid (rTry0 XM (fun Jy Xe => (rAsg (rIf (rTest (rOp foLt (RefE.b (rCB fcLen (rConsX (rRd 0) rNilX))) (RefE.b (rInt 4)))) (rSdx (fun _ _ _ _ h => h) (fun _ _ _ q => q) (rCons (rVar 0) rNil)) (rSdx (fun _ _ _ _ h => h) (fun _ _ _ q => q) (rCons (rVar 0) rNil))) (rgN 2))) (.cons rfl rfl (fun a dd C => (rRet (rAndV (rOp foIs (rRd 1) (RefE.b rNon)) (rHfd (fun _ _ _ h => h) (rCons rXf (rCons (rVar 0) rNil)))))) (.cons rfl rfl (fun a dd C => (rRet (rBl false))) .nil)))
    (rRet (rAndV (rOp foNot (rRd 1) (RefE.b rNon)) (rCall (fun _ _ _ h => h) (rCons (rVar 2) (rCons (rVar 1) rNil)))))))
theorem pd_law_reads (ds : List Dt) (Qd : Dt → Prop) (h : sd_law_reads ds Qd) : ds.length ≤ N_law_reads.length ∧ a_law_reads ⟨fun _ => Qd .non, Qd, fun _ => False, fun _ => False⟩ (vals ds ++ List.replicate (N_law_reads.length - ds.length) .no) := by
  obtain ⟨w, rfl, hw, h⟩ := h
  refine ⟨Nat.le_of_ble_eq_true rfl, ?_⟩
  walk_at "dg"
  refine ⟨w, rfl, hw, ?_⟩
  cases hf : frac (tl w) with
  | none =>
    refine ⟨fun _ => False, ?_, fun _ z => z.elim⟩
    walk_at "dg"
    refine ⟨by omega, ?_⟩
    walk_at "dg"
    refine ⟨fun _ => ?_, fun _ => ?_⟩
    · refine ⟨w, rfl, by omega, fun _ => ?_, fun p q e => by rw [hf] at e; cases e⟩
      refine ⟨true, rfl, fun _ a dd => ?_, fun z => (nomatch z)⟩
      walk_at "dg"
      refine ⟨fun _ => ?_, fun z => (nomatch z)⟩
      walk_at "dg"
      refine ⟨_, _, rfl, rfl, ?_⟩
      walk_at "dg"
      refine ⟨_, _, rfl, ⟨rfl, rfl⟩, ?_⟩
      have e : like (.str w) (.str w) = true := like_refl _ (fun kvs z => by cases z) rfl
      rw [show like (pyD (Dt.str w)) (pyD (Dt.str w)) = true from e]
      exact h
    · refine ⟨w, rfl, by omega, fun _ => ?_, fun p q e => by rw [hf] at e; cases e⟩
      refine ⟨true, rfl, fun _ a dd => ?_, fun z => (nomatch z)⟩
      walk_at "dg"
      refine ⟨fun _ => ?_, fun z => (nomatch z)⟩
      walk_at "dg"
      refine ⟨_, _, rfl, rfl, ?_⟩
      walk_at "dg"
      refine ⟨_, _, rfl, ⟨rfl, rfl⟩, ?_⟩
      have e : like (.str w) (.str w) = true := like_refl _ (fun kvs z => by cases z) rfl
      rw [show like (pyD (Dt.str w)) (pyD (Dt.str w)) = true from e]
      exact h
  | some pq =>
    obtain ⟨p, q⟩ := pq
    refine ⟨fun ρ => ρ = [.val (.str w), .val (.tup [.int p, .int q]), .val (ratD p q), .no], ?_, ?_⟩
    · walk_at "dg"
      refine ⟨by omega, ?_⟩
      walk_at "dg"
      refine ⟨fun _ => ?_, fun _ => ?_⟩
      · exact ⟨w, rfl, by omega, fun e => (by rw [hf] at e; cases e), fun p' q' e => (by rw [hf] at e; cases e; rfl)⟩
      · exact ⟨w, rfl, by omega, fun e => (by rw [hf] at e; cases e), fun p' q' e => (by rw [hf] at e; cases e; rfl)⟩
    · rintro ρ rfl
      walk_at "dg"
      refine ⟨fun _ => ?_, fun z => (nomatch z)⟩
      walk_at "dg"
      have b := frac_bd hf
      exact ⟨p, q, rfl, ⟨Nat.lt_of_lt_of_le b.1 (Nat.pow_le_pow_right (by decide) (by decide)), Nat.lt_of_lt_of_le b.2 (Nat.pow_le_pow_right (by decide) (by decide))⟩, h⟩
abbrev sp_law_reads (K : PySem.W.Frag) : Sp := spD K sd_law_reads
theorem pure_law_reads {K : PySem.W.Frag} (XM : XmOk K xm) (vs : List V) (H : Hp) (Q : VK) (E : XK) (h : sp_law_reads K vs H Q E) : t_law_reads K { nx := fun _ H' => Q .non H', rt := Q } (L2.start N_law_reads vs) H := fnD (Jx := fun _ _ _ _ => False) (r_law_reads XM) h pd_law_reads
end

end
section

/-! ### bent texts -/
/-- a text no longer than N -/
def TxE (N : Nat) (de : DE) (ρ : Ro) : Prop := ∀ Q : Dt → Prop, (∀ z : Str, z.length ≤ N → Q (.str z)) → de ρ Q
/-- n texts no longer than N -/
def TxA (N n : Nat) (da : DA) (ρ : Ro) : Prop := ∀ Q : List Dt → Prop, (∀ l : List Dt, l.length = n → (∀ d, d ∈ l → ∃ z : Str, d = .str z ∧ z.length ≤ N) → Q l) → da ρ Q
section
variable {N M n : Nat} {de df : DE} {da : DA} {ρ : Ro}
theorem TxE.up (h : TxE N de ρ) (l : N ≤ M := by decide) : TxE M de ρ := fun Q q => h Q fun z hz => q z (Nat.le_trans hz l)
theorem TxA.nil : TxA N 0 dNil ρ := fun Q q => q [] rfl fun d hd => by simp at hd
theorem TxA.cons (a : TxE N de ρ) (b : TxA N n da ρ) : TxA N (n + 1) (dCons de da) ρ := fun Q q => a _ fun z hz => b _ fun l hl h => q (.str z :: l) (by rw [List.length_cons, hl]) fun d hd => by
  rcases List.mem_cons.mp hd with rfl | hd
  · exact ⟨z, rfl, hz⟩
  · exact h d hd
theorem TxE.lst {K : Dt → Prop} (h : TxA N n da ρ) (hn : n ≤ 16777216) (k : ∀ l : List Dt, l.length = n → (∀ d, d ∈ l → ∃ z : Str, d = .str z ∧ z.length ≤ N) → K (.lst l)) : dLst da ρ K := h _ fun l hl hh => ⟨by omega, k l hl hh⟩
theorem TxE.c {s : Str} (h : s.length ≤ N := by decide) : TxE N (dC (.str s)) ρ := fun Q q => q s h
theorem TxE.add (a : TxE N de ρ) (b : TxE M df ρ) (h : N + M ≤ 16777216 := by decide) : TxE (N + M) (dOp oAdd de df) ρ := fun Q q => a _ fun y hy => b _ fun z hz => ⟨by omega, q _ (by rw [app_len]; omega)⟩
theorem TxE.rd {i : Nat} {w : Str} (h : gt ρ i = .val (.str w)) (l : w.length ≤ N) : TxE N (dRd i) ρ := fun Q q => by
  unfold dRd
  rw [h]
  exact q w l
theorem TxE.vr {i : Nat} {w : Str} (h : gt ρ i = .val (.str w)) (l : w.length ≤ N) : TxE N (dVar i) ρ := fun Q q => by
  unfold dVar
  rw [h]
  exact q w l
theorem TxE.repl {y z : Str} (a : TxE N de ρ) (h : N + (N + 1) * z.length ≤ M) (hM : M ≤ 16777216 := by decide) : TxE M (dRepl y z de) ρ := fun Q q => a _ fun x hx => by
  have k : (x.length + 1) * z.length ≤ (N + 1) * z.length := Nat.mul_le_mul_right _ (by omega)
  have r := TK.replace_len x y z
  exact ⟨by omega, q _ (by omega)⟩
theorem TxE.rev (a : TxE N de ρ) (h : N ≤ 16777216 := by decide) : TxE N (dRevS de) ρ := fun Q q => a _ fun x hx => ⟨by omega, fun y hy => q y (by omega)⟩
theorem TxE.mul {s : Str} {k : Int} (h : 1 < k ∧ k < 2 ^ 40 ∧ 0 < s.length ∧ s.length * k.toNat ≤ 16777216) (h2 : k.toNat * s.length ≤ N) : TxE N (dOp oMulS (dC (.str s)) (dC (.int k))) ρ := fun Q q => ⟨h, q _ (by rw [TR.repS_len]; exact h2)⟩
end
def sd_law_bent : DSp := fun ds Q => ∃ (p q : Int) (w : Str), ds = [.bag, .tup [.int p, .int q], .str w] ∧ (p.natAbs < 2 ^ 400 ∧ q.natAbs < 2 ^ 400) ∧ w.length ≤ 30000 ∧ ∀ z : Str, z.length ≤ 900000 → Q (.str z)
abbrev N_law_bent : List Str := ["bag", "x", "said", "k"]
def t_law_bent (K : PySem.W.Frag) : TS :=
  (tSeq (tAsg (tOp (rAddU K) (tC (.int 2)) (tCall (sp_law_draw K) [] E0 (tCons (tVar 0) (tCons (tC (.int 4)) tNil)))) (gName 3))
    (tRet (tCall (sp_law_of K) [] E0 (tCons (tVar 0) (tCons (tLst (tCons (tVar 2) (tCons (tOp (rAddU K) (tVar 2) (tC (.str " "))) (tCons (tOp (rAddU K) (tC (.str " ")) (tVar 2)) (tCons (tOp (rAddU K) (tVar 2) (tC (.str "\n"))) (tCons (tOp (rAddU K) (tC (.str "-")) (tVar 2)) (tCons (tOp (rAddU K) (tC (.str "+")) (tVar 2)) (tCons (tOp (rAddU K) (tC (.str "0")) (tVar 2)) (tCons (tOp (rAddU K) (tVar 2) (tC (.str "/1"))) (tCons (tOp (rAddU K) (tVar 2) (tC (.str "/"))) (tCons (tOp (rAddU K) (tC (.str "/")) (tVar 2)) (tCons (tOp (rAddU K) (tVar 2) (tC (.str "/2"))) (tCons (tOp (rAddU K) (tVar 2) (tC (.str "/-3"))) (tCons (CwR.tReplC (tVar 2) "/" "//") (tCons (CwR.tReplC (tVar 2) "/" " / ") (tCons (CwR.tReplC (tVar 2) "-" "- ") (tCons (CwR.tReplC (tVar 2) "-" "") (tCons (tOp (rAddU K) (tOp (rAddU K) (tCB rStr (tCons (tOp rMulU (tOp (rIx K) (tVar 1) (tC (.int 0))) (tVar 3)) tNil)) (tC (.str "/"))) (tCB rStr (tCons (tOp rMulU (tOp (rIx K) (tVar 1) (tC (.int 1))) (tVar 3)) tNil))) (tCons (tOp (rAddU K) (tOp (rAddU K) (tCB rStr (tCons (tOp (rIx K) (tVar 1) (tC (.int 0))) tNil)) (tC (.str "/"))) (tCB rStr (tCons (tOp rSubI (tC (.int 0)) (tOp (rIx K) (tVar 1) (tC (.int 1)))) tNil))) (tCons (tOp (rAddU K) (tVar 2) (tC (.str ".0"))) (tCons (tOp (rAddU K) (tVar 2) (tC (.str "_1"))) (tCons (TR.tRevS (tVar 2)) (tCons (tSl (rSlU K) (tVar 2) tNoPart (tPart (tUn rNegI (tC (.int 1))))) (tCons (tC (.str "")) (tCons (tC (.str "-")) (tCons (tC (.str "-0")) (tCons (tC (.str "0")) (tCons (tC (.str "00")) (tCons (tC (.str "0/1")) (tCons (tC (.str "0/7")) (tCons (tC (.str "1/0")) (tCons (tC (.str "-1/0")) (tCons (tC (.str "2/4")) (tCons (tC (.str "6/3")) (tCons (tC (.str "1/2")) (tCons (tC (.str "-7/3")) (tCons (tC (.str "--1")) (tCons (tC (.str "1/2/3")) (tCons (tC (.str "x")) (tCons (tC (.str "1e3")) (tCons (tC (.str "one")) (tCons (tOp TR.rMulS (tC (.str "9")) (tC (.int 60))) (tCons (tOp TR.rMulS (tC (.str "9")) (tC (.int 61))) (tCons (tOp (rAddU K) (tC (.str "-")) (tOp TR.rMulS (tC (.str "8")) (tC (.int 60)))) (tCons (tOp (rAddU K) (tC (.str "1/")) (tOp TR.rMulS (tC (.str "7")) (tC (.int 60)))) (tCons (tOp (rAddU K) (tC (.str "1/")) (tOp TR.rMulS (tC (.str "7")) (tC (.int 61)))) (tCons (tOp (rAddU K) (tOp TR.rMulS (tC (.str "3")) (tC (.int 61))) (tC (.str "/2"))) (tCons (tOp (rAddU K) (tC (.str "-")) (tOp TR.rMulS (tC (.str "0")) (tC (.int 60)))) (tCons (tOp TR.rMulS (tC (.str "1")) (tC (.int 4400))) (tCons (tOp (rAddU K) (tOp (rAddU K) (tCB rStr (tCons (tOp (rAddU K) (tOp rPowU (tC (.int 10)) (tC (.int 59))) (tC (.int 1))) tNil)) (tC (.str "/"))) (tCB rStr (tCons (tOp rPowU (tC (.int 10)) (tC (.int 59))) tNil))) (tCons (tOp (rAddU K) (tC (.str "1/1")) (tOp TR.rMulS (tC (.str "0")) (tC (.int 60)))) tNil))))))))))))))))))))))))))))))))))))))))))))))))))) tNil)))))
def a_law_bent : DS :=
  (dSeq (dAsg (dOp oAdd (dC (.int 2)) (dCall sd_law_draw (dCons (dVar 0) (dCons (dC (.int 4)) dNil)))) (gN 3))
    (dRet (dCall sd_law_of (dCons (dVar 0) (dCons (dLst (dCons (dVar 2) (dCons (dOp oAdd (dRd 2) (dC (.str " "))) (dCons (dOp oAdd (dC (.str " ")) (dRd 2)) (dCons (dOp oAdd (dRd 2) (dC (.str "\n"))) (dCons (dOp oAdd (dC (.str "-")) (dRd 2)) (dCons (dOp oAdd (dC (.str "+")) (dRd 2)) (dCons (dOp oAdd (dC (.str "0")) (dRd 2)) (dCons (dOp oAdd (dRd 2) (dC (.str "/1"))) (dCons (dOp oAdd (dRd 2) (dC (.str "/"))) (dCons (dOp oAdd (dC (.str "/")) (dRd 2)) (dCons (dOp oAdd (dRd 2) (dC (.str "/2"))) (dCons (dOp oAdd (dRd 2) (dC (.str "/-3"))) (dCons (dRepl "/" "//" (dVar 2)) (dCons (dRepl "/" " / " (dVar 2)) (dCons (dRepl "-" "- " (dVar 2)) (dCons (dRepl "-" "" (dVar 2)) (dCons (dOp oAdd (dOp oAdd (dCB (c1 uStr) (dCons (dOp oMul (dOp oIx (dRd 1) (dC (.int 0))) (dRd 3)) dNil)) (dC (.str "/"))) (dCB (c1 uStr) (dCons (dOp oMul (dOp oIx (dRd 1) (dC (.int 1))) (dRd 3)) dNil))) (dCons (dOp oAdd (dOp oAdd (dCB (c1 uStr) (dCons (dOp oIx (dRd 1) (dC (.int 0))) dNil)) (dC (.str "/"))) (dCB (c1 uStr) (dCons (dOp oSub (dC (.int 0)) (dOp oIx (dRd 1) (dC (.int 1)))) dNil))) (dCons (dOp oAdd (dRd 2) (dC (.str ".0"))) (dCons (dOp oAdd (dRd 2) (dC (.str "_1"))) (dCons (dRevS (dVar 2)) (dCons (dSl (dRd 2) dNoPart (dPart (dUn uNeg (dC (.int 1))))) (dCons (dC (.str "")) (dCons (dC (.str "-")) (dCons (dC (.str "-0")) (dCons (dC (.str "0")) (dCons (dC (.str "00")) (dCons (dC (.str "0/1")) (dCons (dC (.str "0/7")) (dCons (dC (.str "1/0")) (dCons (dC (.str "-1/0")) (dCons (dC (.str "2/4")) (dCons (dC (.str "6/3")) (dCons (dC (.str "1/2")) (dCons (dC (.str "-7/3")) (dCons (dC (.str "--1")) (dCons (dC (.str "1/2/3")) (dCons (dC (.str "x")) (dCons (dC (.str "1e3")) (dCons (dC (.str "one")) (dCons (dOp oMulS (dC (.str "9")) (dC (.int 60))) (dCons (dOp oMulS (dC (.str "9")) (dC (.int 61))) (dCons (dOp oAdd (dC (.str "-")) (dOp oMulS (dC (.str "8")) (dC (.int 60)))) (dCons (dOp oAdd (dC (.str "1/")) (dOp oMulS (dC (.str "7")) (dC (.int 60)))) (dCons (dOp oAdd (dC (.str "1/")) (dOp oMulS (dC (.str "7")) (dC (.int 61)))) (dCons (dOp oAdd (dOp oMulS (dC (.str "3")) (dC (.int 61))) (dC (.str "/2"))) (dCons (dOp oAdd (dC (.str "-")) (dOp oMulS (dC (.str "0")) (dC (.int 60)))) (dCons (dOp oMulS (dC (.str "1")) (dC (.int 4400))) (dCons (dOp oAdd (dOp oAdd (dCB (c1 uStr) (dCons (dOp oAdd (dOp oPow (dC (.int 10)) (dC (.int 59))) (dC (.int 1))) dNil)) (dC (.str "/"))) (dCB (c1 uStr) (dCons (dOp oPow (dC (.int 10)) (dC (.int 59))) dNil))) (dCons (dOp oAdd (dC (.str "1/1")) (dOp oMulS (dC (.str "0")) (dC (.int 60)))) dNil))))))))))))))))))))))))))))))))))))))))))))))))))) dNil)))))
theorem r_law_bent {K : PySem.W.Frag} {Jx : WX} {Xd : XD} : RefS K Jx Xd (t_law_bent K) a_law_bent :=
  (rSeq (rAsg (rOp foAdd (RefE.b (rInt 2)) (RefE.b (rCall hw_law_draw (rCons (rVar 0) (rCons (rInt 4) rNil))))) (rgN 3))
    (rRet (rCall hw_law_of (rCons (rVar 0) (rCons (rLst (rCons (rVar 2) (rCons (rOp foAdd (rRd 2) (RefE.b (rStr' " "))) (rCons (rOp foAdd (RefE.b (rStr' " ")) (rRd 2)) (rCons (rOp foAdd (rRd 2) (RefE.b (rStr' "\n"))) (rCons (rOp foAdd (RefE.b (rStr' "-")) (rRd 2)) (rCons (rOp foAdd (RefE.b (rStr' "+")) (rRd 2)) (rCons (rOp foAdd (RefE.b (rStr' "0")) (rRd 2)) (rCons (rOp foAdd (rRd 2) (RefE.b (rStr' "/1"))) (rCons (rOp foAdd (rRd 2) (RefE.b (rStr' "/"))) (rCons (rOp foAdd (RefE.b (rStr' "/")) (rRd 2)) (rCons (rOp foAdd (rRd 2) (RefE.b (rStr' "/2"))) (rCons (rOp foAdd (rRd 2) (RefE.b (rStr' "/-3"))) (rCons (rRepl (rVar 2)) (rCons (rRepl (rVar 2)) (rCons (rRepl (rVar 2)) (rCons (rRepl (rVar 2)) (rCons (rOp foAdd (RefE.b (rOp foAdd (RefE.b (rCB fcStr (rConsX (RefE.b (rOp foMul (RefE.b (rOp foIx (rRd 1) (RefE.b (rInt 0)))) (rRd 3))) rNilX))) (RefE.b (rStr' "/")))) (RefE.b (rCB fcStr (rConsX (RefE.b (rOp foMul (RefE.b (rOp foIx (rRd 1) (RefE.b (rInt 1)))) (rRd 3))) rNilX)))) (rCons (rOp foAdd (RefE.b (rOp foAdd (RefE.b (rCB fcStr (rConsX (RefE.b (rOp foIx (rRd 1) (RefE.b (rInt 0)))) rNilX))) (RefE.b (rStr' "/")))) (RefE.b (rCB fcStr (rConsX (RefE.b (rOp foSub (RefE.b (rInt 0)) (RefE.b (rOp foIx (rRd 1) (RefE.b (rInt 1)))))) rNilX)))) (rCons (rOp foAdd (rRd 2) (RefE.b (rStr' ".0"))) (rCons (rOp foAdd (rRd 2) (RefE.b (rStr' "_1"))) (rCons (rRevS (rVar 2)) (rCons (rSl (rRd 2) rNoPart (rPart (rUn fuNeg (RefE.b (rInt 1))))) (rCons (rStr' "") (rCons (rStr' "-") (rCons (rStr' "-0") (rCons (rStr' "0") (rCons (rStr' "00") (rCons (rStr' "0/1") (rCons (rStr' "0/7") (rCons (rStr' "1/0") (rCons (rStr' "-1/0") (rCons (rStr' "2/4") (rCons (rStr' "6/3") (rCons (rStr' "1/2") (rCons (rStr' "-7/3") (rCons (rStr' "--1") (rCons (rStr' "1/2/3") (rCons (rStr' "x") (rCons (rStr' "1e3") (rCons (rStr' "one") (rCons (rOp foMulS (RefE.b (rStr' "9")) (RefE.b (rInt 60))) (rCons (rOp foMulS (RefE.b (rStr' "9")) (RefE.b (rInt 61))) (rCons (rOp foAdd (RefE.b (rStr' "-")) (RefE.b (rOp foMulS (RefE.b (rStr' "8")) (RefE.b (rInt 60))))) (rCons (rOp foAdd (RefE.b (rStr' "1/")) (RefE.b (rOp foMulS (RefE.b (rStr' "7")) (RefE.b (rInt 60))))) (rCons (rOp foAdd (RefE.b (rStr' "1/")) (RefE.b (rOp foMulS (RefE.b (rStr' "7")) (RefE.b (rInt 61))))) (rCons (rOp foAdd (RefE.b (rOp foMulS (RefE.b (rStr' "3")) (RefE.b (rInt 61)))) (RefE.b (rStr' "/2"))) (rCons (rOp foAdd (RefE.b (rStr' "-")) (RefE.b (rOp foMulS (RefE.b (rStr' "0")) (RefE.b (rInt 60))))) (rCons (rOp foMulS (RefE.b (rStr' "1")) (RefE.b (rInt 4400))) (rCons (rOp foAdd (RefE.b (rOp foAdd (RefE.b (rCB fcStr (rConsX (RefE.b (rOp foAdd (RefE.b (rOp foPow (RefE.b (rInt 10)) (RefE.b (rInt 59)))) (RefE.b (rInt 1)))) rNilX))) (RefE.b (rStr' "/")))) (RefE.b (rCB fcStr (rConsX (RefE.b (rOp foPow (RefE.b (rInt 10)) (RefE.b (rInt 59)))) rNilX)))) (rCons (rOp foAdd (RefE.b (rStr' "1/1")) (RefE.b (rOp foMulS (RefE.b (rStr' "0")) (RefE.b (rInt 60))))) rNil))))))))))))))))))))))))))))))))))))))))))))))))))) rNil)))))
theorem seqB {A B0 : DS} {D : DEnds} {ρ : Ro} (h : ∀ B : DS, B = B0 → dSeq A B D ρ) : dSeq A B0 D ρ := h _ rfl
theorem of_txts {N n : Nat} {da : DA} {D : DEnds} {ρ : Ro} (g0 : gt ρ 0 = .val .bag) (h : TxA N n da ρ) (n0 : 0 < n) (hn : n ≤ 1000000) (k : ∀ z : Str, z.length ≤ N → D.rt (.str z)) : dRet (dCall sd_law_of (dCons (dVar 0) (dCons (dLst da) dNil))) D ρ := by
  show dVar 0 ρ _
  unfold dVar
  rw [g0]
  refine TxE.lst h (by omega) fun l hl hh => ?_
  show sd_law_of [.bag, .lst l] D.rt
  refine ⟨⟨by omega, by omega⟩, fun x hx => ?_⟩
  obtain ⟨z, rfl, hz⟩ := hh x hx
  exact k z hz
theorem pd_law_bent (ds : List Dt) (Qd : Dt → Prop) (h : sd_law_bent ds Qd) : ds.length ≤ N_law_bent.length ∧ a_law_bent ⟨fun _ => Qd .non, Qd, fun _ => False, fun _ => False⟩ (vals ds ++ List.replicate (N_law_bent.length - ds.length) .no) := by
  obtain ⟨p, q, w, rfl, ⟨hp, hq⟩, hw, h⟩ := h
  refine ⟨Nat.le_of_ble_eq_true rfl, ?_⟩
  unfold a_law_bent
  refine seqB fun B hB => ?_
  walk_at "dg"
  refine ⟨by decide, fun d d0 d1 => ?_⟩
  walk_at "dg"
  subst hB
  refine of_txts (N := 900000) (n := 50) rfl ?_ (by decide) (by decide) h
  have k2 : (2 + d).natAbs < 2 ^ 40 := by
    have e : (2 : Nat) ^ 40 = 1099511627776 := by decide
    rw [e]
    omega
  have sb : ∀ (i : Int), i.natAbs < 2 ^ 1900 → i.natAbs.log2 < 1920 ∧ (Str.ofString (toString i)).length ≤ 12891 := fun i hi => ⟨log_le (Nat.lt_of_lt_of_le hi (Nat.pow_le_pow_right (by decide) (by decide))) (by decide), txt_len hi⟩
  have b1 := sb _ (up_bd (mul_bd hp k2 (Nat.le_refl _)) (by decide))
  have b2 := sb _ (up_bd (mul_bd hq k2 (Nat.le_refl _)) (by decide))
  have b3 := sb _ (up_bd hp (by decide))
  have b4 := sb (0 - q) (by rw [show (0 - q).natAbs = q.natAbs by omega]; exact up_bd hq (by decide))
  have c1 := sb (10 ^ Int.toNat 59 + 1) (Nat.lt_of_lt_of_le (show _ < 2 ^ 200 by decide) (Nat.pow_le_pow_right (by decide) (by decide)))
  have c2 := sb (10 ^ Int.toNat 59) (Nat.lt_of_lt_of_le (show _ < 2 ^ 200 by decide) (Nat.pow_le_pow_right (by decide) (by decide)))
  have l3 : (Str.ofString "/").length = 1 := rfl
  generalize hρ : pt _ _ _ = ρ
  have g2 : gt ρ 2 = .val (.str w) := by rw [← hρ]; rfl
  have R : TxE 30000 (dRd 2) ρ := .rd g2 hw
  have V : TxE 30000 (dVar 2) ρ := .vr g2 hw
  refine .cons (TxE.up V) ?_
  refine .cons (TxE.up (TxE.add R (TxE.c (N := 100) (by decide +kernel)))) ?_
  refine .cons (TxE.up (TxE.add (TxE.c (N := 100) (by decide +kernel)) R)) ?_
  refine .cons (TxE.up (TxE.add R (TxE.c (N := 100) (by decide +kernel)))) ?_
  refine .cons (TxE.up (TxE.add (TxE.c (N := 100) (by decide +kernel)) R)) ?_
  refine .cons (TxE.up (TxE.add (TxE.c (N := 100) (by decide +kernel)) R)) ?_
  refine .cons (TxE.up (TxE.add (TxE.c (N := 100) (by decide +kernel)) R)) ?_
  refine .cons (TxE.up (TxE.add R (TxE.c (N := 100) (by decide +kernel)))) ?_
  refine .cons (TxE.up (TxE.add R (TxE.c (N := 100) (by decide +kernel)))) ?_
  refine .cons (TxE.up (TxE.add (TxE.c (N := 100) (by decide +kernel)) R)) ?_
  refine .cons (TxE.up (TxE.add R (TxE.c (N := 100) (by decide +kernel)))) ?_
  refine .cons (TxE.up (TxE.add R (TxE.c (N := 100) (by decide +kernel)))) ?_
  refine .cons (TxE.up (TxE.repl V (M := 200000) (by decide +kernel))) ?_
  refine .cons (TxE.up (TxE.repl V (M := 200000) (by decide +kernel))) ?_
  refine .cons (TxE.up (TxE.repl V (M := 200000) (by decide +kernel))) ?_
  refine .cons (TxE.up (TxE.repl V (M := 200000) (by decide +kernel))) ?_
  refine .cons ?_ ?_ -- str(x[0] * k) + '/' + str(x[1] * k)
  · subst hρ
    intro Q hQ
    walk_at "dg"
    refine ⟨cmul_of hp k2, ?_⟩
    walk_at "dg"
    refine ⟨b1.1, ?_⟩
    walk_at "dg"
    refine ⟨by have := b1.2; omega, ?_⟩
    walk_at "dg"
    refine ⟨cmul_of hq k2, ?_⟩
    walk_at "dg"
    refine ⟨b2.1, ?_⟩
    walk_at "dg"
    have l1 := b1.2
    have l2 := b2.2
    exact ⟨by rw [app_len]; omega, hQ _ (by rw [app_len, app_len]; omega)⟩
  refine .cons ?_ ?_ -- str(x[0]) + '/' + str(0 - x[1])
  · subst hρ
    intro Q hQ
    walk_at "dg"
    refine ⟨b3.1, ?_⟩
    walk_at "dg"
    refine ⟨by have := b3.2; omega, ?_⟩
    walk_at "dg"
    refine ⟨b4.1, ?_⟩
    walk_at "dg"
    have l1 := b3.2
    have l2 := b4.2
    exact ⟨by rw [app_len]; omega, hQ _ (by rw [app_len, app_len]; omega)⟩
  refine .cons (TxE.up (TxE.add R (TxE.c (N := 100) (by decide +kernel)))) ?_
  refine .cons (TxE.up (TxE.add R (TxE.c (N := 100) (by decide +kernel)))) ?_
  refine .cons (TxE.up (TxE.rev V)) ?_
  refine .cons ?_ ?_ -- said[:-1]
  · subst hρ
    intro Q hQ
    walk_at "dg"
    have cl := cutS_length w none (some (-1))
    exact ⟨by omega, hQ _ (by omega)⟩
  refine .cons (TxE.up (TxE.c (N := 100) (by decide +kernel))) ?_
  refine .cons (TxE.up (TxE.c (N := 100) (by decide +kernel))) ?_
  refine .cons (TxE.up (TxE.c (N := 100) (by decide +kernel))) ?_
  refine .cons (TxE.up (TxE.c (N := 100) (by decide +kernel))) ?_
  refine .cons (TxE.up (TxE.c (N := 100) (by decide +kernel))) ?_
  refine .cons (TxE.up (TxE.c (N := 100) (by decide +kernel))) ?_
  refine .cons (TxE.up (TxE.c (N := 100) (by decide +kernel))) ?_
  refine .cons (TxE.up (TxE.c (N := 100) (by decide +kernel))) ?_
  refine .cons (TxE.up (TxE.c (N := 100) (by decide +kernel))) ?_
  refine .cons (TxE.up (TxE.c (N := 100) (by decide +kernel))) ?_
  refine .cons (TxE.up (TxE.c (N := 100) (by decide +kernel))) ?_
  refine .cons (TxE.up (TxE.c (N := 100) (by decide +kernel))) ?_
  refine .cons (TxE.up (TxE.c (N := 100) (by decide +kernel))) ?_
  refine .cons (TxE.up (TxE.c (N := 100) (by decide +kernel))) ?_
  refine .cons (TxE.up (TxE.c (N := 100) (by decide +kernel))) ?_
  refine .cons (TxE.up (TxE.c (N := 100) (by decide +kernel))) ?_
  refine .cons (TxE.up (TxE.c (N := 100) (by decide +kernel))) ?_
  refine .cons (TxE.up (TxE.c (N := 100) (by decide +kernel))) ?_
  refine .cons (TxE.up (TxE.mul (N := 5000) (by decide +kernel) (by decide +kernel))) ?_
  refine .cons (TxE.up (TxE.mul (N := 5000) (by decide +kernel) (by decide +kernel))) ?_
  refine .cons (TxE.up (TxE.add (TxE.c (N := 100) (by decide +kernel)) (TxE.mul (N := 5000) (by decide +kernel) (by decide +kernel)))) ?_
  refine .cons (TxE.up (TxE.add (TxE.c (N := 100) (by decide +kernel)) (TxE.mul (N := 5000) (by decide +kernel) (by decide +kernel)))) ?_
  refine .cons (TxE.up (TxE.add (TxE.c (N := 100) (by decide +kernel)) (TxE.mul (N := 5000) (by decide +kernel) (by decide +kernel)))) ?_
  refine .cons (TxE.up (TxE.add (TxE.mul (N := 5000) (by decide +kernel) (by decide +kernel)) (TxE.c (N := 100) (by decide +kernel)))) ?_
  refine .cons (TxE.up (TxE.add (TxE.c (N := 100) (by decide +kernel)) (TxE.mul (N := 5000) (by decide +kernel) (by decide +kernel)))) ?_
  refine .cons (TxE.up (TxE.mul (N := 5000) (by decide +kernel) (by decide +kernel))) ?_
  refine .cons ?_ ?_ -- str(10 ** 59 + 1) + '/' + str(10 ** 59)
  · subst hρ
    intro Q hQ
    walk_at "dg"
    refine ⟨⟨by decide, by decide, by decide⟩, ?_⟩
    walk_at "dg"
    refine ⟨⟨by decide, by decide, by decide⟩, ?_⟩
    walk_at "dg"
    have l1 := c1.2
    have l2 := c2.2
    exact hQ _ (by rw [app_len, app_len]; omega)
  refine .cons (TxE.up (TxE.add (TxE.c (N := 100) (by decide +kernel)) (TxE.mul (N := 5000) (by decide +kernel) (by decide +kernel)))) ?_
  exact .nil
abbrev sp_law_bent (K : PySem.W.Frag) : Sp := spD K sd_law_bent
theorem pure_law_bent {K : PySem.W.Frag} (vs : List V) (H : Hp) (Q : VK) (E : XK) (h : sp_law_bent K vs H Q E) : t_law_bent K { nx := fun _ H' => Q .non H', rt := Q } (L2.start N_law_bent vs) H := fnD (Jx := fun _ _ _ _ => False) (r_law_bent) h pd_law_bent

end
section

/-! what the head says for k01, apart -/
section
variable {K : PySem.W.Frag} {h : Heap} {mg : Str → Option Value} (c : ratB01 K = true)
include c
theorem cf01 : ClsF CLr K := cls_of (He.ba c).1
theorem sf01 : PySem.W.selfFirst K (He.ga K "Ratio") = true := (He.ba (He.ba c).2).1
theorem gcd01 (X : K.In h) (G : h.Ns mainGlobals mg) : mg "gcd" = some (.builtin "math.gcd") := PySem.W.mg_of X G (He.eqO_ok (He.ba (He.ba (He.ba c).2).2).1)
theorem nd01 : NoDig K := He.eqO_ok (He.ba (He.ba (He.ba (He.ba c).2).2).2).1
theorem xm01 : XmOk K xm := fun C B b e => by
  have a := List.all_eq_true.mp (He.ba (He.ba (He.ba (He.ba (He.ba c).2).2).2).2).1
  unfold xm at e
  obtain ⟨t, ht, rfl⟩ := Option.map_eq_some_iff.mp e
  have hm := List.mem_of_find?_eq_some ht
  have hp := List.find?_some ht
  obtain ⟨h1, h2⟩ := Bool.and_eq_true_iff.mp hp
  have k := of_decide_eq_true (a t hm)
  rw [beq_iff_eq.mp h1, beq_iff_eq.mp h2] at k
  exact k
theorem nra01 : RM.numR K (He.ga K "Ratio") "add" = true := (He.ba (He.ba (He.ba (He.ba (He.ba (He.ba c).2).2).2).2).2).1
theorem nrs01 : RM.numR K (He.ga K "Ratio") "sub" = true := (He.ba (He.ba (He.ba (He.ba (He.ba (He.ba (He.ba c).2).2).2).2).2).2).1
theorem nrm01 : RM.numR K (He.ga K "Ratio") "mul" = true := (He.ba (He.ba (He.ba (He.ba (He.ba (He.ba (He.ba (He.ba c).2).2).2).2).2).2).2).1
theorem eqr01 : RM.eqR K (He.ga K "Ratio") = true := (He.ba (He.ba (He.ba (He.ba (He.ba (He.ba (He.ba (He.ba c).2).2).2).2).2).2).2).2
end

end
section

/-! ### the law's drawing from the frame's own list -/
def dOfOwn (b i : Nat) : DE := fun ρ Q => match gt ρ b with
  | .val .bag => match gt ρ i with
    | .own l => (0 < l.length ∧ l.length ≤ 16777216) ∧ ∀ d, d ∈ l → Q d
    | _ => False
  | _ => False
theorem rOfOwn {K : PySem.W.Frag} {Jx : WX} {Xd : XD} (b i : Nat) : RefE K Jx Xd (tCall (sp_law_of K) [] E0 (tCons (tVar b) (tCons (tVar i) tNil))) (dOfOwn b i) := fun W S0 H0 α H σ ρ Qd Q I c h => by
  unfold dOfOwn at h
  have sb := I.toEnv.sl b
  cases eb : gt ρ b with
  | val d =>
    rw [eb] at h sb
    cases d with
    | bag =>
      cases ei : gt ρ i with
      | own l =>
        rw [ei] at h
        have h' : (0 < l.length ∧ l.length ≤ 16777216) ∧ ∀ d, d ∈ l → Qd d := h
        obtain ⟨v, e1, hv⟩ := sb
        obtain ⟨x, g, e, rfl⟩ := sd_bag1 hv
        obtain ⟨o1, ⟨vs, o2, o3⟩, o4⟩ := at_owned I.toEnv ei
        have ne : α i ≠ x := fun z => (I.toEnv.new i o4).2 (by rw [z]; exact I.toEnv.ms _ ⟨g, e⟩)
        refine v_call (v_cons (v_var e1 (v_cons (v_var o1 (v_nil ?_)))))
        refine ⟨x, _, g, rfl, I.toEnv.gw.bag x g e, .inl ⟨α i, vs, rfl, .inl (SqL.of (wo_at o2 (by simp [ne]))), by rw [o3.len]; exact h'.1.1, by rw [o3.len, sizeLine_eq]; exact Nat.le_trans h'.1.2 (by decide), fun j y H' hy B k => ?_⟩⟩
        obtain ⟨d, d1, d2⟩ := o3.get hy
        have gg := gw_kp e B k
        exact c _ _ H' (h'.2 d (List.mem_of_getElem? d1)) gg (d2.same (gg.hd I.hms))
      | _ =>
        rw [ei] at h
        exact (show False from h).elim
    | _ => exact (show False from h).elim
  | _ =>
    rw [eb] at h
    exact (show False from h).elim

end
section

/-! ### a law from its bag on -/
theorem rep_no (n i : Nat) : gt (List.replicate n .no) i = .no := by
  induction n generalizing i with
  | zero => rfl
  | succ n ih =>
    cases i with
    | zero => rfl
    | succ i => exact ih i
theorem env_bag {K : PySem.W.Frag} {H : Hp} {σ : L2.St} {b : Addr} {g : Addr × List Int} {n : Nat} (B : Bag K H b g) (h1 : σ[1]? = some (some (.ref b))) (hl : σ.length = n + 2) : Env K (some (b, g)) (fun a => a = b) H (fun _ => 0) H σ (.no :: .val .bag :: List.replicate n .no) := by
  have bi : BagI K (some (b, g)) H := fun x g' e => by
    cases e
    exact B
  have cs : ∀ i, gt (.no :: .val .bag :: List.replicate n .no) i = .no ∨ i = 1 := fun i => by
    cases i with
    | zero => exact .inl rfl
    | succ i =>
      cases i with
      | zero => exact .inr rfl
      | succ i => exact .inl (rep_no n i)
  have ow : ∀ i, (gt (.no :: .val .bag :: List.replicate n .no) i).owned = false := fun i => by
    rcases cs i with e | e
    · rw [e]
      rfl
    · subst e
      rfl
  refine ⟨by simp [hl], bi, .refl bi, fun a z => by rw [z]; exact B.some, fun a z => ?_, fun i hi => ?_, fun i j hi _ _ => ?_, fun i => ?_⟩
  · obtain ⟨g', e⟩ := z
    cases e
    rfl
  · rw [ow] at hi
    cases hi
  · rw [ow] at hi
    cases hi
  · rcases cs i with e | e
    · rw [e]
      trivial
    · subst e
      exact ⟨_, h1, .bag rfl⟩
/-- the rest of a law, true at its end -/
theorem law_rest {K : PySem.W.Frag} {Jx : WX} {ts : TS} {a : DS} {n : Nat} {H : Hp} {σ : L2.St} {b : Addr} {g : Addr × List Int} {Q : VK} (r : RefS K Jx X0 ts a) (B : Bag K H b g) (h1 : σ[1]? = some (some (.ref b))) (hl : σ.length = n + 2)
    (h : a ⟨fun _ => False, fun d => d = .bl true, fun _ => False, fun _ => False⟩ (.no :: .val .bag :: List.replicate n .no)) (q : ∀ H', Q (.bl true) H') (nx : L2.St → Hp → Prop) : ts { nx := nx, rt := Q } σ H :=
  r (some (b, g)) (fun a => a = b) H (fun _ => 0) H σ _ { nx := nx, rt := Q } ⟨fun _ => False, fun d => d = .bl true, fun _ => False, fun _ => False⟩ ⟨env_bag B h1 hl, fun _ _ _ _ _ _ _ (z : False) => z.elim⟩
    ⟨fun _ _ _ _ (z : False) => z.elim, fun d v H' e _ hv => by
      subst e
      cases hv
      exact q H', fun _ _ _ _ (z : False) => z.elim, fun _ _ _ _ (z : False) => z.elim⟩ h

end
section
abbrev N_law_bag : List Str := ["script", "mix", "item"]
def t_law_bag (K : PySem.W.Frag) : TS :=
  (tSeq (tAsg (tC (.int 40961)) (gName 1))
    (tSeq (tFor (iList K (tSl (rSlU K) (tVar 0) tNoPart (tPart (tC (.int 63))))) (gName 2)
    (tAsg (tOp rModU (tCB rInt1 (tCons (tOp (rAddU K) (tOp (rAddU K) (tOp rMulU (tVar 1) (tC (.int 48119))) (tOp rModU (tCB rInt1 (tCons (tVar 2) tNil)) (tC (.int 2147483563)))) (tC (.int 17))) tNil)) (tC (.int 2147483549))) (gName 1)))
    (tRet (tLst (tCons (tCB (rListOf K) (tCons (tSl (rSlU K) (tVar 0) tNoPart (tPart (tC (.int 63)))) tNil)) (tCons (tC (.int 0)) (tCons (tC (.int 0)) (tCons (tVar 1) (tCons (tC (.int 0)) tNil)))))))))
theorem cutV_map {α : Type} (f : α → V) (xs : List α) (lo hi : Option Int) : ∃ ys : List α, cutV (xs.map f) lo hi = ys.map f ∧ ys.length ≤ xs.length := by
  unfold cutV
  rw [← List.map_drop, ← List.map_take]
  exact ⟨_, rfl, Nat.le_trans (List.length_take_le' _ _) (by rw [List.length_drop]; omega)⟩
def sp_law_bag (K : PySem.W.Frag) : Sp := fun vs H Q _ => ∃ (a : Addr) (ns : List Int), vs = [.ref a] ∧ SqL K H a (ns.map V.int) ∧ ∀ b H' g, H b = none → Bag K H' b g → Same H H' → Q (.ref b) H'
theorem pure_law_bag {K : PySem.W.Frag} (vs : List V) (H : Hp) (Q : VK) (E : XK) (h : sp_law_bag K vs H Q E) : t_law_bag K { nx := fun _ H' => Q .non H', rt := Q } (start N_law_bag vs) H := by
  obtain ⟨a, ns, rfl, hS, k⟩ := h
  show t_law_bag K _ [some (.ref a), none, none] H
  unfold t_law_bag
  walk_at "vc"
  intro p hp
  obtain ⟨ys, ey, ly⟩ := cutV_map V.int ns none (some 63)
  rw [ey]
  have hS1 : SqL K (upd H p (.lst (ys.map V.int))) a (ns.map V.int) := same_sql (same_new hp) hS
  walk_at "vc"
  refine for_l (xs := ys.map V.int) (fun i σ H' => ∃ m x, σ = [some (.ref a), some (.int m), x] ∧ 0 ≤ m ∧ m < 2147483647 ∧ H' = upd H p (.lst (ys.map V.int))) ⟨40961, none, rfl, by decide, by decide, rfl⟩ (fun i σ H' _ ⟨m, x, _, _, _, e⟩ => by subst e; exact SqL.of upd_same) ?_ ?_
  · rintro i y σ H' hy ⟨m, x, rfl, h0, h1, rfl⟩
    obtain ⟨z, hz, rfl⟩ : ∃ z, ys[i]? = some z ∧ y = V.int z := by
      rw [List.getElem?_map] at hy
      cases e : ys[i]? with
      | none => rw [e] at hy; cases hy
      | some z => rw [e] at hy; exact ⟨z, rfl, (Option.some.inj hy).symm⟩
    walk_at "vc"
    exact ⟨_, some (.int z), rfl, Int.emod_nonneg _ (by decide), Int.lt_trans (Int.emod_lt_of_pos _ (by decide)) (by decide), rfl⟩
  · rintro σ H' ⟨m, x, rfl, h0, h1, rfl⟩
    walk_at "vc"
    intro q hq
    rw [ey]
    have hS2 : SqL K (upd (upd H p (.lst (ys.map V.int))) q (.lst (ys.map V.int))) q (ys.map V.int) := SqL.of upd_same
    walk_at "vc"
    intro l hl
    walk_at "vc"
    refine ⟨by show 5 ≤ sizeLine; decide, fun b hb => ?_⟩
    have S3 := ((same_new (o := .lst (ys.map V.int)) hp).trans (same_new (o := .lst (ys.map V.int)) hq)).trans (same_new (o := .lst (ys.map V.int)) hl)
    refine k b _ (l, ys) (S3.free hb) ⟨0, 0, m, 0, upd_same, ?_, by decide, by decide, h0, h1⟩ (S3.trans (same_new hb))
    refine SqL.of ?_
    rw [wo_out (by simpa using (ne_new upd_same hb))]
    exact h_ne (ne_new upd_same hb) upd_same

end
section

/-! ### k01: the law -/
def ratP (x : Int × Int) : Dt := ratD x.1 x.2
def tupP (x : Int × Int) : Dt := .tup [.int x.1, .int x.2]
structure OkP (x : Int × Int) : Prop where
  low : Low x.1 x.2
  b1 : x.1.natAbs < 2 ^ 400
  b2 : x.2.natAbs < 2 ^ 400
theorem okP_low {p q : Int} (hq : q ≠ 0) (h1 : p.natAbs < 2 ^ 400) (h2 : q.natAbs < 2 ^ 400) : OkP (p.fdiv (shr p q), q.fdiv (shr p q)) := ⟨low_low hq, (low_bdn hq h1 h2).1, (low_bdn hq h1 h2).2⟩
theorem fit2 (a b : Bool) : fit 12 (pyD (.lst [.bl a, .bl b])) := ⟨Nat.le_of_ble_eq_true rfl, fun x hx => by
  have hx' : x ∈ [PyData.bool a, .bool b] := hx
  simp only [List.mem_cons, List.not_mem_nil, or_false] at hx'
  rcases hx' with rfl | rfl <;> trivial⟩
theorem atI_of1 {α : Type} {xs : List α} {i : Nat} {x : α} (h : xs[i]? = some x) : atI xs (i : Int) = some x := by
  have hl : i < xs.length := (List.getElem?_eq_some_iff.mp h).1
  unfold atI ixN
  rw [if_pos (by omega), if_pos (by omega), Option.bind_some]
  exact h
abbrev N_law : List Str := ["script", "bag", "made", "due", "k", "up", "down", "i", "n", "j", "said"]
def t_law (K : PySem.W.Frag) : TS :=
  (tSeq (tAsg (tCall (sp_law_bag K) [] E0 (tCons (tVar 0) tNil)) (gName 1))
    (tSeq (tAsg (tTup (tCons (tLst tNil) (tCons (tLst tNil) tNil))) (gTup K 2 (gCons (gName 2) (gCons (gName 3) gNil))))
    (tSeq (tFor (iRng1 (tCons (tC (.int 4)) tNil)) (gName 4)
    (tSeq (tPar 5 6 (tCons (tCall (sp_law_up K) [] E0 (tCons (tVar 1) tNil)) (tCons (tCall (sp_law_down K) [] E0 (tCons (tVar 1) tNil)) tNil)))
    (tSeq (tDrop (tBM K "list" rAppend (tVar 3) (tCons (tCall (sp_law_low K) [] E0 (tCons (tVar 5) (tCons (tVar 6) tNil))) tNil)))
    (tMid (tIfS (tAnd (tTest (tOp (rEqU K) (tVar 6) (tC (.int 1)))) (tTest (tOp (rEqU K) (tCall (sp_law_draw K) [] E0 (tCons (tVar 1) (tCons (tC (.int 2)) tNil))) (tC (.int 0))))) (tDrop (tBM K "list" rAppend (tVar 2) (tCons (tMake (He.ga K "Ratio") (TY.spC (sp_Ratio_init K)) [.int 1] E0 (tCons (tVar 5) tNil)) tNil))) (tDrop (tBM K "list" rAppend (tVar 2) (tCons (tIf (tTest (tOp (rEqU K) (tCall (sp_law_draw K) [] E0 (tCons (tVar 1) (tCons (tC (.int 2)) tNil))) (tC (.int 0)))) (tNd (He.ga K "Ratio") (TY.spC (sp_Ratio_init K)) (tCons (tVar 5) (tCons (tVar 6) tNil))) (RM.tNdk (He.ga K "Ratio") 2 (TY.spC (sp_Ratio_init K)) gVs (tCons (tVar 6) (tCons (tVar 5) tNil)))) tNil))))
    (tIfS (tNot (tB (tCall (sp_law_zero_refused K) [] E0 (tCons (tVar 5) tNil)))) (tRet (tC (.bl false))) tNext)))))
    (tSeq (tFor (iRng1 (tCons (tC (.int 4)) tNil)) (gName 7)
    (tSeq (tAsg (tCall (sp_law_up K) [] E0 (tCons (tVar 1) tNil)) (gName 8))
    (tSeq (tIfS (tOr (tNot (tB (tCall (sp_law_is K) [] E0 (tCons (tOp (rIx K) (tVar 2) (tVar 7)) (tCons (tOp (rIx K) (tVar 3) (tVar 7)) tNil))))) (tOr (tNot (tB (tCall (sp_law_is K) [] E0 (tCons (tUn (RM.rNegO (He.ga K "Ratio") (sp_Ratio_neg K)) (tOp (rIx K) (tVar 2) (tVar 7))) (tCons (tTup (tCons (tOp rSubI (tC (.int 0)) (tOp (rIx K) (tOp (rIx K) (tVar 3) (tVar 7)) (tC (.int 0)))) (tCons (tOp (rIx K) (tOp (rIx K) (tVar 3) (tVar 7)) (tC (.int 1))) tNil))) tNil))))) (tNot (tB (tCall (sp_law_whole_parts_so K) [] E0 (tCons (tOp (rIx K) (tVar 2) (tVar 7)) (tCons (tOp (rIx K) (tVar 3) (tVar 7)) tNil))))))) (tRet (tC (.bl false))) tNext)
    (tSeq (tIfS (tOr (tNot (tB (tCall (sp_law_two_so K) [] E0 (tCons (tOp (rIx K) (tVar 2) (tVar 7)) (tCons (tVar 8) (tCons (tOp (rIx K) (tVar 3) (tVar 7)) (tCons (tTup (tCons (tVar 8) (tCons (tC (.int 1)) tNil))) (tCons (tC (.bl true)) tNil)))))))) (tNot (tB (tCall (sp_law_like K 12) [] E0 (tCons (tLst (tCons (tOp (RM.rSelfC (He.ga K "Ratio") (sp_Ratio_eq K)) (tOp (rIx K) (tVar 2) (tVar 7)) (tOp (rIx K) (tOp (rIx K) (tVar 3) (tVar 7)) (tC (.int 0)))) (tCons (tOp (RM.rSelfC (He.ga K "Ratio") (sp_Ratio_eq K)) (tOp (rIx K) (tVar 2) (tVar 7)) (tCall (sp_law_text K) [] E0 (tCons (tOp (rIx K) (tVar 3) (tVar 7)) tNil))) tNil))) (tCons (tLst (tCons (tC (.bl false)) (tCons (tC (.bl false)) tNil))) tNil)))))) (tRet (tC (.bl false))) tNext)
    (tSeq (tFor (iRng1 (tCons (tC (.int 4)) tNil)) (gName 9)
    (tIfS (tNot (tB (tCall (sp_law_two_so K) [] E0 (tCons (tOp (rIx K) (tVar 2) (tVar 7)) (tCons (tOp (rIx K) (tVar 2) (tVar 9)) (tCons (tOp (rIx K) (tVar 3) (tVar 7)) (tCons (tOp (rIx K) (tVar 3) (tVar 9)) (tCons (tC (.bl false)) tNil)))))))) (tRet (tC (.bl false))) tNext))
    (tSeq (tAsg (tCall (sp_law_text K) [] E0 (tCons (tOp (rIx K) (tVar 3) (tVar 7)) tNil)) (gName 10))
    (tFor (iRng1 (tCons (tC (.int 5)) tNil)) (gName 9)
    (tIfS (tNot (tB (tCall (sp_law_reads K) [] E0 (tCons (tIf (tTest (tOp (rEqU K) (tVar 9) (tC (.int 0)))) (tVar 10) (tCall (sp_law_bent K) [] E0 (tCons (tVar 1) (tCons (tOp (rIx K) (tVar 3) (tVar 7)) (tCons (tVar 10) tNil))))) tNil)))) (tRet (tC (.bl false))) tNext))))))))
    (tSeq (tIfS (tNot (tB (tCall (sp_law_two_so K) [] E0 (tCons (tOp (rIx K) (tVar 2) (tC (.int 0))) (tCons (tNd (He.ga K "Ratio") (TY.spC (sp_Ratio_init K)) (tCons (tOp rMulU (tOp (rIx K) (tOp (rIx K) (tVar 3) (tC (.int 0))) (tC (.int 0))) (tC (.int 3))) (tCons (tOp rMulU (tOp (rIx K) (tOp (rIx K) (tVar 3) (tC (.int 0))) (tC (.int 1))) (tC (.int 3))) tNil))) (tCons (tOp (rIx K) (tVar 3) (tC (.int 0))) (tCons (tOp (rIx K) (tVar 3) (tC (.int 0))) (tCons (tC (.bl false)) tNil)))))))) (tRet (tC (.bl false))) tNext)
    (tRet (tCB (rAll K) (tCons (tLc (iRng1 (tCons (tC (.int 4)) tNil)) (gName 4) tYes (tCall (sp_law_is K) [] E0 (tCons (tOp (rIx K) (tVar 2) (tVar 4)) (tCons (tOp (rIx K) (tVar 3) (tVar 4)) tNil))) [4]) tNil))))))))
def tr_law (K : PySem.W.Frag) : TS :=
  (tSeq (tAsg (tTup (tCons (tLst tNil) (tCons (tLst tNil) tNil))) (gTup K 2 (gCons (gName 2) (gCons (gName 3) gNil))))
    (tSeq (tFor (iRng1 (tCons (tC (.int 4)) tNil)) (gName 4)
    (tSeq (tPar 5 6 (tCons (tCall (sp_law_up K) [] E0 (tCons (tVar 1) tNil)) (tCons (tCall (sp_law_down K) [] E0 (tCons (tVar 1) tNil)) tNil)))
    (tSeq (tDrop (tBM K "list" rAppend (tVar 3) (tCons (tCall (sp_law_low K) [] E0 (tCons (tVar 5) (tCons (tVar 6) tNil))) tNil)))
    (tMid (tIfS (tAnd (tTest (tOp (rEqU K) (tVar 6) (tC (.int 1)))) (tTest (tOp (rEqU K) (tCall (sp_law_draw K) [] E0 (tCons (tVar 1) (tCons (tC (.int 2)) tNil))) (tC (.int 0))))) (tDrop (tBM K "list" rAppend (tVar 2) (tCons (tMake (He.ga K "Ratio") (TY.spC (sp_Ratio_init K)) [.int 1] E0 (tCons (tVar 5) tNil)) tNil))) (tDrop (tBM K "list" rAppend (tVar 2) (tCons (tIf (tTest (tOp (rEqU K) (tCall (sp_law_draw K) [] E0 (tCons (tVar 1) (tCons (tC (.int 2)) tNil))) (tC (.int 0)))) (tNd (He.ga K "Ratio") (TY.spC (sp_Ratio_init K)) (tCons (tVar 5) (tCons (tVar 6) tNil))) (RM.tNdk (He.ga K "Ratio") 2 (TY.spC (sp_Ratio_init K)) gVs (tCons (tVar 6) (tCons (tVar 5) tNil)))) tNil))))
    (tIfS (tNot (tB (tCall (sp_law_zero_refused K) [] E0 (tCons (tVar 5) tNil)))) (tRet (tC (.bl false))) tNext)))))
    (tSeq (tFor (iRng1 (tCons (tC (.int 4)) tNil)) (gName 7)
    (tSeq (tAsg (tCall (sp_law_up K) [] E0 (tCons (tVar 1) tNil)) (gName 8))
    (tSeq (tIfS (tOr (tNot (tB (tCall (sp_law_is K) [] E0 (tCons (tOp (rIx K) (tVar 2) (tVar 7)) (tCons (tOp (rIx K) (tVar 3) (tVar 7)) tNil))))) (tOr (tNot (tB (tCall (sp_law_is K) [] E0 (tCons (tUn (RM.rNegO (He.ga K "Ratio") (sp_Ratio_neg K)) (tOp (rIx K) (tVar 2) (tVar 7))) (tCons (tTup (tCons (tOp rSubI (tC (.int 0)) (tOp (rIx K) (tOp (rIx K) (tVar 3) (tVar 7)) (tC (.int 0)))) (tCons (tOp (rIx K) (tOp (rIx K) (tVar 3) (tVar 7)) (tC (.int 1))) tNil))) tNil))))) (tNot (tB (tCall (sp_law_whole_parts_so K) [] E0 (tCons (tOp (rIx K) (tVar 2) (tVar 7)) (tCons (tOp (rIx K) (tVar 3) (tVar 7)) tNil))))))) (tRet (tC (.bl false))) tNext)
    (tSeq (tIfS (tOr (tNot (tB (tCall (sp_law_two_so K) [] E0 (tCons (tOp (rIx K) (tVar 2) (tVar 7)) (tCons (tVar 8) (tCons (tOp (rIx K) (tVar 3) (tVar 7)) (tCons (tTup (tCons (tVar 8) (tCons (tC (.int 1)) tNil))) (tCons (tC (.bl true)) tNil)))))))) (tNot (tB (tCall (sp_law_like K 12) [] E0 (tCons (tLst (tCons (tOp (RM.rSelfC (He.ga K "Ratio") (sp_Ratio_eq K)) (tOp (rIx K) (tVar 2) (tVar 7)) (tOp (rIx K) (tOp (rIx K) (tVar 3) (tVar 7)) (tC (.int 0)))) (tCons (tOp (RM.rSelfC (He.ga K "Ratio") (sp_Ratio_eq K)) (tOp (rIx K) (tVar 2) (tVar 7)) (tCall (sp_law_text K) [] E0 (tCons (tOp (rIx K) (tVar 3) (tVar 7)) tNil))) tNil))) (tCons (tLst (tCons (tC (.bl false)) (tCons (tC (.bl false)) tNil))) tNil)))))) (tRet (tC (.bl false))) tNext)
    (tSeq (tFor (iRng1 (tCons (tC (.int 4)) tNil)) (gName 9)
    (tIfS (tNot (tB (tCall (sp_law_two_so K) [] E0 (tCons (tOp (rIx K) (tVar 2) (tVar 7)) (tCons (tOp (rIx K) (tVar 2) (tVar 9)) (tCons (tOp (rIx K) (tVar 3) (tVar 7)) (tCons (tOp (rIx K) (tVar 3) (tVar 9)) (tCons (tC (.bl false)) tNil)))))))) (tRet (tC (.bl false))) tNext))
    (tSeq (tAsg (tCall (sp_law_text K) [] E0 (tCons (tOp (rIx K) (tVar 3) (tVar 7)) tNil)) (gName 10))
    (tFor (iRng1 (tCons (tC (.int 5)) tNil)) (gName 9)
    (tIfS (tNot (tB (tCall (sp_law_reads K) [] E0 (tCons (tIf (tTest (tOp (rEqU K) (tVar 9) (tC (.int 0)))) (tVar 10) (tCall (sp_law_bent K) [] E0 (tCons (tVar 1) (tCons (tOp (rIx K) (tVar 3) (tVar 7)) (tCons (tVar 10) tNil))))) tNil)))) (tRet (tC (.bl false))) tNext))))))))
    (tSeq (tIfS (tNot (tB (tCall (sp_law_two_so K) [] E0 (tCons (tOp (rIx K) (tVar 2) (tC (.int 0))) (tCons (tNd (He.ga K "Ratio") (TY.spC (sp_Ratio_init K)) (tCons (tOp rMulU (tOp (rIx K) (tOp (rIx K) (tVar 3) (tC (.int 0))) (tC (.int 0))) (tC (.int 3))) (tCons (tOp rMulU (tOp (rIx K) (tOp (rIx K) (tVar 3) (tC (.int 0))) (tC (.int 1))) (tC (.int 3))) tNil))) (tCons (tOp (rIx K) (tVar 3) (tC (.int 0))) (tCons (tOp (rIx K) (tVar 3) (tC (.int 0))) (tCons (tC (.bl false)) tNil)))))))) (tRet (tC (.bl false))) tNext)
    (tRet (tCB (rAll K) (tCons (tLc (iRng1 (tCons (tC (.int 4)) tNil)) (gName 4) tYes (tCall (sp_law_is K) [] E0 (tCons (tOp (rIx K) (tVar 2) (tVar 4)) (tCons (tOp (rIx K) (tVar 3) (tVar 4)) tNil))) [4]) tNil)))))))
def a_law : DS :=
  (dSeq (dPar [2, 3] (pOwn (fLst dNil) (pOwn (fLst dNil) pNil)))
    (dSeq (dFor (jRng1 (dCons (dC (.int 4)) dNil)) (gN 4)
    (dSeq (dPar [5, 6] (pVal (dCall sd_law_up (dCons (dVar 1) dNil)) (pVal (dCall sd_law_down (dCons (dVar 1) dNil)) pNil)))
    (dSeq (dAppend 3 (dCall sd_law_low (dCons (dVar 5) (dCons (dVar 6) dNil))))
    (dMid (dIfS (dAnd (dTest (dOp oEq (dRd 6) (dC (.int 1)))) (dTest (dOp oEq (dCall sd_law_draw (dCons (dVar 1) (dCons (dC (.int 2)) dNil))) (dC (.int 0))))) (dAppend 2 (dNewD (cD sd_Ratio_init) [.int 1] (dCons (dVar 5) dNil))) (dAppend 2 (dIf (dTest (dOp oEq (dCall sd_law_draw (dCons (dVar 1) (dCons (dC (.int 2)) dNil))) (dC (.int 0)))) (dNew (cD sd_Ratio_init) (dCons (dVar 5) (dCons (dVar 6) dNil))) (dNewK 2 (cD sd_Ratio_init) (dCons (dVar 6) (dCons (dVar 5) dNil))))))
    (dIfS (dNot (dTest (dCall sd_law_zero_refused (dCons (dVar 5) dNil)))) (dRet (dC (.bl false))) dNext)))))
    (dSeq (dFor (jRng1 (dCons (dC (.int 4)) dNil)) (gN 7)
    (dSeq (dAsg (dCall sd_law_up (dCons (dVar 1) dNil)) (gN 8))
    (dSeq (dIfS (dOr (dNot (dTest (dCall sd_law_is (dCons (dOp oIx (dRd 2) (dRd 7)) (dCons (dOp oIx (dRd 3) (dRd 7)) dNil))))) (dOr (dNot (dTest (dCall sd_law_is (dCons (dUn (uNegO "Ratio" sd_Ratio_neg) (dOp oIx (dRd 2) (dRd 7))) (dCons (dTup (dCons (dOp oSub (dC (.int 0)) (dOp oIx (dOp oIx (dRd 3) (dRd 7)) (dC (.int 0)))) (dCons (dOp oIx (dOp oIx (dRd 3) (dRd 7)) (dC (.int 1))) dNil))) dNil))))) (dNot (dTest (dCall sd_law_whole_parts_so (dCons (dOp oIx (dRd 2) (dRd 7)) (dCons (dOp oIx (dRd 3) (dRd 7)) dNil))))))) (dRet (dC (.bl false))) dNext)
    (dSeq (dIfS (dOr (dNot (dTest (dCall sd_law_two_so (dCons (dOp oIx (dRd 2) (dRd 7)) (dCons (dVar 8) (dCons (dOp oIx (dRd 3) (dRd 7)) (dCons (dTup (dCons (dVar 8) (dCons (dC (.int 1)) dNil))) (dCons (dC (.bl true)) dNil)))))))) (dNot (dTest (dCall (sd_law_like 12) (dCons (dLst (dCons (dOp (oOwnC "Ratio" sd_Ratio_eq) (dOp oIx (dRd 2) (dRd 7)) (dOp oIx (dOp oIx (dRd 3) (dRd 7)) (dC (.int 0)))) (dCons (dOp (oOwnC "Ratio" sd_Ratio_eq) (dOp oIx (dRd 2) (dRd 7)) (dCall sd_law_text (dCons (dOp oIx (dRd 3) (dRd 7)) dNil))) dNil))) (dCons (dLst (dCons (dC (.bl false)) (dCons (dC (.bl false)) dNil))) dNil)))))) (dRet (dC (.bl false))) dNext)
    (dSeq (dFor (jRng1 (dCons (dC (.int 4)) dNil)) (gN 9)
    (dIfS (dNot (dTest (dCall sd_law_two_so (dCons (dOp oIx (dRd 2) (dRd 7)) (dCons (dOp oIx (dRd 2) (dRd 9)) (dCons (dOp oIx (dRd 3) (dRd 7)) (dCons (dOp oIx (dRd 3) (dRd 9)) (dCons (dC (.bl false)) dNil)))))))) (dRet (dC (.bl false))) dNext))
    (dSeq (dAsg (dCall sd_law_text (dCons (dOp oIx (dRd 3) (dRd 7)) dNil)) (gN 10))
    (dFor (jRng1 (dCons (dC (.int 5)) dNil)) (gN 9)
    (dIfS (dNot (dTest (dCall sd_law_reads (dCons (dIf (dTest (dOp oEq (dRd 9) (dC (.int 0)))) (dVar 10) (dCall sd_law_bent (dCons (dVar 1) (dCons (dOp oIx (dRd 3) (dRd 7)) (dCons (dVar 10) dNil))))) dNil)))) (dRet (dC (.bl false))) dNext))))))))
    (dSeq (dIfS (dNot (dTest (dCall sd_law_two_so (dCons (dOp oIx (dRd 2) (dC (.int 0))) (dCons (dNew (cD sd_Ratio_init) (dCons (dOp oMul (dOp oIx (dOp oIx (dRd 3) (dC (.int 0))) (dC (.int 0))) (dC (.int 3))) (dCons (dOp oMul (dOp oIx (dOp oIx (dRd 3) (dC (.int 0))) (dC (.int 1))) (dC (.int 3))) dNil))) (dCons (dOp oIx (dRd 3) (dC (.int 0))) (dCons (dOp oIx (dRd 3) (dC (.int 0))) (dCons (dC (.bl false)) dNil)))))))) (dRet (dC (.bl false))) dNext)
    (dRet (dCB (c1 uAll) (dCons (dLc (jRng1 (dCons (dC (.int 4)) dNil)) (gN 4) dYes (dCall sd_law_is (dCons (dOp oIx (dRd 2) (dRd 4)) (dCons (dOp oIx (dRd 3) (dRd 4)) dNil))) [4]) dNil)))))))
theorem r_law {K : PySem.W.Frag} {Jx : WX} {Xd : XD} (CF : ClsF CLr K) : RefS K Jx Xd (tr_law K) a_law :=
  (rSeq (rParT2 (rpOwn (rfLst rNil) (rpOwn (rfLst rNil) rpNil)))
    (rSeq (rFor (riRng1 (rConsX (RefE.b (rInt 4)) rNilX)) (rgN 4)
    (rSeq (rPar2 (rpVal (rCall (fun _ _ _ h => h) (rCons (rVar 1) rNil)) (rpVal (rCall (fun _ _ _ h => h) (rCons (rVar 1) rNil)) rpNil)))
    (rSeq (rAppend' 3 (rCall (fun _ _ _ h => h) (rCons (rVar 5) (rCons (rVar 6) rNil))))
    (rMid (rIfS (rAnd (rTest (rOp foEq (rRd 6) (RefE.b (rInt 1)))) (rTest (rOp foEq (RefE.b (rCall hw_law_draw (rCons (rVar 1) (rCons (rInt 2) rNil)))) (RefE.b (rInt 0))))) (rAppend' 2 (rNdd (fun _ _ _ h => calmNX h) (fun _ _ => (.cons (.int 1) .nil)) (rCons (rVar 5) rNil))) (rAppend' 2 (rIf (rTest (rOp foEq (RefE.b (rCall hw_law_draw (rCons (rVar 1) (rCons (rInt 2) rNil)))) (RefE.b (rInt 0)))) (rNew (fun _ _ _ h => calmNX h) (rCons (rVar 5) (rCons (rVar 6) rNil))) (rNewK (fun _ _ _ h => calmNX h) (rCons (rVar 6) (rCons (rVar 5) rNil))))))
    (rIfS (rNot (rB (rCall (fun _ _ _ h => h) (rCons (rVar 5) rNil)))) (rRet (rBl false)) rNext)))))
    (rSeq (rFor (riRng1 (rConsX (RefE.b (rInt 4)) rNilX)) (rgN 7)
    (rSeq (rAsg (rCall (fun _ _ _ h => h) (rCons (rVar 1) rNil)) (rgN 8))
    (rSeq (rIfS (rOr (rNot (rB (rCall (fun _ _ _ h => h) (rCons (rOp foIx (rRd 2) (rRd 7)) (rCons (rOp foIx (rRd 3) (rRd 7)) rNil))))) (rOr (rNot (rB (rCall (fun _ _ _ h => h) (rCons (rUnE (fuNegO fun _ _ _ h => h) (rOp foIx (rRd 2) (rRd 7))) (rCons (rTup (rCons (rOp foSub (RefE.b (rInt 0)) (RefE.b (rOp foIx (RefE.b (rOp foIx (rRd 3) (rRd 7))) (RefE.b (rInt 0))))) (rCons (rOp foIx (RefE.b (rOp foIx (rRd 3) (rRd 7))) (RefE.b (rInt 1))) rNil))) rNil))))) (rNot (rB (rCall (fun _ _ _ h => h) (rCons (rOp foIx (rRd 2) (rRd 7)) (rCons (rOp foIx (rRd 3) (rRd 7)) rNil))))))) (rRet (rBl false)) rNext)
    (rSeq (rIfS (rOr (rNot (rB (rCall (fun _ _ _ h => h) (rCons (rOp foIx (rRd 2) (rRd 7)) (rCons (rVar 8) (rCons (rOp foIx (rRd 3) (rRd 7)) (rCons (rTup (rCons (rVar 8) (rCons (rInt 1) rNil))) (rCons (rBl true) rNil)))))))) (rNot (rB (rCall hw_law_like (rCons (rLst (rCons (rOpE (foOwnC fun _ _ _ h => h) (rOp foIx (rRd 2) (rRd 7)) (rOp foIx (RefE.b (rOp foIx (rRd 3) (rRd 7))) (RefE.b (rInt 0)))) (rCons (rOpE (foOwnC fun _ _ _ h => h) (rOp foIx (rRd 2) (rRd 7)) (rCall (fun _ _ _ h => h) (rCons (rOp foIx (rRd 3) (rRd 7)) rNil))) rNil))) (rCons (rLst (rCons (rBl false) (rCons (rBl false) rNil))) rNil)))))) (rRet (rBl false)) rNext)
    (rSeq (rFor (riRng1 (rConsX (RefE.b (rInt 4)) rNilX)) (rgN 9)
    (rIfS (rNot (rB (rCall (fun _ _ _ h => h) (rCons (rOp foIx (rRd 2) (rRd 7)) (rCons (rOp foIx (rRd 2) (rRd 9)) (rCons (rOp foIx (rRd 3) (rRd 7)) (rCons (rOp foIx (rRd 3) (rRd 9)) (rCons (rBl false) rNil)))))))) (rRet (rBl false)) rNext))
    (rSeq (rAsg (rCall (fun _ _ _ h => h) (rCons (rOp foIx (rRd 3) (rRd 7)) rNil)) (rgN 10))
    (rFor (riRng1 (rConsX (RefE.b (rInt 5)) rNilX)) (rgN 9)
    (rIfS (rNot (rB (rCall (fun _ _ _ h => h) (rCons (rIf (rTest (rOp foEq (rRd 9) (RefE.b (rInt 0)))) (rVar 10) (rCall (fun _ _ _ h => h) (rCons (rVar 1) (rCons (rOp foIx (rRd 3) (rRd 7)) (rCons (rVar 10) rNil))))) rNil)))) (rRet (rBl false)) rNext))))))))
    (rSeq (rIfS (rNot (rB (rCall (fun _ _ _ h => h) (rCons (rOp foIx (rRd 2) (RefE.b (rInt 0))) (rCons (rNew (fun _ _ _ h => calmNX h) (rCons (rOp foMul (RefE.b (rOp foIx (RefE.b (rOp foIx (rRd 3) (RefE.b (rInt 0)))) (RefE.b (rInt 0)))) (RefE.b (rInt 3))) (rCons (rOp foMul (RefE.b (rOp foIx (RefE.b (rOp foIx (rRd 3) (RefE.b (rInt 0)))) (RefE.b (rInt 1)))) (RefE.b (rInt 3))) rNil))) (rCons (rOp foIx (rRd 3) (RefE.b (rInt 0))) (rCons (rOp foIx (rRd 3) (RefE.b (rInt 0))) (rCons (rBl false) rNil)))))))) (rRet (rBl false)) rNext)
    (rRet (rCB fcAll (rConsX (RefE.b (rLc (RefI.j (riRng1 (rConsX (RefE.b (rInt 4)) rNilX))) (rcN 4 (by decide)) rYes (rCall (fun _ _ _ h => h) (rCons (rOp foIx (rRd 2) (rRd 4)) (rCons (rOp foIx (rRd 3) (rRd 4)) rNil))))) rNilX)))))))
theorem law_run : a_law ⟨fun _ => False, fun d => d = .bl true, fun _ => False, fun _ => False⟩ (.no :: .val .bag :: List.replicate (N_law.length - 2) .no) := by
  walk_at "dg"
  refine ⟨by decide, ?_⟩
  refine for_rng (lo := 0) (n := 4) (fun i ρ => ∃ (Ls : List (Int × Int)) (z4 z5 z6 : Sl), Ls.length = i ∧ (∀ x, x ∈ Ls → OkP x) ∧ z4.owned = false ∧ ρ = [.no, .val .bag, .own (Ls.map ratP), .own (Ls.map tupP), z4, z5, z6, .no, .no, .no, .no]) ⟨[], _, _, _, rfl, by simp, rfl, rfl⟩ ?_ ?_
  · rintro i ρ P hi ⟨Ls, z4, z5, z6, hl, hok, ho, rfl⟩ hP
    walk_at "dg"
    refine fun p hp => ?_
    walk_at "dg"
    refine fun q q0 hq => ?_
    walk_at "dg"
    refine ⟨p, q, rfl, q0, up_bd hq (by decide), by rw [List.length_map]; omega, ?_⟩
    have ll : (Ls.map ratP).length < 16777216 := by rw [List.length_map]; omega
    have okx := okP_low q0 hp hq
    refine ⟨fun ρ => ρ = [.no, .val .bag, .own ((Ls ++ [(p.fdiv (shr p q), q.fdiv (shr p q))]).map ratP), .own ((Ls ++ [(p.fdiv (shr p q), q.fdiv (shr p q))]).map tupP), .val (.int (0 + (i : Int))), .val (.int p), .val (.int q), .no, .no, .no, .no], ?_, ?_⟩
    · walk_at "dg"
      refine (fun (R : _) => ⟨fun c => ?_, fun c => ⟨fun z => (nomatch z), fun _ => R⟩⟩) ?_
      rotate_left
      · walk_at "dg"
        refine ⟨by decide, fun d d0 d1 => ?_⟩
        walk_at "dg"
        refine ⟨fun c2 => ?_, fun c2 => R⟩
        walk_at "dg"
        have q1 : q = 1 := of_decide_eq_true c
        subst q1
        refine ⟨p, 1, rfl, ⟨up_bd hp (by decide), up_bd hq (by decide)⟩, fun e => absurd e q0, fun _ => ⟨ll, ?_⟩⟩
        rw [List.map_append, List.map_append]
        rfl
      · walk_at "dg"
        refine ⟨by decide, fun d d0 d1 => ?_⟩
        walk_at "dg"
        refine ⟨fun c => ?_, fun c => ?_⟩
        · walk_at "dg"
          refine ⟨p, q, rfl, ⟨up_bd hp (by decide), up_bd hq (by decide)⟩, fun e => absurd e q0, fun _ => ⟨ll, ?_⟩⟩
          rw [List.map_append, List.map_append]
          rfl
        · walk_at "dg"
          refine ⟨p, q, rfl, ⟨up_bd hp (by decide), up_bd hq (by decide)⟩, fun e => absurd e q0, fun _ => ⟨ll, ?_⟩⟩
          rw [List.map_append, List.map_append]
          rfl
    · rintro ρ rfl
      walk_at "dg"
      refine ⟨p, rfl, up_bd hp (by decide), ?_⟩
      refine ⟨fun z => (nomatch z), fun _ => ?_⟩
      exact hP _ ⟨_, _, _, _, by rw [List.length_append, hl]; rfl, fun x hx => by
        rcases List.mem_append.mp hx with q | q
        · exact hok x q
        · rw [List.mem_singleton.mp q]
          exact okx, rfl, rfl⟩
  · rintro ρ ⟨Ls, z4, z5, z6, hl, hok, ho, rfl⟩
    walk_at "dg"
    refine ⟨by decide, ?_⟩
    have at1 : ∀ (j : Nat) x, Ls[j]? = some x → atI (Ls.map ratP) (0 + (j : Int)) = some (ratP x) := fun j x h => by
      rw [Int.zero_add]
      exact atI_of1 (by rw [List.getElem?_map, h]; rfl)
    have at3 : ∀ (j : Nat) x, Ls[j]? = some x → atI (Ls.map tupP) (0 + (j : Int)) = some (tupP x) := fun j x h => by
      rw [Int.zero_add]
      exact atI_of1 (by rw [List.getElem?_map, h]; rfl)
    have lm1 : (Ls.map ratP).length = 4 := by rw [List.length_map, hl]
    have lm2 : (Ls.map tupP).length = 4 := by rw [List.length_map, hl]
    refine for_rng (lo := 0) (n := 4) (fun i ρ => ∃ (z4 z5 z6 z7 z8 z9 z10 : Sl), z4.owned = false ∧ ρ = [.no, .val .bag, .own (Ls.map ratP), .own (Ls.map tupP), z4, z5, z6, z7, z8, z9, z10]) ⟨_, _, _, _, _, _, _, ho, rfl⟩ ?_ ?_
    · rintro i ρ P hi ⟨z4, z5, z6, z7, z8, z9, z10, ho, rfl⟩ hP
      obtain ⟨⟨p, q⟩, hx⟩ : ∃ x, Ls[i]? = some x := ⟨_, List.getElem?_eq_getElem (by omega)⟩
      have ar : atI (Ls.map ratP) (0 + (i : Int)) = some (ratD p q) := at1 i _ hx
      have at2 : atI (Ls.map tupP) (0 + (i : Int)) = some (.tup [.int p, .int q]) := at3 i _ hx
      obtain ⟨low, bp, bq⟩ := hok _ (List.mem_of_getElem? hx)
      dsimp only at low bp bq
      have q0 : q ≠ 0 := by have := low.1; omega
      have b19 : p.natAbs < 2 ^ 1900 ∧ q.natAbs < 2 ^ 1900 := ⟨up_bd bp (by decide), up_bd bq (by decide)⟩
      have vx : RatV (ratD p q) p q := ⟨.inl rfl, q0, up_bd bp (by decide), up_bd bq (by decide)⟩
      have ln : Low (0 - p) q := ⟨low.1, by rw [show (0 - p) = -p by omega, Int.neg_gcd]; exact low.2⟩
      have en : lowD (-p) q = ratD (0 - p) q := by
        have e := low_self ln
        rw [show (0 - p) = -p by omega] at e ⊢
        unfold lowD
        rw [e.1, e.2]
      walk_at "dg"
      refine fun n hn => ?_
      walk_at "dg"
      rw [ar]
      dsimp only
      walk_at "dg"
      rw [at2]
      dsimp only
      walk_at "dg"
      refine ⟨p, q, rfl, b19, ?_⟩
      refine ⟨fun z => (nomatch z), fun _ => ?_⟩
      walk_at "dg"
      rw [ar]
      dsimp only
      walk_at "dg"
      refine ⟨p, q, rfl, vx, ?_⟩
      walk_at "dg"
      rw [at2]
      dsimp only
      walk_at "dg"
      rw [at2]
      dsimp only
      walk_at "dg"
      refine ⟨0 - p, q, by rw [en], ⟨by rw [show (0 - p).natAbs = p.natAbs by omega]; exact b19.1, b19.2⟩, ?_⟩
      refine ⟨fun z => (nomatch z), fun _ => ?_⟩
      walk_at "dg"
      rw [ar]
      dsimp only
      walk_at "dg"
      rw [at2]
      dsimp only
      walk_at "dg"
      refine ⟨p, q, rfl, low.1, up_bd bp (by decide), up_bd bq (by decide), ?_⟩
      refine ⟨fun z => (nomatch z), fun _ => ?_⟩
      walk_at "dg"
      have o1 : (1 : Int).natAbs < 2 ^ 400 := Nat.one_lt_two_pow (by decide)
      rw [ar]
      dsimp only
      walk_at "dg"
      rw [at2]
      dsimp only
      walk_at "dg"
      refine ⟨p, q, .int n, n, 1, true, rfl, low, ⟨by decide, Int.gcd_one_right n⟩, .inr ⟨rfl, rfl, rfl⟩, ⟨bp, bq, hn, o1⟩, ?_⟩
      refine ⟨fun z => (nomatch z), fun _ => ?_⟩
      walk_at "dg"
      rw [ar]
      dsimp only
      walk_at "dg"
      rw [at2]
      dsimp only
      walk_at "dg"
      refine ⟨p, q, _, rfl, .inr (.inl ⟨p, rfl, ?_⟩)⟩
      walk_at "dg"
      rw [ar]
      dsimp only
      walk_at "dg"
      rw [at2]
      dsimp only
      walk_at "dg"
      refine ⟨p, q, rfl, b19, ?_⟩
      refine ⟨rfl, p, q, _, rfl, .inr (.inr ⟨_, rfl, ?_⟩)⟩
      walk_at "dg"
      refine ⟨⟨rfl, rfl, fit2 _ _⟩, ?_⟩
      refine ⟨fun z => (nomatch z), fun _ => ?_⟩
      walk_at "dg"
      refine ⟨by decide, ?_⟩
      refine for_rng (lo := 0) (n := 4) (fun _ ρ => ∃ (z9 z10 : Sl), ρ = [.no, .val .bag, .own (Ls.map ratP), .own (Ls.map tupP), z4, z5, z6, .val (.int (0 + (i : Int))), .val (.int n), z9, z10]) ⟨_, _, rfl⟩ ?_ ?_
      · rintro j ρ P2 hj ⟨z9, z10, rfl⟩ hP2
        obtain ⟨⟨r, s⟩, hy⟩ : ∃ x, Ls[j]? = some x := ⟨_, List.getElem?_eq_getElem (by omega)⟩
        have arj : atI (Ls.map ratP) (0 + (j : Int)) = some (ratD r s) := at1 j _ hy
        have atj : atI (Ls.map tupP) (0 + (j : Int)) = some (.tup [.int r, .int s]) := at3 j _ hy
        obtain ⟨lowj, br, bs⟩ := hok _ (List.mem_of_getElem? hy)
        dsimp only at lowj br bs
        walk_at "dg"
        rw [ar]
        dsimp only
        walk_at "dg"
        rw [arj]
        dsimp only
        walk_at "dg"
        rw [at2]
        dsimp only
        walk_at "dg"
        rw [atj]
        dsimp only
        walk_at "dg"
        refine ⟨p, q, _, r, s, false, rfl, low, lowj, .inl ⟨rfl, rfl⟩, ⟨bp, bq, br, bs⟩, ?_⟩
        refine ⟨fun z => (nomatch z), fun _ => ?_⟩
        exact hP2 _ ⟨_, _, rfl⟩
      rintro ρ ⟨z9, z10, rfl⟩
      walk_at "dg"
      rw [at2]
      dsimp only
      walk_at "dg"
      refine ⟨p, q, rfl, b19, ?_⟩
      walk_at "dg"
      have tl := ratTxt_len b19.1 b19.2
      refine ⟨by decide, ?_⟩
      refine for_rng (lo := 0) (n := 5) (fun _ ρ => ∃ (z9 : Sl), ρ = [.no, .val .bag, .own (Ls.map ratP), .own (Ls.map tupP), z4, z5, z6, .val (.int (0 + (i : Int))), .val (.int n), z9, .val (.str (ratTxt p q))]) ⟨_, rfl⟩ ?_ ?_
      · rintro j ρ P2 hj ⟨z9, rfl⟩ hP2
        walk_at "dg"
        refine ⟨fun c => ?_, fun c => ?_⟩
        · walk_at "dg"
          refine ⟨_, rfl, by omega, ?_⟩
          refine ⟨fun z => (nomatch z), fun _ => ?_⟩
          exact hP2 _ ⟨_, rfl⟩
        · walk_at "dg"
          rw [at2]
          dsimp only
          walk_at "dg"
          refine ⟨p, q, _, rfl, ⟨bp, bq⟩, tl, fun z hz => ?_⟩
          refine ⟨z, rfl, hz, ?_⟩
          refine ⟨fun z => (nomatch z), fun _ => ?_⟩
          exact hP2 _ ⟨_, rfl⟩
      rintro ρ ⟨z9, rfl⟩
      exact hP _ ⟨_, _, _, _, _, _, _, ho, rfl⟩
    · rintro ρ ⟨z4, z5, z6, z7, z8, z9, z10, ho, rfl⟩
      obtain ⟨⟨p, q⟩, hx⟩ : ∃ x, Ls[0]? = some x := ⟨_, List.getElem?_eq_getElem (by omega)⟩
      have ar : atI (Ls.map ratP) 0 = some (ratD p q) := at1 0 _ hx
      have at2 : atI (Ls.map tupP) 0 = some (.tup [.int p, .int q]) := at3 0 _ hx
      obtain ⟨low, bp, bq⟩ := hok _ (List.mem_of_getElem? hx)
      dsimp only at low bp bq
      have q0 : q ≠ 0 := by have := low.1; omega
      have t3 : (3 : Int).natAbs < 2 ^ 40 := by decide
      have e3 := low_eq_self (p := p * 3) (q := q * 3) (by omega) low (by rw [Int.mul_assoc, Int.mul_comm 3 q])
      walk_at "dg"
      rw [ar]
      dsimp only
      walk_at "dg"
      rw [at2]
      dsimp only
      walk_at "dg"
      refine ⟨cmul_of bp t3, ?_⟩
      walk_at "dg"
      rw [at2]
      dsimp only
      walk_at "dg"
      refine ⟨cmul_of bq t3, ?_⟩
      walk_at "dg"
      refine ⟨_, _, rfl, ⟨up_bd (mul_bd bp t3 (Nat.le_refl _)) (by decide), up_bd (mul_bd bq t3 (Nat.le_refl _)) (by decide)⟩, fun e => absurd e (by omega), fun _ => ?_⟩
      rw [e3.1, e3.2]
      walk_at "dg"
      rw [at2]
      dsimp only
      walk_at "dg"
      rw [at2]
      dsimp only
      walk_at "dg"
      refine ⟨p, q, _, p, q, false, rfl, low, low, .inl ⟨rfl, rfl⟩, ⟨bp, bq, bp, bq⟩, ?_⟩
      refine ⟨fun z => (nomatch z), fun _ => ?_⟩
      refine ⟨by show (!z4.owned && true) = true; rw [ho]; rfl, ?_⟩
      walk_at "dl"
      refine ⟨by decide, Nat.le_of_ble_eq_true rfl, ?_⟩
      refine lc_map (xs := List.range 4) (enc := fun (i : Nat) => .int (0 + (i : Int))) (f := fun _ => .bl true) (fun j k R hk hR => ?_) ?_
      · have jl := (List.getElem?_eq_some_iff.mp hk).1
        rw [List.length_range] at jl
        rw [List.getElem?_range jl] at hk
        cases hk
        obtain ⟨⟨r, s⟩, hy⟩ : ∃ x, Ls[j]? = some x := ⟨_, List.getElem?_eq_getElem (by omega)⟩
        have arj : atI (Ls.map ratP) (0 + (j : Int)) = some (ratD r s) := at1 j _ hy
        have atj : atI (Ls.map tupP) (0 + (j : Int)) = some (.tup [.int r, .int s]) := at3 j _ hy
        obtain ⟨lowj, br, bs⟩ := hok _ (List.mem_of_getElem? hy)
        dsimp only at lowj br bs
        walk_at "dg"
        rw [arj]
        dsimp only
        walk_at "dg"
        rw [atj]
        dsimp only
        walk_at "dg"
        exact ⟨r, s, rfl, ⟨up_bd br (by decide), up_bd bs (by decide)⟩, hR⟩
      exact ⟨[true, true, true, true], rfl, rfl⟩
def sp_law01 (K : PySem.W.Frag) : Sp := fun vs H Q _ => ∃ (a : Addr) (ns : List Int), vs = [.ref a] ∧ SqL K H a (ns.map V.int) ∧ ∀ H', Q (.bl true) H'
theorem pure_law {K : PySem.W.Frag} (CF : ClsF CLr K) (vs : List V) (H : Hp) (Q : VK) (E : XK) (h : sp_law01 K vs H Q E) : t_law K { nx := fun _ H' => Q .non H', rt := Q } (start N_law vs) H := by
  obtain ⟨a, ns, rfl, ha, q⟩ := h
  show t_law K _ [some (.ref a), none, none, none, none, none, none, none, none, none, none] H
  unfold t_law
  walk_at "vc"
  refine ⟨a, ns, rfl, ha, fun b H' g hb B s => ?_⟩
  exact law_rest (n := 9) (r_law (Jx := fun _ _ _ _ => False) CF) B rfl rfl law_run q _

end
end C
end
section
set_option maxHeartbeats 4000000
local macro_rules | `(tactic| walk_at "splen") => `(tactic| (intro vs H Q E h; first | (obtain ⟨e, _⟩ := h; subst e; rfl) | (obtain ⟨_, e, _⟩ := h; subst e; rfl) | (obtain ⟨_, _, e, _⟩ := h; subst e; rfl) | (obtain ⟨_, _, _, e, _⟩ := h; subst e; rfl) | (obtain ⟨_, _, _, _, e, _⟩ := h; subst e; rfl) | (obtain ⟨_, _, _, _, _, e, _⟩ := h; subst e; rfl) | (obtain ⟨_, _, _, _, _, _, e, _⟩ := h; subst e; rfl) | (obtain ⟨_, _, _, _, _, _, _, e, _⟩ := h; subst e; rfl) | (obtain ⟨_, _, _, _, _, _, _, _, e, _⟩ := h; subst e; rfl) | (obtain ⟨_, _, _, _, _, _, _, _, _, e, _⟩ := h; subst e; rfl) | (obtain ⟨_, _, _, _, _, _, _, _, _, _, e, _⟩ := h; subst e; rfl) | (obtain ⟨_, _, _, _, _, _, _, _, _, _, _, e, _⟩ := h; subst e; rfl) | (refine C.fnD_len h fun ds Qd q => ?_; first | (obtain ⟨e, _⟩ := q; subst e; rfl) | (obtain ⟨_, e, _⟩ := q; subst e; rfl) | (obtain ⟨_, _, e, _⟩ := q; subst e; rfl) | (obtain ⟨_, _, _, e, _⟩ := q; subst e; rfl) | (obtain ⟨_, _, _, _, e, _⟩ := q; subst e; rfl) | (obtain ⟨_, _, _, _, _, e, _⟩ := q; subst e; rfl) | (obtain ⟨_, _, _, _, _, _, e, _⟩ := q; subst e; rfl) | (obtain ⟨_, _, _, _, _, _, _, e, _⟩ := q; subst e; rfl) | (obtain ⟨_, _, _, _, _, _, _, _, e, _⟩ := q; subst e; rfl) | (rcases q with ⟨_, _, _, _, e, _⟩ | ⟨_, _, _, e, _⟩ | ⟨_, _, _, e, _⟩ <;> subst e <;> rfl) | (rcases q with ⟨e, _⟩ | ⟨e, _⟩ <;> subst e <;> rfl) | (subst q; rfl)) | (refine C.fnX_len h fun ds Qd Ed q => ?_; first | (obtain ⟨e, _⟩ := q; subst e; rfl) | (obtain ⟨_, e, _⟩ := q; subst e; rfl) | (obtain ⟨_, _, e, _⟩ := q; subst e; rfl) | (obtain ⟨_, _, _, e, _⟩ := q; subst e; rfl) | (obtain ⟨_, _, _, _, e, _⟩ := q; subst e; rfl) | (obtain ⟨_, _, _, _, _, e, _⟩ := q; subst e; rfl) | (obtain ⟨_, _, _, _, _, _, e, _⟩ := q; subst e; rfl) | (obtain ⟨_, _, _, _, _, _, _, e, _⟩ := q; subst e; rfl) | (obtain ⟨_, _, _, _, _, _, _, _, e, _⟩ := q; subst e; rfl) | (rcases q with ⟨_, _, _, _, e, _⟩ | ⟨_, _, _, e, _⟩ | ⟨_, _, _, e, _⟩ <;> subst e <;> rfl) | (rcases q with ⟨e, _⟩ | ⟨e, _⟩ <;> subst e <;> rfl) | (subst q; rfl)) | (obtain ⟨W, S, x, dx, ws, ds, Qd, e, _, _, _, _, hs, q, _⟩ := h; subst e; rw [List.length_cons, hs.len]; first | (obtain ⟨e, _⟩ := q; subst e; rfl) | (obtain ⟨_, e, _⟩ := q; subst e; rfl) | (obtain ⟨_, _, e, _⟩ := q; subst e; rfl) | (obtain ⟨_, _, _, e, _⟩ := q; subst e; rfl) | (obtain ⟨_, _, _, _, e, _⟩ := q; subst e; rfl) | (obtain ⟨_, _, _, _, _, e, _⟩ := q; subst e; rfl) | (obtain ⟨_, _, _, _, _, _, e, _⟩ := q; subst e; rfl) | (obtain ⟨_, _, _, _, _, _, _, e, _⟩ := q; subst e; rfl) | (obtain ⟨_, _, _, _, _, _, _, _, e, _⟩ := q; subst e; rfl) | (rcases q with ⟨_, _, _, _, e, _⟩ | ⟨_, _, _, e, _⟩ | ⟨_, _, _, e, _⟩ <;> subst e <;> rfl) | (rcases q with ⟨e, _⟩ | ⟨e, _⟩ <;> subst e <;> rfl) | (subst q; rfl)) | (obtain ⟨W, S, x, dx, ws, ds, Qd, Ed, e, _, _, _, _, hs, q, _⟩ := h; subst e; rw [List.length_cons, hs.len]; first | (obtain ⟨e, _⟩ := q; subst e; rfl) | (obtain ⟨_, e, _⟩ := q; subst e; rfl) | (obtain ⟨_, _, e, _⟩ := q; subst e; rfl) | (obtain ⟨_, _, _, e, _⟩ := q; subst e; rfl) | (obtain ⟨_, _, _, _, e, _⟩ := q; subst e; rfl) | (obtain ⟨_, _, _, _, _, e, _⟩ := q; subst e; rfl) | (obtain ⟨_, _, _, _, _, _, e, _⟩ := q; subst e; rfl) | (obtain ⟨_, _, _, _, _, _, _, e, _⟩ := q; subst e; rfl) | (obtain ⟨_, _, _, _, _, _, _, _, e, _⟩ := q; subst e; rfl) | (rcases q with ⟨_, _, _, _, e, _⟩ | ⟨_, _, _, e, _⟩ | ⟨_, _, _, e, _⟩ <;> subst e <;> rfl) | (rcases q with ⟨e, _⟩ | ⟨e, _⟩ <;> subst e <;> rfl) | (subst q; rfl))))
namespace D
open PySem PySem.Spec PyProof.Rows L2 RZ U ZM C
section
variable {P : Program} {w : World} {K : PySem.W.Frag} {mg : Str → Option Value} {base : Heap}
structure Fr (mg : Str → Option Value) : Prop where
  int : mg "int" = none
  list : mg "list" = none
  len : mg "len" = none
  abs : mg "abs" = none
  str : mg "str" = none
  divmod : mg "divmod" = none
  isinstance : mg "isinstance" = none
  bool : mg "bool" = none
  tuple : mg "tuple" = none
  zip : mg "zip" = none
  all : mg "all" = none
  repr : mg "repr" = none
  min : mg "min" = none
  range : mg "range" = none
theorem sc_law_bag : FnScope N_law_bag ["script"] (defScope s_law_bag) := ⟨rfl, rfl, rfl, by decide +kernel, rfl, by decide +kernel, by decide +kernel⟩
theorem b_law_bag (W : Fr mg) {f : Addr} {cdv : Value} {A : Around} {outer : List Env} {s : Shared} {H : Hp} {E : XK} (hr : Room 0 (A.deeper (envOfC "_law_bag" (defScope s_law_bag) s.heap.objs.size f cdv))) :
  PSs (cxOf CX0 P w K mg base N_law_bag "_law_bag" (defScope s_law_bag) f cdv A outer s H E).nox (defBody s_law_bag) (t_law_bag K) :=
  have hu64 := hr.units
  have hu65 : (A.deeper (envOfC "_law_bag" (defScope s_law_bag) s.heap.objs.size f cdv)).units + 65 < cLine := by have := hr.un; omega
  (pss_cons (ps_set (i := 1) sc_law_bag.nd rfl (by first | exact Or.inl rfl | exact Or.inr rfl) pe_int)
    (pss_cons (ps_for PassesOwn.never rfl (pi_list (pe_slice o_sl (pv 0) po_none (po_some pe_int))) (pg_name (i := 2) sc_law_bag.nd rfl (by first | exact Or.inl rfl | exact Or.inr rfl))
    (pss_one (ps_set (i := 1) sc_law_bag.nd rfl (by first | exact Or.inl rfl | exact Or.inr rfl) (pe_op o_mod (pe_callTy c_int1 (by rfl) W.int (by first | boot_by_name | rfl | kernel_rfl) (pa_cons (pe_op o_add (pe_op o_add (pe_op o_mul (pv 1) pe_int) (pe_op o_mod (pe_callTy c_int1 (by rfl) W.int (by first | boot_by_name | rfl | kernel_rfl) (pa_cons (pv 2) pa_nil)) pe_int)) pe_int) pa_nil)) pe_int))))
    (pss_one (ps_ret (pe_lst (pa_cons (pe_callTy c_list (by rfl) W.list (by first | boot_by_name | rfl | kernel_rfl) (pa_cons (pe_slice o_sl (pv 0) po_none (po_some pe_int)) pa_nil)) (pa_cons pe_int (pa_cons pe_int (pa_cons (pv 1) (pa_cons pe_int pa_nil))))))))))
theorem ok_law_bag (W : Fr mg) {f : Addr} {fd : FuncData} (F : FunD K "_law_bag" "_law_bag" (defArgs s_law_bag) (defBody s_law_bag) (defScope s_law_bag) [] [] f fd) : FnOk P w K mg base CX0 1 f fd ["script"] (sp_law_bag K) := by
  refine F.ok sc_law_bag ?_ (fun cdv A outer s H vs Q E hr h => ⟨t_law_bag K, PSs.nox (b_law_bag W hr), pure_law_bag vs H Q E h⟩)
  walk_at "splen"
theorem sc_law_draw : FnScope N_law_draw ["bag", "size"] (defScope s_law_draw) := ⟨rfl, rfl, rfl, by decide +kernel, rfl, by decide +kernel, by decide +kernel⟩
theorem b_law_draw (W : Fr mg) {f : Addr} {cdv : Value} {A : Around} {outer : List Env} {s : Shared} {H : Hp} {E : XK} (hr : Room 0 (A.deeper (envOfC "_law_draw" (defScope s_law_draw) s.heap.objs.size f cdv))) :
  PSs (cxOf CX0 P w K mg base N_law_draw "_law_draw" (defScope s_law_draw) f cdv A outer s H E).nox (defBody s_law_draw) (t_law_draw K) :=
  have hu64 := hr.units
  have hu65 : (A.deeper (envOfC "_law_draw" (defScope s_law_draw) s.heap.objs.size f cdv)).units + 65 < cLine := by have := hr.un; omega
  (pss_cons (ps_if (pt_cmpR o_lt (pv 1) pe_int (nomark _)) (pss_one (ps_ret pe_int)) pss_nil)
    (pss_cons (ps_asg (pe_op o_add (pe_ix ix_seq (pv 0) pe_int (fun _ _ => rfl)) pe_int) (pg_sub (pv 0) pe_int set_list))
    (pss_mid (ps_if (PW.pt (pw_and (pt_cmpR (o_eq hu64) (pe_ix ix_seq (pv 0) pe_int (fun _ _ => rfl)) pe_int (nomark _)) (pw_and1 (pt_cmpR o_lt (pe_ix ix_seq (pv 0) pe_int (fun _ _ => rfl)) (pe_callB c_len (by rfl) W.len (by first | boot_by_name | rfl | kernel_rfl) (pa_cons (pe_ix ix_seq (pv 0) pe_int (fun _ _ => rfl)) pa_nil)) (nomark _))))) (pss_cons (ps_set (i := 2) sc_law_draw.nd rfl (by first | exact Or.inl rfl | exact Or.inr rfl) (pe_callTy c_int1 (by rfl) W.int (by first | boot_by_name | rfl | kernel_rfl) (pa_cons (pe_ix ix_seq (pe_ix ix_seq (pv 0) pe_int (fun _ _ => rfl)) (pe_ix ix_seq (pv 0) pe_int (fun _ _ => rfl)) (fun _ _ => rfl)) pa_nil)))
    (pss_cons (ps_asg (pe_op o_add (pe_ix ix_seq (pv 0) pe_int (fun _ _ => rfl)) pe_int) (pg_sub (pv 0) pe_int set_list))
    (pss_one (ps_if (pt_cmpR o_ge (pv 2) (pe_op o_pow pe_int pe_int) (nomark _)) (pss_one (ps_asg (pv 2) (pg_sub (pv 0) pe_int set_list))) (pss_one (ps_asg (pe_op o_mod (pe_callTy c_int1 (by rfl) W.int (by first | boot_by_name | rfl | kernel_rfl) (pa_cons (pe_op o_add (pe_op o_add (pe_op o_mul (pe_ix ix_seq (pv 0) pe_int (fun _ _ => rfl)) pe_int) (pe_op o_mul (pe_op o_mod (pe_callTy c_int1 (by rfl) W.int (by first | boot_by_name | rfl | kernel_rfl) (pa_cons (pv 2) pa_nil)) pe_int) pe_int)) pe_int) pa_nil)) pe_int) (pg_sub (pv 0) pe_int set_list))))))) pss_nil)
    (pss_cons (ps_if (pt_cmpR o_gt (pe_ix ix_seq (pv 0) pe_int (fun _ _ => rfl)) pe_int (nomark _)) (pss_cons (ps_set (i := 3) sc_law_draw.nd rfl (by first | exact Or.inl rfl | exact Or.inr rfl) (pe_op o_mod (pe_callTy c_int1 (by rfl) W.int (by first | boot_by_name | rfl | kernel_rfl) (pa_cons (pe_ix ix_seq (pv 0) pe_int (fun _ _ => rfl)) pa_nil)) (pv 1)))
    (pss_cons (ps_asg (pe_op o_div (pe_callTy c_int1 (by rfl) W.int (by first | boot_by_name | rfl | kernel_rfl) (pa_cons (pe_ix ix_seq (pv 0) pe_int (fun _ _ => rfl)) pa_nil)) (pv 1)) (pg_sub (pv 0) pe_int set_list))
    (pss_one (ps_ret (pv 3))))) pss_nil)
    (pss_cons (ps_set (i := 4) sc_law_draw.nd rfl (by first | exact Or.inl rfl | exact Or.inr rfl) (pe_callTy c_int1 (by rfl) W.int (by first | boot_by_name | rfl | kernel_rfl) (pa_cons (pe_ix ix_seq (pv 0) pe_int (fun _ _ => rfl)) pa_nil)))
    (pss_cons (ps_asg (pe_op o_mod (pe_callTy c_int1 (by rfl) W.int (by first | boot_by_name | rfl | kernel_rfl) (pa_cons (pe_op o_add (pe_op o_add (pe_op o_add (pe_op o_pow (pv 4) pe_int) (pe_op o_mul (pv 4) pe_int)) (pe_op o_mul (pe_ix ix_seq (pv 0) pe_int (fun _ _ => rfl)) pe_int)) pe_int) pa_nil)) pe_int) (pg_sub (pv 0) pe_int set_list))
    (pss_one (ps_ret (pe_op o_mod (pe_callTy c_int1 (by rfl) W.int (by first | boot_by_name | rfl | kernel_rfl) (pa_cons (pe_op o_add (pe_op o_div (pe_ix ix_seq (pv 0) pe_int (fun _ _ => rfl)) pe_int) (pe_op o_mul (pe_op o_mod (pe_callTy c_int1 (by rfl) W.int (by first | boot_by_name | rfl | kernel_rfl) (pa_cons (pe_ix ix_seq (pv 0) pe_int (fun _ _ => rfl)) pa_nil)) pe_int) pe_int)) pa_nil)) (pv 1))))))))))
theorem ok_law_draw (W : Fr mg) {f : Addr} {fd : FuncData} (F : FunD K "_law_draw" "_law_draw" (defArgs s_law_draw) (defBody s_law_draw) (defScope s_law_draw) [] [] f fd) : FnOk P w K mg base CX0 1 f fd ["bag", "size"] (sp_law_draw K) := by
  refine F.ok sc_law_draw ?_ (fun cdv A outer s H vs Q E hr h => ⟨t_law_draw K, PSs.nox (b_law_draw W hr), pure_law_draw vs H Q E h⟩)
  walk_at "splen"
theorem sc_law_of : FnScope N_law_of ["bag", "things"] (defScope s_law_of) := ⟨rfl, rfl, rfl, by decide +kernel, rfl, by decide +kernel, by decide +kernel⟩
theorem b_law_of (W : Fr mg) (D_law_draw : Fd P w K mg base CX0 "_law_draw" 1 ["bag", "size"] (sp_law_draw K)) {f : Addr} {cdv : Value} {A : Around} {outer : List Env} {s : Shared} {H : Hp} {E : XK} (hr : Room 1 (A.deeper (envOfC "_law_of" (defScope s_law_of) s.heap.objs.size f cdv))) :
  PSs (cxOf CX0 P w K mg base N_law_of "_law_of" (defScope s_law_of) f cdv A outer s H E).nox (defBody s_law_of) (t_law_of K) :=
  have hu64 := hr.units
  have hu65 : (A.deeper (envOfC "_law_of" (defScope s_law_of) s.heap.objs.size f cdv)).units + 65 < cLine := by have := hr.un; omega
  (pss_one (ps_ret (pe_ix ix_seq (pv 1) (pe_fd D_law_draw (hr.mono (by omega)) (pa_cons (pv 0) (pa_cons (pe_callB c_len (by rfl) W.len (by first | boot_by_name | rfl | kernel_rfl) (pa_cons (pv 1) pa_nil)) pa_nil))) (fun _ _ => rfl))))
theorem ok_law_of (W : Fr mg) (D_law_draw : Fd P w K mg base CX0 "_law_draw" 1 ["bag", "size"] (sp_law_draw K)) {f : Addr} {fd : FuncData} (F : FunD K "_law_of" "_law_of" (defArgs s_law_of) (defBody s_law_of) (defScope s_law_of) [] [] f fd) : FnOk P w K mg base CX0 2 f fd ["bag", "things"] (sp_law_of K) := by
  refine F.ok sc_law_of ?_ (fun cdv A outer s H vs Q E hr h => ⟨t_law_of K, PSs.nox (b_law_of W D_law_draw hr), pure_law_of vs H Q E h⟩)
  walk_at "splen"
theorem sc_law_up : FnScope N_law_up ["bag"] (defScope s_law_up) := ⟨rfl, rfl, rfl, by decide +kernel, rfl, by decide +kernel, by decide +kernel⟩
theorem b_law_up (W : Fr mg) (D_law_draw : Fd P w K mg base CX0 "_law_draw" 1 ["bag", "size"] (sp_law_draw K)) (D_law_of : Fd P w K mg base CX0 "_law_of" 2 ["bag", "things"] (sp_law_of K)) {f : Addr} {cdv : Value} {A : Around} {outer : List Env} {s : Shared} {H : Hp} {E : XK} (hr : Room 2 (A.deeper (envOfC "_law_up" (defScope s_law_up) s.heap.objs.size f cdv))) :
  PSs (cxOf CX0 P w K mg base N_law_up "_law_up" (defScope s_law_up) f cdv A outer s H E).nox (defBody s_law_up) (t_law_up K) :=
  have hu64 := hr.units
  have hu65 : (A.deeper (envOfC "_law_up" (defScope s_law_up) s.heap.objs.size f cdv)).units + 65 < cLine := by have := hr.un; omega
  (pss_cons (ps_set (i := 1) sc_law_up.nd rfl (by first | exact Or.inl rfl | exact Or.inr rfl) (pe_op o_mul (pe_op o_add (pe_fd D_law_draw (hr.mono (by omega)) (pa_cons (pv 0) (pa_cons (pe_op o_pow pe_int pe_int) pa_nil))) pe_int) (pe_fd D_law_of (hr.mono (by omega)) (pa_cons (pv 0) (pa_cons (pe_lst (pa_cons pe_int (pa_cons (pe_op o_pow pe_int pe_int) (pa_cons (pe_op o_pow pe_int pe_int) (pa_cons (pe_op o_mul (pe_op o_pow pe_int pe_int) (pe_op o_pow pe_int pe_int)) pa_nil))))) pa_nil)))))
    (pss_one (ps_ret (pe_fd D_law_of (hr.mono (by omega)) (pa_cons (pv 0) (pa_cons (pe_lst (pa_cons pe_int (pa_cons pe_int (pa_cons (pe_un o_neg pe_int) (pa_cons pe_int (pa_cons pe_int (pa_cons (pe_un o_neg pe_int) (pa_cons pe_int (pa_cons (pe_op o_sub (pe_fd D_law_draw (hr.mono (by omega)) (pa_cons (pv 0) (pa_cons pe_int pa_nil))) pe_int) (pa_cons (pv 1) (pa_cons (pe_op o_sub pe_int (pv 1)) (pa_cons (pe_op o_pow pe_int pe_int) (pa_cons (pe_op o_sub (pe_op o_pow pe_int pe_int) pe_int) (pa_cons (pe_op o_sub pe_int (pe_op o_pow pe_int pe_int)) pa_nil)))))))))))))) pa_nil))))))
theorem ok_law_up (W : Fr mg) (D_law_draw : Fd P w K mg base CX0 "_law_draw" 1 ["bag", "size"] (sp_law_draw K)) (D_law_of : Fd P w K mg base CX0 "_law_of" 2 ["bag", "things"] (sp_law_of K)) {f : Addr} {fd : FuncData} (F : FunD K "_law_up" "_law_up" (defArgs s_law_up) (defBody s_law_up) (defScope s_law_up) [] [] f fd) : FnOk P w K mg base CX0 3 f fd ["bag"] (sp_law_up K) := by
  refine F.ok sc_law_up ?_ (fun cdv A outer s H vs Q E hr h => ⟨t_law_up K, PSs.nox (b_law_up W D_law_draw D_law_of hr), pure_law_up vs H Q E h⟩)
  walk_at "splen"
theorem sc_law_down : FnScope N_law_down ["bag"] (defScope s_law_down) := ⟨rfl, rfl, rfl, by decide +kernel, rfl, by decide +kernel, by decide +kernel⟩
theorem b_law_down (W : Fr mg) (D_law_draw : Fd P w K mg base CX0 "_law_draw" 1 ["bag", "size"] (sp_law_draw K)) (D_law_of : Fd P w K mg base CX0 "_law_of" 2 ["bag", "things"] (sp_law_of K)) {f : Addr} {cdv : Value} {A : Around} {outer : List Env} {s : Shared} {H : Hp} {E : XK} (hr : Room 2 (A.deeper (envOfC "_law_down" (defScope s_law_down) s.heap.objs.size f cdv))) :
  PSs (cxOf CX0 P w K mg base N_law_down "_law_down" (defScope s_law_down) f cdv A outer s H E).nox (defBody s_law_down) (t_law_down K) :=
  have hu64 := hr.units
  have hu65 : (A.deeper (envOfC "_law_down" (defScope s_law_down) s.heap.objs.size f cdv)).units + 65 < cLine := by have := hr.un; omega
  (pss_cons (ps_set (i := 1) sc_law_down.nd rfl (by first | exact Or.inl rfl | exact Or.inr rfl) (pe_op o_mul (pe_op o_add (pe_fd D_law_draw (hr.mono (by omega)) (pa_cons (pv 0) (pa_cons (pe_op o_pow pe_int pe_int) pa_nil))) pe_int) (pe_fd D_law_of (hr.mono (by omega)) (pa_cons (pv 0) (pa_cons (pe_lst (pa_cons pe_int (pa_cons (pe_op o_pow pe_int pe_int) (pa_cons (pe_op o_pow pe_int pe_int) (pa_cons (pe_op o_mul (pe_op o_pow pe_int pe_int) (pe_op o_pow pe_int pe_int)) pa_nil))))) pa_nil)))))
    (pss_one (ps_ret (pe_fd D_law_of (hr.mono (by omega)) (pa_cons (pv 0) (pa_cons (pe_lst (pa_cons pe_int (pa_cons pe_int (pa_cons (pe_un o_neg pe_int) (pa_cons pe_int (pa_cons pe_int (pa_cons (pe_un o_neg pe_int) (pa_cons pe_int (pa_cons (pe_op o_add pe_int (pe_fd D_law_draw (hr.mono (by omega)) (pa_cons (pv 0) (pa_cons pe_int pa_nil)))) (pa_cons (pv 1) (pa_cons (pe_op o_sub pe_int (pv 1)) (pa_cons (pe_op o_pow pe_int pe_int) (pa_cons (pe_op o_sub pe_int (pe_op o_pow pe_int pe_int)) pa_nil))))))))))))) pa_nil))))))
theorem ok_law_down (W : Fr mg) (D_law_draw : Fd P w K mg base CX0 "_law_draw" 1 ["bag", "size"] (sp_law_draw K)) (D_law_of : Fd P w K mg base CX0 "_law_of" 2 ["bag", "things"] (sp_law_of K)) {f : Addr} {fd : FuncData} (F : FunD K "_law_down" "_law_down" (defArgs s_law_down) (defBody s_law_down) (defScope s_law_down) [] [] f fd) : FnOk P w K mg base CX0 3 f fd ["bag"] (sp_law_down K) := by
  refine F.ok sc_law_down ?_ (fun cdv A outer s H vs Q E hr h => ⟨t_law_down K, PSs.nox (b_law_down W D_law_draw D_law_of hr), pure_law_down vs H Q E h⟩)
  walk_at "splen"
theorem sc_law_gcd : FnScope N_law_gcd ["a", "b"] (defScope s_law_gcd) := ⟨rfl, rfl, rfl, by decide +kernel, rfl, by decide +kernel, by decide +kernel⟩
theorem b_law_gcd (W : Fr mg) {f : Addr} {cdv : Value} {A : Around} {outer : List Env} {s : Shared} {H : Hp} {E : XK} (hr : Room 0 (A.deeper (envOfC "_law_gcd" (defScope s_law_gcd) s.heap.objs.size f cdv))) :
  PSs (cxOf CX0 P w K mg base N_law_gcd "_law_gcd" (defScope s_law_gcd) f cdv A outer s H E).nox (defBody s_law_gcd) (t_law_gcd K) :=
  have hu64 := hr.units
  have hu65 : (A.deeper (envOfC "_law_gcd" (defScope s_law_gcd) s.heap.objs.size f cdv)).units + 65 < cLine := by have := hr.un; omega
  (pss_cons (ps_par (i := 0) (j := 1) (by rfl) sc_law_gcd.nd rfl rfl (by decide) rfl rfl (pa_cons (pe_callB c_abs (by rfl) W.abs (by first | boot_by_name | rfl | kernel_rfl) (pa_cons (pv 0) pa_nil)) (pa_cons (pe_callB c_abs (by rfl) W.abs (by first | boot_by_name | rfl | kernel_rfl) (pa_cons (pv 1) pa_nil)) pa_nil)) (by rfl))
    (pss_cons (ps_while PassesOwn.never (pt_cmpR o_gt (pv 1) pe_int (nomark _))
    (pss_one (ps_par (i := 0) (j := 1) (by rfl) sc_law_gcd.nd rfl rfl (by decide) rfl rfl (pa_cons (pv 1) (pa_cons (pe_op o_mod (pe_callTy c_int1 (by rfl) W.int (by first | boot_by_name | rfl | kernel_rfl) (pa_cons (pv 0) pa_nil)) (pv 1)) pa_nil)) (by rfl))))
    (pss_one (ps_ret (pv 0)))))
theorem ok_law_gcd (W : Fr mg) {f : Addr} {fd : FuncData} (F : FunD K "_law_gcd" "_law_gcd" (defArgs s_law_gcd) (defBody s_law_gcd) (defScope s_law_gcd) [] [] f fd) : FnOk P w K mg base CX0 1 f fd ["a", "b"] (sp_law_gcd K) := by
  refine F.ok sc_law_gcd ?_ (fun cdv A outer s H vs Q E hr h => ⟨t_law_gcd K, PSs.nox (b_law_gcd W hr), pure_law_gcd vs H Q E h⟩)
  walk_at "splen"
theorem sc_law_low : FnScope N_law_low ["up", "down"] (defScope s_law_low) := ⟨rfl, rfl, rfl, by decide +kernel, rfl, by decide +kernel, by decide +kernel⟩
theorem b_law_low (W : Fr mg) (D_law_gcd : Fd P w K mg base CX0 "_law_gcd" 1 ["a", "b"] (sp_law_gcd K)) {f : Addr} {cdv : Value} {A : Around} {outer : List Env} {s : Shared} {H : Hp} {E : XK} (hr : Room 1 (A.deeper (envOfC "_law_low" (defScope s_law_low) s.heap.objs.size f cdv))) :
  PSs (cxOf CX0 P w K mg base N_law_low "_law_low" (defScope s_law_low) f cdv A outer s H E).nox (defBody s_law_low) (t_law_low K) :=
  have hu64 := hr.units
  have hu65 : (A.deeper (envOfC "_law_low" (defScope s_law_low) s.heap.objs.size f cdv)).units + 65 < cLine := by have := hr.un; omega
  (pss_cons (ps_set (i := 2) sc_law_low.nd rfl (by first | exact Or.inl rfl | exact Or.inr rfl) (pe_fd D_law_gcd (hr.mono (by omega)) (pa_cons (pv 0) (pa_cons (pv 1) pa_nil))))
    (pss_mid (ps_if (pt_cmpR o_lt (pv 1) pe_int (nomark _)) (pss_one (ps_set (i := 2) sc_law_low.nd rfl (by first | exact Or.inl rfl | exact Or.inr rfl) (pe_op o_sub pe_int (pv 2)))) pss_nil)
    (pss_one (ps_ret (pe_tup (pa_cons (pe_op o_divv (pv 0) (pv 2)) (pa_cons (pe_op o_divv (pv 1) (pv 2)) pa_nil)))))))
theorem ok_law_low (W : Fr mg) (D_law_gcd : Fd P w K mg base CX0 "_law_gcd" 1 ["a", "b"] (sp_law_gcd K)) {f : Addr} {fd : FuncData} (F : FunD K "_law_low" "_law_low" (defArgs s_law_low) (defBody s_law_low) (defScope s_law_low) [] [] f fd) : FnOk P w K mg base CX0 2 f fd ["up", "down"] (sp_law_low K) := by
  refine F.ok sc_law_low ?_ (fun cdv A outer s H vs Q E hr h => ⟨t_law_low K, PSs.nox (b_law_low W D_law_gcd hr), pure_law_low vs H Q E h⟩)
  walk_at "splen"
theorem sc_integer_text : FnScope N_integer_text ["value"] (defScope s_integer_text) := ⟨rfl, rfl, rfl, by decide +kernel, rfl, by decide +kernel, by decide +kernel⟩
theorem b_integer_text (W : Fr mg) (C_LIMIT : ∃ t, mg "LIMIT" = some (.int 1000000000000000000000000000000000000000000000000000000000000 t)) (ND : NoDig K) {f : Addr} {cdv : Value} {A : Around} {outer : List Env} {s : Shared} {H : Hp} {E : XK} (hr : Room 0 (A.deeper (envOfC "integer_text" (defScope s_integer_text) s.heap.objs.size f cdv))) :
  PSs (cxOf CX0 P w K mg base N_integer_text "integer_text" (defScope s_integer_text) f cdv A outer s H E).nox (defBody s_integer_text) (t_integer_text K) :=
  have hu64 := hr.units
  have hu65 : (A.deeper (envOfC "integer_text" (defScope s_integer_text) s.heap.objs.size f cdv)).units + 65 < cLine := by have := hr.un; omega
  (pss_cons (ps_if (pt_chain o_lt o_lt (pe_un o_neg (pe_globI C_LIMIT)) (pv 0) (pe_globI C_LIMIT)) (pss_one (ps_ret (pe_callTy (cr_strB ND (by rfl)) (by rfl) W.str (by first | boot_by_name | rfl | kernel_rfl) (pa_cons (pv 0) pa_nil)))) pss_nil)
    (pss_cons (ps_set (i := 1) sc_integer_text.nd rfl (by first | exact Or.inl rfl | exact Or.inr rfl) (pe_callB c_abs (by rfl) W.abs (by first | boot_by_name | rfl | kernel_rfl) (pa_cons (pv 0) pa_nil)))
    (pss_cons (ps_set (i := 2) sc_integer_text.nd rfl (by first | exact Or.inl rfl | exact Or.inr rfl) (pe_lst pa_nil))
    (pss_cons (ps_while PassesOwn.never (pt_cmpR o_ge (pv 1) (pe_globI C_LIMIT) (nomark _))
    (pss_cons (ps_asg (pe_callB c_divmod (by rfl) W.divmod (by first | boot_by_name | rfl | kernel_rfl) (pa_cons (pv 1) (pa_cons (pe_globI C_LIMIT) pa_nil))) (pg_tup (by rfl) (pgs_cons (pg_name (i := 1) sc_integer_text.nd rfl (by first | exact Or.inl rfl | exact Or.inr rfl)) (pgs_cons (pg_name (i := 3) sc_integer_text.nd rfl (by first | exact Or.inl rfl | exact Or.inr rfl)) pgs_nil))))
    (pss_one (ps_expr (pe_bm PySem.F.plainAttrs_list PySem.F.slot_list_append PySem.F.type_list_append mt_append (pv 2) (pa_cons (pe_m1 PySem.F.slot_str_zfill PySem.F.type_str_zfill mt_zfill (pe_callTy (cr_strB ND (by rfl)) (by rfl) W.str (by first | boot_by_name | rfl | kernel_rfl) (pa_cons (pv 3) pa_nil)) pe_int) pa_nil))))))
    (pss_cons (ps_expr (pe_bm PySem.F.plainAttrs_list PySem.F.slot_list_append PySem.F.type_list_append mt_append (pv 2) (pa_cons (pe_callTy (cr_strB ND (by rfl)) (by rfl) W.str (by first | boot_by_name | rfl | kernel_rfl) (pa_cons (pv 1) pa_nil)) pa_nil)))
    (pss_mid (ps_if (pt_cmpR o_lt (pv 0) pe_int (nomark _)) (pss_one (ps_expr (pe_bm PySem.F.plainAttrs_list PySem.F.slot_list_append PySem.F.type_list_append mt_append (pv 2) (pa_cons pe_str pa_nil)))) pss_nil)
    (pss_one (ps_ret (pe_join pe_str (pe_revL (pv 2)))))))))))
theorem ok_integer_text (W : Fr mg) (C_LIMIT : ∃ t, mg "LIMIT" = some (.int 1000000000000000000000000000000000000000000000000000000000000 t)) (ND : NoDig K) {f : Addr} {fd : FuncData} (F : FunD K "integer_text" "integer_text" (defArgs s_integer_text) (defBody s_integer_text) (defScope s_integer_text) [] [] f fd) : FnOk P w K mg base CX0 1 f fd ["value"] (sp_integer_text K) := by
  refine F.ok sc_integer_text ?_ (fun cdv A outer s H vs Q E hr h => ⟨t_integer_text K, PSs.nox (b_integer_text W C_LIMIT ND hr), pure_integer_text vs H Q E h⟩)
  walk_at "splen"
theorem sc_Ratio_init : FnScope N_Ratio_init ["self", "top", "bottom"] (defScope s_Ratio_init) := ⟨rfl, rfl, rfl, by decide +kernel, rfl, by decide +kernel, by decide +kernel⟩
theorem b_Ratio_init (W : Fr mg) (T_InvalidNumber : FK.Flt P K mg "InvalidNumber" (He.ga K "InvalidNumber") flInvalidNumber psInvalidNumber) (M_gcd : mg "gcd" = some (.builtin "math.gcd")) (D_integer_text : Fd P w K mg base CX0 "integer_text" 1 ["value"] (sp_integer_text K)) {f : Addr} {cdv : Value} {A : Around} {outer : List Env} {s : Shared} {H : Hp} {E : XK} (hr : Room 1 (A.deeper (envOfC "Ratio.__init__" (defScope s_Ratio_init) s.heap.objs.size f cdv))) :
  PSs (cxOf (L2N.CX P w) P w K mg base N_Ratio_init "Ratio.__init__" (defScope s_Ratio_init) f cdv A outer s H E) (defBody s_Ratio_init) (t_Ratio_init K (fun cls d _ H => E cls d H)) :=
  have hu64 := hr.units
  have hu65 : (A.deeper (envOfC "Ratio.__init__" (defScope s_Ratio_init) s.heap.objs.size f cdv)).units + 65 < cLine := by have := hr.un; omega
  (pss_cons (ps_if (pt_cmpR (o_eq hu64) (pv 2) pe_int (nomark _)) (pss_one (TY.ps_raiseN (by rfl) T_InvalidNumber hr (L2N.takes_of rfl rfl rfl rfl) (pa_cons (pv 2) pa_nil))) pss_nil)
    (pss_cons (ps_set (i := 3) sc_Ratio_init.nd rfl (by first | exact Or.inl rfl | exact Or.inr rfl) (pe_callBfun cr_gcd rfl M_gcd (pa_cons (pv 1) (pa_cons (pv 2) pa_nil))))
    (pss_mid (ps_if (pt_cmpR o_lt (pv 2) pe_int (nomark _)) (pss_one (ps_set (i := 3) sc_Ratio_init.nd rfl (by first | exact Or.inl rfl | exact Or.inr rfl) (pe_un o_neg (pv 3)))) pss_nil)
    (pss_cons (ps_fld (pv 0) (pe_op o_divv (pv 1) (pv 3)) rfl)
    (pss_cons (ps_fld (pv 0) (pe_op o_divv (pv 2) (pv 3)) rfl)
    (pss_one (ps_if (pt_cmpR (o_eq hu64) (pe_fld (pv 0) rfl) pe_int (nomark _)) (pss_one (ps_fld (pv 0) (pe_fd D_integer_text (hr.mono (by omega)) (pa_cons (pe_fld (pv 0) rfl) pa_nil)) rfl)) (pss_one (ps_fld (pv 0) (pe_joinedU (.cons (pe_fmt (pe_fd D_integer_text (hr.mono (by omega)) (pa_cons (pe_fld (pv 0) rfl) pa_nil))) (.cons pe_str (.cons (pe_fmt (pe_fd D_integer_text (hr.mono (by omega)) (pa_cons (pe_fld (pv 0) rfl) pa_nil))) .nil)))) rfl)))))))))
theorem ok_Ratio_init (W : Fr mg) (T_InvalidNumber : FK.Flt P K mg "InvalidNumber" (He.ga K "InvalidNumber") flInvalidNumber psInvalidNumber) (M_gcd : mg "gcd" = some (.builtin "math.gcd")) (D_integer_text : Fd P w K mg base CX0 "integer_text" 1 ["value"] (sp_integer_text K)) (CF : ClsF CLr K) {f : Addr} {fd : FuncData} (F : FunD K "__init__" "Ratio.__init__" (defArgs s_Ratio_init) (defBody s_Ratio_init) (defScope s_Ratio_init) [.int 1] [] f fd) : FnOk P w K mg base (L2N.CX P w) 2 f fd ["self", "top", "bottom"] (sp_Ratio_init K) := by
  refine F.ok sc_Ratio_init ?_ (fun cdv A outer s H vs Q E hr h => ⟨t_Ratio_init K (fun cls d _ H => E cls d H), b_Ratio_init W T_InvalidNumber M_gcd D_integer_text hr, pure_Ratio_init CF vs H Q E h⟩)
  walk_at "splen"
theorem sc_law_int : FnScope N_law_int ["v"] (defScope s_law_int) := ⟨rfl, rfl, rfl, by decide +kernel, rfl, by decide +kernel, by decide +kernel⟩
theorem b_law_int (W : Fr mg) {f : Addr} {cdv : Value} {A : Around} {outer : List Env} {s : Shared} {H : Hp} {E : XK} (hr : Room 0 (A.deeper (envOfC "_law_int" (defScope s_law_int) s.heap.objs.size f cdv))) :
  PSs (cxOf CX0 P w K mg base N_law_int "_law_int" (defScope s_law_int) f cdv A outer s H E).nox (defBody s_law_int) (t_law_int K) :=
  have hu64 := hr.units
  have hu65 : (A.deeper (envOfC "_law_int" (defScope s_law_int) s.heap.objs.size f cdv)).units + 65 < cLine := by have := hr.un; omega
  (pss_one (ps_ret (pe_and (pe_callB c_isi (by rfl) W.isinstance (by first | boot_by_name | rfl | kernel_rfl) (pa_cons (pv 0) (pa_cons (pe_bltn (v := .ty "int") rfl W.int (by first | boot_by_name | rfl | kernel_rfl) rfl) pa_nil))) (pe_one (pe_not (pe_callB c_isi (by rfl) W.isinstance (by first | boot_by_name | rfl | kernel_rfl) (pa_cons (pv 0) (pa_cons (pe_bltn (v := .ty "bool") rfl W.bool (by first | boot_by_name | rfl | kernel_rfl) rfl) pa_nil))))))))
theorem ok_law_int (W : Fr mg) {f : Addr} {fd : FuncData} (F : FunD K "_law_int" "_law_int" (defArgs s_law_int) (defBody s_law_int) (defScope s_law_int) [] [] f fd) : FnOk P w K mg base CX0 1 f fd ["v"] (sp_law_int K) := by
  refine F.ok sc_law_int ?_ (fun cdv A outer s H vs Q E hr h => ⟨t_law_int K, PSs.nox (b_law_int W hr), pure_law_int vs H Q E h⟩)
  walk_at "splen"
theorem sc_law_like : FnScope N_law_like ["told", "due"] (defScope s_law_like) := ⟨rfl, rfl, rfl, by decide +kernel, rfl, by decide +kernel, by decide +kernel⟩
theorem b_law_like (n : Nat) (W : Fr mg) (D_law_int : Fd P w K mg base CX0 "_law_int" 1 ["v"] (sp_law_int K)) (D_law_like : Fd P w K mg base CX0 "_law_like" (2 + n) ["told", "due"] (sp_law_like K n)) {f : Addr} {cdv : Value} {A : Around} {outer : List Env} {s : Shared} {H : Hp} {E : XK} (hr : Room (2 + n) (A.deeper (envOfC "_law_like" (defScope s_law_like) s.heap.objs.size f cdv))) :
  PSs (cxOf CX0 P w K mg base N_law_like "_law_like" (defScope s_law_like) f cdv A outer s H E).nox (defBody s_law_like) (t_law_like K n) :=
  have hu64 := hr.units
  have hu65 : (A.deeper (envOfC "_law_like" (defScope s_law_like) s.heap.objs.size f cdv)).units + 65 < cLine := by have := hr.un; omega
  (pss_cons (ps_if (pt_cmpR o_is (pv 1) pe_non (nomark _)) (pss_one (ps_ret (pe_cmpR o_is (pv 0) pe_non (nomark _)))) pss_nil)
    (pss_cons (ps_if (pt_val (pe_callB c_isi (by rfl) W.isinstance (by first | boot_by_name | rfl | kernel_rfl) (pa_cons (pv 1) (pa_cons (pe_bltn (v := .ty "bool") rfl W.bool (by first | boot_by_name | rfl | kernel_rfl) rfl) pa_nil)))) (pss_one (ps_ret (pe_and (pe_callB c_isi (by rfl) W.isinstance (by first | boot_by_name | rfl | kernel_rfl) (pa_cons (pv 0) (pa_cons (pe_bltn (v := .ty "bool") rfl W.bool (by first | boot_by_name | rfl | kernel_rfl) rfl) pa_nil))) (pe_one (pe_cmpR (o_eq hu64) (pv 0) (pv 1) (nomark _)))))) pss_nil)
    (pss_cons (ps_if (pt_val (pe_fd D_law_int (hr.mono (by omega)) (pa_cons (pv 1) pa_nil))) (pss_one (ps_ret (pe_and (pe_fd D_law_int (hr.mono (by omega)) (pa_cons (pv 0) pa_nil)) (pe_one (pe_cmpR (o_eq hu64) (pv 0) (pv 1) (nomark _)))))) pss_nil)
    (pss_cons (ps_if (pt_val (pe_callB c_isi (by rfl) W.isinstance (by first | boot_by_name | rfl | kernel_rfl) (pa_cons (pv 1) (pa_cons (pe_bltn (v := .ty "str") rfl W.str (by first | boot_by_name | rfl | kernel_rfl) rfl) pa_nil)))) (pss_one (ps_ret (pe_and (pe_callB c_isi (by rfl) W.isinstance (by first | boot_by_name | rfl | kernel_rfl) (pa_cons (pv 0) (pa_cons (pe_bltn (v := .ty "str") rfl W.str (by first | boot_by_name | rfl | kernel_rfl) rfl) pa_nil))) (pe_one (pe_cmpR (o_eq hu64) (pv 0) (pv 1) (nomark _)))))) pss_nil)
    (pss_cons (ps_if (PW.pt (pw_or (PW.pt (pw_and (pt_val (pe_callB c_isi (by rfl) W.isinstance (by first | boot_by_name | rfl | kernel_rfl) (pa_cons (pv 1) (pa_cons (pe_bltn (v := .ty "list") rfl W.list (by first | boot_by_name | rfl | kernel_rfl) rfl) pa_nil)))) (pw_and1 (pt_not (pt_val (pe_callB c_isi (by rfl) W.isinstance (by first | boot_by_name | rfl | kernel_rfl) (pa_cons (pv 0) (pa_cons (pe_bltn (v := .ty "list") rfl W.list (by first | boot_by_name | rfl | kernel_rfl) rfl) pa_nil)))))))) (pw_or1 (PW.pt (pw_and (pt_val (pe_callB c_isi (by rfl) W.isinstance (by first | boot_by_name | rfl | kernel_rfl) (pa_cons (pv 1) (pa_cons (pe_bltn (v := .ty "tuple") rfl W.tuple (by first | boot_by_name | rfl | kernel_rfl) rfl) pa_nil)))) (pw_and1 (pt_not (pt_val (pe_callB c_isi (by rfl) W.isinstance (by first | boot_by_name | rfl | kernel_rfl) (pa_cons (pv 0) (pa_cons (pe_bltn (v := .ty "tuple") rfl W.tuple (by first | boot_by_name | rfl | kernel_rfl) rfl) pa_nil))))))))))) (pss_one (ps_ret pe_bl)) pss_nil)
    (pss_one (ps_ret (pe_and (pe_cmpR (o_eq hu64) (pe_callB c_len (by rfl) W.len (by first | boot_by_name | rfl | kernel_rfl) (pa_cons (pv 0) pa_nil)) (pe_callB c_len (by rfl) W.len (by first | boot_by_name | rfl | kernel_rfl) (pa_cons (pv 1) pa_nil)) (nomark _)) (pe_one (pe_callB (cr_all rfl) (by rfl) W.all (by first | boot_by_name | rfl | kernel_rfl) (pa_cons (pe_lc (own := [("x", 2), ("y", 3)]) (g := (gTup K 2 (gCons (gName 2) (gCons (gName 3) gNil)))) (tt := tYes) (by rfl) sc_law_like.nd (pi_zipA (by rfl) W.zip (pa_cons (pv 0) (pa_cons (pv 1) pa_nil))) (blkOk_by (own := [("x", 2), ("y", 3)]) (N := N_law_like) (sc := (defScope s_law_like)) (by decide +kernel)) (fun _ _ _ _ _ => (pg_tup (by rfl) (pgs_cons (pg_name (i := 2) sc_law_like.nd rfl (by first | exact Or.inl rfl | exact Or.inr rfl)) (pgs_cons (pg_name (i := 3) sc_law_like.nd rfl (by first | exact Or.inl rfl | exact Or.inr rfl)) pgs_nil)))) (fun _ _ _ _ _ => pts_nil) (fun _ _ _ _ _ => (pe_fd D_law_like (hr.mono (by omega)) (pa_cons (pv 2) (pa_cons (pv 3) pa_nil))))) pa_nil)))))))))))
theorem ok_law_like (W : Fr mg) (D_law_int : Fd P w K mg base CX0 "_law_int" 1 ["v"] (sp_law_int K)) {f : Addr} {fd : FuncData} (F : FunD K "_law_like" "_law_like" (defArgs s_law_like) (defBody s_law_like) (defScope s_law_like) [] [] f fd) (gF : mg "_law_like" = some (.ref f)) : ∀ n : Nat, FnOk P w K mg base CX0 (2 + n) f fd ["told", "due"] (sp_law_like K n)
  | 0 => F.ok (k := 1) sc_law_like (fun vs H Q E h => (no_law_like h).elim) (fun cdv A outer s H vs Q E hr h => (no_law_like h).elim)
  | n + 1 => by
    refine F.ok (k := 2 + n) sc_law_like ?_ (fun cdv A outer s H vs Q E hr h => ⟨t_law_like K n, PSs.nox (b_law_like n W D_law_int (U.fd_of (st := s_law_like) F (ok_law_like W D_law_int F gF n) gF (fun _ _ _ _ _ _ us hl => match us, hl with | [_, _], _ => rfl)) hr), pure_law_like n vs H Q E h⟩)
    walk_at "splen"
theorem sc_law_zero_refused : FnScope N_law_zero_refused ["up"] (defScope s_law_zero_refused) := ⟨rfl, rfl, rfl, by decide +kernel, rfl, by decide +kernel, by decide +kernel⟩
theorem b_law_zero_refused (W : Fr mg) (T_InvalidNumber : FK.Flt P K mg "InvalidNumber" (He.ga K "InvalidNumber") flInvalidNumber psInvalidNumber) (G_InvalidNumber : mg "InvalidNumber" = some (.ref (He.ga K "InvalidNumber"))) (NX_Ratio : TY.Ndx P w K mg base "Ratio" (He.ga K "Ratio") 2 ["self", "top", "bottom"] [] (sp_Ratio_init K)) (H_law_like : TY.Hfd P w K mg base "_law_like" 2 ["told", "due"] (sp_hot_law_like K)) {f : Addr} {cdv : Value} {A : Around} {outer : List Env} {s : Shared} {H : Hp} {E : XK} (hr : Room 3 (A.deeper (envOfC "_law_zero_refused" (defScope s_law_zero_refused) s.heap.objs.size f cdv))) :
  PSs (cxOf CX0 P w K mg base N_law_zero_refused "_law_zero_refused" (defScope s_law_zero_refused) f cdv A outer s H E).nox (defBody s_law_zero_refused) (t_law_zero_refused K) :=
  have hu64 := hr.units
  have hu65 : (A.deeper (envOfC "_law_zero_refused" (defScope s_law_zero_refused) s.heap.objs.size f cdv)).units + 65 < cLine := by have := hr.un; omega
  (pss_mid (TY.ps_try rfl rfl sc_law_zero_refused.nd TY.takes0 (fun Jy pn xe tky hp => (pss_one (ps_set (i := 1) sc_law_zero_refused.nd rfl (by first | exact Or.inl rfl | exact Or.inr rfl) (TY.pe_ndx NX_Ratio (hr.mono (by omega)) tky (pa_cons (pv 0) (pa_cons pe_int pa_nil)))))) (.named ⟨rfl, rfl, .inl G_InvalidNumber⟩ (i := 2) rfl rfl (fun a oe cls d pn hz hf => (pss_one (ps_ret (TY.pe_hfd H_law_like (TY.room_suite (hr.mono (by omega))) (TY.hot_suite hz hf) (pa_cons (pe_xf (TY.flt_xf T_InvalidNumber) (TY.flt_no T_InvalidNumber (by decide)) (L2N.Zn.zc hz) hf (pv 2)) (pa_cons pe_int pa_nil)))))) .nil))
    (pss_one (ps_ret (pe_cmpR o_is (pv 1) pe_non (nomark _)))))
theorem ok_law_zero_refused (W : Fr mg) (T_InvalidNumber : FK.Flt P K mg "InvalidNumber" (He.ga K "InvalidNumber") flInvalidNumber psInvalidNumber) (G_InvalidNumber : mg "InvalidNumber" = some (.ref (He.ga K "InvalidNumber"))) (NX_Ratio : TY.Ndx P w K mg base "Ratio" (He.ga K "Ratio") 2 ["self", "top", "bottom"] [] (sp_Ratio_init K)) (H_law_like : TY.Hfd P w K mg base "_law_like" 2 ["told", "due"] (sp_hot_law_like K)) (XM : XmOk K xm) {f : Addr} {fd : FuncData} (F : FunD K "_law_zero_refused" "_law_zero_refused" (defArgs s_law_zero_refused) (defBody s_law_zero_refused) (defScope s_law_zero_refused) [] [] f fd) : FnOk P w K mg base CX0 4 f fd ["up"] (sp_law_zero_refused K) := by
  refine F.ok sc_law_zero_refused ?_ (fun cdv A outer s H vs Q E hr h => ⟨t_law_zero_refused K, PSs.nox (b_law_zero_refused W T_InvalidNumber G_InvalidNumber NX_Ratio H_law_like hr), pure_law_zero_refused XM vs H Q E h⟩)
  walk_at "splen"
theorem sc_law_text : FnScope N_law_text ["x"] (defScope s_law_text) := ⟨rfl, rfl, rfl, by decide +kernel, rfl, by decide +kernel, by decide +kernel⟩
theorem b_law_text (W : Fr mg) {f : Addr} {cdv : Value} {A : Around} {outer : List Env} {s : Shared} {H : Hp} {E : XK} (hr : Room 0 (A.deeper (envOfC "_law_text" (defScope s_law_text) s.heap.objs.size f cdv))) :
  PSs (cxOf CX0 P w K mg base N_law_text "_law_text" (defScope s_law_text) f cdv A outer s H E).nox (defBody s_law_text) (t_law_text K) :=
  have hu64 := hr.units
  have hu65 : (A.deeper (envOfC "_law_text" (defScope s_law_text) s.heap.objs.size f cdv)).units + 65 < cLine := by have := hr.un; omega
  (pss_one (ps_ret (pe_ifExp (pt_cmpR (o_eq hu64) (pe_ix ix_seq (pv 0) pe_int (fun _ _ => rfl)) pe_int (nomark _)) (pe_callTy c_str (by rfl) W.str (by first | boot_by_name | rfl | kernel_rfl) (pa_cons (pe_ix ix_seq (pv 0) pe_int (fun _ _ => rfl)) pa_nil)) (pe_op o_add (pe_op o_add (pe_callTy c_str (by rfl) W.str (by first | boot_by_name | rfl | kernel_rfl) (pa_cons (pe_ix ix_seq (pv 0) pe_int (fun _ _ => rfl)) pa_nil)) pe_str) (pe_callTy c_str (by rfl) W.str (by first | boot_by_name | rfl | kernel_rfl) (pa_cons (pe_ix ix_seq (pv 0) pe_int (fun _ _ => rfl)) pa_nil))))))
theorem ok_law_text (W : Fr mg) {f : Addr} {fd : FuncData} (F : FunD K "_law_text" "_law_text" (defArgs s_law_text) (defBody s_law_text) (defScope s_law_text) [] [] f fd) : FnOk P w K mg base CX0 1 f fd ["x"] (sp_law_text K) := by
  refine F.ok sc_law_text ?_ (fun cdv A outer s H vs Q E hr h => ⟨t_law_text K, PSs.nox (b_law_text W hr), pure_law_text vs H Q E h⟩)
  walk_at "splen"
theorem sc_Ratio_repr : FnScope N_Ratio_repr ["self"] (defScope s_Ratio_repr) := ⟨rfl, rfl, rfl, by decide +kernel, rfl, by decide +kernel, by decide +kernel⟩
theorem b_Ratio_repr (W : Fr mg) {f : Addr} {cdv : Value} {A : Around} {outer : List Env} {s : Shared} {H : Hp} {E : XK} (hr : Room 0 (A.deeper (envOfC "Ratio.__repr__" (defScope s_Ratio_repr) s.heap.objs.size f cdv))) :
  PSs (cxOf CX0 P w K mg base N_Ratio_repr "Ratio.__repr__" (defScope s_Ratio_repr) f cdv A outer s H E).nox (defBody s_Ratio_repr) (t_Ratio_repr K) :=
  have hu64 := hr.units
  have hu65 : (A.deeper (envOfC "Ratio.__repr__" (defScope s_Ratio_repr) s.heap.objs.size f cdv)).units + 65 < cLine := by have := hr.un; omega
  (pss_one (ps_ret (pe_joinedU (.cons pe_str (.cons (pe_fmt (pe_fld (pv 0) rfl)) (.cons pe_str .nil))))))
theorem ok_Ratio_repr (W : Fr mg) (CF : ClsF CLr K) {f : Addr} {fd : FuncData} (F : FunD K "__repr__" "Ratio.__repr__" (defArgs s_Ratio_repr) (defBody s_Ratio_repr) (defScope s_Ratio_repr) [] [] f fd) : FnOk P w K mg base CX0 1 f fd ["self"] (sp_Ratio_repr K) := by
  refine F.ok sc_Ratio_repr ?_ (fun cdv A outer s H vs Q E hr h => ⟨t_Ratio_repr K, PSs.nox (b_Ratio_repr W hr), pure_Ratio_repr CF vs H Q E h⟩)
  walk_at "splen"
theorem sc_law_is : FnScope N_law_is ["told", "x"] (defScope s_law_is) := ⟨rfl, rfl, rfl, by decide +kernel, rfl, by decide +kernel, by decide +kernel⟩
theorem b_law_is (W : Fr mg) (G_Ratio : mg "Ratio" = some (.ref (He.ga K "Ratio"))) (D_law_like : Fd P w K mg base CX0 "_law_like" (2 + 12) ["told", "due"] (sp_law_like K 12)) (D_law_text : Fd P w K mg base CX0 "_law_text" 1 ["x"] (sp_law_text K)) (M_Ratio_repr : Md P w K mg base (He.ga K "Ratio") "__repr__" 1 ["self"] (sp_Ratio_repr K)) {f : Addr} {cdv : Value} {A : Around} {outer : List Env} {s : Shared} {H : Hp} {E : XK} (hr : Room 14 (A.deeper (envOfC "_law_is" (defScope s_law_is) s.heap.objs.size f cdv))) :
  PSs (cxOf CX0 P w K mg base N_law_is "_law_is" (defScope s_law_is) f cdv A outer s H E).nox (defBody s_law_is) (t_law_is K) :=
  have hu64 := hr.units
  have hu65 : (A.deeper (envOfC "_law_is" (defScope s_law_is) s.heap.objs.size f cdv)).units + 65 < cLine := by have := hr.un; omega
  (pss_cons (ps_if (pt_not (pt_val (pe_callB c_isi (by rfl) W.isinstance (by first | boot_by_name | rfl | kernel_rfl) (pa_cons (pv 0) (pa_cons (pe_glob (by rfl) G_Ratio (by rfl)) pa_nil))))) (pss_one (ps_ret pe_bl)) pss_nil)
    (pss_one (ps_ret (pe_fd D_law_like (hr.mono (by omega)) (pa_cons (pe_lst (pa_cons (pe_fld (pv 0) rfl) (pa_cons (pe_fld (pv 0) rfl) (pa_cons (pe_fld (pv 0) rfl) (pa_cons (pe_callB (cr_reprO M_Ratio_repr (hr.mono (by omega))) (by rfl) W.repr (by first | boot_by_name | rfl | kernel_rfl) (pa_cons (pv 0) pa_nil)) pa_nil))))) (pa_cons (pe_lst (pa_cons (pe_ix ix_seq (pv 1) pe_int (fun _ _ => rfl)) (pa_cons (pe_ix ix_seq (pv 1) pe_int (fun _ _ => rfl)) (pa_cons (pe_fd D_law_text (hr.mono (by omega)) (pa_cons (pv 1) pa_nil)) (pa_cons (pe_op o_add (pe_op o_add pe_str (pe_fd D_law_text (hr.mono (by omega)) (pa_cons (pv 1) pa_nil))) pe_str) pa_nil))))) pa_nil))))))
theorem ok_law_is (W : Fr mg) (G_Ratio : mg "Ratio" = some (.ref (He.ga K "Ratio"))) (D_law_like : Fd P w K mg base CX0 "_law_like" (2 + 12) ["told", "due"] (sp_law_like K 12)) (D_law_text : Fd P w K mg base CX0 "_law_text" 1 ["x"] (sp_law_text K)) (M_Ratio_repr : Md P w K mg base (He.ga K "Ratio") "__repr__" 1 ["self"] (sp_Ratio_repr K)) (CF : ClsF CLr K) {f : Addr} {fd : FuncData} (F : FunD K "_law_is" "_law_is" (defArgs s_law_is) (defBody s_law_is) (defScope s_law_is) [] [] f fd) : FnOk P w K mg base CX0 15 f fd ["told", "x"] (sp_law_is K) := by
  refine F.ok sc_law_is ?_ (fun cdv A outer s H vs Q E hr h => ⟨t_law_is K, PSs.nox (b_law_is W G_Ratio D_law_like D_law_text M_Ratio_repr hr), pure_law_is CF vs H Q E h⟩)
  walk_at "splen"
theorem sc_Ratio_floor : FnScope N_Ratio_floor ["self"] (defScope s_Ratio_floor) := ⟨rfl, rfl, rfl, by decide +kernel, rfl, by decide +kernel, by decide +kernel⟩
theorem b_Ratio_floor (W : Fr mg) {f : Addr} {cdv : Value} {A : Around} {outer : List Env} {s : Shared} {H : Hp} {E : XK} (hr : Room 0 (A.deeper (envOfC "Ratio.floor" (defScope s_Ratio_floor) s.heap.objs.size f cdv))) :
  PSs (cxOf CX0 P w K mg base N_Ratio_floor "Ratio.floor" (defScope s_Ratio_floor) f cdv A outer s H E).nox (defBody s_Ratio_floor) (t_Ratio_floor K) :=
  have hu64 := hr.units
  have hu65 : (A.deeper (envOfC "Ratio.floor" (defScope s_Ratio_floor) s.heap.objs.size f cdv)).units + 65 < cLine := by have := hr.un; omega
  (pss_one (ps_ret (pe_op o_divv (pe_fld (pv 0) rfl) (pe_fld (pv 0) rfl))))
theorem ok_Ratio_floor (W : Fr mg) (CF : ClsF CLr K) {f : Addr} {fd : FuncData} (F : FunD K "floor" "Ratio.floor" (defArgs s_Ratio_floor) (defBody s_Ratio_floor) (defScope s_Ratio_floor) [] [] f fd) : FnOk P w K mg base CX0 1 f fd ["self"] (sp_Ratio_floor K) := by
  refine F.ok sc_Ratio_floor ?_ (fun cdv A outer s H vs Q E hr h => ⟨t_Ratio_floor K, PSs.nox (b_Ratio_floor W hr), pure_Ratio_floor CF vs H Q E h⟩)
  walk_at "splen"
theorem sc_Ratio_ceiling : FnScope N_Ratio_ceiling ["self"] (defScope s_Ratio_ceiling) := ⟨rfl, rfl, rfl, by decide +kernel, rfl, by decide +kernel, by decide +kernel⟩
theorem b_Ratio_ceiling (W : Fr mg) {f : Addr} {cdv : Value} {A : Around} {outer : List Env} {s : Shared} {H : Hp} {E : XK} (hr : Room 0 (A.deeper (envOfC "Ratio.ceiling" (defScope s_Ratio_ceiling) s.heap.objs.size f cdv))) :
  PSs (cxOf CX0 P w K mg base N_Ratio_ceiling "Ratio.ceiling" (defScope s_Ratio_ceiling) f cdv A outer s H E).nox (defBody s_Ratio_ceiling) (t_Ratio_ceiling K) :=
  have hu64 := hr.units
  have hu65 : (A.deeper (envOfC "Ratio.ceiling" (defScope s_Ratio_ceiling) s.heap.objs.size f cdv)).units + 65 < cLine := by have := hr.un; omega
  (pss_one (ps_ret (pe_un o_neg (pe_op o_divv (pe_un o_neg (pe_fld (pv 0) rfl)) (pe_fld (pv 0) rfl)))))
theorem ok_Ratio_ceiling (W : Fr mg) (CF : ClsF CLr K) {f : Addr} {fd : FuncData} (F : FunD K "ceiling" "Ratio.ceiling" (defArgs s_Ratio_ceiling) (defBody s_Ratio_ceiling) (defScope s_Ratio_ceiling) [] [] f fd) : FnOk P w K mg base CX0 1 f fd ["self"] (sp_Ratio_ceiling K) := by
  refine F.ok sc_Ratio_ceiling ?_ (fun cdv A outer s H vs Q E hr h => ⟨t_Ratio_ceiling K, PSs.nox (b_Ratio_ceiling W hr), pure_Ratio_ceiling CF vs H Q E h⟩)
  walk_at "splen"
theorem sc_law_whole_parts_so : FnScope N_law_whole_parts_so ["a", "x"] (defScope s_law_whole_parts_so) := ⟨rfl, rfl, rfl, by decide +kernel, rfl, by decide +kernel, by decide +kernel⟩
theorem b_law_whole_parts_so (W : Fr mg) (D_law_int : Fd P w K mg base CX0 "_law_int" 1 ["v"] (sp_law_int K)) (M_Ratio_floor : Md P w K mg base (He.ga K "Ratio") "floor" 1 ["self"] (sp_Ratio_floor K)) (M_Ratio_ceiling : Md P w K mg base (He.ga K "Ratio") "ceiling" 1 ["self"] (sp_Ratio_ceiling K)) {f : Addr} {cdv : Value} {A : Around} {outer : List Env} {s : Shared} {H : Hp} {E : XK} (hr : Room 1 (A.deeper (envOfC "_law_whole_parts_so" (defScope s_law_whole_parts_so) s.heap.objs.size f cdv))) :
  PSs (cxOf CX0 P w K mg base N_law_whole_parts_so "_law_whole_parts_so" (defScope s_law_whole_parts_so) f cdv A outer s H E).nox (defBody s_law_whole_parts_so) (t_law_whole_parts_so K) :=
  have hu64 := hr.units
  have hu65 : (A.deeper (envOfC "_law_whole_parts_so" (defScope s_law_whole_parts_so) s.heap.objs.size f cdv)).units + 65 < cLine := by have := hr.un; omega
  (pss_cons (ps_par (i := 2) (j := 3) (by rfl) sc_law_whole_parts_so.nd rfl rfl (by decide) rfl rfl (pa_cons (pe_md0 M_Ratio_floor (hr.mono (by omega)) (pv 0)) (pa_cons (pe_md0 M_Ratio_ceiling (hr.mono (by omega)) (pv 0)) pa_nil)) (by rfl))
    (pss_cons (ps_if (PW.pt (pw_or (pt_not (pt_val (pe_fd D_law_int (hr.mono (by omega)) (pa_cons (pv 2) pa_nil)))) (pw_or1 (pt_not (pt_val (pe_fd D_law_int (hr.mono (by omega)) (pa_cons (pv 3) pa_nil))))))) (pss_one (ps_ret pe_bl)) pss_nil)
    (pss_one (ps_ret (pe_and (pe_cmpR o_le (pe_op o_mul (pv 2) (pe_ix ix_seq (pv 1) pe_int (fun _ _ => rfl))) (pe_ix ix_seq (pv 1) pe_int (fun _ _ => rfl)) (nomark _)) (pe_and (pe_cmpR o_lt (pe_ix ix_seq (pv 1) pe_int (fun _ _ => rfl)) (pe_op o_mul (pe_op o_add (pv 2) pe_int) (pe_ix ix_seq (pv 1) pe_int (fun _ _ => rfl))) (nomark _)) (pe_and (pe_cmpR o_lt (pe_op o_mul (pe_op o_sub (pv 3) pe_int) (pe_ix ix_seq (pv 1) pe_int (fun _ _ => rfl))) (pe_ix ix_seq (pv 1) pe_int (fun _ _ => rfl)) (nomark _)) (pe_one (pe_cmpR o_le (pe_ix ix_seq (pv 1) pe_int (fun _ _ => rfl)) (pe_op o_mul (pv 3) (pe_ix ix_seq (pv 1) pe_int (fun _ _ => rfl))) (nomark _))))))))))
theorem ok_law_whole_parts_so (W : Fr mg) (D_law_int : Fd P w K mg base CX0 "_law_int" 1 ["v"] (sp_law_int K)) (M_Ratio_floor : Md P w K mg base (He.ga K "Ratio") "floor" 1 ["self"] (sp_Ratio_floor K)) (M_Ratio_ceiling : Md P w K mg base (He.ga K "Ratio") "ceiling" 1 ["self"] (sp_Ratio_ceiling K)) {f : Addr} {fd : FuncData} (F : FunD K "_law_whole_parts_so" "_law_whole_parts_so" (defArgs s_law_whole_parts_so) (defBody s_law_whole_parts_so) (defScope s_law_whole_parts_so) [] [] f fd) : FnOk P w K mg base CX0 2 f fd ["a", "x"] (sp_law_whole_parts_so K) := by
  refine F.ok sc_law_whole_parts_so ?_ (fun cdv A outer s H vs Q E hr h => ⟨t_law_whole_parts_so K, PSs.nox (b_law_whole_parts_so W D_law_int M_Ratio_floor M_Ratio_ceiling hr), pure_law_whole_parts_so vs H Q E h⟩)
  walk_at "splen"
theorem sc_as_ratio : FnScope N_as_ratio ["number"] (defScope s_as_ratio) := ⟨rfl, rfl, rfl, by decide +kernel, rfl, by decide +kernel, by decide +kernel⟩
theorem b_as_ratio (W : Fr mg) (G_Ratio : mg "Ratio" = some (.ref (He.ga K "Ratio"))) (NF_Ratio : TY.Ndd P w K mg base "Ratio" (He.ga K "Ratio") 2 ["self", "top", "bottom"] [.int 1] (TY.spC (sp_Ratio_init K))) {f : Addr} {cdv : Value} {A : Around} {outer : List Env} {s : Shared} {H : Hp} {E : XK} (hr : Room 3 (A.deeper (envOfC "as_ratio" (defScope s_as_ratio) s.heap.objs.size f cdv))) :
  PSs (cxOf CX0 P w K mg base N_as_ratio "as_ratio" (defScope s_as_ratio) f cdv A outer s H E).nox (defBody s_as_ratio) (t_as_ratio K) :=
  have hu64 := hr.units
  have hu65 : (A.deeper (envOfC "as_ratio" (defScope s_as_ratio) s.heap.objs.size f cdv)).units + 65 < cLine := by have := hr.un; omega
  (pss_one (ps_ret (pe_ifExp (pt_val (pe_callB c_isi (by rfl) W.isinstance (by first | boot_by_name | rfl | kernel_rfl) (pa_cons (pv 0) (pa_cons (pe_glob (by rfl) G_Ratio (by rfl)) pa_nil)))) (pv 0) (TY.pe_ndd NF_Ratio (hr.mono (by omega)) (pa_cons (pv 0) pa_nil)))))
theorem ok_as_ratio (W : Fr mg) (G_Ratio : mg "Ratio" = some (.ref (He.ga K "Ratio"))) (NF_Ratio : TY.Ndd P w K mg base "Ratio" (He.ga K "Ratio") 2 ["self", "top", "bottom"] [.int 1] (TY.spC (sp_Ratio_init K))) (CF : ClsF CLr K) {f : Addr} {fd : FuncData} (F : FunD K "as_ratio" "as_ratio" (defArgs s_as_ratio) (defBody s_as_ratio) (defScope s_as_ratio) [] [] f fd) : FnOk P w K mg base CX0 4 f fd ["number"] (sp_as_ratio K) := by
  refine F.ok sc_as_ratio ?_ (fun cdv A outer s H vs Q E hr h => ⟨t_as_ratio K, PSs.nox (b_as_ratio W G_Ratio NF_Ratio hr), pure_as_ratio CF vs H Q E h⟩)
  walk_at "splen"
theorem sc_Ratio_add : FnScope N_Ratio_add ["self", "other"] (defScope s_Ratio_add) := ⟨rfl, rfl, rfl, by decide +kernel, rfl, by decide +kernel, by decide +kernel⟩
theorem b_Ratio_add (W : Fr mg) (D_as_ratio : Fd P w K mg base CX0 "as_ratio" 4 ["number"] (sp_as_ratio K)) (N_Ratio : Nd P w K mg base "Ratio" (He.ga K "Ratio") 2 ["self", "top", "bottom"] (TY.spC (sp_Ratio_init K))) {f : Addr} {cdv : Value} {A : Around} {outer : List Env} {s : Shared} {H : Hp} {E : XK} (hr : Room 4 (A.deeper (envOfC "Ratio.__add__" (defScope s_Ratio_add) s.heap.objs.size f cdv))) :
  PSs (cxOf CX0 P w K mg base N_Ratio_add "Ratio.__add__" (defScope s_Ratio_add) f cdv A outer s H E).nox (defBody s_Ratio_add) (t_Ratio_add K) :=
  have hu64 := hr.units
  have hu65 : (A.deeper (envOfC "Ratio.__add__" (defScope s_Ratio_add) s.heap.objs.size f cdv)).units + 65 < cLine := by have := hr.un; omega
  (pss_cons (ps_set (i := 2) sc_Ratio_add.nd rfl (by first | exact Or.inl rfl | exact Or.inr rfl) (pe_fd D_as_ratio (hr.mono (by omega)) (pa_cons (pv 1) pa_nil)))
    (pss_one (ps_ret (pe_nd N_Ratio (hr.mono (by omega)) (pa_cons (pe_op o_add (pe_op o_mul (pe_fld (pv 0) rfl) (pe_fld (pv 2) rfl)) (pe_op o_mul (pe_fld (pv 2) rfl) (pe_fld (pv 0) rfl))) (pa_cons (pe_op o_mul (pe_fld (pv 0) rfl) (pe_fld (pv 2) rfl)) pa_nil))))))
theorem ok_Ratio_add (W : Fr mg) (D_as_ratio : Fd P w K mg base CX0 "as_ratio" 4 ["number"] (sp_as_ratio K)) (N_Ratio : Nd P w K mg base "Ratio" (He.ga K "Ratio") 2 ["self", "top", "bottom"] (TY.spC (sp_Ratio_init K))) (CF : ClsF CLr K) {f : Addr} {fd : FuncData} (F : FunD K "__add__" "Ratio.__add__" (defArgs s_Ratio_add) (defBody s_Ratio_add) (defScope s_Ratio_add) [] [] f fd) : FnOk P w K mg base CX0 5 f fd ["self", "other"] (sp_Ratio_add K) := by
  refine F.ok sc_Ratio_add ?_ (fun cdv A outer s H vs Q E hr h => ⟨t_Ratio_add K, PSs.nox (b_Ratio_add W D_as_ratio N_Ratio hr), pure_Ratio_add CF vs H Q E h⟩)
  walk_at "splen"
theorem sc_Ratio_sub : FnScope N_Ratio_sub ["self", "other"] (defScope s_Ratio_sub) := ⟨rfl, rfl, rfl, by decide +kernel, rfl, by decide +kernel, by decide +kernel⟩
theorem b_Ratio_sub (W : Fr mg) (D_as_ratio : Fd P w K mg base CX0 "as_ratio" 4 ["number"] (sp_as_ratio K)) (N_Ratio : Nd P w K mg base "Ratio" (He.ga K "Ratio") 2 ["self", "top", "bottom"] (TY.spC (sp_Ratio_init K))) {f : Addr} {cdv : Value} {A : Around} {outer : List Env} {s : Shared} {H : Hp} {E : XK} (hr : Room 4 (A.deeper (envOfC "Ratio.__sub__" (defScope s_Ratio_sub) s.heap.objs.size f cdv))) :
  PSs (cxOf CX0 P w K mg base N_Ratio_sub "Ratio.__sub__" (defScope s_Ratio_sub) f cdv A outer s H E).nox (defBody s_Ratio_sub) (t_Ratio_sub K) :=
  have hu64 := hr.units
  have hu65 : (A.deeper (envOfC "Ratio.__sub__" (defScope s_Ratio_sub) s.heap.objs.size f cdv)).units + 65 < cLine := by have := hr.un; omega
  (pss_cons (ps_set (i := 2) sc_Ratio_sub.nd rfl (by first | exact Or.inl rfl | exact Or.inr rfl) (pe_fd D_as_ratio (hr.mono (by omega)) (pa_cons (pv 1) pa_nil)))
    (pss_one (ps_ret (pe_nd N_Ratio (hr.mono (by omega)) (pa_cons (pe_op o_sub (pe_op o_mul (pe_fld (pv 0) rfl) (pe_fld (pv 2) rfl)) (pe_op o_mul (pe_fld (pv 2) rfl) (pe_fld (pv 0) rfl))) (pa_cons (pe_op o_mul (pe_fld (pv 0) rfl) (pe_fld (pv 2) rfl)) pa_nil))))))
theorem ok_Ratio_sub (W : Fr mg) (D_as_ratio : Fd P w K mg base CX0 "as_ratio" 4 ["number"] (sp_as_ratio K)) (N_Ratio : Nd P w K mg base "Ratio" (He.ga K "Ratio") 2 ["self", "top", "bottom"] (TY.spC (sp_Ratio_init K))) (CF : ClsF CLr K) {f : Addr} {fd : FuncData} (F : FunD K "__sub__" "Ratio.__sub__" (defArgs s_Ratio_sub) (defBody s_Ratio_sub) (defScope s_Ratio_sub) [] [] f fd) : FnOk P w K mg base CX0 5 f fd ["self", "other"] (sp_Ratio_sub K) := by
  refine F.ok sc_Ratio_sub ?_ (fun cdv A outer s H vs Q E hr h => ⟨t_Ratio_sub K, PSs.nox (b_Ratio_sub W D_as_ratio N_Ratio hr), pure_Ratio_sub CF vs H Q E h⟩)
  walk_at "splen"
theorem sc_Ratio_mul : FnScope N_Ratio_mul ["self", "other"] (defScope s_Ratio_mul) := ⟨rfl, rfl, rfl, by decide +kernel, rfl, by decide +kernel, by decide +kernel⟩
theorem b_Ratio_mul (W : Fr mg) (D_as_ratio : Fd P w K mg base CX0 "as_ratio" 4 ["number"] (sp_as_ratio K)) (N_Ratio : Nd P w K mg base "Ratio" (He.ga K "Ratio") 2 ["self", "top", "bottom"] (TY.spC (sp_Ratio_init K))) {f : Addr} {cdv : Value} {A : Around} {outer : List Env} {s : Shared} {H : Hp} {E : XK} (hr : Room 4 (A.deeper (envOfC "Ratio.__mul__" (defScope s_Ratio_mul) s.heap.objs.size f cdv))) :
  PSs (cxOf CX0 P w K mg base N_Ratio_mul "Ratio.__mul__" (defScope s_Ratio_mul) f cdv A outer s H E).nox (defBody s_Ratio_mul) (t_Ratio_mul K) :=
  have hu64 := hr.units
  have hu65 : (A.deeper (envOfC "Ratio.__mul__" (defScope s_Ratio_mul) s.heap.objs.size f cdv)).units + 65 < cLine := by have := hr.un; omega
  (pss_cons (ps_set (i := 2) sc_Ratio_mul.nd rfl (by first | exact Or.inl rfl | exact Or.inr rfl) (pe_fd D_as_ratio (hr.mono (by omega)) (pa_cons (pv 1) pa_nil)))
    (pss_one (ps_ret (pe_nd N_Ratio (hr.mono (by omega)) (pa_cons (pe_op o_mul (pe_fld (pv 0) rfl) (pe_fld (pv 2) rfl)) (pa_cons (pe_op o_mul (pe_fld (pv 0) rfl) (pe_fld (pv 2) rfl)) pa_nil))))))
theorem ok_Ratio_mul (W : Fr mg) (D_as_ratio : Fd P w K mg base CX0 "as_ratio" 4 ["number"] (sp_as_ratio K)) (N_Ratio : Nd P w K mg base "Ratio" (He.ga K "Ratio") 2 ["self", "top", "bottom"] (TY.spC (sp_Ratio_init K))) (CF : ClsF CLr K) {f : Addr} {fd : FuncData} (F : FunD K "__mul__" "Ratio.__mul__" (defArgs s_Ratio_mul) (defBody s_Ratio_mul) (defScope s_Ratio_mul) [] [] f fd) : FnOk P w K mg base CX0 5 f fd ["self", "other"] (sp_Ratio_mul K) := by
  refine F.ok sc_Ratio_mul ?_ (fun cdv A outer s H vs Q E hr h => ⟨t_Ratio_mul K, PSs.nox (b_Ratio_mul W D_as_ratio N_Ratio hr), pure_Ratio_mul CF vs H Q E h⟩)
  walk_at "splen"
theorem sc_Ratio_compare : FnScope N_Ratio_compare ["self", "other"] (defScope s_Ratio_compare) := ⟨rfl, rfl, rfl, by decide +kernel, rfl, by decide +kernel, by decide +kernel⟩
theorem b_Ratio_compare (W : Fr mg) (D_as_ratio : Fd P w K mg base CX0 "as_ratio" 4 ["number"] (sp_as_ratio K)) {f : Addr} {cdv : Value} {A : Around} {outer : List Env} {s : Shared} {H : Hp} {E : XK} (hr : Room 4 (A.deeper (envOfC "Ratio.compare" (defScope s_Ratio_compare) s.heap.objs.size f cdv))) :
  PSs (cxOf CX0 P w K mg base N_Ratio_compare "Ratio.compare" (defScope s_Ratio_compare) f cdv A outer s H E).nox (defBody s_Ratio_compare) (t_Ratio_compare K) :=
  have hu64 := hr.units
  have hu65 : (A.deeper (envOfC "Ratio.compare" (defScope s_Ratio_compare) s.heap.objs.size f cdv)).units + 65 < cLine := by have := hr.un; omega
  (pss_cons (ps_set (i := 2) sc_Ratio_compare.nd rfl (by first | exact Or.inl rfl | exact Or.inr rfl) (pe_fd D_as_ratio (hr.mono (by omega)) (pa_cons (pv 1) pa_nil)))
    (pss_cons (ps_set (i := 3) sc_Ratio_compare.nd rfl (by first | exact Or.inl rfl | exact Or.inr rfl) (pe_op o_sub (pe_op o_mul (pe_fld (pv 0) rfl) (pe_fld (pv 2) rfl)) (pe_op o_mul (pe_fld (pv 2) rfl) (pe_fld (pv 0) rfl))))
    (pss_cons (ps_if (pt_cmpR (o_eq hu64) (pv 3) pe_int (nomark _)) (pss_one (ps_ret pe_int)) pss_nil)
    (pss_one (ps_ret (pe_ifExp (pt_cmpR o_gt (pv 3) pe_int (nomark _)) pe_int (pe_un o_neg pe_int)))))))
theorem ok_Ratio_compare (W : Fr mg) (D_as_ratio : Fd P w K mg base CX0 "as_ratio" 4 ["number"] (sp_as_ratio K)) (CF : ClsF CLr K) {f : Addr} {fd : FuncData} (F : FunD K "compare" "Ratio.compare" (defArgs s_Ratio_compare) (defBody s_Ratio_compare) (defScope s_Ratio_compare) [] [] f fd) : FnOk P w K mg base CX0 5 f fd ["self", "other"] (sp_Ratio_compare K) := by
  refine F.ok sc_Ratio_compare ?_ (fun cdv A outer s H vs Q E hr h => ⟨t_Ratio_compare K, PSs.nox (b_Ratio_compare W D_as_ratio hr), pure_Ratio_compare CF vs H Q E h⟩)
  walk_at "splen"
theorem sc_Ratio_eq : FnScope N_Ratio_eq ["self", "other"] (defScope s_Ratio_eq) := ⟨rfl, rfl, rfl, by decide +kernel, rfl, by decide +kernel, by decide +kernel⟩
theorem b_Ratio_eq (W : Fr mg) (G_Ratio : mg "Ratio" = some (.ref (He.ga K "Ratio"))) {f : Addr} {cdv : Value} {A : Around} {outer : List Env} {s : Shared} {H : Hp} {E : XK} (hr : Room 0 (A.deeper (envOfC "Ratio.__eq__" (defScope s_Ratio_eq) s.heap.objs.size f cdv))) :
  PSs (cxOf CX0 P w K mg base N_Ratio_eq "Ratio.__eq__" (defScope s_Ratio_eq) f cdv A outer s H E).nox (defBody s_Ratio_eq) (t_Ratio_eq K) :=
  have hu64 := hr.units
  have hu65 : (A.deeper (envOfC "Ratio.__eq__" (defScope s_Ratio_eq) s.heap.objs.size f cdv)).units + 65 < cLine := by have := hr.un; omega
  (pss_one (ps_ret (pe_and (pe_callB c_isi (by rfl) W.isinstance (by first | boot_by_name | rfl | kernel_rfl) (pa_cons (pv 1) (pa_cons (pe_glob (by rfl) G_Ratio (by rfl)) pa_nil))) (pe_and (pe_cmpR (o_eq hu64) (pe_fld (pv 0) rfl) (pe_fld (pv 1) rfl) (nomark _)) (pe_one (pe_cmpR (o_eq hu64) (pe_fld (pv 0) rfl) (pe_fld (pv 1) rfl) (nomark _)))))))
theorem ok_Ratio_eq (W : Fr mg) (G_Ratio : mg "Ratio" = some (.ref (He.ga K "Ratio"))) (CF : ClsF CLr K) {f : Addr} {fd : FuncData} (F : FunD K "__eq__" "Ratio.__eq__" (defArgs s_Ratio_eq) (defBody s_Ratio_eq) (defScope s_Ratio_eq) [] [] f fd) : FnOk P w K mg base CX0 1 f fd ["self", "other"] (sp_Ratio_eq K) := by
  refine F.ok sc_Ratio_eq ?_ (fun cdv A outer s H vs Q E hr h => ⟨t_Ratio_eq K, PSs.nox (b_Ratio_eq W G_Ratio hr), pure_Ratio_eq CF vs H Q E h⟩)
  walk_at "splen"
theorem sc_law_two_so : FnScope N_law_two_so ["a", "b", "x", "y", "plain"] (defScope s_law_two_so) := ⟨rfl, rfl, rfl, by decide +kernel, rfl, by decide +kernel, by decide +kernel⟩
theorem b_law_two_so (W : Fr mg) (NR_add : RM.numR K (He.ga K "Ratio") "add" = true) (NR_sub : RM.numR K (He.ga K "Ratio") "sub" = true) (NR_mul : RM.numR K (He.ga K "Ratio") "mul" = true) (EQR : RM.eqR K (He.ga K "Ratio") = true) (SF_Ratio : PySem.W.selfFirst K (He.ga K "Ratio") = true) (D_law_is : Fd P w K mg base CX0 "_law_is" 15 ["told", "x"] (sp_law_is K)) (D_law_low : Fd P w K mg base CX0 "_law_low" 2 ["up", "down"] (sp_law_low K)) (D_law_like : Fd P w K mg base CX0 "_law_like" (2 + 12) ["told", "due"] (sp_law_like K 12)) (M_Ratio_add : Md P w K mg base (He.ga K "Ratio") "__add__" 5 ["self", "other"] (sp_Ratio_add K)) (M_Ratio_sub : Md P w K mg base (He.ga K "Ratio") "__sub__" 5 ["self", "other"] (sp_Ratio_sub K)) (M_Ratio_mul : Md P w K mg base (He.ga K "Ratio") "__mul__" 5 ["self", "other"] (sp_Ratio_mul K)) (M_Ratio_compare : Md P w K mg base (He.ga K "Ratio") "compare" 5 ["self", "other"] (sp_Ratio_compare K)) (M_Ratio_eq : Md P w K mg base (He.ga K "Ratio") "__eq__" 1 ["self", "other"] (sp_Ratio_eq K)) (MK_Ratio_compare : Mkd P w K mg base (He.ga K "Ratio") "compare" 5 ["self", "other"] ["other"] (sp_Ratio_compare K)) {f : Addr} {cdv : Value} {A : Around} {outer : List Env} {s : Shared} {H : Hp} {E : XK} (hr : Room 15 (A.deeper (envOfC "_law_two_so" (defScope s_law_two_so) s.heap.objs.size f cdv))) :
  PSs (cxOf CX0 P w K mg base N_law_two_so "_law_two_so" (defScope s_law_two_so) f cdv A outer s H E).nox (defBody s_law_two_so) (t_law_two_so K) :=
  have hu64 := hr.units
  have hu65 : (A.deeper (envOfC "_law_two_so" (defScope s_law_two_so) s.heap.objs.size f cdv)).units + 65 < cLine := by have := hr.un; omega
  (pss_cons (ps_if (pt_not (pt_val (pe_fd D_law_is (hr.mono (by omega)) (pa_cons (pe_op (RM.o_ownN M_Ratio_add (hr.mono (by omega)) SF_Ratio NR_add) (pv 0) (pv 1)) (pa_cons (pe_fd D_law_low (hr.mono (by omega)) (pa_cons (pe_op o_add (pe_op o_mul (pe_ix ix_seq (pv 2) pe_int (fun _ _ => rfl)) (pe_ix ix_seq (pv 3) pe_int (fun _ _ => rfl))) (pe_op o_mul (pe_ix ix_seq (pv 3) pe_int (fun _ _ => rfl)) (pe_ix ix_seq (pv 2) pe_int (fun _ _ => rfl)))) (pa_cons (pe_op o_mul (pe_ix ix_seq (pv 2) pe_int (fun _ _ => rfl)) (pe_ix ix_seq (pv 3) pe_int (fun _ _ => rfl))) pa_nil))) pa_nil))))) (pss_one (ps_ret pe_bl)) pss_nil)
    (pss_cons (ps_if (pt_not (pt_val (pe_fd D_law_is (hr.mono (by omega)) (pa_cons (pe_op (RM.o_ownN M_Ratio_sub (hr.mono (by omega)) SF_Ratio NR_sub) (pv 0) (pv 1)) (pa_cons (pe_fd D_law_low (hr.mono (by omega)) (pa_cons (pe_op o_sub (pe_op o_mul (pe_ix ix_seq (pv 2) pe_int (fun _ _ => rfl)) (pe_ix ix_seq (pv 3) pe_int (fun _ _ => rfl))) (pe_op o_mul (pe_ix ix_seq (pv 3) pe_int (fun _ _ => rfl)) (pe_ix ix_seq (pv 2) pe_int (fun _ _ => rfl)))) (pa_cons (pe_op o_mul (pe_ix ix_seq (pv 2) pe_int (fun _ _ => rfl)) (pe_ix ix_seq (pv 3) pe_int (fun _ _ => rfl))) pa_nil))) pa_nil))))) (pss_one (ps_ret pe_bl)) pss_nil)
    (pss_cons (ps_if (PW.pt (pw_or (pt_not (pt_val (pe_fd D_law_is (hr.mono (by omega)) (pa_cons (pe_op (RM.o_ownN M_Ratio_mul (hr.mono (by omega)) SF_Ratio NR_mul) (pv 0) (pv 1)) (pa_cons (pe_fd D_law_low (hr.mono (by omega)) (pa_cons (pe_op o_mul (pe_ix ix_seq (pv 2) pe_int (fun _ _ => rfl)) (pe_ix ix_seq (pv 3) pe_int (fun _ _ => rfl))) (pa_cons (pe_op o_mul (pe_ix ix_seq (pv 2) pe_int (fun _ _ => rfl)) (pe_ix ix_seq (pv 3) pe_int (fun _ _ => rfl))) pa_nil))) pa_nil))))) (pw_or1 (pt_not (pt_val (pe_fd D_law_is (hr.mono (by omega)) (pa_cons (pe_op (RM.o_ownN M_Ratio_sub (hr.mono (by omega)) SF_Ratio NR_sub) (pe_op (RM.o_ownN M_Ratio_add (hr.mono (by omega)) SF_Ratio NR_add) (pv 0) (pv 1)) (pv 1)) (pa_cons (pv 2) pa_nil)))))))) (pss_one (ps_ret pe_bl)) pss_nil)
    (pss_cons (ps_set (i := 5) sc_law_two_so.nd rfl (by first | exact Or.inl rfl | exact Or.inr rfl) (pe_op o_sub (pe_op o_mul (pe_ix ix_seq (pv 2) pe_int (fun _ _ => rfl)) (pe_ix ix_seq (pv 3) pe_int (fun _ _ => rfl))) (pe_op o_mul (pe_ix ix_seq (pv 3) pe_int (fun _ _ => rfl)) (pe_ix ix_seq (pv 2) pe_int (fun _ _ => rfl)))))
    (pss_cons (ps_set (i := 6) sc_law_two_so.nd rfl (by first | exact Or.inl rfl | exact Or.inr rfl) (pe_ifExp (pt_cmpR (o_eq hu64) (pv 5) pe_int (nomark _)) pe_int (pe_ifExp (pt_cmpR o_gt (pv 5) pe_int (nomark _)) pe_int (pe_op o_sub pe_int pe_int))))
    (pss_one (ps_ret (pe_fd D_law_like (hr.mono (by omega)) (pa_cons (pe_lst (pa_cons (pe_md M_Ratio_compare (hr.mono (by omega)) (pv 0) (pa_cons (pv 1) pa_nil)) (pa_cons (pe_mdk MK_Ratio_compare (hr.mono (by omega)) (pv 0) (pk_cons (pv 1) pk_nil)) (pa_cons (pe_cmpR (RM.o_ownCN M_Ratio_eq (hr.mono (by omega)) EQR) (pv 0) (pv 1) (nomark _)) pa_nil)))) (pa_cons (pe_lst (pa_cons (pv 6) (pa_cons (pv 6) (pa_cons (pe_and (pe_cmpR (o_eq hu64) (pv 6) pe_int (nomark _)) (pe_one (pe_not (pv 4)))) pa_nil)))) pa_nil))))))))))
theorem ok_law_two_so (W : Fr mg) (NR_add : RM.numR K (He.ga K "Ratio") "add" = true) (NR_sub : RM.numR K (He.ga K "Ratio") "sub" = true) (NR_mul : RM.numR K (He.ga K "Ratio") "mul" = true) (EQR : RM.eqR K (He.ga K "Ratio") = true) (SF_Ratio : PySem.W.selfFirst K (He.ga K "Ratio") = true) (D_law_is : Fd P w K mg base CX0 "_law_is" 15 ["told", "x"] (sp_law_is K)) (D_law_low : Fd P w K mg base CX0 "_law_low" 2 ["up", "down"] (sp_law_low K)) (D_law_like : Fd P w K mg base CX0 "_law_like" (2 + 12) ["told", "due"] (sp_law_like K 12)) (M_Ratio_add : Md P w K mg base (He.ga K "Ratio") "__add__" 5 ["self", "other"] (sp_Ratio_add K)) (M_Ratio_sub : Md P w K mg base (He.ga K "Ratio") "__sub__" 5 ["self", "other"] (sp_Ratio_sub K)) (M_Ratio_mul : Md P w K mg base (He.ga K "Ratio") "__mul__" 5 ["self", "other"] (sp_Ratio_mul K)) (M_Ratio_compare : Md P w K mg base (He.ga K "Ratio") "compare" 5 ["self", "other"] (sp_Ratio_compare K)) (M_Ratio_eq : Md P w K mg base (He.ga K "Ratio") "__eq__" 1 ["self", "other"] (sp_Ratio_eq K)) (MK_Ratio_compare : Mkd P w K mg base (He.ga K "Ratio") "compare" 5 ["self", "other"] ["other"] (sp_Ratio_compare K)) (CF : ClsF CLr K) {f : Addr} {fd : FuncData} (F : FunD K "_law_two_so" "_law_two_so" (defArgs s_law_two_so) (defBody s_law_two_so) (defScope s_law_two_so) [] [] f fd) : FnOk P w K mg base CX0 16 f fd ["a", "b", "x", "y", "plain"] (sp_law_two_so K) := by
  refine F.ok sc_law_two_so ?_ (fun cdv A outer s H vs Q E hr h => ⟨t_law_two_so K, PSs.nox (b_law_two_so W NR_add NR_sub NR_mul EQR SF_Ratio D_law_is D_law_low D_law_like M_Ratio_add M_Ratio_sub M_Ratio_mul M_Ratio_compare M_Ratio_eq MK_Ratio_compare hr), pure_law_two_so CF vs H Q E h⟩)
  walk_at "splen"
theorem sc_law_digits : FnScope N_law_digits ["word"] (defScope s_law_digits) := ⟨rfl, rfl, rfl, by decide +kernel, rfl, by decide +kernel, by decide +kernel⟩
theorem b_law_digits (W : Fr mg) {f : Addr} {cdv : Value} {A : Around} {outer : List Env} {s : Shared} {H : Hp} {E : XK} (hr : Room 0 (A.deeper (envOfC "_law_digits" (defScope s_law_digits) s.heap.objs.size f cdv))) :
  PSs (cxOf CX0 P w K mg base N_law_digits "_law_digits" (defScope s_law_digits) f cdv A outer s H E).nox (defBody s_law_digits) (t_law_digits K) :=
  have hu64 := hr.units
  have hu65 : (A.deeper (envOfC "_law_digits" (defScope s_law_digits) s.heap.objs.size f cdv)).units + 65 < cLine := by have := hr.un; omega
  (pss_cons (ps_if (PW.pt (pw_or (pt_cmpR o_lt (pe_callB c_len (by rfl) W.len (by first | boot_by_name | rfl | kernel_rfl) (pa_cons (pv 0) pa_nil)) pe_int (nomark _)) (pw_or (pt_cmpR o_gt (pe_callB c_len (by rfl) W.len (by first | boot_by_name | rfl | kernel_rfl) (pa_cons (pv 0) pa_nil)) pe_int (nomark _)) (pw_or1 (PW.pt (pw_and (pt_cmpR (o_eq hu64) (pe_ix ix_seq (pv 0) pe_int (fun _ _ => rfl)) pe_str (nomark _)) (pw_and1 (pt_cmpR o_gt (pe_callB c_len (by rfl) W.len (by first | boot_by_name | rfl | kernel_rfl) (pa_cons (pv 0) pa_nil)) pe_int (nomark _))))))))) (pss_one (ps_ret (pe_op o_sub pe_int pe_int))) pss_nil)
    (pss_one (ps_ret (pe_ifExp (p_truth (pe_lc (own := [("c", 1)]) (g := (gName 1)) (tt := (tTest (tOp rNInS1 (tVar 1) (tC (.str "0123456789"))))) (by rfl) sc_law_digits.nd (pi_str (pv 0)) (blkOk_by (own := [("c", 1)]) (N := N_law_digits) (sc := (defScope s_law_digits)) (by decide +kernel)) (fun _ _ _ _ _ => (pg_name (i := 1) sc_law_digits.nd rfl (by first | exact Or.inl rfl | exact Or.inr rfl))) (fun _ _ _ _ _ => (pts_one (pt_cmpR op_notIn_sign (pv 1) pe_str (by rfl)))) (fun _ _ _ _ _ => (pv 1))) (by intro _; rfl)) (pe_op o_sub pe_int pe_int) (pe_callTy c_intT (by rfl) W.int (by first | boot_by_name | rfl | kernel_rfl) (pa_cons (pv 0) pa_nil))))))
theorem ok_law_digits (W : Fr mg) {f : Addr} {fd : FuncData} (F : FunD K "_law_digits" "_law_digits" (defArgs s_law_digits) (defBody s_law_digits) (defScope s_law_digits) [] [] f fd) : FnOk P w K mg base CX0 1 f fd ["word"] (sp_law_digits K) := by
  refine F.ok sc_law_digits ?_ (fun cdv A outer s H vs Q E hr h => ⟨t_law_digits K, PSs.nox (b_law_digits W hr), pure_law_digits vs H Q E h⟩)
  walk_at "splen"
theorem sc_law_fraction : FnScope N_law_fraction ["said"] (defScope s_law_fraction) := ⟨rfl, rfl, rfl, by decide +kernel, rfl, by decide +kernel, by decide +kernel⟩
theorem b_law_fraction (W : Fr mg) (D_law_digits : Fd P w K mg base CX0 "_law_digits" 1 ["word"] (sp_law_digits K)) (D_law_gcd : Fd P w K mg base CX0 "_law_gcd" 1 ["a", "b"] (sp_law_gcd K)) {f : Addr} {cdv : Value} {A : Around} {outer : List Env} {s : Shared} {H : Hp} {E : XK} (hr : Room 1 (A.deeper (envOfC "_law_fraction" (defScope s_law_fraction) s.heap.objs.size f cdv))) :
  PSs (cxOf CX0 P w K mg base N_law_fraction "_law_fraction" (defScope s_law_fraction) f cdv A outer s H E).nox (defBody s_law_fraction) (t_law_fraction K) :=
  have hu64 := hr.units
  have hu65 : (A.deeper (envOfC "_law_fraction" (defScope s_law_fraction) s.heap.objs.size f cdv)).units + 65 < cLine := by have := hr.un; omega
  (pss_cons (ps_set (i := 1) sc_law_fraction.nd rfl (by first | exact Or.inl rfl | exact Or.inr rfl) (pe_m1 PySem.F.slot_str_split PySem.F.type_str_split mt_split (pe_ifExp (pt_cmpR (o_eq hu64) (pe_slice o_sl (pv 0) po_none (po_some pe_int)) pe_str (nomark _)) (pe_slice o_sl (pv 0) (po_some pe_int) po_none) (pv 0)) pe_str))
    (pss_cons (ps_setLc (i := 2) (own := [("part", 3)]) (g := (gName 3)) (tt := tYes) (by rfl) sc_law_fraction.nd rfl rfl (sw_true rfl rfl rfl (by decide +kernel)) (pi_sq (pv 1)) (blkOk_by (own := [("part", 3)]) (N := N_law_fraction) (sc := (defScope s_law_fraction)) (by decide +kernel)) (fun _ _ _ _ _ => (pg_name (i := 3) sc_law_fraction.nd rfl (by first | exact Or.inl rfl | exact Or.inr rfl))) (fun _ _ _ _ _ => pts_nil) (fun _ _ _ _ _ => (pe_ifExp (pt_cmpR o_lt (pe_callB c_len (by rfl) W.len (by first | boot_by_name | rfl | kernel_rfl) (pa_cons (pv 3) pa_nil)) pe_int (nomark _)) (pe_fd D_law_digits (hr.mono (by omega)) (pa_cons (pv 3) pa_nil)) (pe_op o_sub pe_int pe_int))))
    (pss_cons (ps_if (PW.pt (pw_or (pt_cmpR o_gt (pe_callB c_len (by rfl) W.len (by first | boot_by_name | rfl | kernel_rfl) (pa_cons (pv 2) pa_nil)) pe_int (nomark _)) (pw_or (pt_cmpR o_lt (pe_callB (cr_min rfl) (by rfl) W.min (by first | boot_by_name | rfl | kernel_rfl) (pa_cons (pv 2) pa_nil)) pe_int (nomark _)) (pw_or1 (PW.pt (pw_and (pt_cmpR (o_eq hu64) (pe_ix ix_seq (pv 2) pe_int (fun _ _ => rfl)) pe_int (nomark _)) (pw_and1 (pt_cmpR (o_eq hu64) (pe_slice o_sl (pv 0) po_none (po_some pe_int)) pe_str (nomark _))))))))) (pss_one (ps_ret pe_non)) pss_nil)
    (pss_cons (ps_if (pt_cmpR (o_eq hu64) (pe_callB c_len (by rfl) W.len (by first | boot_by_name | rfl | kernel_rfl) (pa_cons (pv 2) pa_nil)) pe_int (nomark _)) (pss_one (ps_ret (pe_tup (pa_cons (pe_ifExp (pt_cmpR (o_eq hu64) (pe_slice o_sl (pv 0) po_none (po_some pe_int)) pe_str (nomark _)) (pe_op o_sub pe_int (pe_ix ix_seq (pv 2) pe_int (fun _ _ => rfl))) (pe_ix ix_seq (pv 2) pe_int (fun _ _ => rfl))) (pa_cons pe_int pa_nil))))) pss_nil)
    (pss_cons (ps_if (PW.pt (pw_or (pt_cmpR o_lt (pe_ix ix_seq (pv 2) pe_int (fun _ _ => rfl)) pe_int (nomark _)) (pw_or1 (pt_cmpR (o_ne hu64) (pe_fd D_law_gcd (hr.mono (by omega)) (pa_cons (pe_ix ix_seq (pv 2) pe_int (fun _ _ => rfl)) (pa_cons (pe_ix ix_seq (pv 2) pe_int (fun _ _ => rfl)) pa_nil))) pe_int (nomark _))))) (pss_one (ps_ret pe_non)) pss_nil)
    (pss_one (ps_ret (pe_tup (pa_cons (pe_ifExp (pt_cmpR (o_eq hu64) (pe_slice o_sl (pv 0) po_none (po_some pe_int)) pe_str (nomark _)) (pe_op o_sub pe_int (pe_ix ix_seq (pv 2) pe_int (fun _ _ => rfl))) (pe_ix ix_seq (pv 2) pe_int (fun _ _ => rfl))) (pa_cons (pe_ix ix_seq (pv 2) pe_int (fun _ _ => rfl)) pa_nil))))))))))
theorem ok_law_fraction (W : Fr mg) (D_law_digits : Fd P w K mg base CX0 "_law_digits" 1 ["word"] (sp_law_digits K)) (D_law_gcd : Fd P w K mg base CX0 "_law_gcd" 1 ["a", "b"] (sp_law_gcd K)) {f : Addr} {fd : FuncData} (F : FunD K "_law_fraction" "_law_fraction" (defArgs s_law_fraction) (defBody s_law_fraction) (defScope s_law_fraction) [] [] f fd) : FnOk P w K mg base CX0 2 f fd ["said"] (sp_law_fraction K) := by
  refine F.ok sc_law_fraction ?_ (fun cdv A outer s H vs Q E hr h => ⟨t_law_fraction K, PSs.nox (b_law_fraction W D_law_digits D_law_gcd hr), pure_law_fraction vs H Q E h⟩)
  walk_at "splen"
theorem sc_is_amount : FnScope N_is_amount ["word"] (defScope s_is_amount) := ⟨rfl, rfl, rfl, by decide +kernel, rfl, by decide +kernel, by decide +kernel⟩
theorem b_is_amount (W : Fr mg) {f : Addr} {cdv : Value} {A : Around} {outer : List Env} {s : Shared} {H : Hp} {E : XK} (hr : Room 0 (A.deeper (envOfC "is_amount" (defScope s_is_amount) s.heap.objs.size f cdv))) :
  PSs (cxOf CX0 P w K mg base N_is_amount "is_amount" (defScope s_is_amount) f cdv A outer s H E).nox (defBody s_is_amount) (t_is_amount K) :=
  have hu64 := hr.units
  have hu65 : (A.deeper (envOfC "is_amount" (defScope s_is_amount) s.heap.objs.size f cdv)).units + 65 < cLine := by have := hr.un; omega
  (pss_cons (ps_if (PW.pt (pw_or (pt_not (pt_chain o_lt o_le pe_int (pe_callB c_len (by rfl) W.len (by first | boot_by_name | rfl | kernel_rfl) (pa_cons (pv 0) pa_nil)) pe_int)) (pw_or1 (pt_not (PW.pt (pw_and (pt_val (pe_m0 PySem.F.slot_str_isascii PySem.F.type_str_isascii mt_isascii (pv 0))) (pw_and1 (pt_val (pe_m0 PySem.F.slot_str_isdigit PySem.F.type_str_isdigit mt_isdigit (pv 0)))))))))) (pss_one (ps_ret pe_bl)) pss_nil)
    (pss_one (ps_ret (pe_or (pe_cmpR (o_eq hu64) (pv 0) pe_str (nomark _)) (pe_one (pe_cmpR (o_ne hu64) (pe_ix ix_seq (pv 0) pe_int (fun _ _ => rfl)) pe_str (nomark _)))))))
theorem ok_is_amount (W : Fr mg) {f : Addr} {fd : FuncData} (F : FunD K "is_amount" "is_amount" (defArgs s_is_amount) (defBody s_is_amount) (defScope s_is_amount) [] [] f fd) : FnOk P w K mg base CX0 1 f fd ["word"] (sp_is_amount K) := by
  refine F.ok sc_is_amount ?_ (fun cdv A outer s H vs Q E hr h => ⟨t_is_amount K, PSs.nox (b_is_amount W hr), pure_is_amount vs H Q E h⟩)
  walk_at "splen"
theorem sc_is_integer : FnScope N_is_integer ["word"] (defScope s_is_integer) := ⟨rfl, rfl, rfl, by decide +kernel, rfl, by decide +kernel, by decide +kernel⟩
theorem b_is_integer (W : Fr mg) (D_is_amount : Fd P w K mg base CX0 "is_amount" 1 ["word"] (sp_is_amount K)) {f : Addr} {cdv : Value} {A : Around} {outer : List Env} {s : Shared} {H : Hp} {E : XK} (hr : Room 1 (A.deeper (envOfC "is_integer" (defScope s_is_integer) s.heap.objs.size f cdv))) :
  PSs (cxOf CX0 P w K mg base N_is_integer "is_integer" (defScope s_is_integer) f cdv A outer s H E).nox (defBody s_is_integer) (t_is_integer K) :=
  have hu64 := hr.units
  have hu65 : (A.deeper (envOfC "is_integer" (defScope s_is_integer) s.heap.objs.size f cdv)).units + 65 < cLine := by have := hr.un; omega
  (pss_cons (ps_if (pt_val (pe_m1 PySem.F.slot_str_startswith PySem.F.type_str_startswith mt_startswith (pv 0) pe_str)) (pss_one (ps_ret (pe_and (pe_fd D_is_amount (hr.mono (by omega)) (pa_cons (pe_slice o_sl (pv 0) (po_some pe_int) po_none) pa_nil)) (pe_one (pe_cmpR (o_ne hu64) (pv 0) pe_str (nomark _)))))) pss_nil)
    (pss_one (ps_ret (pe_fd D_is_amount (hr.mono (by omega)) (pa_cons (pv 0) pa_nil)))))
theorem ok_is_integer (W : Fr mg) (D_is_amount : Fd P w K mg base CX0 "is_amount" 1 ["word"] (sp_is_amount K)) {f : Addr} {fd : FuncData} (F : FunD K "is_integer" "is_integer" (defArgs s_is_integer) (defBody s_is_integer) (defScope s_is_integer) [] [] f fd) : FnOk P w K mg base CX0 2 f fd ["word"] (sp_is_integer K) := by
  refine F.ok sc_is_integer ?_ (fun cdv A outer s H vs Q E hr h => ⟨t_is_integer K, PSs.nox (b_is_integer W D_is_amount hr), pure_is_integer vs H Q E h⟩)
  walk_at "splen"
theorem sc_Ratio_read : FnScope N_Ratio_read ["text"] (defScope s_Ratio_read) := ⟨rfl, rfl, rfl, by decide +kernel, rfl, by decide +kernel, by decide +kernel⟩
theorem b_Ratio_read (W : Fr mg) (T_InvalidText : FK.Flt P K mg "InvalidText" (He.ga K "InvalidText") flInvalidText psInvalidText) (D_is_integer : Fd P w K mg base CX0 "is_integer" 2 ["word"] (sp_is_integer K)) (D_is_amount : Fd P w K mg base CX0 "is_amount" 1 ["word"] (sp_is_amount K)) (NF_Ratio : TY.Ndd P w K mg base "Ratio" (He.ga K "Ratio") 2 ["self", "top", "bottom"] [.int 1] (TY.spC (sp_Ratio_init K))) (NX_Ratio : TY.Ndx P w K mg base "Ratio" (He.ga K "Ratio") 2 ["self", "top", "bottom"] [] (sp_Ratio_init K)) {f : Addr} {cdv : Value} {A : Around} {outer : List Env} {s : Shared} {H : Hp} {E : XK} (hr : Room 3 (A.deeper (envOfC "Ratio.read" (defScope s_Ratio_read) s.heap.objs.size f cdv))) :
  PSs (cxOf (L2N.CX P w) P w K mg base N_Ratio_read "Ratio.read" (defScope s_Ratio_read) f cdv A outer s H E) (defBody s_Ratio_read) (t_Ratio_read K (fun cls d _ H => E cls d H)) :=
  have hu64 := hr.units
  have hu65 : (A.deeper (envOfC "Ratio.read" (defScope s_Ratio_read) s.heap.objs.size f cdv)).units + 65 < cLine := by have := hr.un; omega
  (pss_cons (ps_asg (pe_m1 PySem.F.slot_str_partition PySem.F.type_str_partition mt_partition (pv 0) pe_str) (pg_tup (by rfl) (pgs_cons (pg_name (i := 1) sc_Ratio_read.nd rfl (by first | exact Or.inl rfl | exact Or.inr rfl)) (pgs_cons (pg_name (i := 2) sc_Ratio_read.nd rfl (by first | exact Or.inl rfl | exact Or.inr rfl)) (pgs_cons (pg_name (i := 3) sc_Ratio_read.nd rfl (by first | exact Or.inl rfl | exact Or.inr rfl)) pgs_nil)))))
    (pss_mid (ps_if (pt_val (pe_fd D_is_integer (hr.mono (by omega)) (pa_cons (pv 1) pa_nil))) (pss_cons (ps_if (pt_cmpR (o_eq hu64) (pv 2) pe_str (nomark _)) (pss_one (ps_ret (TY.pe_ndd NF_Ratio (hr.mono (by omega)) (pa_cons (pe_callTy c_intT (by rfl) W.int (by first | boot_by_name | rfl | kernel_rfl) (pa_cons (pv 1) pa_nil)) pa_nil)))) pss_nil)
    (pss_one (ps_if (PW.pt (pw_and (pt_val (pe_fd D_is_amount (hr.mono (by omega)) (pa_cons (pv 3) pa_nil))) (pw_and1 (pt_cmpR (o_ne hu64) (pv 3) pe_str (nomark _))))) (pss_cons (ps_set (i := 4) sc_Ratio_read.nd rfl (by first | exact Or.inl rfl | exact Or.inr rfl) (TY.pe_ndx NX_Ratio (hr.mono (by omega)) (L2N.takes_of rfl rfl rfl rfl) (pa_cons (pe_callTy c_intT (by rfl) W.int (by first | boot_by_name | rfl | kernel_rfl) (pa_cons (pv 1) pa_nil)) (pa_cons (pe_callTy c_intT (by rfl) W.int (by first | boot_by_name | rfl | kernel_rfl) (pa_cons (pv 3) pa_nil)) pa_nil))))
    (pss_one (ps_if (pt_cmpR (o_eq hu64) (pe_fld (pv 4) rfl) (pv 0) (nomark _)) (pss_one (ps_ret (pv 4))) pss_nil))) pss_nil))) pss_nil)
    (pss_one (TY.ps_raiseN (by rfl) T_InvalidText hr (L2N.takes_of rfl rfl rfl rfl) (pa_cons (pv 0) pa_nil)))))
theorem ok_Ratio_read (W : Fr mg) (T_InvalidText : FK.Flt P K mg "InvalidText" (He.ga K "InvalidText") flInvalidText psInvalidText) (D_is_integer : Fd P w K mg base CX0 "is_integer" 2 ["word"] (sp_is_integer K)) (D_is_amount : Fd P w K mg base CX0 "is_amount" 1 ["word"] (sp_is_amount K)) (NF_Ratio : TY.Ndd P w K mg base "Ratio" (He.ga K "Ratio") 2 ["self", "top", "bottom"] [.int 1] (TY.spC (sp_Ratio_init K))) (NX_Ratio : TY.Ndx P w K mg base "Ratio" (He.ga K "Ratio") 2 ["self", "top", "bottom"] [] (sp_Ratio_init K)) (CF : ClsF CLr K) {f : Addr} {fd : FuncData} (F : FunD K "read" "Ratio.read" (defArgs s_Ratio_read) (defBody s_Ratio_read) (defScope s_Ratio_read) [] [] f fd) : FnOk P w K mg base (L2N.CX P w) 4 f fd ["text"] (sp_Ratio_read K) := by
  refine F.ok sc_Ratio_read ?_ (fun cdv A outer s H vs Q E hr h => ⟨t_Ratio_read K (fun cls d _ H => E cls d H), b_Ratio_read W T_InvalidText D_is_integer D_is_amount NF_Ratio NX_Ratio hr, pure_Ratio_read CF vs H Q E h⟩)
  walk_at "splen"
theorem sc_law_reads : FnScope N_law_reads ["said"] (defScope s_law_reads) := ⟨rfl, rfl, rfl, by decide +kernel, rfl, by decide +kernel, by decide +kernel⟩
theorem b_law_reads (W : Fr mg) (T_InvalidText : FK.Flt P K mg "InvalidText" (He.ga K "InvalidText") flInvalidText psInvalidText) (G_Ratio : mg "Ratio" = some (.ref (He.ga K "Ratio"))) (G_NestError : mg "NestError" = some (.ref (He.ga K "NestError"))) (G_InvalidText : mg "InvalidText" = some (.ref (He.ga K "InvalidText"))) (D_law_fraction : Fd P w K mg base CX0 "_law_fraction" 2 ["said"] (sp_law_fraction K)) (D_law_is : Fd P w K mg base CX0 "_law_is" 15 ["told", "x"] (sp_law_is K)) (SKX_Ratio_read : RM.Sdxk P w K mg base (He.ga K "Ratio") "read" 4 ["text"] ["text"] (sp_Ratio_read K)) (SX_Ratio_read : TY.Sdx P w K mg base (He.ga K "Ratio") "read" 4 ["text"] (sp_Ratio_read K)) (H_law_like : TY.Hfd P w K mg base "_law_like" 2 ["told", "due"] (sp_hot_law_like K)) {f : Addr} {cdv : Value} {A : Around} {outer : List Env} {s : Shared} {H : Hp} {E : XK} (hr : Room 15 (A.deeper (envOfC "_law_reads" (defScope s_law_reads) s.heap.objs.size f cdv))) :
  PSs (cxOf CX0 P w K mg base N_law_reads "_law_reads" (defScope s_law_reads) f cdv A outer s H E).nox (defBody s_law_reads) (t_law_reads K) :=
  have hu64 := hr.units
  have hu65 : (A.deeper (envOfC "_law_reads" (defScope s_law_reads) s.heap.objs.size f cdv)).units + 65 < cLine := by have := hr.un; omega
  (pss_cons (ps_set (i := 1) sc_law_reads.nd rfl (by first | exact Or.inl rfl | exact Or.inr rfl) (pe_fd D_law_fraction (hr.mono (by omega)) (pa_cons (pv 0) pa_nil)))
    (pss_mid (TY.ps_try rfl rfl sc_law_reads.nd TY.takes0 (fun Jy pn xe tky hp => (pss_one (ps_set (i := 2) sc_law_reads.nd rfl (by first | exact Or.inl rfl | exact Or.inr rfl) (pe_ifExp (pt_cmpR o_lt (pe_callB c_len (by rfl) W.len (by first | boot_by_name | rfl | kernel_rfl) (pa_cons (pv 0) pa_nil)) pe_int (nomark _)) (RM.pe_sdxk SKX_Ratio_read (hr.mono (by omega)) tky (pe_glob (by rfl) G_Ratio (by rfl)) (pk_cons (pv 0) pk_nil)) (TY.pe_sdx SX_Ratio_read (hr.mono (by omega)) tky (pe_glob (by rfl) G_Ratio (by rfl)) (pa_cons (pv 0) pa_nil)))))) (.named ⟨rfl, rfl, .inl G_InvalidText⟩ (i := 3) rfl rfl (fun a oe cls d pn hz hf => (pss_one (ps_ret (pe_and (pe_cmpR o_is (pv 1) pe_non (nomark _)) (pe_one (TY.pe_hfd H_law_like (TY.room_suite (hr.mono (by omega))) (TY.hot_suite hz hf) (pa_cons (pe_xf (TY.flt_xf T_InvalidText) (TY.flt_no T_InvalidText (by decide)) (L2N.Zn.zc hz) hf (pv 3)) (pa_cons (pv 0) pa_nil)))))))) (.bare ⟨rfl, rfl, .inl G_NestError⟩ (fun a oe cls d pn hz hf => (pss_one (ps_ret pe_bl))) .nil)))
    (pss_one (ps_ret (pe_and (pe_cmpR o_isnot (pv 1) pe_non (nomark _)) (pe_one (pe_fd D_law_is (hr.mono (by omega)) (pa_cons (pv 2) (pa_cons (pv 1) pa_nil)))))))))
theorem ok_law_reads (W : Fr mg) (T_InvalidText : FK.Flt P K mg "InvalidText" (He.ga K "InvalidText") flInvalidText psInvalidText) (G_Ratio : mg "Ratio" = some (.ref (He.ga K "Ratio"))) (G_NestError : mg "NestError" = some (.ref (He.ga K "NestError"))) (G_InvalidText : mg "InvalidText" = some (.ref (He.ga K "InvalidText"))) (D_law_fraction : Fd P w K mg base CX0 "_law_fraction" 2 ["said"] (sp_law_fraction K)) (D_law_is : Fd P w K mg base CX0 "_law_is" 15 ["told", "x"] (sp_law_is K)) (SKX_Ratio_read : RM.Sdxk P w K mg base (He.ga K "Ratio") "read" 4 ["text"] ["text"] (sp_Ratio_read K)) (SX_Ratio_read : TY.Sdx P w K mg base (He.ga K "Ratio") "read" 4 ["text"] (sp_Ratio_read K)) (H_law_like : TY.Hfd P w K mg base "_law_like" 2 ["told", "due"] (sp_hot_law_like K)) (XM : XmOk K xm) {f : Addr} {fd : FuncData} (F : FunD K "_law_reads" "_law_reads" (defArgs s_law_reads) (defBody s_law_reads) (defScope s_law_reads) [] [] f fd) : FnOk P w K mg base CX0 16 f fd ["said"] (sp_law_reads K) := by
  refine F.ok sc_law_reads ?_ (fun cdv A outer s H vs Q E hr h => ⟨t_law_reads K, PSs.nox (b_law_reads W T_InvalidText G_Ratio G_NestError G_InvalidText D_law_fraction D_law_is SKX_Ratio_read SX_Ratio_read H_law_like hr), pure_law_reads XM vs H Q E h⟩)
  walk_at "splen"
theorem sc_law_bent : FnScope N_law_bent ["bag", "x", "said"] (defScope s_law_bent) := ⟨rfl, rfl, rfl, by decide +kernel, rfl, by decide +kernel, by decide +kernel⟩
theorem b_law_bent (W : Fr mg) (D_law_draw : Fd P w K mg base CX0 "_law_draw" 1 ["bag", "size"] (sp_law_draw K)) (D_law_of : Fd P w K mg base CX0 "_law_of" 2 ["bag", "things"] (sp_law_of K)) {f : Addr} {cdv : Value} {A : Around} {outer : List Env} {s : Shared} {H : Hp} {E : XK} (hr : Room 2 (A.deeper (envOfC "_law_bent" (defScope s_law_bent) s.heap.objs.size f cdv))) :
  PSs (cxOf CX0 P w K mg base N_law_bent "_law_bent" (defScope s_law_bent) f cdv A outer s H E).nox (defBody s_law_bent) (t_law_bent K) :=
  have hu64 := hr.units
  have hu65 : (A.deeper (envOfC "_law_bent" (defScope s_law_bent) s.heap.objs.size f cdv)).units + 65 < cLine := by have := hr.un; omega
  (pss_cons (ps_set (i := 3) sc_law_bent.nd rfl (by first | exact Or.inl rfl | exact Or.inr rfl) (pe_op o_add pe_int (pe_fd D_law_draw (hr.mono (by omega)) (pa_cons (pv 0) (pa_cons pe_int pa_nil)))))
    (pss_one (ps_ret (pe_fd D_law_of (hr.mono (by omega)) (pa_cons (pv 0) (pa_cons (pe_lst (by (try dsimp only); (refine pa_cons (hs := ?h0) ?a0 ?r0); (case a0 => exact (pv 2)); (case h0 => exact RM.star1 rfl); (refine RM.pa_tok (hs := ?h1) ?a1 ?r1); (case a1 => exact (RM.peg_op o_add (pv 2) RM.peg_str)); (case h1 => exact RM.star1 rfl); (refine pat_cons (hs := ?h2) ?a2 ?r2); (case a2 => exact (RM.pet_of (pe_op o_add pe_str (pv 2)))); (case h2 => exact RM.star1 rfl); (refine pat_cons (hs := ?h3) ?a3 ?r3); (case a3 => exact (RM.pet_of (pe_op o_add (pv 2) pe_str))); (case h3 => exact RM.star1 rfl); (refine pat_cons (hs := ?h4) ?a4 ?r4); (case a4 => exact (RM.pet_of (pe_op o_add pe_str (pv 2)))); (case h4 => exact RM.star1 rfl); (refine pat_cons (hs := ?h5) ?a5 ?r5); (case a5 => exact (RM.pet_of (pe_op o_add pe_str (pv 2)))); (case h5 => exact RM.star1 rfl); (refine pat_cons (hs := ?h6) ?a6 ?r6); (case a6 => exact (RM.pet_of (pe_op o_add pe_str (pv 2)))); (case h6 => exact RM.star1 rfl); (refine pat_cons (hs := ?h7) ?a7 ?r7); (case a7 => exact (RM.pet_of (pe_op o_add (pv 2) pe_str))); (case h7 => exact RM.star1 rfl); (refine pat_cons (hs := ?h8) ?a8 ?r8); (case a8 => exact (RM.pet_of (pe_op o_add (pv 2) pe_str))); (case h8 => exact RM.star1 rfl); (refine pat_cons (hs := ?h9) ?a9 ?r9); (case a9 => exact (RM.pet_of (pe_op o_add pe_str (pv 2)))); (case h9 => exact RM.star1 rfl); (refine pat_cons (hs := ?h10) ?a10 ?r10); (case a10 => exact (RM.pet_of (pe_op o_add (pv 2) pe_str))); (case h10 => exact RM.star1 rfl); (refine pat_cons (hs := ?h11) ?a11 ?r11); (case a11 => exact (RM.pet_of (pe_op o_add (pv 2) pe_str))); (case h11 => exact RM.star1 rfl); (refine pat_cons (hs := ?h12) ?a12 ?r12); (case a12 => exact (CwR.pet_replC (pv 2))); (case h12 => exact RM.star1 rfl); (refine pat_cons (hs := ?h13) ?a13 ?r13); (case a13 => exact (CwR.pet_replC (pv 2))); (case h13 => exact RM.star1 rfl); (refine pat_cons (hs := ?h14) ?a14 ?r14); (case a14 => exact (CwR.pet_replC (pv 2))); (case h14 => exact RM.star1 rfl); (refine pat_cons (hs := ?h15) ?a15 ?r15); (case a15 => exact (CwR.pet_replC (pv 2))); (case h15 => exact RM.star1 rfl); (refine pat_cons (hs := ?h16) ?a16 ?r16); (case a16 => exact (RM.pet_of (pe_op o_add (pe_op o_add (pe_callTy c_str (by rfl) W.str (by first | boot_by_name | rfl | kernel_rfl) (pa_cons (pe_op o_mul (pe_ix ix_seq (pv 1) pe_int (fun _ _ => rfl)) (pv 3)) pa_nil)) pe_str) (pe_callTy c_str (by rfl) W.str (by first | boot_by_name | rfl | kernel_rfl) (pa_cons (pe_op o_mul (pe_ix ix_seq (pv 1) pe_int (fun _ _ => rfl)) (pv 3)) pa_nil))))); (case h16 => exact RM.star1 rfl); (refine pat_cons (hs := ?h17) ?a17 ?r17); (case a17 => exact (RM.pet_of (pe_op o_add (pe_op o_add (pe_callTy c_str (by rfl) W.str (by first | boot_by_name | rfl | kernel_rfl) (pa_cons (pe_ix ix_seq (pv 1) pe_int (fun _ _ => rfl)) pa_nil)) pe_str) (pe_callTy c_str (by rfl) W.str (by first | boot_by_name | rfl | kernel_rfl) (pa_cons (pe_op o_sub pe_int (pe_ix ix_seq (pv 1) pe_int (fun _ _ => rfl))) pa_nil))))); (case h17 => exact RM.star1 rfl); (refine pat_cons (hs := ?h18) ?a18 ?r18); (case a18 => exact (RM.pet_of (pe_op o_add (pv 2) pe_str))); (case h18 => exact RM.star1 rfl); (refine pat_cons (hs := ?h19) ?a19 ?r19); (case a19 => exact (RM.pet_of (pe_op o_add (pv 2) pe_str))); (case h19 => exact RM.star1 rfl); (refine pat_cons (hs := ?h20) ?a20 ?r20); (case a20 => exact (RM.pet_of (TR.pe_revS (pv 2)))); (case h20 => exact RM.star1 rfl); (refine pat_cons (hs := ?h21) ?a21 ?r21); (case a21 => exact (RM.pet_of (pe_slice o_sl (pv 2) po_none (po_some (pe_un o_neg pe_int))))); (case h21 => exact RM.star1 rfl); (refine pat_cons (hs := ?h22) ?a22 ?r22); (case a22 => exact (RM.pet_of pe_str)); (case h22 => exact RM.star1 rfl); (refine pat_cons (hs := ?h23) ?a23 ?r23); (case a23 => exact (RM.pet_of pe_str)); (case h23 => exact RM.star1 rfl); (refine pat_cons (hs := ?h24) ?a24 ?r24); (case a24 => exact (RM.pet_of pe_str)); (case h24 => exact RM.star1 rfl); (refine pat_cons (hs := ?h25) ?a25 ?r25); (case a25 => exact (RM.pet_of pe_str)); (case h25 => exact RM.star1 rfl); (refine pat_cons (hs := ?h26) ?a26 ?r26); (case a26 => exact (RM.pet_of pe_str)); (case h26 => exact RM.star1 rfl); (refine pat_cons (hs := ?h27) ?a27 ?r27); (case a27 => exact (RM.pet_of pe_str)); (case h27 => exact RM.star1 rfl); (refine pat_cons (hs := ?h28) ?a28 ?r28); (case a28 => exact (RM.pet_of pe_str)); (case h28 => exact RM.star1 rfl); (refine pat_cons (hs := ?h29) ?a29 ?r29); (case a29 => exact (RM.pet_of pe_str)); (case h29 => exact RM.star1 rfl); (refine pat_cons (hs := ?h30) ?a30 ?r30); (case a30 => exact (RM.pet_of pe_str)); (case h30 => exact RM.star1 rfl); (refine pat_cons (hs := ?h31) ?a31 ?r31); (case a31 => exact (RM.pet_of pe_str)); (case h31 => exact RM.star1 rfl); (refine pat_cons (hs := ?h32) ?a32 ?r32); (case a32 => exact (RM.pet_of pe_str)); (case h32 => exact RM.star1 rfl); (refine pat_cons (hs := ?h33) ?a33 ?r33); (case a33 => exact (RM.pet_of pe_str)); (case h33 => exact RM.star1 rfl); (refine pat_cons (hs := ?h34) ?a34 ?r34); (case a34 => exact (RM.pet_of pe_str)); (case h34 => exact RM.star1 rfl); (refine pat_cons (hs := ?h35) ?a35 ?r35); (case a35 => exact (RM.pet_of pe_str)); (case h35 => exact RM.star1 rfl); (refine pat_cons (hs := ?h36) ?a36 ?r36); (case a36 => exact (RM.pet_of pe_str)); (case h36 => exact RM.star1 rfl); (refine pat_cons (hs := ?h37) ?a37 ?r37); (case a37 => exact (RM.pet_of pe_str)); (case h37 => exact RM.star1 rfl); (refine pat_cons (hs := ?h38) ?a38 ?r38); (case a38 => exact (RM.pet_of pe_str)); (case h38 => exact RM.star1 rfl); (refine pat_cons (hs := ?h39) ?a39 ?r39); (case a39 => exact (RM.pet_of pe_str)); (case h39 => exact RM.star1 rfl); (refine pat_cons (hs := ?h40) ?a40 ?r40); (case a40 => exact (RM.pet_of (pe_op TR.o_mulS pe_str pe_int))); (case h40 => exact RM.star1 rfl); (refine pat_cons (hs := ?h41) ?a41 ?r41); (case a41 => exact (RM.pet_of (pe_op TR.o_mulS pe_str pe_int))); (case h41 => exact RM.star1 rfl); (refine pat_cons (hs := ?h42) ?a42 ?r42); (case a42 => exact (RM.pet_of (pe_op o_add pe_str (pe_op TR.o_mulS pe_str pe_int)))); (case h42 => exact RM.star1 rfl); (refine pat_cons (hs := ?h43) ?a43 ?r43); (case a43 => exact (RM.pet_of (pe_op o_add pe_str (pe_op TR.o_mulS pe_str pe_int)))); (case h43 => exact RM.star1 rfl); (refine pat_cons (hs := ?h44) ?a44 ?r44); (case a44 => exact (RM.pet_of (pe_op o_add pe_str (pe_op TR.o_mulS pe_str pe_int)))); (case h44 => exact RM.star1 rfl); (refine pat_cons (hs := ?h45) ?a45 ?r45); (case a45 => exact (RM.pet_of (pe_op o_add (pe_op TR.o_mulS pe_str pe_int) pe_str))); (case h45 => exact RM.star1 rfl); (refine pat_cons (hs := ?h46) ?a46 ?r46); (case a46 => exact (RM.pet_of (pe_op o_add pe_str (pe_op TR.o_mulS pe_str pe_int)))); (case h46 => exact RM.star1 rfl); (refine pat_cons (hs := ?h47) ?a47 ?r47); (case a47 => exact (RM.pet_of (pe_op TR.o_mulS pe_str pe_int))); (case h47 => exact RM.star1 rfl); (refine pat_cons (hs := ?h48) ?a48 ?r48); (case a48 => exact (RM.pet_of (pe_op o_add (pe_op o_add (pe_callTy c_str (by rfl) W.str (by first | boot_by_name | rfl | kernel_rfl) (pa_cons (pe_op o_add (pe_op o_pow pe_int pe_int) pe_int) pa_nil)) pe_str) (pe_callTy c_str (by rfl) W.str (by first | boot_by_name | rfl | kernel_rfl) (pa_cons (pe_op o_pow pe_int pe_int) pa_nil))))); (case h48 => exact RM.star1 rfl); (refine pat_cons (hs := ?h49) ?a49 ?r49); (case a49 => exact (RM.pet_of (pe_op o_add pe_str (pe_op TR.o_mulS pe_str pe_int)))); (case h49 => exact RM.star1 rfl); exact pat_nil)) pa_nil))))))
theorem ok_law_bent (W : Fr mg) (D_law_draw : Fd P w K mg base CX0 "_law_draw" 1 ["bag", "size"] (sp_law_draw K)) (D_law_of : Fd P w K mg base CX0 "_law_of" 2 ["bag", "things"] (sp_law_of K)) {f : Addr} {fd : FuncData} (F : FunD K "_law_bent" "_law_bent" (defArgs s_law_bent) (defBody s_law_bent) (defScope s_law_bent) [] [] f fd) : FnOk P w K mg base CX0 3 f fd ["bag", "x", "said"] (sp_law_bent K) := by
  refine F.ok sc_law_bent ?_ (fun cdv A outer s H vs Q E hr h => ⟨t_law_bent K, PSs.nox (b_law_bent W D_law_draw D_law_of hr), pure_law_bent vs H Q E h⟩)
  walk_at "splen"
theorem sc_Ratio_neg : FnScope N_Ratio_neg ["self"] (defScope s_Ratio_neg) := ⟨rfl, rfl, rfl, by decide +kernel, rfl, by decide +kernel, by decide +kernel⟩
theorem b_Ratio_neg (W : Fr mg) (N_Ratio : Nd P w K mg base "Ratio" (He.ga K "Ratio") 2 ["self", "top", "bottom"] (TY.spC (sp_Ratio_init K))) {f : Addr} {cdv : Value} {A : Around} {outer : List Env} {s : Shared} {H : Hp} {E : XK} (hr : Room 3 (A.deeper (envOfC "Ratio.__neg__" (defScope s_Ratio_neg) s.heap.objs.size f cdv))) :
  PSs (cxOf CX0 P w K mg base N_Ratio_neg "Ratio.__neg__" (defScope s_Ratio_neg) f cdv A outer s H E).nox (defBody s_Ratio_neg) (t_Ratio_neg K) :=
  have hu64 := hr.units
  have hu65 : (A.deeper (envOfC "Ratio.__neg__" (defScope s_Ratio_neg) s.heap.objs.size f cdv)).units + 65 < cLine := by have := hr.un; omega
  (pss_one (ps_ret (pe_nd N_Ratio (hr.mono (by omega)) (pa_cons (pe_un o_neg (pe_fld (pv 0) rfl)) (pa_cons (pe_fld (pv 0) rfl) pa_nil)))))
theorem ok_Ratio_neg (W : Fr mg) (N_Ratio : Nd P w K mg base "Ratio" (He.ga K "Ratio") 2 ["self", "top", "bottom"] (TY.spC (sp_Ratio_init K))) (CF : ClsF CLr K) {f : Addr} {fd : FuncData} (F : FunD K "__neg__" "Ratio.__neg__" (defArgs s_Ratio_neg) (defBody s_Ratio_neg) (defScope s_Ratio_neg) [] [] f fd) : FnOk P w K mg base CX0 4 f fd ["self"] (sp_Ratio_neg K) := by
  refine F.ok sc_Ratio_neg ?_ (fun cdv A outer s H vs Q E hr h => ⟨t_Ratio_neg K, PSs.nox (b_Ratio_neg W N_Ratio hr), pure_Ratio_neg CF vs H Q E h⟩)
  walk_at "splen"
theorem sc_law : FnScope N_law ["script"] (defScope s_law) := ⟨rfl, rfl, rfl, by decide +kernel, rfl, by decide +kernel, by decide +kernel⟩
theorem b_law (W : Fr mg) (EQR : RM.eqR K (He.ga K "Ratio") = true) (D_law_bag : Fd P w K mg base CX0 "_law_bag" 1 ["script"] (sp_law_bag K)) (D_law_up : Fd P w K mg base CX0 "_law_up" 3 ["bag"] (sp_law_up K)) (D_law_down : Fd P w K mg base CX0 "_law_down" 3 ["bag"] (sp_law_down K)) (D_law_low : Fd P w K mg base CX0 "_law_low" 2 ["up", "down"] (sp_law_low K)) (D_law_draw : Fd P w K mg base CX0 "_law_draw" 1 ["bag", "size"] (sp_law_draw K)) (D_law_zero_refused : Fd P w K mg base CX0 "_law_zero_refused" 4 ["up"] (sp_law_zero_refused K)) (D_law_is : Fd P w K mg base CX0 "_law_is" 15 ["told", "x"] (sp_law_is K)) (D_law_whole_parts_so : Fd P w K mg base CX0 "_law_whole_parts_so" 2 ["a", "x"] (sp_law_whole_parts_so K)) (D_law_two_so : Fd P w K mg base CX0 "_law_two_so" 16 ["a", "b", "x", "y", "plain"] (sp_law_two_so K)) (D_law_like : Fd P w K mg base CX0 "_law_like" (2 + 12) ["told", "due"] (sp_law_like K 12)) (D_law_text : Fd P w K mg base CX0 "_law_text" 1 ["x"] (sp_law_text K)) (D_law_reads : Fd P w K mg base CX0 "_law_reads" 16 ["said"] (sp_law_reads K)) (D_law_bent : Fd P w K mg base CX0 "_law_bent" 3 ["bag", "x", "said"] (sp_law_bent K)) (N_Ratio : Nd P w K mg base "Ratio" (He.ga K "Ratio") 2 ["self", "top", "bottom"] (TY.spC (sp_Ratio_init K))) (M_Ratio_neg : Md P w K mg base (He.ga K "Ratio") "__neg__" 4 ["self"] (sp_Ratio_neg K)) (M_Ratio_eq : Md P w K mg base (He.ga K "Ratio") "__eq__" 1 ["self", "other"] (sp_Ratio_eq K)) (NF_Ratio : TY.Ndd P w K mg base "Ratio" (He.ga K "Ratio") 2 ["self", "top", "bottom"] [.int 1] (TY.spC (sp_Ratio_init K))) (NK_Ratio : RM.Ndk P w K mg base "Ratio" (He.ga K "Ratio") 2 ["self", "top", "bottom"] ["bottom", "top"] gVs (TY.spC (sp_Ratio_init K))) {f : Addr} {cdv : Value} {A : Around} {outer : List Env} {s : Shared} {H : Hp} {E : XK} (hr : Room 16 (A.deeper (envOfC "law" (defScope s_law) s.heap.objs.size f cdv))) :
  PSs (cxOf CX0 P w K mg base N_law "law" (defScope s_law) f cdv A outer s H E).nox (defBody s_law) (t_law K) :=
  have hu64 := hr.units
  have hu65 : (A.deeper (envOfC "law" (defScope s_law) s.heap.objs.size f cdv)).units + 65 < cLine := by have := hr.un; omega
  (pss_cons (ps_set (i := 1) sc_law.nd rfl (by first | exact Or.inl rfl | exact Or.inr rfl) (pe_fd D_law_bag (hr.mono (by omega)) (pa_cons (pv 0) pa_nil)))
    (pss_cons (ps_asg (pe_tup (pa_cons (pe_lst pa_nil) (pa_cons (pe_lst pa_nil) pa_nil))) (pg_tup (by rfl) (pgs_cons (pg_name (i := 2) sc_law.nd rfl (by first | exact Or.inl rfl | exact Or.inr rfl)) (pgs_cons (pg_name (i := 3) sc_law.nd rfl (by first | exact Or.inl rfl | exact Or.inr rfl)) pgs_nil))))
    (pss_cons (ps_for PassesOwn.never rfl (pi_range1 (by rfl) W.range (pa_cons pe_int pa_nil)) (pg_name (i := 4) sc_law.nd rfl (by first | exact Or.inl rfl | exact Or.inr rfl))
    (pss_cons (ps_par (i := 5) (j := 6) (by rfl) sc_law.nd rfl rfl (by decide) rfl rfl (pa_cons (pe_fd D_law_up (hr.mono (by omega)) (pa_cons (pv 1) pa_nil)) (pa_cons (pe_fd D_law_down (hr.mono (by omega)) (pa_cons (pv 1) pa_nil)) pa_nil)) (by rfl))
    (pss_cons (ps_expr (pe_bm PySem.F.plainAttrs_list PySem.F.slot_list_append PySem.F.type_list_append mt_append (pv 3) (pa_cons (pe_fd D_law_low (hr.mono (by omega)) (pa_cons (pv 5) (pa_cons (pv 6) pa_nil))) pa_nil)))
    (pss_mid (ps_if (PW.pt (pw_and (pt_cmpR (o_eq hu64) (pv 6) pe_int (nomark _)) (pw_and1 (pt_cmpR (o_eq hu64) (pe_fd D_law_draw (hr.mono (by omega)) (pa_cons (pv 1) (pa_cons pe_int pa_nil))) pe_int (nomark _))))) (pss_one (ps_expr (pe_bm PySem.F.plainAttrs_list PySem.F.slot_list_append PySem.F.type_list_append mt_append (pv 2) (pa_cons (TY.pe_ndd NF_Ratio (hr.mono (by omega)) (pa_cons (pv 5) pa_nil)) pa_nil)))) (pss_one (ps_expr (pe_bm PySem.F.plainAttrs_list PySem.F.slot_list_append PySem.F.type_list_append mt_append (pv 2) (pa_cons (pe_ifExp (pt_cmpR (o_eq hu64) (pe_fd D_law_draw (hr.mono (by omega)) (pa_cons (pv 1) (pa_cons pe_int pa_nil))) pe_int (nomark _)) (pe_nd N_Ratio (hr.mono (by omega)) (pa_cons (pv 5) (pa_cons (pv 6) pa_nil))) (RM.pe_ndk (ks := ["bottom", "top"]) NK_Ratio (hr.mono (by omega)) (pk_cons (pv 6) (pk_cons (pv 5) pk_nil)))) pa_nil)))))
    (pss_one (ps_if (pt_not (pt_val (pe_fd D_law_zero_refused (hr.mono (by omega)) (pa_cons (pv 5) pa_nil)))) (pss_one (ps_ret pe_bl)) pss_nil))))))
    (pss_cons (ps_for PassesOwn.never rfl (pi_range1 (by rfl) W.range (pa_cons pe_int pa_nil)) (pg_name (i := 7) sc_law.nd rfl (by first | exact Or.inl rfl | exact Or.inr rfl))
    (pss_cons (ps_set (i := 8) sc_law.nd rfl (by first | exact Or.inl rfl | exact Or.inr rfl) (pe_fd D_law_up (hr.mono (by omega)) (pa_cons (pv 1) pa_nil)))
    (pss_cons (ps_if (PW.pt (pw_or (pt_not (pt_val (pe_fd D_law_is (hr.mono (by omega)) (pa_cons (pe_ix ix_seq (pv 2) (pv 7) (fun _ _ => rfl)) (pa_cons (pe_ix ix_seq (pv 3) (pv 7) (fun _ _ => rfl)) pa_nil))))) (pw_or (pt_not (pt_val (pe_fd D_law_is (hr.mono (by omega)) (pa_cons (pe_un (RM.o_negO M_Ratio_neg (hr.mono (by omega))) (pe_ix ix_seq (pv 2) (pv 7) (fun _ _ => rfl))) (pa_cons (pe_tup (pa_cons (pe_op o_sub pe_int (pe_ix ix_seq (pe_ix ix_seq (pv 3) (pv 7) (fun _ _ => rfl)) pe_int (fun _ _ => rfl))) (pa_cons (pe_ix ix_seq (pe_ix ix_seq (pv 3) (pv 7) (fun _ _ => rfl)) pe_int (fun _ _ => rfl)) pa_nil))) pa_nil))))) (pw_or1 (pt_not (pt_val (pe_fd D_law_whole_parts_so (hr.mono (by omega)) (pa_cons (pe_ix ix_seq (pv 2) (pv 7) (fun _ _ => rfl)) (pa_cons (pe_ix ix_seq (pv 3) (pv 7) (fun _ _ => rfl)) pa_nil))))))))) (pss_one (ps_ret pe_bl)) pss_nil)
    (pss_cons (ps_if (PW.pt (pw_or (pt_not (pt_val (pe_fd D_law_two_so (hr.mono (by omega)) (pa_cons (pe_ix ix_seq (pv 2) (pv 7) (fun _ _ => rfl)) (pa_cons (pv 8) (pa_cons (pe_ix ix_seq (pv 3) (pv 7) (fun _ _ => rfl)) (pa_cons (pe_tup (pa_cons (pv 8) (pa_cons pe_int pa_nil))) (pa_cons pe_bl pa_nil)))))))) (pw_or1 (pt_not (pt_val (pe_fd D_law_like (hr.mono (by omega)) (pa_cons (pe_lst (pa_cons (pe_cmpR (RM.o_ownCN M_Ratio_eq (hr.mono (by omega)) EQR) (pe_ix ix_seq (pv 2) (pv 7) (fun _ _ => rfl)) (pe_ix ix_seq (pe_ix ix_seq (pv 3) (pv 7) (fun _ _ => rfl)) pe_int (fun _ _ => rfl)) (nomark _)) (pa_cons (pe_cmpR (RM.o_ownCN M_Ratio_eq (hr.mono (by omega)) EQR) (pe_ix ix_seq (pv 2) (pv 7) (fun _ _ => rfl)) (pe_fd D_law_text (hr.mono (by omega)) (pa_cons (pe_ix ix_seq (pv 3) (pv 7) (fun _ _ => rfl)) pa_nil)) (nomark _)) pa_nil))) (pa_cons (pe_lst (pa_cons pe_bl (pa_cons pe_bl pa_nil))) pa_nil)))))))) (pss_one (ps_ret pe_bl)) pss_nil)
    (pss_cons (ps_for PassesOwn.never rfl (pi_range1 (by rfl) W.range (pa_cons pe_int pa_nil)) (pg_name (i := 9) sc_law.nd rfl (by first | exact Or.inl rfl | exact Or.inr rfl))
    (pss_one (ps_if (pt_not (pt_val (pe_fd D_law_two_so (hr.mono (by omega)) (pa_cons (pe_ix ix_seq (pv 2) (pv 7) (fun _ _ => rfl)) (pa_cons (pe_ix ix_seq (pv 2) (pv 9) (fun _ _ => rfl)) (pa_cons (pe_ix ix_seq (pv 3) (pv 7) (fun _ _ => rfl)) (pa_cons (pe_ix ix_seq (pv 3) (pv 9) (fun _ _ => rfl)) (pa_cons pe_bl pa_nil)))))))) (pss_one (ps_ret pe_bl)) pss_nil)))
    (pss_cons (ps_set (i := 10) sc_law.nd rfl (by first | exact Or.inl rfl | exact Or.inr rfl) (pe_fd D_law_text (hr.mono (by omega)) (pa_cons (pe_ix ix_seq (pv 3) (pv 7) (fun _ _ => rfl)) pa_nil)))
    (pss_one (ps_for PassesOwn.never rfl (pi_range1 (by rfl) W.range (pa_cons pe_int pa_nil)) (pg_name (i := 9) sc_law.nd rfl (by first | exact Or.inl rfl | exact Or.inr rfl))
    (pss_one (ps_if (pt_not (pt_val (pe_fd D_law_reads (hr.mono (by omega)) (pa_cons (pe_ifExp (pt_cmpR (o_eq hu64) (pv 9) pe_int (nomark _)) (pv 10) (pe_fd D_law_bent (hr.mono (by omega)) (pa_cons (pv 1) (pa_cons (pe_ix ix_seq (pv 3) (pv 7) (fun _ _ => rfl)) (pa_cons (pv 10) pa_nil))))) pa_nil)))) (pss_one (ps_ret pe_bl)) pss_nil))))))))))
    (pss_cons (ps_if (pt_not (pt_val (pe_fd D_law_two_so (hr.mono (by omega)) (pa_cons (pe_ix ix_seq (pv 2) pe_int (fun _ _ => rfl)) (pa_cons (pe_nd N_Ratio (hr.mono (by omega)) (pa_cons (pe_op o_mul (pe_ix ix_seq (pe_ix ix_seq (pv 3) pe_int (fun _ _ => rfl)) pe_int (fun _ _ => rfl)) pe_int) (pa_cons (pe_op o_mul (pe_ix ix_seq (pe_ix ix_seq (pv 3) pe_int (fun _ _ => rfl)) pe_int (fun _ _ => rfl)) pe_int) pa_nil))) (pa_cons (pe_ix ix_seq (pv 3) pe_int (fun _ _ => rfl)) (pa_cons (pe_ix ix_seq (pv 3) pe_int (fun _ _ => rfl)) (pa_cons pe_bl pa_nil)))))))) (pss_one (ps_ret pe_bl)) pss_nil)
    (pss_one (ps_ret (pe_callB (cr_all rfl) (by rfl) W.all (by first | boot_by_name | rfl | kernel_rfl) (pa_cons (pe_lc (own := [("k", 4)]) (g := (gName 4)) (tt := tYes) (by rfl) sc_law.nd (pi_range1 (by rfl) W.range (pa_cons pe_int pa_nil)) (blkOk_by (own := [("k", 4)]) (N := N_law) (sc := (defScope s_law)) (by decide +kernel)) (fun _ _ _ _ _ => (pg_name (i := 4) sc_law.nd rfl (by first | exact Or.inl rfl | exact Or.inr rfl))) (fun _ _ _ _ _ => pts_nil) (fun _ _ _ _ _ => (pe_fd D_law_is (hr.mono (by omega)) (pa_cons (pe_ix ix_seq (pv 2) (pv 4) (fun _ _ => rfl)) (pa_cons (pe_ix ix_seq (pv 3) (pv 4) (fun _ _ => rfl)) pa_nil))))) pa_nil)))))))))
theorem ok_law (W : Fr mg) (EQR : RM.eqR K (He.ga K "Ratio") = true) (D_law_bag : Fd P w K mg base CX0 "_law_bag" 1 ["script"] (sp_law_bag K)) (D_law_up : Fd P w K mg base CX0 "_law_up" 3 ["bag"] (sp_law_up K)) (D_law_down : Fd P w K mg base CX0 "_law_down" 3 ["bag"] (sp_law_down K)) (D_law_low : Fd P w K mg base CX0 "_law_low" 2 ["up", "down"] (sp_law_low K)) (D_law_draw : Fd P w K mg base CX0 "_law_draw" 1 ["bag", "size"] (sp_law_draw K)) (D_law_zero_refused : Fd P w K mg base CX0 "_law_zero_refused" 4 ["up"] (sp_law_zero_refused K)) (D_law_is : Fd P w K mg base CX0 "_law_is" 15 ["told", "x"] (sp_law_is K)) (D_law_whole_parts_so : Fd P w K mg base CX0 "_law_whole_parts_so" 2 ["a", "x"] (sp_law_whole_parts_so K)) (D_law_two_so : Fd P w K mg base CX0 "_law_two_so" 16 ["a", "b", "x", "y", "plain"] (sp_law_two_so K)) (D_law_like : Fd P w K mg base CX0 "_law_like" (2 + 12) ["told", "due"] (sp_law_like K 12)) (D_law_text : Fd P w K mg base CX0 "_law_text" 1 ["x"] (sp_law_text K)) (D_law_reads : Fd P w K mg base CX0 "_law_reads" 16 ["said"] (sp_law_reads K)) (D_law_bent : Fd P w K mg base CX0 "_law_bent" 3 ["bag", "x", "said"] (sp_law_bent K)) (N_Ratio : Nd P w K mg base "Ratio" (He.ga K "Ratio") 2 ["self", "top", "bottom"] (TY.spC (sp_Ratio_init K))) (M_Ratio_neg : Md P w K mg base (He.ga K "Ratio") "__neg__" 4 ["self"] (sp_Ratio_neg K)) (M_Ratio_eq : Md P w K mg base (He.ga K "Ratio") "__eq__" 1 ["self", "other"] (sp_Ratio_eq K)) (NF_Ratio : TY.Ndd P w K mg base "Ratio" (He.ga K "Ratio") 2 ["self", "top", "bottom"] [.int 1] (TY.spC (sp_Ratio_init K))) (NK_Ratio : RM.Ndk P w K mg base "Ratio" (He.ga K "Ratio") 2 ["self", "top", "bottom"] ["bottom", "top"] gVs (TY.spC (sp_Ratio_init K))) (CF : ClsF CLr K) {f : Addr} {fd : FuncData} (F : FunD K "law" "law" (defArgs s_law) (defBody s_law) (defScope s_law) [] [] f fd) : FnOk P w K mg base CX0 17 f fd ["script"] (sp_law01 K) := by
  refine F.ok sc_law ?_ (fun cdv A outer s H vs Q E hr h => ⟨t_law K, PSs.nox (b_law W EQR D_law_bag D_law_up D_law_down D_law_low D_law_draw D_law_zero_refused D_law_is D_law_whole_parts_so D_law_two_so D_law_like D_law_text D_law_reads D_law_bent N_Ratio M_Ratio_neg M_Ratio_eq NF_Ratio NK_Ratio hr), pure_law CF vs H Q E h⟩)
  walk_at "splen"
theorem bh_law_int (W : Fr mg) {f : Addr} {cdv : Value} {A : Around} {outer : List Env} {s : Shared} {H : Hp} {E : XK} {p : Addr × Obj} (hot : L2H.Hot1 A p) (hr : L2H.RoomH 0 (A.deeper (envOfC "_law_int" (defScope s_law_int) s.heap.objs.size f cdv))) :
  PSs (L2H.cxH CX0 P w K mg base N_law_int "_law_int" (defScope s_law_int) f cdv A outer s H E p) (defBody s_law_int) (th_law_int K) :=
  have hu64 : (A.deeper (envOfC "_law_int" (defScope s_law_int) s.heap.objs.size f cdv)).units + 64 < cLine := by have := hr.un; omega
  have hu65 : (A.deeper (envOfC "_law_int" (defScope s_law_int) s.heap.objs.size f cdv)).units + 65 < cLine := by have := hr.un; omega
  have hotc : L2H.HotC (L2H.cxH CX0 P w K mg base N_law_int "_law_int" (defScope s_law_int) f cdv A outer s H E p) := ⟨p, ⟨hot.1, hot.2⟩, List.mem_cons_self⟩
  (pss_one (ps_ret (pe_and (pe_callB c_isi (by rfl) W.isinstance (by first | boot_by_name | rfl | kernel_rfl) (pa_cons (pv 0) (pa_cons (pe_bltn (v := .ty "int") rfl W.int (by first | boot_by_name | rfl | kernel_rfl) rfl) pa_nil))) (pe_one (pe_not (pe_callB c_isi (by rfl) W.isinstance (by first | boot_by_name | rfl | kernel_rfl) (pa_cons (pv 0) (pa_cons (pe_bltn (v := .ty "bool") rfl W.bool (by first | boot_by_name | rfl | kernel_rfl) rfl) pa_nil))))))))
theorem okh_law_int (W : Fr mg) {f : Addr} {fd : FuncData} (CF : ClsF CLr K) (F : FunD K "_law_int" "_law_int" (defArgs s_law_int) (defBody s_law_int) (defScope s_law_int) [] [] f fd) : L2H.FnH P w K mg base CX0 1 f fd ["v"] (sp_hot_law_int K) := by
  refine TY.fnh_of F sc_law_int ?_ (fun cdv A outer s H vs Q E p hot hr h => ⟨th_law_int K, bh_law_int W hot hr, pureh_law_int CF vs H Q E h⟩)
  walk_at "splen"
theorem bh_law_like (W : Fr mg) (H_law_int : TY.Hfd P w K mg base "_law_int" 1 ["v"] (sp_hot_law_int K)) {f : Addr} {cdv : Value} {A : Around} {outer : List Env} {s : Shared} {H : Hp} {E : XK} {p : Addr × Obj} (hot : L2H.Hot1 A p) (hr : L2H.RoomH 1 (A.deeper (envOfC "_law_like" (defScope s_law_like) s.heap.objs.size f cdv))) :
  PSs (L2H.cxH CX0 P w K mg base N_law_like "_law_like" (defScope s_law_like) f cdv A outer s H E p) (defBody s_law_like) (th_law_like K) :=
  have hu64 : (A.deeper (envOfC "_law_like" (defScope s_law_like) s.heap.objs.size f cdv)).units + 64 < cLine := by have := hr.un; omega
  have hu65 : (A.deeper (envOfC "_law_like" (defScope s_law_like) s.heap.objs.size f cdv)).units + 65 < cLine := by have := hr.un; omega
  have hotc : L2H.HotC (L2H.cxH CX0 P w K mg base N_law_like "_law_like" (defScope s_law_like) f cdv A outer s H E p) := ⟨p, ⟨hot.1, hot.2⟩, List.mem_cons_self⟩
  (pss_cons (ps_if (pt_cmpR o_is (pv 1) pe_non (nomark _)) (pss_one (ps_ret (pe_cmpR o_is (pv 0) pe_non (nomark _)))) pss_nil)
    (pss_cons (ps_if (pt_val (pe_callB c_isi (by rfl) W.isinstance (by first | boot_by_name | rfl | kernel_rfl) (pa_cons (pv 1) (pa_cons (pe_bltn (v := .ty "bool") rfl W.bool (by first | boot_by_name | rfl | kernel_rfl) rfl) pa_nil)))) (pss_one (ps_ret (pe_and (pe_callB c_isi (by rfl) W.isinstance (by first | boot_by_name | rfl | kernel_rfl) (pa_cons (pv 0) (pa_cons (pe_bltn (v := .ty "bool") rfl W.bool (by first | boot_by_name | rfl | kernel_rfl) rfl) pa_nil))) (pe_one (pe_cmpR (o_eq hu64) (pv 0) (pv 1) (nomark _)))))) pss_nil)
    (pss_cons (ps_if (pt_val (TY.pe_hfd H_law_int (hr.mono (by omega)) hotc (pa_cons (pv 1) pa_nil))) (pss_one (ps_ret (pe_and (TY.pe_hfd H_law_int (hr.mono (by omega)) hotc (pa_cons (pv 0) pa_nil)) (pe_one (pe_cmpR (o_eq hu64) (pv 0) (pv 1) (nomark _)))))) pss_nil)
    (pss_cons (ps_if (pt_val (pe_callB c_isi (by rfl) W.isinstance (by first | boot_by_name | rfl | kernel_rfl) (pa_cons (pv 1) (pa_cons (pe_bltn (v := .ty "str") rfl W.str (by first | boot_by_name | rfl | kernel_rfl) rfl) pa_nil)))) (pss_one (ps_ret (pe_and (pe_callB c_isi (by rfl) W.isinstance (by first | boot_by_name | rfl | kernel_rfl) (pa_cons (pv 0) (pa_cons (pe_bltn (v := .ty "str") rfl W.str (by first | boot_by_name | rfl | kernel_rfl) rfl) pa_nil))) (pe_one (pe_cmpR (o_eq hu64) (pv 0) (pv 1) (nomark _)))))) pss_nil)
    pss_bot))))
theorem okh_law_like (W : Fr mg) (H_law_int : TY.Hfd P w K mg base "_law_int" 1 ["v"] (sp_hot_law_int K)) {f : Addr} {fd : FuncData} (CF : ClsF CLr K) (F : FunD K "_law_like" "_law_like" (defArgs s_law_like) (defBody s_law_like) (defScope s_law_like) [] [] f fd) : L2H.FnH P w K mg base CX0 2 f fd ["told", "due"] (sp_hot_law_like K) := by
  refine TY.fnh_of F sc_law_like ?_ (fun cdv A outer s H vs Q E p hot hr h => ⟨th_law_like K, bh_law_like W H_law_int hot hr, pureh_law_like CF vs H Q E h⟩)
  walk_at "splen"
end
end D
end
section
set_option maxHeartbeats 0
namespace D
open PySem PySem.Spec PyProof.Rows L2 U C
theorem ft_InvalidText : Hf.FltT (PySem.Challenge.rw_leastfetched_k01_ratios_beside_pairs).prog xInvalidText := ⟨⟨by kernel_rfl, ⟨_, _, by rfl, by kernel_rfl, by kernel_rfl⟩, by kernel_rfl, by kernel_rfl, by decide +kernel, by decide +kernel, by decide +kernel, by kernel_rfl, by kernel_rfl, by kernel_rfl, FK.pars_of (by decide +kernel), by decide +kernel, by kernel_rfl⟩, fun doc pm ct cda an cc us hl => match us, hl with | [_, _], _ => rfl, by decide +kernel, by decide +kernel⟩
theorem ft_InvalidNumber : Hf.FltT (PySem.Challenge.rw_leastfetched_k01_ratios_beside_pairs).prog xInvalidNumber := ⟨⟨by kernel_rfl, ⟨_, _, by rfl, by kernel_rfl, by kernel_rfl⟩, by kernel_rfl, by kernel_rfl, by decide +kernel, by decide +kernel, by decide +kernel, by kernel_rfl, by kernel_rfl, by kernel_rfl, FK.pars_of (by decide +kernel), by decide +kernel, by kernel_rfl⟩, fun doc pm ct cda an cc us hl => match us, hl with | [_, _], _ => rfl, by decide +kernel, by decide +kernel⟩
theorem kb_Ratio_read {K : PySem.W.Frag} {f : Addr} {fd : FuncData} (F : FunD K "read" "Ratio.read" (defArgs s_Ratio_read) (defBody s_Ratio_read) (defScope s_Ratio_read) [] [] f fd) : KBinds K fd ["text"] ["text"] (fun us ws => us ++ ws) (fun vs zs => vs ++ zs) := by
  obtain ⟨oc, od, dV, kV, doc, pm, an, cdv, ct, osl, rfl, lk, hcd, hD, hK⟩ := F.ex
  rcases hD with ⟨_, rfl⟩ | ⟨e, _⟩
  · refine ⟨fun s us ws _ hl => ?_, fun a z => a.append z⟩
    match us, ws, hl with
    | [], [_], _ => exact .of_eq rfl
    | [_], [], _ => exact .of_eq rfl
  · exact absurd rfl e
theorem facts {w : World} {K : PySem.W.Frag} {h : Heap} {mg : Str → Option Value} {f : Addr} (X : K.In h) (G : h.Ns mainGlobals mg) (hfa : mg ("law" : Str) = some (.ref f)) (c : Hf.Says ask K) :
    ∃ fd : FuncData, (∀ (s : Shared) (v : Value), BindsTo s fd ⟨[v], []⟩ [("script", v)]) ∧ ∀ base : Heap, K.In base → base.Ns mainGlobals mg → FnOk (PySem.Challenge.rw_leastfetched_k01_ratios_beside_pairs).prog w K mg base CX0 17 f fd ["script"] (sp_law01 K) := by
  obtain ⟨fd_Ratio_read, F_Ratio_read⟩ := c.sdef 0 (d := ⟨"Ratio", "read", d_Ratio_read⟩) rfl
  obtain ⟨SM_Ratio_read, SK_Ratio_read⟩ := smet_of (c.sok 0 (d := ⟨"Ratio", "read", d_Ratio_read⟩) rfl)
  obtain ⟨fd_law_bag, F_law_bag⟩ := c.def_ 0 (d := d_law_bag) rfl
  obtain ⟨fd_law_draw, F_law_draw⟩ := c.def_ 1 (d := d_law_draw) rfl
  obtain ⟨fd_law_of, F_law_of⟩ := c.def_ 2 (d := d_law_of) rfl
  obtain ⟨fd_law_up, F_law_up⟩ := c.def_ 3 (d := d_law_up) rfl
  obtain ⟨fd_law_down, F_law_down⟩ := c.def_ 4 (d := d_law_down) rfl
  obtain ⟨fd_law_gcd, F_law_gcd⟩ := c.def_ 5 (d := d_law_gcd) rfl
  obtain ⟨fd_law_low, F_law_low⟩ := c.def_ 6 (d := d_law_low) rfl
  obtain ⟨fd_integer_text, F_integer_text⟩ := c.def_ 7 (d := d_integer_text) rfl
  obtain ⟨fd_Ratio_init, F_Ratio_init⟩ := c.def_ 8 (d := d_Ratio_init) rfl
  obtain ⟨fd_law_int, F_law_int⟩ := c.def_ 9 (d := d_law_int) rfl
  obtain ⟨fd_law_like, F_law_like⟩ := c.def_ 10 (d := d_law_like) rfl
  obtain ⟨fd_law_zero_refused, F_law_zero_refused⟩ := c.def_ 11 (d := d_law_zero_refused) rfl
  obtain ⟨fd_law_text, F_law_text⟩ := c.def_ 12 (d := d_law_text) rfl
  obtain ⟨fd_Ratio_repr, F_Ratio_repr⟩ := c.def_ 13 (d := d_Ratio_repr) rfl
  obtain ⟨fd_law_is, F_law_is⟩ := c.def_ 14 (d := d_law_is) rfl
  obtain ⟨fd_Ratio_floor, F_Ratio_floor⟩ := c.def_ 15 (d := d_Ratio_floor) rfl
  obtain ⟨fd_Ratio_ceiling, F_Ratio_ceiling⟩ := c.def_ 16 (d := d_Ratio_ceiling) rfl
  obtain ⟨fd_law_whole_parts_so, F_law_whole_parts_so⟩ := c.def_ 17 (d := d_law_whole_parts_so) rfl
  obtain ⟨fd_as_ratio, F_as_ratio⟩ := c.def_ 18 (d := d_as_ratio) rfl
  obtain ⟨fd_Ratio_add, F_Ratio_add⟩ := c.def_ 19 (d := d_Ratio_add) rfl
  obtain ⟨fd_Ratio_sub, F_Ratio_sub⟩ := c.def_ 20 (d := d_Ratio_sub) rfl
  obtain ⟨fd_Ratio_mul, F_Ratio_mul⟩ := c.def_ 21 (d := d_Ratio_mul) rfl
  obtain ⟨fd_Ratio_compare, F_Ratio_compare⟩ := c.def_ 22 (d := d_Ratio_compare) rfl
  obtain ⟨fd_Ratio_eq, F_Ratio_eq⟩ := c.def_ 23 (d := d_Ratio_eq) rfl
  obtain ⟨fd_law_two_so, F_law_two_so⟩ := c.def_ 24 (d := d_law_two_so) rfl
  obtain ⟨fd_law_digits, F_law_digits⟩ := c.def_ 25 (d := d_law_digits) rfl
  obtain ⟨fd_law_fraction, F_law_fraction⟩ := c.def_ 26 (d := d_law_fraction) rfl
  obtain ⟨fd_is_amount, F_is_amount⟩ := c.def_ 27 (d := d_is_amount) rfl
  obtain ⟨fd_is_integer, F_is_integer⟩ := c.def_ 28 (d := d_is_integer) rfl
  obtain ⟨fd_law_reads, F_law_reads⟩ := c.def_ 29 (d := d_law_reads) rfl
  obtain ⟨fd_law_bent, F_law_bent⟩ := c.def_ 30 (d := d_law_bent) rfl
  obtain ⟨fd_Ratio_neg, F_Ratio_neg⟩ := c.def_ 31 (d := d_Ratio_neg) rfl
  obtain ⟨fd_law, F_law⟩ := c.def_ 32 (d := d_law) rfl
  have G_law := He.glo_ok X G (c.fact 0 (f := .glo "law") rfl)
  have G_law_bag := He.glo_ok X G (c.fact 1 (f := .glo "_law_bag") rfl)
  have G_law_draw := He.glo_ok X G (c.fact 2 (f := .glo "_law_draw") rfl)
  have G_law_of := He.glo_ok X G (c.fact 3 (f := .glo "_law_of") rfl)
  have G_law_up := He.glo_ok X G (c.fact 4 (f := .glo "_law_up") rfl)
  have G_law_down := He.glo_ok X G (c.fact 5 (f := .glo "_law_down") rfl)
  have G_law_gcd := He.glo_ok X G (c.fact 6 (f := .glo "_law_gcd") rfl)
  have G_law_low := He.glo_ok X G (c.fact 7 (f := .glo "_law_low") rfl)
  have G_integer_text := He.glo_ok X G (c.fact 8 (f := .glo "integer_text") rfl)
  have G_law_int := He.glo_ok X G (c.fact 9 (f := .glo "_law_int") rfl)
  have G_law_like := He.glo_ok X G (c.fact 10 (f := .glo "_law_like") rfl)
  have G_law_zero_refused := He.glo_ok X G (c.fact 11 (f := .glo "_law_zero_refused") rfl)
  have G_law_text := He.glo_ok X G (c.fact 12 (f := .glo "_law_text") rfl)
  have G_law_is := He.glo_ok X G (c.fact 13 (f := .glo "_law_is") rfl)
  have G_law_whole_parts_so := He.glo_ok X G (c.fact 14 (f := .glo "_law_whole_parts_so") rfl)
  have G_as_ratio := He.glo_ok X G (c.fact 15 (f := .glo "as_ratio") rfl)
  have G_law_two_so := He.glo_ok X G (c.fact 16 (f := .glo "_law_two_so") rfl)
  have G_law_digits := He.glo_ok X G (c.fact 17 (f := .glo "_law_digits") rfl)
  have G_law_fraction := He.glo_ok X G (c.fact 18 (f := .glo "_law_fraction") rfl)
  have G_is_amount := He.glo_ok X G (c.fact 19 (f := .glo "is_amount") rfl)
  have G_is_integer := He.glo_ok X G (c.fact 20 (f := .glo "is_integer") rfl)
  have G_law_reads := He.glo_ok X G (c.fact 21 (f := .glo "_law_reads") rfl)
  have G_law_bent := He.glo_ok X G (c.fact 22 (f := .glo "_law_bent") rfl)
  have G_Ratio := He.glo_ok X G (c.fact 23 (f := .glo "Ratio") rfl)
  have G_InvalidNumber := He.glo_ok X G (c.fact 24 (f := .glo "InvalidNumber") rfl)
  have G_NestError := He.glo_ok X G (c.fact 25 (f := .glo "NestError") rfl)
  have G_InvalidText := He.glo_ok X G (c.fact 26 (f := .glo "InvalidText") rfl)
  have W : Fr mg := ⟨He.free_ok X G (c.fact 27 (f := .free "int") rfl), He.free_ok X G (c.fact 28 (f := .free "list") rfl), He.free_ok X G (c.fact 29 (f := .free "len") rfl), He.free_ok X G (c.fact 30 (f := .free "abs") rfl), He.free_ok X G (c.fact 31 (f := .free "str") rfl), He.free_ok X G (c.fact 32 (f := .free "divmod") rfl), He.free_ok X G (c.fact 33 (f := .free "isinstance") rfl), He.free_ok X G (c.fact 34 (f := .free "bool") rfl), He.free_ok X G (c.fact 35 (f := .free "tuple") rfl), He.free_ok X G (c.fact 36 (f := .free "zip") rfl), He.free_ok X G (c.fact 37 (f := .free "all") rfl), He.free_ok X G (c.fact 38 (f := .free "repr") rfl), He.free_ok X G (c.fact 39 (f := .free "min") rfl), He.free_ok X G (c.fact 40 (f := .free "range") rfl)⟩
  have T_InvalidNumber := c.flt (prog := (PySem.Challenge.rw_leastfetched_k01_ratios_beside_pairs).prog) X G rfl 1 (d := xInvalidNumber) rfl ft_InvalidNumber
  have T_InvalidText := c.flt (prog := (PySem.Challenge.rw_leastfetched_k01_ratios_beside_pairs).prog) X G rfl 0 (d := xInvalidText) rfl ft_InvalidText
  have C_LIMIT := He.int_ok X G (c.fact 41 (f := .int "LIMIT" 1000000000000000000000000000000000000000000000000000000000000) rfl)
  have ND : NoDig K := nd01 c.all.2.2.2
  have CF : ClsF CLr K := cf01 c.all.2.2.2
  have XM : XmOk K xm := xm01 c.all.2.2.2
  have SF_Ratio := sf01 c.all.2.2.2
  have NR_add := nra01 c.all.2.2.2
  have NR_sub := nrs01 c.all.2.2.2
  have NR_mul := nrm01 c.all.2.2.2
  have EQR := eqr01 c.all.2.2.2
  have M_gcd : mg "gcd" = some (.builtin "math.gcd") := gcd01 c.all.2.2.2 X G
  have e := hfa.symm.trans G_law
  cases e
  have b := FunD.bindsA (ps := ["script"]) F_law fun _ _ _ _ _ _ us hl => match us, hl with | [_], _ => rfl
  refine ⟨fd_law, fun s v => b s [v] rfl, fun base _ _ => ?_⟩
  have H_law_int : TY.Hfd (PySem.Challenge.rw_leastfetched_k01_ratios_beside_pairs).prog w K mg base "_law_int" 1 ["v"] (sp_hot_law_int K) := ⟨⟨_, _, okh_law_int W CF F_law_int, G_law_int, F_law_int.kp, FunD.bindsN F_law_int (fun _ _ _ _ _ _ us hl => match us, hl with | [_], _ => rfl)⟩, by decide⟩
  have H_law_like : TY.Hfd (PySem.Challenge.rw_leastfetched_k01_ratios_beside_pairs).prog w K mg base "_law_like" 2 ["told", "due"] (sp_hot_law_like K) := ⟨⟨_, _, okh_law_like W H_law_int CF F_law_like, G_law_like, F_law_like.kp, FunD.bindsN F_law_like (fun _ _ _ _ _ _ us hl => match us, hl with | [_, _], _ => rfl)⟩, by decide⟩
  have D_law_bag : Fd (PySem.Challenge.rw_leastfetched_k01_ratios_beside_pairs).prog w K mg base CX0 "_law_bag" 1 ["script"] (sp_law_bag K) := U.fd_of (st := s_law_bag) F_law_bag (ok_law_bag W F_law_bag) G_law_bag (fun _ _ _ _ _ _ us hl => match us, hl with | [_], _ => rfl)
  have D_law_draw : Fd (PySem.Challenge.rw_leastfetched_k01_ratios_beside_pairs).prog w K mg base CX0 "_law_draw" 1 ["bag", "size"] (sp_law_draw K) := U.fd_of (st := s_law_draw) F_law_draw (ok_law_draw W F_law_draw) G_law_draw (fun _ _ _ _ _ _ us hl => match us, hl with | [_, _], _ => rfl)
  have D_law_of : Fd (PySem.Challenge.rw_leastfetched_k01_ratios_beside_pairs).prog w K mg base CX0 "_law_of" 2 ["bag", "things"] (sp_law_of K) := U.fd_of (st := s_law_of) F_law_of (ok_law_of W D_law_draw F_law_of) G_law_of (fun _ _ _ _ _ _ us hl => match us, hl with | [_, _], _ => rfl)
  have D_law_up : Fd (PySem.Challenge.rw_leastfetched_k01_ratios_beside_pairs).prog w K mg base CX0 "_law_up" 3 ["bag"] (sp_law_up K) := U.fd_of (st := s_law_up) F_law_up (ok_law_up W D_law_draw D_law_of F_law_up) G_law_up (fun _ _ _ _ _ _ us hl => match us, hl with | [_], _ => rfl)
  have D_law_down : Fd (PySem.Challenge.rw_leastfetched_k01_ratios_beside_pairs).prog w K mg base CX0 "_law_down" 3 ["bag"] (sp_law_down K) := U.fd_of (st := s_law_down) F_law_down (ok_law_down W D_law_draw D_law_of F_law_down) G_law_down (fun _ _ _ _ _ _ us hl => match us, hl with | [_], _ => rfl)
  have D_law_gcd : Fd (PySem.Challenge.rw_leastfetched_k01_ratios_beside_pairs).prog w K mg base CX0 "_law_gcd" 1 ["a", "b"] (sp_law_gcd K) := U.fd_of (st := s_law_gcd) F_law_gcd (ok_law_gcd W F_law_gcd) G_law_gcd (fun _ _ _ _ _ _ us hl => match us, hl with | [_, _], _ => rfl)
  have D_law_low : Fd (PySem.Challenge.rw_leastfetched_k01_ratios_beside_pairs).prog w K mg base CX0 "_law_low" 2 ["up", "down"] (sp_law_low K) := U.fd_of (st := s_law_low) F_law_low (ok_law_low W D_law_gcd F_law_low) G_law_low (fun _ _ _ _ _ _ us hl => match us, hl with | [_, _], _ => rfl)
  have D_integer_text : Fd (PySem.Challenge.rw_leastfetched_k01_ratios_beside_pairs).prog w K mg base CX0 "integer_text" 1 ["value"] (sp_integer_text K) := U.fd_of (st := s_integer_text) F_integer_text (ok_integer_text W C_LIMIT ND F_integer_text) G_integer_text (fun _ _ _ _ _ _ us hl => match us, hl with | [_], _ => rfl)
  have OK_Ratio_init := (ok_Ratio_init W T_InvalidNumber M_gcd D_integer_text CF F_Ratio_init)
  have BF_Ratio_init : Binds K fd_Ratio_init ["self", "top", "bottom"] [] := by
    obtain ⟨ds, r, b⟩ := FunD.binds1 (ps := ["self", "top", "bottom"]) F_Ratio_init 3 1 (List.cons_ne_nil _ _) (by rfl) (fun T kV doc pm an cdv ct us its hu hi => match us, its, hu, hi with | [_, _, _], [_], _, _ => ⟨_, rfl, rfl⟩)
    cases r
    exact b
  obtain ⟨dvs_Ratio_init, BV_Ratio_init, BD_Ratio_init⟩ := FunD.binds1 (ps := ["self", "top", "bottom"]) F_Ratio_init 2 0 (List.cons_ne_nil _ _) (by rfl) (fun T kV doc pm an cdv ct us its hu hi => match us, its, hu, hi with | [_, _], [_], _, _ => ⟨_, rfl, rfl⟩)
  have N_Ratio : Nd (PySem.Challenge.rw_leastfetched_k01_ratios_beside_pairs).prog w K mg base "Ratio" (He.ga K "Ratio") 2 ["self", "top", "bottom"] (TY.spC (sp_Ratio_init K)) := ⟨⟨_, _, TY.fn_calm OK_Ratio_init, G_Ratio, He.mkr_ok (c.fact 42 (f := .mkr "Ratio") rfl), BF_Ratio_init⟩, by decide⟩
  have NX_Ratio : TY.Ndx (PySem.Challenge.rw_leastfetched_k01_ratios_beside_pairs).prog w K mg base "Ratio" (He.ga K "Ratio") 2 ["self", "top", "bottom"] [] (sp_Ratio_init K) := ⟨⟨_, _, [], OK_Ratio_init, G_Ratio, He.mkr_ok (c.fact 42 (f := .mkr "Ratio") rfl), BF_Ratio_init, .nil⟩, by decide⟩
  have NF_Ratio : TY.Ndd (PySem.Challenge.rw_leastfetched_k01_ratios_beside_pairs).prog w K mg base "Ratio" (He.ga K "Ratio") 2 ["self", "top", "bottom"] [.int 1] (TY.spC (sp_Ratio_init K)) := ⟨⟨_, _, dvs_Ratio_init, TY.fn_calm OK_Ratio_init, G_Ratio, He.mkr_ok (c.fact 42 (f := .mkr "Ratio") rfl), BD_Ratio_init, BV_Ratio_init⟩, by decide⟩
  obtain ⟨_, BK_Ratio_init⟩ := FunD.kbindsD (ps := ["self", "top", "bottom"]) F_Ratio_init 1 ["bottom", "top"] (fun vs _ zs => vs ++ swp zs) (List.cons_ne_nil _ _) (fun a _ z => a.append (swp_vals z)) (fun T kV doc pm an cdv ct us its ws hu hi hw => match us, its, ws, hu, hi, hw with | [_], [_], [_, _], _, _, _ => ⟨_, rfl, rfl⟩)
  have NK_Ratio : RM.Ndk (PySem.Challenge.rw_leastfetched_k01_ratios_beside_pairs).prog w K mg base "Ratio" (He.ga K "Ratio") 2 ["self", "top", "bottom"] ["bottom", "top"] gVs (TY.spC (sp_Ratio_init K)) := ⟨⟨_, _, _, TY.fn_calm OK_Ratio_init, G_Ratio, He.mkr_ok (c.fact 42 (f := .mkr "Ratio") rfl), BK_Ratio_init⟩, by decide⟩
  have D_law_int : Fd (PySem.Challenge.rw_leastfetched_k01_ratios_beside_pairs).prog w K mg base CX0 "_law_int" 1 ["v"] (sp_law_int K) := U.fd_of (st := s_law_int) F_law_int (ok_law_int W F_law_int) G_law_int (fun _ _ _ _ _ _ us hl => match us, hl with | [_], _ => rfl)
  have D_law_like : Fd (PySem.Challenge.rw_leastfetched_k01_ratios_beside_pairs).prog w K mg base CX0 "_law_like" (2 + 12) ["told", "due"] (sp_law_like K 12) := U.fd_of (st := s_law_like) F_law_like (ok_law_like W D_law_int F_law_like G_law_like 12) G_law_like (fun _ _ _ _ _ _ us hl => match us, hl with | [_, _], _ => rfl)
  have D_law_zero_refused : Fd (PySem.Challenge.rw_leastfetched_k01_ratios_beside_pairs).prog w K mg base CX0 "_law_zero_refused" 4 ["up"] (sp_law_zero_refused K) := U.fd_of (st := s_law_zero_refused) F_law_zero_refused (ok_law_zero_refused W T_InvalidNumber G_InvalidNumber NX_Ratio H_law_like XM F_law_zero_refused) G_law_zero_refused (fun _ _ _ _ _ _ us hl => match us, hl with | [_], _ => rfl)
  have D_law_text : Fd (PySem.Challenge.rw_leastfetched_k01_ratios_beside_pairs).prog w K mg base CX0 "_law_text" 1 ["x"] (sp_law_text K) := U.fd_of (st := s_law_text) F_law_text (ok_law_text W F_law_text) G_law_text (fun _ _ _ _ _ _ us hl => match us, hl with | [_], _ => rfl)
  have M_Ratio_repr : Md (PySem.Challenge.rw_leastfetched_k01_ratios_beside_pairs).prog w K mg base (He.ga K "Ratio") "__repr__" 1 ["self"] (sp_Ratio_repr K) := ⟨⟨_, _, (ok_Ratio_repr W CF F_Ratio_repr), He.cls_ok (c.fact 43 (f := .cls "Ratio") rfl), He.meth_ok (c.fact 44 (f := .meth "Ratio" "__repr__") rfl), (FunD.bindsN F_Ratio_repr (fun _ _ _ _ _ _ us hl => match us, hl with | [_], _ => rfl))⟩⟩
  have D_law_is : Fd (PySem.Challenge.rw_leastfetched_k01_ratios_beside_pairs).prog w K mg base CX0 "_law_is" 15 ["told", "x"] (sp_law_is K) := U.fd_of (st := s_law_is) F_law_is (ok_law_is W G_Ratio D_law_like D_law_text M_Ratio_repr CF F_law_is) G_law_is (fun _ _ _ _ _ _ us hl => match us, hl with | [_, _], _ => rfl)
  have M_Ratio_floor : Md (PySem.Challenge.rw_leastfetched_k01_ratios_beside_pairs).prog w K mg base (He.ga K "Ratio") "floor" 1 ["self"] (sp_Ratio_floor K) := ⟨⟨_, _, (ok_Ratio_floor W CF F_Ratio_floor), He.cls_ok (c.fact 43 (f := .cls "Ratio") rfl), He.meth_ok (c.fact 45 (f := .meth "Ratio" "floor") rfl), (FunD.bindsN F_Ratio_floor (fun _ _ _ _ _ _ us hl => match us, hl with | [_], _ => rfl))⟩⟩
  have M_Ratio_ceiling : Md (PySem.Challenge.rw_leastfetched_k01_ratios_beside_pairs).prog w K mg base (He.ga K "Ratio") "ceiling" 1 ["self"] (sp_Ratio_ceiling K) := ⟨⟨_, _, (ok_Ratio_ceiling W CF F_Ratio_ceiling), He.cls_ok (c.fact 43 (f := .cls "Ratio") rfl), He.meth_ok (c.fact 46 (f := .meth "Ratio" "ceiling") rfl), (FunD.bindsN F_Ratio_ceiling (fun _ _ _ _ _ _ us hl => match us, hl with | [_], _ => rfl))⟩⟩
  have D_law_whole_parts_so : Fd (PySem.Challenge.rw_leastfetched_k01_ratios_beside_pairs).prog w K mg base CX0 "_law_whole_parts_so" 2 ["a", "x"] (sp_law_whole_parts_so K) := U.fd_of (st := s_law_whole_parts_so) F_law_whole_parts_so (ok_law_whole_parts_so W D_law_int M_Ratio_floor M_Ratio_ceiling F_law_whole_parts_so) G_law_whole_parts_so (fun _ _ _ _ _ _ us hl => match us, hl with | [_, _], _ => rfl)
  have D_as_ratio : Fd (PySem.Challenge.rw_leastfetched_k01_ratios_beside_pairs).prog w K mg base CX0 "as_ratio" 4 ["number"] (sp_as_ratio K) := U.fd_of (st := s_as_ratio) F_as_ratio (ok_as_ratio W G_Ratio NF_Ratio CF F_as_ratio) G_as_ratio (fun _ _ _ _ _ _ us hl => match us, hl with | [_], _ => rfl)
  have M_Ratio_add : Md (PySem.Challenge.rw_leastfetched_k01_ratios_beside_pairs).prog w K mg base (He.ga K "Ratio") "__add__" 5 ["self", "other"] (sp_Ratio_add K) := ⟨⟨_, _, (ok_Ratio_add W D_as_ratio N_Ratio CF F_Ratio_add), He.cls_ok (c.fact 43 (f := .cls "Ratio") rfl), He.meth_ok (c.fact 47 (f := .meth "Ratio" "__add__") rfl), (FunD.bindsN F_Ratio_add (fun _ _ _ _ _ _ us hl => match us, hl with | [_, _], _ => rfl))⟩⟩
  have M_Ratio_sub : Md (PySem.Challenge.rw_leastfetched_k01_ratios_beside_pairs).prog w K mg base (He.ga K "Ratio") "__sub__" 5 ["self", "other"] (sp_Ratio_sub K) := ⟨⟨_, _, (ok_Ratio_sub W D_as_ratio N_Ratio CF F_Ratio_sub), He.cls_ok (c.fact 43 (f := .cls "Ratio") rfl), He.meth_ok (c.fact 48 (f := .meth "Ratio" "__sub__") rfl), (FunD.bindsN F_Ratio_sub (fun _ _ _ _ _ _ us hl => match us, hl with | [_, _], _ => rfl))⟩⟩
  have M_Ratio_mul : Md (PySem.Challenge.rw_leastfetched_k01_ratios_beside_pairs).prog w K mg base (He.ga K "Ratio") "__mul__" 5 ["self", "other"] (sp_Ratio_mul K) := ⟨⟨_, _, (ok_Ratio_mul W D_as_ratio N_Ratio CF F_Ratio_mul), He.cls_ok (c.fact 43 (f := .cls "Ratio") rfl), He.meth_ok (c.fact 49 (f := .meth "Ratio" "__mul__") rfl), (FunD.bindsN F_Ratio_mul (fun _ _ _ _ _ _ us hl => match us, hl with | [_, _], _ => rfl))⟩⟩
  have M_Ratio_compare : Md (PySem.Challenge.rw_leastfetched_k01_ratios_beside_pairs).prog w K mg base (He.ga K "Ratio") "compare" 5 ["self", "other"] (sp_Ratio_compare K) := ⟨⟨_, _, (ok_Ratio_compare W D_as_ratio CF F_Ratio_compare), He.cls_ok (c.fact 43 (f := .cls "Ratio") rfl), He.meth_ok (c.fact 50 (f := .meth "Ratio" "compare") rfl), (FunD.bindsN F_Ratio_compare (fun _ _ _ _ _ _ us hl => match us, hl with | [_, _], _ => rfl))⟩⟩
  have MK_Ratio_compare : Mkd (PySem.Challenge.rw_leastfetched_k01_ratios_beside_pairs).prog w K mg base (He.ga K "Ratio") "compare" 5 ["self", "other"] ["other"] (sp_Ratio_compare K) := U.mkd_of (st := s_Ratio_compare) F_Ratio_compare (ok_Ratio_compare W D_as_ratio CF F_Ratio_compare) (He.cls_ok (c.fact 43 (f := .cls "Ratio") rfl)) (He.meth_ok (c.fact 50 (f := .meth "Ratio" "compare") rfl)) (fun _ _ _ _ _ _ _ _ => rfl)
  have M_Ratio_eq : Md (PySem.Challenge.rw_leastfetched_k01_ratios_beside_pairs).prog w K mg base (He.ga K "Ratio") "__eq__" 1 ["self", "other"] (sp_Ratio_eq K) := ⟨⟨_, _, (ok_Ratio_eq W G_Ratio CF F_Ratio_eq), He.cls_ok (c.fact 43 (f := .cls "Ratio") rfl), He.meth_ok (c.fact 51 (f := .meth "Ratio" "__eq__") rfl), (FunD.bindsN F_Ratio_eq (fun _ _ _ _ _ _ us hl => match us, hl with | [_, _], _ => rfl))⟩⟩
  have D_law_two_so : Fd (PySem.Challenge.rw_leastfetched_k01_ratios_beside_pairs).prog w K mg base CX0 "_law_two_so" 16 ["a", "b", "x", "y", "plain"] (sp_law_two_so K) := U.fd_of (st := s_law_two_so) F_law_two_so (ok_law_two_so W NR_add NR_sub NR_mul EQR SF_Ratio D_law_is D_law_low D_law_like M_Ratio_add M_Ratio_sub M_Ratio_mul M_Ratio_compare M_Ratio_eq MK_Ratio_compare CF F_law_two_so) G_law_two_so (fun _ _ _ _ _ _ us hl => match us, hl with | [_, _, _, _, _], _ => rfl)
  have D_law_digits : Fd (PySem.Challenge.rw_leastfetched_k01_ratios_beside_pairs).prog w K mg base CX0 "_law_digits" 1 ["word"] (sp_law_digits K) := U.fd_of (st := s_law_digits) F_law_digits (ok_law_digits W F_law_digits) G_law_digits (fun _ _ _ _ _ _ us hl => match us, hl with | [_], _ => rfl)
  have D_law_fraction : Fd (PySem.Challenge.rw_leastfetched_k01_ratios_beside_pairs).prog w K mg base CX0 "_law_fraction" 2 ["said"] (sp_law_fraction K) := U.fd_of (st := s_law_fraction) F_law_fraction (ok_law_fraction W D_law_digits D_law_gcd F_law_fraction) G_law_fraction (fun _ _ _ _ _ _ us hl => match us, hl with | [_], _ => rfl)
  have D_is_amount : Fd (PySem.Challenge.rw_leastfetched_k01_ratios_beside_pairs).prog w K mg base CX0 "is_amount" 1 ["word"] (sp_is_amount K) := U.fd_of (st := s_is_amount) F_is_amount (ok_is_amount W F_is_amount) G_is_amount (fun _ _ _ _ _ _ us hl => match us, hl with | [_], _ => rfl)
  have D_is_integer : Fd (PySem.Challenge.rw_leastfetched_k01_ratios_beside_pairs).prog w K mg base CX0 "is_integer" 2 ["word"] (sp_is_integer K) := U.fd_of (st := s_is_integer) F_is_integer (ok_is_integer W D_is_amount F_is_integer) G_is_integer (fun _ _ _ _ _ _ us hl => match us, hl with | [_], _ => rfl)
  have OK_Ratio_read := (ok_Ratio_read W T_InvalidText D_is_integer D_is_amount NF_Ratio NX_Ratio CF F_Ratio_read)
  have SX_Ratio_read : TY.Sdx (PySem.Challenge.rw_leastfetched_k01_ratios_beside_pairs).prog w K mg base (He.ga K "Ratio") "read" 4 ["text"] (sp_Ratio_read K) := ⟨⟨_, _, OK_Ratio_read, SM_Ratio_read, SK_Ratio_read, (FunD.bindsN F_Ratio_read (fun _ _ _ _ _ _ us hl => match us, hl with | [_], _ => rfl))⟩⟩
  have S_Ratio_read := SX_Ratio_read.calm
  have SKX_Ratio_read : RM.Sdxk (PySem.Challenge.rw_leastfetched_k01_ratios_beside_pairs).prog w K mg base (He.ga K "Ratio") "read" 4 ["text"] ["text"] (sp_Ratio_read K) := ⟨⟨_, _, fun us ws => us ++ ws, fun vs zs => vs ++ zs, OK_Ratio_read, SM_Ratio_read, SK_Ratio_read, kb_Ratio_read F_Ratio_read, fun zs => rfl⟩⟩
  have D_law_reads : Fd (PySem.Challenge.rw_leastfetched_k01_ratios_beside_pairs).prog w K mg base CX0 "_law_reads" 16 ["said"] (sp_law_reads K) := U.fd_of (st := s_law_reads) F_law_reads (ok_law_reads W T_InvalidText G_Ratio G_NestError G_InvalidText D_law_fraction D_law_is SKX_Ratio_read SX_Ratio_read H_law_like XM F_law_reads) G_law_reads (fun _ _ _ _ _ _ us hl => match us, hl with | [_], _ => rfl)
  have D_law_bent : Fd (PySem.Challenge.rw_leastfetched_k01_ratios_beside_pairs).prog w K mg base CX0 "_law_bent" 3 ["bag", "x", "said"] (sp_law_bent K) := U.fd_of (st := s_law_bent) F_law_bent (ok_law_bent W D_law_draw D_law_of F_law_bent) G_law_bent (fun _ _ _ _ _ _ us hl => match us, hl with | [_, _, _], _ => rfl)
  have M_Ratio_neg : Md (PySem.Challenge.rw_leastfetched_k01_ratios_beside_pairs).prog w K mg base (He.ga K "Ratio") "__neg__" 4 ["self"] (sp_Ratio_neg K) := ⟨⟨_, _, (ok_Ratio_neg W N_Ratio CF F_Ratio_neg), He.cls_ok (c.fact 43 (f := .cls "Ratio") rfl), He.meth_ok (c.fact 52 (f := .meth "Ratio" "__neg__") rfl), (FunD.bindsN F_Ratio_neg (fun _ _ _ _ _ _ us hl => match us, hl with | [_], _ => rfl))⟩⟩
  exact ok_law W EQR D_law_bag D_law_up D_law_down D_law_low D_law_draw D_law_zero_refused D_law_is D_law_whole_parts_so D_law_two_so D_law_like D_law_text D_law_reads D_law_bent N_Ratio M_Ratio_neg M_Ratio_eq NF_Ratio NK_Ratio CF F_law
end D
open PySem PySem.W PySem.Calls PyProof.Rows
theorem PySem.Challenge.cw_leastfetched_k01_ratios_beside_pairs_holds : PySem.Challenge.rw_leastfetched_k01_ratios_beside_pairs.Holds := by
  w_on; o_law
  refine HandSHeadRun.head_imp (r := OpenLaw.row PySem.Challenge.rw_leastfetched_k01_ratios_beside_pairs) (q := view (OpenLaw.row PySem.Challenge.rw_leastfetched_k01_ratios_beside_pairs).prog [0, 32]) (H := D.hk) (ob := D.ob) (M := 20000) (loose := D.loose) (d := HandSHeadRun.topDef (OpenLaw.row PySem.Challenge.rw_leastfetched_k01_ratios_beside_pairs).prog 32) (kwd := []) D.ob_eq
    D.run (by kernel_rfl) (by kernel_rfl) (by kernel_rfl) (by rfl) (by first | assumption | decide +kernel) (by decide +kernel) ⟨rfl, rfl, rfl, rfl, rfl, by decide +kernel⟩ ?hw ?hc
  case hw => w_witness2
  case hc =>
    refine L2.walk_ofE (l := PySem.Challenge.rw_leastfetched_k01_ratios_beside_pairs) (n := 63) (k := 17) (x := "script") (CX := L2.CX0) rfl (by decide) (by kernel_rfl) ⟨rfl, by decide, by decide⟩ ?F (fun _ _ _ _ z => z)
    intro w mg fa h Y G hmg0
    obtain ⟨K, KX, c⟩ := Y
    have hmg : mg ("law" : PySem.Str) = some (.ref fa) := by
      have e : (HandSHeadRun.topDef (OpenLaw.row PySem.Challenge.rw_leastfetched_k01_ratios_beside_pairs).prog 32).name = ("law" : PySem.Str) := by kernel_rfl
      rw [← e]
      exact hmg0
    obtain ⟨fd, hb, hF⟩ := D.facts (w := w) KX G hmg c
    exact ⟨K, fd, C.sp_law01 K, KX, hb, fun H a ns hl _ hS => ⟨a, ns, rfl, hS, fun _ => rfl⟩, hF⟩
end
