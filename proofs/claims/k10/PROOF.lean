import PyProof.Rows.All
import Wide.All
import OpenK.AllK
import Wide.FinOn
import KE.KExcSuper
import HandS.ForExc
import HandS.ExcValue
import HandS.HeadWalk
import HandS.ForMost
import HandS.Wide
import HandS.Defaults
import HandS.IsInst
import HandS.SetFor
import HandS.EndBits
import HandS.HeadEnd
import KE.KEqSeq
import PyProof.ReprRoads
import KE.KExcIs
import KE.KExcPX
import PyProof.Rows.CountFlat
import KE.KStateDown
import KE.KExcInit
import HandS.Head0
import HandS.Head1
import HandS.Head2
import HandS.HeadHook1
import HandS.HeadHook2
import HandS.HeadHook4
import HandS.Words
import PySem.Challenge.RW_namechains_k10_errors_and_limits
set_option Elab.async false
set_option linter.all false
set_option maxRecDepth 100000
set_option maxHeartbeats 4000000
/-! own exceptions whose __init__ hands its values to super().__init__ and then keeps them as fields -/
namespace NCX
open PySem PySem.Calls PySem.W PyProof.Rows
def a1 (f : Str) (p p' : Pos) : Arguments := { posonlyargs := [], args := [{ arg := "self", annotation := none, pos := p }, { arg := f, annotation := none, pos := p' }], vararg := none, kwonlyargs := [], kw_defaults := [], kwarg := none, defaults := [] }
def callSup (as : List Expr) (q1 q2 q3 q4 q5 : Pos) : Stmt := .Expr (.Call (.Attribute (.Call (.Name "super" q1) [] [] q2) "__init__" q3) as [] q4) q5
def keepF (f : Str) (q1 q2 q3 q4 : Pos) : Stmt := .Assign [.Attribute (.Name "self" q1) f q2] (.Name f q3) q4
def sc1 (f : Str) : Scope := { kind := .function, names := [(PySem.Str.ofString "self", .local), (f, .local), (PySem.Str.ofString "__class__", .free), (PySem.Str.ofString "super", .globalImplicit)], isGenerator := false, isCoroutine := false, more := [] }
/-- what is known of a built-in base -/
structure Base (B newId initId : String) (bmB : List Value) : Prop where
  fb : ExcBaseFacts B newId initId bmB
  ks : KxsFacts B initId
  st : StoreFacts B bmB "object.__setattr__" "object"
/-- what the written part says of the class at C -/
structure Cl (K : Frag) (prog : Program) (C fI cc : Addr) (B newId initId : String) (bmB : List Value) (qual : Str) (params : Arguments) (body : List Stmt) (scope : Scope) : Prop where
  ini : excInitIn K C bmB newId = true
  ovr : excOver K C bmB = true
  hd : hasDictIn K C = true
  sa : findIn K (.ref C) "__setattr__" = some (some (.builtin "object.__setattr__"))
  iC : findIn K (.ref C) "__init__" = some (some (.ref fI))
  tC : typeIn K (.ref fI) = some (.type "function")
  fn : ∃ (oc : Value) (od : Option Addr) (doc pm : Value) (an : Option Addr) (cda : Addr) (ct : Value) (osl : Array (Option Value)) (ccl : Value) (cdd : Option Addr) (vs : Array Value) (ccs : Array (Option Value)) (file : Str) (tf : Tok),
    K.lookup fI = some ⟨oc, od, .func (ksFn "__init__" qual params body scope .none .none doc pm an (.ref cda) ct cc), osl⟩ ∧ codeIn K (.ref cda) qual = true ∧ K.lookup cda = some ⟨ccl, cdd, .fields vs, ccs⟩ ∧ vs[2]? = some (.str file tf) ∧ ((prog.main.file : Str) == file) = true
  cell : ∃ cl cld csl, K.lookup cc = some ⟨cl, cld, .cell (some (.ref C)), csl⟩
  slf : mroIn K C (.ref C) = some true
  sup : ks_superIn K C C "__init__" = some (some (.builtin initId))
  subB : subIn K (.ref C) (.type B) = some true
  nsS : nsIn K mainGlobals "super" = some none
  opq : nsIn K cStatics "thirdparty.any" = some none
  top : (prog.main.scope.names.lookup ("super" : Str)).isSome = false
section
variable {prog : Program} {w : World} {A : Around} {E : Value → Shared → Prop} {s : Shared} {K : Frag} {C fI cc : Addr} {B newId initId : String} {bmB : List Value} {qual : Str} {params : Arguments} {body : List Stmt} {scope : Scope}
/-- super() within such an __init__ -/
theorem sup_base {m : Str → Option Value} {L x : Addr} {ox : Obj} {odx : Option Obj} {ar : Arg} {cda : Addr} {p0 p1 : Pos} {attr : Str} {whole : Sem Value} {Q : Value → Shared → Prop} {bd : List Stmt} {mg mb : Str → Option Value}
    (T : Cl K prog C fI cc B newId initId bmB qual params body scope) {oc : Value} {od : Option Addr} {doc pm : Value} {an : Option Addr} {ct : Value} {osl : Array (Option Value)} {ccl : Value} {cdd : Option Addr} {vs : Array Value} {ccs : Array (Option Value)} {file : Str} {tf : Tok}
    (hfI : K.lookup fI = some ⟨oc, od, .func (ksFn "__init__" qual params body scope .none .none doc pm an (.ref cda) ct cc), osl⟩) (hcda : K.lookup cda = some ⟨ccl, cdd, .fields vs, ccs⟩) (hvs : vs[2]? = some (.str file tf)) (hfile : ((prog.main.file : Str) == file) = true)
    (X : K.In s.heap) (hg : s.heap.Ns mainGlobals mg) (hmg : mg "super" = none) (hb : s.heap.Ns builtinsNs mb) (hmb : mb "super" = some (.type "super")) (hns : s.heap.Ns L m) (hm : m ar.arg = some (.ref x)) (I : InstAt s.heap x ox C odx)
    (hp : (params.posonlyargs ++ params.args).head? = some ar) (hks : scope.names.lookup ("super" : Str) = some .globalImplicit) (hkc : scope.names.lookup ("__class__" : Str) = some .free) (hka : scope.names.lookup ar.arg = some .local) (hk : scope.kind = .function)
    (hat : (attr == ("__class__" : Str)) = false)
    (h : ∀ h', h'.get? s.heap.objs.size = some (ks_superObj C x C) → (∀ y o, s.heap.get? y = some o → h'.get? y = some o) → Q (.ref s.heap.objs.size) { s with heap := h' }) :
    _root_.PySem.wpAt (model prog w) A (.func bd (ksEnv qual scope L fI (.ref cda) cc)) (attributeBase (.Call (.Name "super" p0) [] [] p1) attr (ksEnv qual scope L fI (.ref cda) cc) whole) Q E s := by
  obtain ⟨cl, cld, csl, hcell⟩ := T.cell
  obtain ⟨hh, g, d, t, os⟩ := s
  obtain ⟨cdD, hD⟩ : ∃ cdD, clsIn K C = some cdD := by
    obtain ⟨z, hz, _⟩ := any_some T.ovr
    exact ⟨z, hz⟩
  obtain ⟨oD, e1, e2⟩ : ∃ oD, hh.get? C = some oD ∧ oD.data = .cls cdD := by
    unfold clsIn at hD
    split at hD
    · rename_i ho
      cases hD
      exact ⟨_, X _ _ ho, rfl⟩
    · cases hD
  refine ks_wpAt_super_base (env := ksEnv qual scope L fI (.ref cda) cc) hks hkc hat rfl (X _ _ hfI) rfl hp rfl (X _ _ hcda) rfl hvs hfile T.top ?_
  refine ks_loadName_global hk hks (loadGlobal_builtin (env := ksEnv qual scope L fI (.ref cda) cc) hg hmg hb hmb ⟨rfl, ?_⟩)
  refine wpAny_loadName_free hk hkc rfl ⟨_, X _ _ hcell, rfl⟩ (wpAny_loadName_local hk hka hns hm (ks_wpAny_isType_cls e1 e2 ⟨rfl, ?_⟩))
  refine ks_wpAny_call_super e1 e2 I.at_ I.cls (fun c e => ?_) (looks_mroIn X T.slf) (fun h' e k => h h' e k)
  have z := I.no
  unfold notCls at z
  rw [e] at z
  exact Bool.noConfusion z
/-- a dict with one entry under a name -/
theorem ns_one {h : Heap} {a : Addr} {n : Nat} {f : Str} {v : Value} {hs : Int} {tk : Tok} (e : h.get? a = some (dictOf [⟨hs, .str f tk, v⟩] n)) : h.Ns1 a (fun y => if y = f then some v else none) := by
  refine ⟨_, _, _, e, rfl, fun z hz => ?_, List.pairwise_singleton _ _, fun y => ?_⟩
  · have q : z = ⟨hs, .str f tk, v⟩ := by simpa using hz
    exact ⟨f, tk, by rw [q]⟩
  · by_cases c : y = f
    · subst c
      simp [nsFind, findBy, Value.isStr]
    · have c' : ¬ f = y := fun z => c z.symm
      simp [nsFind, findBy, Value.isStr, c, c']
end
/-- what an __init__ leaves of a fresh exception at x -/
structure Left (h h' : Heap) (x C : Addr) (m : Str → Option Value) : Prop where
  keep : ∀ b o, b ≠ x → h.get? b = some o → h'.get? b = some o
  ob : ∃ dx t1, h'.get? x = some (excObj C t1 (some dx) .none) ∧ h.get? dx = none ∧ dx ≠ x ∧ h'.Ns1 dx m
section
variable {prog : Program} {w : World} {A : Around} {E : Value → Shared → Prop} {s : Shared} {K : Frag} {C fI cc : Addr} {B newId initId : String} {bmB : List Value} {qual : Str} {R : Result → Shared → Prop}
/-- a local's value -/
theorem loc_v {M : Model} {env : Env} {m : Str → Option Value} {x : Str} {pos : Pos} {v : Value} {Q : Value → Shared → Prop} (hn : s.heap.Ns env.locals m) (hv : m x = some v) (hl : env.kindOf x = some .local) (hd : (x == ("__debug__" : Str)) = false) (h : Q v s) (hk : env.scope.kind = .function := by rfl) :
    wpAny M A (eval (.Name x pos) env) Q E s := wpAny_Name (wpAny_loadName_local hk hl hn hv h) hd
/-- o.name(args) on one line -/
theorem on_line {o : Expr} {name : Str} {apos pos : Pos} {args : List Expr} {env : Env} (hf : methodCallForm (args.length + ([] : List Keyword).length) (backTo pos (starEach args env)) (backToKw pos (keywordEach [] env)) = true) (hl : (apos.endLine == pos.line) = true) :
    eval (.Call (.Attribute o name apos) args [] pos) env = (attributeBase o name env (eval o env) >>= fun ov => standAt apos.atName >>= fun _ => holding [ov] (getMethod ov name (L2.plainOf o env)) >>= fun z => callWith pos z.1 z.2 (backTo pos (starEach args env)) []) := by
  have e : ∀ ov, methodCall o name apos pos env ov (args.length + ([] : List Keyword).length) (backTo pos (starEach args env)) (backToKw pos (keywordEach [] env)) = (holding [ov] (getMethod ov name (L2.plainOf o env)) >>= fun z => callWith pos z.1 z.2 (backTo pos (starEach args env)) []) := fun ov => L2.mcall_line hf hl
  rw [arm_eval_Call]
  simp only [e]
structure Tx1 (f : Str) : Prop where
  db : (f == ("__debug__" : Str)) = false
  lc : (sc1 f).names.lookup f = some .local
  ks : (sc1 f).names.lookup ("super" : Str) = some .globalImplicit
  kc : (sc1 f).names.lookup ("__class__" : Str) = some .free
  ns : f ≠ "self"
theorem init1 {f : Str} {p p' q0 q1 q2 q3 q4 q5 r1 r2 r3 r4 : Pos} (F : Tx1 f) (D : Base B newId initId bmB)
    (T : Cl K prog C fI cc B newId initId bmB qual (a1 f p p') [callSup [.Name f q0] q1 q2 q3 q4 q5, keepF f r1 r2 r3 r4] (sc1 f))
    (hl : (q3.endLine == q4.line) = true) (nf : findIn K (.ref C) f = some none) {x t0 : Addr} {v : Value} {mg mb : Str → Option Value} {args : Args}
    (hbind : ∀ fd : FuncData, fd.params = a1 f p p' → fd.defaults = .none → fd.kwdefaults = .none → BindsTo s fd args [("self", .ref x), (f, v)])
    (X : K.In s.heap) (hlim : s.heap.NoLimit) (hg : s.heap.Ns mainGlobals mg) (hmg : mg "super" = none) (hb : s.heap.Ns builtinsNs mb) (hmb : mb "super" = some (.type "super")) (hx : s.heap.get? x = some (excObj C t0 none .none)) (hnx : K.lookup x = none) (hroom : A.depth < recursionLimit)
    (hq : ∀ h' tk, Left s.heap h' x C (fun y => if y = f then some v else none) → R (.ok (.ret .none)) { s with heap := h', toks := tk }) :
    codeAny (model prog w) A (.call (.ref fI) args) R s := by
  obtain ⟨oc, od, doc, pm, an, cda, ct, osl, ccl, cdd, vs, ccs, file, tf, hfI, hcd, hcda, hvs, hfile⟩ := T.fn
  obtain ⟨binds, eb⟩ : ∃ l : List (Str × Value), l = [(("self" : Str), Value.ref x), (f, v)] := ⟨_, rfl⟩
  have bf : binds.reverse.lookup f = some v := by simp [eb, List.lookup]
  have bs : binds.reverse.lookup ("self" : Str) = some (.ref x) := by
    have z : (Str.ofString "self" == f) = false := by simpa using fun e => F.ns e.symm
    simp [eb, List.lookup, z]
  have X0 : K.In (hideAll s.heap [x]) := fun a o e => hideAll_get [x] (X a o e) (by simp; rintro rfl; rw [hnx] at e; cases e)
  have hxL : x < s.heap.objs.size := Heap.lt_size hx
  refine ks_codeAny_call_defAt (fd := ksFn "__init__" qual (a1 f p p') [callSup [.Name f q0] q1 q2 q3 q4 q5, keepF f r1 r2 r3 r4] (sc1 f) .none .none doc pm an (.ref cda) ct cc) (body := [callSup [.Name f q0] q1 q2 q3 q4 q5, keepF f r1 r2 r3 r4]) (binds := binds) hroom (X _ _ hfI) rfl hlim (codeRec_of X hcd) rfl
    (by rw [eb]; exact hbind _ rfl rfl rfl) (by simp [sc1]) (by rw [eb]; simpa using ⟨rfl, F.lc⟩) (fun h1 hns hk => ?_)
  -- the frame stands; the ledger knows x alone
  have F1 : Fr (hideAll s.heap [x]) s.heap.objs.size h1 (fun y => binds.reverse.lookup y) := ⟨hns, fun b o e => hk b o (of_hideAll _ e), Nat.le_of_eq (hideAll_size _ _)⟩
  have N1 : News (hideAll s.heap [x]) s.heap.objs.size h1 [(x, excObj C t0 none .none)] := fun q hq => by
    rw [List.mem_singleton.mp hq]
    exact ⟨hk _ _ hx, Nat.ne_of_lt hxL, hideAll_none [x] (List.mem_singleton.mpr rfl)⟩
  have I1 : InstAt h1 x (excObj C t0 none .none) C none := ⟨hk _ _ hx, rfl, rfl, trivial⟩
  -- super().__init__(f)
  refine ks_wpAt_execs_cons (ks_wpAt_Expr_any (ks_wpAt_MethodCall ?_ (on_line rfl hl)))
  refine sup_base T hfI hcda hvs hfile (X.keeps hk) (hg.keeps hk) hmg (hb.keeps hk) hmb hns bs I1 rfl F.ks F.kc rfl rfl (by decide) (fun h2 e2 k2 => ?_)
  obtain ⟨F2, N2, l2⟩ := ks_newsPush (s := { s with heap := h1, toks := s.toks + binds.length }) F1 N1 rfl e2 k2
  refine kxs_method (s := { s with heap := h2, toks := s.toks + binds.length }) D.ks F2 X0 N2 List.mem_cons_self (odx := none) ⟨k2 _ _ I1.at_, rfl, rfl, trivial⟩ T.opq T.sup T.subB (by decide) (fun u h3 F3 N3 l3 => ?_)
  refine kxs_callWith1 N3 List.mem_cons_self (spliced_cons (loc_v F3.ns bf F.lc F.db (spliced_nil ⟨kxs_at N3 List.mem_cons_self, ?_⟩)))
  have ux : u ≠ x := fun z => by
    have q := l3 (x, _) (List.mem_cons_of_mem _ List.mem_cons_self)
    rw [z] at q
    exact Nat.lt_irrefl _ q
  have sx : h1.objs.size ≠ x := Nat.ne_of_gt (Nat.lt_of_lt_of_le hxL (Nat.le_of_lt hns.lt))
  refine kxs_call F3 X0 N3 D.fb T.ini List.mem_cons_self (.tail ux (.tail sx (.head (fun _ z => nomatch z)))) (by rw [sizeLine_eq]; exact (by decide : 1 ≤ 16777216)) (fun t4 h4 F4 N4 l4 => ?_)
  have N4' : News (hideAll s.heap [x]) s.heap.objs.size h4 [(x, excObj C t4 none .none)] := fun q hq => N4 q (by rw [List.mem_singleton.mp hq]; simp)
  -- self.f = f
  show _root_.PySem.wpAt _ _ _ (execs _ _) _ _ _
  refine wpAt_of_wpAny (wpAny_execs_cons (plainObj_wpAny_Assign_Attribute (loc_v F4.ns bf F.lc F.db (loc_v F4.ns bs rfl (by decide) ?_))))
  refine set_exc0 D.st F4 X0 N4' List.mem_cons_self T.sa T.ovr (by unfold takerIn; rw [nf]; rfl) T.hd rfl (.head (fun _ z => nomatch z)) (by decide : 1 ≤ 1000) (fun dx h5 F5 N5 l5 => ?_)
  have dxx : dx ≠ x := Nat.ne_of_gt (l5 _ List.mem_cons_self)
  show wpAny _ _ (execs _ _) _ _ _
  refine wpAny_execs_nil (hq h5 _ ⟨fun b o hb e => F5.keep b o (hideAll_get [x] e (by simpa using hb)), dx, t4, (N5 _ (List.mem_cons_of_mem _ List.mem_cons_self)).1, ?_, dxx, ns_one (N5 _ List.mem_cons_self).1⟩)
  cases e : s.heap.get? dx with
  | none => rfl
  | some o =>
    have z := (N5 _ List.mem_cons_self).2.2
    rw [hideAll_get [x] e (by simpa using dxx)] at z
    cases z
/-- a made exception -/
structure Made (h h' : Heap) (e C : Addr) (m : Str → Option Value) : Prop where
  keep : ∀ b o, h.get? b = some o → h'.get? b = some o
  new : h.get? e = none
  ob : ∃ d t1, h'.get? e = some (excObj C t1 (some d) .none) ∧ h.get? d = none ∧ d ≠ e ∧ h'.Ns1 d m
end
end NCX
set_option maxRecDepth 100000
set_option maxHeartbeats 4000000
/-! an own exception class called with keywords -/
namespace NCX
open PySem PySem.Calls PySem.W PyProof.Rows
section
variable {prog : Program} {w : World} {A : Around} {E : Value → Shared → Prop} {R : Result → Shared → Prop} {s : Shared} {K : Frag} {C fI : Addr} {B newId initId : String} {bmB : List Value} {us : List Value} {kw : List (Str × Value)}
theorem chk_new (D : ExcBaseFacts B newId initId bmB) (X : K.In s.heap) (T : excInitIn K C bmB newId = true) {Q : Unit → Shared → Prop} (q : Q () s) : wpAny (model prog w) A (checkBuiltinCall newId ⟨.ref C :: us, kw⟩) Q E s := by
  obtain ⟨_, _, _, _, bm, _, _, _, _, _, _, _, _, _, _, _, at_, same⟩ := excInit_of X T
  obtain ⟨hp, gg, dr, tk, os⟩ := s
  have inB : (Value.ref C :: bm).contains (.type B) = true := by
    rw [List.contains_cons, same, D.hasB]
    exact Bool.or_true _
  have ns := D.noStar
  simp only [checkBuiltinCall, D.newKind, D.newSplit, D.newRow]
  repeat first
    | with_reducible refine wpAny_loadPart_at at_ ?_
    | with_reducible refine wpAny_staticBase_exc at_ ?_
    | with_reducible refine wpAny_madeBy_exc at_ ?_
    | (with_reducible refine wpAny_isSubtype_exc at_ ?_
       rw [inB])
    | wp_step
    | simp only [bne_self_eq_false, Bool.false_eq_true, if_false]
  exact q
/-- the exception that lies there behind __new__ -/
def born (h : Heap) (C : Addr) (us : List Value) : Heap := (h.push (kdv_tup us)).push (HandSPX.excO C h.objs.size)
theorem born_old {h : Heap} {b : Addr} {o : Obj} (e : h.get? b = some o) : (born h C us).get? b = some o := Heap.get?_push_of_some _ (Heap.get?_push_of_some _ e)
theorem born_at {h : Heap} : (born h C us).get? (h.objs.size + 1) = some (HandSPX.excO C h.objs.size) := by
  unfold born
  heap_get
theorem run_new (D : ExcBaseFacts B newId initId bmB) (X : K.In s.heap) (T : excInitIn K C bmB newId = true) (small : us.length ≤ sizeLine) (q : R (.ok (.ret (.ref (s.heap.objs.size + 1)))) { s with heap := born s.heap C us }) :
    codeAny (model prog w) A (.builtin newId ⟨.ref C :: us, kw⟩) R s := by
  obtain ⟨_, _, _, _, bm, _, _, _, _, _, _, _, _, _, _, _, at_, same⟩ := excInit_of X T
  obtain ⟨hp, gg, dr, tk, os⟩ := s
  have has : ∀ n : String, (Value.ref C :: bm).contains (.type n) = bmB.contains (.type n) := fun n => by
    rw [List.contains_cons, same n]
    exact Bool.false_or _
  have hB : (Value.ref C :: bm).contains (.type B) = true := (has B).trans D.hasB
  have hA : (Value.ref C :: bm).contains (.type "AttributeError") = false := (has _).trans D.noAttr
  have hN : (Value.ref C :: bm).contains (.type "NameError") = false := (has _).trans D.noName
  have en := D.ends
  apply codeAny_builtinAt D.entry
  unfold Builtin.«BaseException.__new__»
  apply PySem.wpAt_bind
  show PySem.wpAt _ _ _ (stack >>= _) _ _ _
  apply PySem.wpAt_bind
  apply PySem.wpAt_stack
  intro p below
  apply PySem.wpAt_of_wpAny
  wp_walk
  apply PySem.wpAt_of_wpAny
  rw [D.owner]
  repeat first
    | with_reducible refine wpAny_loadPart_at at_ ?_
    | with_reducible refine wpAny_madeHere_exc D.canon at_ ?_
    | (with_reducible refine wpAny_isSubtype_exc at_ ?_
       first | rw [hB] | rw [hA] | rw [hN])
    | wp_step
  unfold born kdv_tup at q
  simpa [Heap.size_push] using q
/-- C(..), by position and by name: the new exception is handed to the class' own __init__ -/
theorem run_cls (D : ExcBaseFacts B newId initId bmB) (X : K.In s.heap) (T : excInitIn K C bmB newId = true) (iC : findIn K (.ref C) "__init__" = some (some (.ref fI))) (tC : typeIn K (.ref fI) = some (.type "function")) (small : us.length ≤ sizeLine)
    (go : codeAny (model prog w) (A.under (.builtin "type.__call__" ⟨.ref C :: us, kw⟩)) (.call (.ref fI) ⟨.ref (s.heap.objs.size + 1) :: us, kw⟩) (fun r s' => match r with | .ok (.ret v) => v = .none ∧ R (.ok (.ret (.ref (s.heap.objs.size + 1)))) s' | .ok _ => False | .error e => R (.error e) s') { s with heap := born s.heap C us }) :
    codeAny (model prog w) A (.call (.ref C) ⟨us, kw⟩) R s := by
  obtain ⟨_, _, _, _, bm, _, _, _, _, _, _, _, _, _, _, _, at_, same⟩ := excInit_of X T
  have X' : K.In (born s.heap C us) := X.keeps fun _ _ e => born_old e
  have l1 : Looks (model prog w) (born s.heap C us) (typeLookup (.ref C) "__init__") (some (.ref fI)) := looks_findIn X' iC
  have l2 : Looks (model prog w) (born s.heap C us) (bindSpecial (.ref fI) (.ref (s.heap.objs.size + 1))) (.ref fI, [.ref (s.heap.objs.size + 1)]) := bind_fn X' _ tC
  obtain ⟨hp, gg, dr, tk, os⟩ := s
  have g1 := tc_lookup
  have g2 := tc_bind (.ref C)
  have g3 := tc_sub
  have ty : (⟨hp, gg, dr, tk, os⟩ : Shared).TypeIs (.ref C) "type" := ⟨_, at_, rfl⟩
  have me : (Value.ref C :: bm).contains (.ref C) = true := by simp
  have at2 := born_old (C := C) (us := us) at_
  apply codeAny_of_tree
  show wpAny _ _ (callAny (.ref C) _) _ _ _
  repeat any_goals first
    | assumption
    | wp_step
    | with_reducible refine wpAny_loadPart_at at_ ?_
  refine ⟨rfl, codeAny_call_builtin_at (Code.quiet_builtin _ (by decide +kernel)) entry_typeCall ?_⟩
  simp only [checkBuiltinCall, tc_kind, tc_split]
  repeat any_goals first
    | assumption
    | wp_step
    | with_reducible refine wpAny_loadPart_at at_ ?_
    | with_reducible refine wpAny_madeBy_exc at_ ?_
    | with_reducible refine wpAny_map ?_
    | with_reducible refine wpAny_onRaise ?_
  refine codeAny_call_builtin_code (Code.quiet_builtin _ D.quiet) (chk_new D X T (run_new D X T small ?_))
  have e_at := born_at (C := C) (us := us) (h := hp)
  show wpAny _ _ _ _ _ _
  unfold isInstance
  repeat first
    | with_reducible refine wpAny_loadPart_at e_at ?_
    | wp_step
  show wpAny _ _ (isSubtype (.ref C) (.ref C)) _ _ _
  refine wpAny_isSubtype_exc at2 ?_
  rw [me]
  repeat first
    | with_reducible refine wpAny_loadPart_at e_at ?_
    | wp_step
  show wpAny _ _ (typeLookup (.ref C) _) _ _ _
  refine l1.at ?_
  refine wpAny_holding (wpAny_bind (l2.at (wpAny_bind (wpAny_call (codeAny_mono go fun r s' z => ?_)))))
  cases r with
  | error e => exact z
  | ok fl =>
    cases fl with
    | ret v =>
      obtain ⟨rfl, z⟩ := z
      exact wpAny_pure (wpAny_pure z)
    | _ => exact z.elim
end
/-- how the class' own __init__ binds what it is handed: us by position, kw by name; vs: the fields' values -/
def Acc (prm : Arguments) (fs : List Str) (us : List Value) (kw : List (Str × Value)) (vs : List Value) : Prop :=
  ∀ (x : Value) (fd : FuncData), fd.params = prm → fd.defaults = .none → fd.kwdefaults = .none → bindArgs fd ⟨x :: us, kw⟩ = pure ((("self" : Str), x) :: fs.zip vs)
/-- an own __init__ that leaves the fields fs -/
def Ini (K : Frag) (prog : Program) (C fI : Addr) (prm : Arguments) (fs : List Str) : Prop :=
  ∀ {w : World} {A : Around} {s : Shared} {R : Result → Shared → Prop} {x t0 : Addr} {us vs : List Value} {kw : List (Str × Value)} {mg mb : Str → Option Value}, Acc prm fs us kw vs → vs.length = fs.length →
    K.In s.heap → s.heap.NoLimit → s.heap.Ns mainGlobals mg → mg "super" = none → s.heap.Ns builtinsNs mb → mb "super" = some (.type "super") → s.heap.get? x = some (excObj C t0 none .none) → K.lookup x = none → A.depth < recursionLimit →
    (∀ h' tk, Left s.heap h' x C (fun y => (fs.zip vs).lookup y) → R (.ok (.ret .none)) { s with heap := h', toks := tk }) → codeAny (model prog w) A (.call (.ref fI) ⟨.ref x :: us, kw⟩) R s
section
variable {prog : Program} {K : Frag} {C fI cc : Addr} {B newId initId : String} {bmB : List Value} {qual : Str}
theorem ini1 {f : Str} {p p' q0 q1 q2 q3 q4 q5 r1 r2 r3 r4 : Pos} (F : Tx1 f) (D : Base B newId initId bmB)
    (T : Cl K prog C fI cc B newId initId bmB qual (a1 f p p') [callSup [.Name f q0] q1 q2 q3 q4 q5, keepF f r1 r2 r3 r4] (sc1 f)) (hl : (q3.endLine == q4.line) = true) (nf : findIn K (.ref C) f = some none) : Ini K prog C fI (a1 f p p') [f] := by
  intro w A s R x t0 us vs kw mg mb ac hv X hlim hg hmg hb hmb hx hnx hroom hq
  obtain ⟨v, rfl⟩ : ∃ v, vs = [v] := by
    match vs, hv with
    | [v], _ => exact ⟨v, rfl⟩
  refine init1 F D T hl nf (fun fd e1 e2 e3 => .of_eq (ac (.ref x) fd e1 e2 e3)) X hlim hg hmg hb hmb hx hnx hroom fun h' tk L => hq h' tk ?_
  have e : (fun y => if y = f then some v else none) = fun y => ([f].zip [v]).lookup y := by
    funext y
    by_cases c : y = f
    · simp [c, List.lookup]
    · have z : (y == f) = false := by simpa using c
      simp [List.lookup, z, c]
  rw [← e]
  exact L
end
end NCX
set_option maxRecDepth 100000
set_option maxHeartbeats 4000000
/-! such classes with two fields -/
namespace NCX
open PySem PySem.Calls PySem.W PyProof.Rows
def a2 (f g : Str) (p p' p'' : Pos) : Arguments := { posonlyargs := [], args := [{ arg := "self", annotation := none, pos := p }, { arg := f, annotation := none, pos := p' }, { arg := g, annotation := none, pos := p'' }], vararg := none, kwonlyargs := [], kw_defaults := [], kwarg := none, defaults := [] }
def sc2 (f g : Str) : Scope := { kind := .function, names := [(PySem.Str.ofString "self", .local), (f, .local), (g, .local), (PySem.Str.ofString "__class__", .free), (PySem.Str.ofString "super", .globalImplicit)], isGenerator := false, isCoroutine := false, more := [] }
structure Tx2 (f g : Str) : Prop where
  db : (f == ("__debug__" : Str)) = false
  db' : (g == ("__debug__" : Str)) = false
  lc : (sc2 f g).names.lookup f = some .local
  lc' : (sc2 f g).names.lookup g = some .local
  ks : (sc2 f g).names.lookup ("super" : Str) = some .globalImplicit
  kc : (sc2 f g).names.lookup ("__class__" : Str) = some .free
  ns : f ≠ "self"
  ns' : g ≠ "self"
  fg : f ≠ g
theorem ns_two {h : Heap} {a : Addr} {n : Nat} {f g : Str} {v u : Value} {h1 h2 : Int} {t1 t2 : Tok} (fg : f ≠ g) (e : h.get? a = some (dictOf [⟨h1, .str f t1, v⟩, ⟨h2, .str g t2, u⟩] n)) : h.Ns1 a (fun y => ([f, g].zip [v, u]).lookup y) := by
  refine ⟨_, _, _, e, rfl, fun z hz => ?_, ?_, fun y => ?_⟩
  · rcases (by simpa using hz : z = ⟨h1, .str f t1, v⟩ ∨ z = ⟨h2, .str g t2, u⟩) with q | q
    · exact ⟨f, t1, by rw [q]⟩
    · exact ⟨g, t2, by rw [q]⟩
  · unfold UniqKeys
    simpa [Value.isStr] using fg.symm
  · by_cases c : y = f
    · subst c
      simp [nsFind, findBy, Value.isStr, List.lookup]
    · have c' : ¬ f = y := fun z => c z.symm
      have c2 : (y == f) = false := by simpa using c
      by_cases d : y = g
      · subst d
        simp [nsFind, findBy, Value.isStr, c, c', c2, List.lookup]
      · have d' : ¬ g = y := fun z => d z.symm
        have d2 : (y == g) = false := by simpa using d
        simp [nsFind, findBy, Value.isStr, c, c', c2, d, d', d2, List.lookup]
section
variable {prog : Program} {K : Frag} {C fI cc : Addr} {B newId initId : String} {bmB : List Value} {qual : Str}
theorem ini2 {f g : Str} {p p' p'' q0 q0' q1 q2 q3 q4 q5 r1 r2 r3 r4 z1 z2 z3 z4 : Pos} (F : Tx2 f g) (D : Base B newId initId bmB)
    (T : Cl K prog C fI cc B newId initId bmB qual (a2 f g p p' p'') [callSup [.Name f q0, .Name g q0'] q1 q2 q3 q4 q5, keepF f r1 r2 r3 r4, keepF g z1 z2 z3 z4] (sc2 f g)) (hl : (q3.endLine == q4.line) = true) (nf : findIn K (.ref C) f = some none) (ng : findIn K (.ref C) g = some none) : Ini K prog C fI (a2 f g p p' p'') [f, g] := by
  intro w A s R x t0 us vs kw mg mb ac hv X hlim hg hmg hb hmb hx hnx hroom hq
  obtain ⟨v, u, rfl⟩ : ∃ v u, vs = [v, u] := by
    match vs, hv with
    | [v, u], _ => exact ⟨v, u, rfl⟩
  obtain ⟨oc, od, doc, pm, an, cda, ct, osl, ccl, cdd, vs, ccs, file, tf, hfI, hcd, hcda, hvs, hfile⟩ := T.fn
  obtain ⟨binds, eb⟩ : ∃ l : List (Str × Value), l = [(("self" : Str), Value.ref x), (f, v), (g, u)] := ⟨_, rfl⟩
  have fg : (f == g) = false := by simpa using F.fg
  have bf : binds.reverse.lookup f = some v := by simp [eb, List.lookup, fg]
  have bg : binds.reverse.lookup g = some u := by simp [eb, List.lookup]
  have bs : binds.reverse.lookup ("self" : Str) = some (.ref x) := by
    have z : (Str.ofString "self" == f) = false := by simpa using fun e => F.ns e.symm
    have z' : (Str.ofString "self" == g) = false := by simpa using fun e => F.ns' e.symm
    simp [eb, List.lookup, z, z']
  have X0 : K.In (hideAll s.heap [x]) := fun a o e => hideAll_get [x] (X a o e) (by simp; rintro rfl; rw [hnx] at e; cases e)
  have hxL : x < s.heap.objs.size := Heap.lt_size hx
  refine ks_codeAny_call_defAt (fd := ksFn "__init__" qual (a2 f g p p' p'') [callSup [.Name f q0, .Name g q0'] q1 q2 q3 q4 q5, keepF f r1 r2 r3 r4, keepF g z1 z2 z3 z4] (sc2 f g) .none .none doc pm an (.ref cda) ct cc) (body := [callSup [.Name f q0, .Name g q0'] q1 q2 q3 q4 q5, keepF f r1 r2 r3 r4, keepF g z1 z2 z3 z4]) (binds := binds) hroom (X _ _ hfI) rfl hlim (codeRec_of X hcd) rfl
    (by rw [eb]; exact .of_eq (ac _ _ rfl rfl rfl)) (by simp [sc2]) (by rw [eb]; simpa using ⟨rfl, F.lc, F.lc'⟩) (fun h1 hns hk => ?_)
  have F1 : Fr (hideAll s.heap [x]) s.heap.objs.size h1 (fun y => binds.reverse.lookup y) := ⟨hns, fun b o e => hk b o (of_hideAll _ e), Nat.le_of_eq (hideAll_size _ _)⟩
  have N1 : News (hideAll s.heap [x]) s.heap.objs.size h1 [(x, excObj C t0 none .none)] := fun q hq => by
    rw [List.mem_singleton.mp hq]
    exact ⟨hk _ _ hx, Nat.ne_of_lt hxL, hideAll_none [x] (List.mem_singleton.mpr rfl)⟩
  have I1 : InstAt h1 x (excObj C t0 none .none) C none := ⟨hk _ _ hx, rfl, rfl, trivial⟩
  -- super().__init__(f, g)
  refine ks_wpAt_execs_cons (ks_wpAt_Expr_any (ks_wpAt_MethodCall ?_ (on_line rfl hl)))
  refine sup_base T hfI hcda hvs hfile (X.keeps hk) (hg.keeps hk) hmg (hb.keeps hk) hmb hns bs I1 rfl F.ks F.kc rfl rfl (by decide) (fun h2 e2 k2 => ?_)
  obtain ⟨F2, N2, l2⟩ := ks_newsPush (s := { s with heap := h1, toks := s.toks + binds.length }) F1 N1 rfl e2 k2
  refine kxs_method (s := { s with heap := h2, toks := s.toks + binds.length }) D.ks F2 X0 N2 List.mem_cons_self (odx := none) ⟨k2 _ _ I1.at_, rfl, rfl, trivial⟩ T.opq T.sup T.subB (by decide) (fun y h3 F3 N3 l3 => ?_)
  refine kxs_callWith1 N3 List.mem_cons_self (spliced_cons (loc_v F3.ns bf F.lc F.db (spliced_cons (loc_v F3.ns bg F.lc' F.db' (spliced_nil ⟨kxs_at N3 List.mem_cons_self, ?_⟩)))))
  have ux : y ≠ x := fun z => by
    have q := l3 (x, _) (List.mem_cons_of_mem _ List.mem_cons_self)
    rw [z] at q
    exact Nat.lt_irrefl _ q
  have sx : h1.objs.size ≠ x := Nat.ne_of_gt (Nat.lt_of_lt_of_le hxL (Nat.le_of_lt hns.lt))
  refine kxs_call F3 X0 N3 D.fb T.ini List.mem_cons_self (.tail ux (.tail sx (.head (fun _ z => nomatch z)))) (by rw [sizeLine_eq]; exact (by decide : 2 ≤ 16777216)) (fun t4 h4 F4 N4 l4 => ?_)
  have N4' : News (hideAll s.heap [x]) s.heap.objs.size h4 [(x, excObj C t4 none .none)] := fun q hq => N4 q (by rw [List.mem_singleton.mp hq]; simp)
  -- self.f = f
  show _root_.PySem.wpAt _ _ _ (execs _ _) _ _ _
  refine wpAt_of_wpAny (wpAny_execs_cons (plainObj_wpAny_Assign_Attribute (loc_v F4.ns bf F.lc F.db (loc_v F4.ns bs rfl (by decide) ?_))))
  refine set_exc0 D.st F4 X0 N4' List.mem_cons_self T.sa T.ovr (by unfold takerIn; rw [nf]; rfl) T.hd rfl (.head (fun _ z => nomatch z)) (by decide : 1 ≤ 1000) (fun dx h5 F5 N5 l5 => ?_)
  have dxx : dx ≠ x := Nat.ne_of_gt (l5 _ List.mem_cons_self)
  -- self.g = g
  show wpAny _ _ (execs _ _) _ _ _
  refine wpAny_execs_cons (plainObj_wpAny_Assign_Attribute (loc_v F5.ns bg F.lc' F.db' (loc_v F5.ns bs rfl (by decide) ?_)))
  refine set_excD D.st F5 X0 N5 (List.mem_cons_of_mem _ List.mem_cons_self) T.sa T.ovr (by unfold takerIn; rw [ng]; rfl) T.hd List.mem_cons_self ?_ rfl (.head ?_) ?_ (fun h6 F6 N6 => ?_)
  · simp [getL, putL, Value.isStr, F.fg, DictEntry.refKey]
  · intro q hq
    rw [List.mem_singleton.mp hq]
    exact dxx.symm
  · simp [putL, Value.isStr, F.fg]
  · show wpAny _ _ (execs _ _) _ _ _
    refine wpAny_execs_nil (hq h6 _ ⟨fun b o hb e => F6.keep b o (hideAll_get [x] e (by simpa using hb)), dx, t4, (N6 _ (List.mem_cons_of_mem _ List.mem_cons_self)).1, ?_, dxx, ns_two F.fg (by simpa [putL, Value.isStr, F.fg] using (N6 _ List.mem_cons_self).1)⟩)
    cases e : s.heap.get? dx with
    | none => rfl
    | some o =>
      have z := (N6 _ List.mem_cons_self).2.2
      rw [hideAll_get [x] e (by simpa using dxx)] at z
      cases z
end
end NCX
namespace NCX
open PySem PySem.Calls PySem.W PyProof.Rows
section
variable {prog : Program} {w : World} {A : Around} {s : Shared} {K : Frag} {C fI : Addr} {B newId initId : String} {bmB : List Value} {R : Result → Shared → Prop} {prm : Arguments} {fs : List Str} {us vs : List Value} {kw : List (Str × Value)} {mg mb : Str → Option Value}
/-- the class called, by position and by name -/
theorem made (D : Base B newId initId bmB) (ini : excInitIn K C bmB newId = true) (iC : findIn K (.ref C) "__init__" = some (some (.ref fI))) (tC : typeIn K (.ref fI) = some (.type "function")) (I : Ini K prog C fI prm fs) (ac : Acc prm fs us kw vs) (hv : vs.length = fs.length) (small : us.length ≤ sizeLine)
    (X : K.In s.heap) (hlim : s.heap.NoLimit) (hg : s.heap.Ns mainGlobals mg) (hmg : mg "super" = none) (hb : s.heap.Ns builtinsNs mb) (hmb : mb "super" = some (.type "super")) (hroom : A.depth + 1 < recursionLimit)
    (hq : ∀ h' tk e, Made s.heap h' e C (fun y => (fs.zip vs).lookup y) → R (.ok (.ret (.ref e))) { s with heap := h', toks := tk }) : codeAny (model prog w) A (.call (.ref C) ⟨us, kw⟩) R s := by
  have no : ∀ o, ¬ s.heap.get? (s.heap.objs.size + 1) = some o := fun o e => Nat.lt_irrefl _ (Nat.lt_of_succ_lt (Heap.lt_size e))
  have gone : s.heap.get? (s.heap.objs.size + 1) = none := by
    cases e : s.heap.get? (s.heap.objs.size + 1) with
    | none => rfl
    | some o => exact absurd e (no o)
  have free : K.lookup (s.heap.objs.size + 1) = none := by
    cases e : K.lookup (s.heap.objs.size + 1) with
    | none => rfl
    | some o => exact absurd (X _ _ e) (no o)
  have up : ∀ b o, s.heap.get? b = some o → (born s.heap C us).get? b = some o := fun _ _ e => born_old e
  refine run_cls D.fb X ini iC tC small ?_
  refine I ac hv (X.keeps up) (hlim.keeps up) (hg.keeps up) hmg (hb.keeps up) hmb born_at free hroom fun h' tk L => ⟨rfl, hq h' tk _ ⟨fun b o e => L.keep b o (fun z => no o (z ▸ e)) (up b o e), gone, ?_⟩⟩
  obtain ⟨d, t1, h1, h2, h3, h4⟩ := L.ob
  refine ⟨d, t1, h1, ?_, h3, h4⟩
  cases e : s.heap.get? d with
  | none => rfl
  | some o =>
    rw [up _ _ e] at h2
    cases h2
end
end NCX
set_option maxRecDepth 100000
set_option maxHeartbeats 4000000
/-! data as a whole: what a value stands for in a heap, and what an expression is worth in such words -/
namespace NC
open PySem PySem.Spec PyProof.Rows L2
inductive D where
  | non | bl (b : Bool) | int (i : Int) | str (x : Str) | lst (xs : List D) | tup (xs : List D) | dct (kvs : List (Str × D))
  | ins (C : Addr) (fs : List (Str × D)) | exc (C : Addr) (fs : List (Str × D)) | obj (a : Addr) | pen | ty (n : String) | frz (ns : List Int)
/-- an exception object of the class at C, its own dict at d, not raised -/
def ExA (C d a : Addr) : HO := .ext fun h => ∃ t1, h.get? a = some (PySem.W.excObj C t1 (some d) .none)
/-- .. one without a dict yet -/
def ExN (C a : Addr) : HO := .ext fun h => ∃ t1, h.get? a = some (PySem.W.excObj C t1 none .none)
/-- a tuple of the written part -/
def KTup (K : PySem.W.Frag) (a : Addr) (xs : List V) : Prop := ∃ (o : Obj) (its : Array Value) (n : Nat), K.lookup a = some o ∧ o.cls = .type "tuple" ∧ o.data = .seq its n ∧ its.size ≤ sizeLine ∧ Vals xs its.toList
theorem KTup.sq {K : PySem.W.Frag} {a : Addr} {xs : List V} (h : KTup K a xs) (H : Hp) : SqT K H a xs := .inr h
mutual
inductive Rp (K : PySem.W.Frag) (pn : Addr) (M : Addr → Prop) (H : Hp) : V → D → Prop
  | non : Rp K pn M H .non .non
  | bl (b : Bool) : Rp K pn M H (.bl b) (.bl b)
  | int (i : Int) : Rp K pn M H (.int i) (.int i)
  | str (x : Str) : Rp K pn M H (.str x) (.str x)
  | ty (n : String) : Rp K pn M H (.ty n) (.ty n)
  | lst {a : Addr} {xs : List V} {ds : List D} : H a = some (.lst xs) → ¬ M a → RpAll K pn M H xs ds → Rp K pn M H (.ref a) (.lst ds)
  | tup {a : Addr} {xs : List V} {ds : List D} : H a = some (.tup xs) → ¬ M a → RpAll K pn M H xs ds → Rp K pn M H (.ref a) (.tup ds)
  | tupK {a : Addr} {xs : List V} {ds : List D} : KTup K a xs → RpAll K pn M H xs ds → Rp K pn M H (.ref a) (.tup ds)
  | dct {a : Addr} {kvs : List (Key × V)} {ds : List (Str × D)} : H a = some (.dK kvs) → ¬ M a → RpFs K pn M H (fun (k : Key) (x : Str) => k = Sum.inr x) kvs ds → Rp K pn M H (.ref a) (.dct ds)
  | ins {a C dx : Addr} {fs : List (Str × V)} {ds : List (Str × D)} : H a = some (.ins C dx fs) → ¬ M a → RpFs K pn M H (fun (k : Str) (x : Str) => k = x) fs ds → Rp K pn M H (.ref a) (.ins C ds)
  | exc {a C d : Addr} {fs : List (Str × V)} {ds : List (Str × D)} : H a = some (ExA C d a) → ¬ M a → H d = some (.xd fs) → ¬ M d → RpFs K pn M H (fun (k : Str) (x : Str) => k = x) fs ds → Rp K pn M H (.ref a) (.exc C ds)
  | exc0 {a C : Addr} : H a = some (ExN C a) → ¬ M a → Rp K pn M H (.ref a) (.exc C [])
  | obj (a : Addr) : Rp K pn M H (.ref a) (.obj a)
  | pen : Rp K pn M H (.ref pn) .pen
  | frz {a : Addr} {ns : List Int} : Rd H a (.lst (ns.map V.int)) → ¬ M a → Rp K pn M H (.ref a) (.frz ns)
inductive RpAll (K : PySem.W.Frag) (pn : Addr) (M : Addr → Prop) (H : Hp) : List V → List D → Prop
  | nil : RpAll K pn M H [] []
  | cons {v : V} {vs : List V} {d : D} {ds : List D} : Rp K pn M H v d → RpAll K pn M H vs ds → RpAll K pn M H (v :: vs) (d :: ds)
inductive RpFs (K : PySem.W.Frag) (pn : Addr) (M : Addr → Prop) (H : Hp) : {κ : Type} → (κ → Str → Prop) → List (κ × V) → List (Str × D) → Prop
  | nil {κ : Type} {r : κ → Str → Prop} : RpFs K pn M H r [] []
  | cons {κ : Type} {r : κ → Str → Prop} {k : κ} {v : V} {vs : List (κ × V)} {x : Str} {d : D} {ds : List (Str × D)} : r k x → Rp K pn M H v d → RpFs K pn M H r vs ds → RpFs K pn M H r ((k, v) :: vs) ((x, d) :: ds)
end
/-- what may not change, stays -/
def Gm (M : Addr → Prop) (H H' : Hp) : Prop := ∀ a o, ¬ M a → H a = some o → H' a = some o
/-- all but the pen stays -/
def Gr (pn : Addr) (H H' : Hp) : Prop := ∀ a o, a ≠ pn → H a = some o → H' a = some o
theorem Gr.refl {pn : Addr} (H : Hp) : Gr pn H H := fun _ _ _ e => e
theorem Gr.trans {pn : Addr} {H H1 H2 : Hp} (g : Gr pn H H1) (g' : Gr pn H1 H2) : Gr pn H H2 := fun a o n e => g' a o n (g a o n e)
theorem Gr.new {pn p : Addr} {H : Hp} {o : HO} (h : H p = none) : Gr pn H (upd H p o) := fun a u _ e => by
  rw [upd_ne (ne_of_none e h)]
  exact e
theorem Gr.free {pn p : Addr} {H H' : Hp} (g : Gr pn H H') (h : H' p = none) (hp : ∃ o, H' pn = some o) : H p = none := by
  cases e : H p with
  | none => rfl
  | some o =>
    have n : p ≠ pn := fun z => by
      obtain ⟨u, hu⟩ := hp
      rw [z, hu] at h
      cases h
    rw [g p o n e] at h
    cases h
theorem Gm.of {pn : Addr} {M : Addr → Prop} {H H' : Hp} (g : Gr pn H H') (m : M pn) : Gm M H H' := fun a o n e => g a o (fun z => n (z ▸ m)) e
theorem rd_mono {M : Addr → Prop} {H H' : Hp} {a : Addr} {u : HO} (g : Gm M H H') (n : ¬ M a) (h : Rd H a u) : Rd H' a u := by
  rcases h with h | ⟨o, h⟩
  · exact .inl (g a _ n h)
  · exact .inr ⟨o, g a _ n h⟩
theorem sqL_mono {K : PySem.W.Frag} {M : Addr → Prop} {H H' : Hp} {a : Addr} {xs : List V} (g : Gm M H H') (n : ¬ M a) (h : SqL K H a xs) : SqL K H' a xs := by
  rcases h with (h | ⟨o, h⟩) | h
  · exact .inl (.inl (g a _ n h))
  · exact .inl (.inr ⟨o, g a _ n h⟩)
  · exact .inr h
theorem sqT_mono {K : PySem.W.Frag} {M : Addr → Prop} {H H' : Hp} {a : Addr} {xs : List V} (g : Gm M H H') (n : ¬ M a) (h : SqT K H a xs) : SqT K H' a xs := by
  rcases h with (h | ⟨o, h⟩) | h
  · exact .inl (.inl (g a _ n h))
  · exact .inl (.inr ⟨o, g a _ n h⟩)
  · exact .inr h
section
variable {K : PySem.W.Frag} {pn : Addr} {M M' : Addr → Prop} {H H' : Hp}
theorem Rp.mono3 (m : ∀ a, M' a → M a) (g : Gm M H H') : (∀ v d, Rp K pn M H v d → Rp K pn M' H' v d) ∧ (∀ vs ds, RpAll K pn M H vs ds → RpAll K pn M' H' vs ds) := by
  have key : ∀ v d (h : Rp K pn M H v d), Rp K pn M' H' v d := fun v d h => by
    refine Rp.rec (motive_1 := fun v d _ => Rp K pn M' H' v d) (motive_2 := fun vs ds _ => RpAll K pn M' H' vs ds) (motive_3 := fun r vs ds _ => RpFs K pn M' H' r vs ds)
      .non .bl .int .str .ty (fun h n _ ih => .lst (g _ _ n h) (fun z => n (m _ z)) ih) (fun h n _ ih => .tup (g _ _ n h) (fun z => n (m _ z)) ih) (fun h _ ih => .tupK h ih)
      (fun h n _ ih => .dct (g _ _ n h) (fun z => n (m _ z)) ih) (fun h n _ ih => .ins (g _ _ n h) (fun z => n (m _ z)) ih) (fun h n h2 n2 _ ih => .exc (g _ _ n h) (fun z => n (m _ z)) (g _ _ n2 h2) (fun z => n2 (m _ z)) ih) (fun h n => .exc0 (g _ _ n h) (fun z => n (m _ z))) .obj .pen (fun h n => .frz (rd_mono g n h) (fun z => n (m _ z)))
      .nil (fun _ _ i1 i2 => .cons i1 i2) .nil (fun r _ _ i1 i2 => .cons r i1 i2) h
  refine ⟨key, fun vs => ?_⟩
  induction vs with
  | nil =>
    intro ds h
    cases h
    exact .nil
  | cons v vs ih =>
    intro ds h
    cases h with
    | cons h1 h2 => exact .cons (key _ _ h1) (ih _ h2)
theorem Rp.mono {v : V} {d : D} (g : Gm M H H') (h : Rp K pn M H v d) : Rp K pn M H' v d := (Rp.mono3 (fun _ z => z) g).1 v d h
theorem RpAll.mono {vs : List V} {ds : List D} (g : Gm M H H') (h : RpAll K pn M H vs ds) : RpAll K pn M H' vs ds := (Rp.mono3 (fun _ z => z) g).2 vs ds h
theorem Rp.less {v : V} {d : D} (m : ∀ a, M' a → M a) (h : Rp K pn M H v d) : Rp K pn M' H v d := (Rp.mono3 m (fun _ _ _ e => e)).1 v d h
theorem RpAll.less {vs : List V} {ds : List D} (m : ∀ a, M' a → M a) (h : RpAll K pn M H vs ds) : RpAll K pn M' H vs ds := (Rp.mono3 m (fun _ _ _ e => e)).2 vs ds h
/-- what is not there is not reached -/
theorem Rp.mask3 {p : Addr} (hp : H p = none) : (∀ v d, Rp K pn M H v d → Rp K pn (fun x => M x ∨ x = p) H v d) ∧ (∀ vs ds, RpAll K pn M H vs ds → RpAll K pn (fun x => M x ∨ x = p) H vs ds) := by
  have no : ∀ {a : Addr} {o : HO}, H a = some o → ¬ M a → ¬ (M a ∨ a = p) := fun h n z => z.elim n fun e => by
    rw [e, hp] at h
    cases h
  have key : ∀ v d (h : Rp K pn M H v d), Rp K pn (fun x => M x ∨ x = p) H v d := fun v d h => by
    refine Rp.rec (motive_1 := fun v d _ => Rp K pn (fun x => M x ∨ x = p) H v d) (motive_2 := fun vs ds _ => RpAll K pn (fun x => M x ∨ x = p) H vs ds) (motive_3 := fun r vs ds _ => RpFs K pn (fun x => M x ∨ x = p) H r vs ds)
      .non .bl .int .str .ty (fun h n _ ih => .lst h (no h n) ih) (fun h n _ ih => .tup h (no h n) ih) (fun h _ ih => .tupK h ih)
      (fun h n _ ih => .dct h (no h n) ih) (fun h n _ ih => .ins h (no h n) ih) (fun h n h2 n2 _ ih => .exc h (no h n) h2 (no h2 n2) ih) (fun h n => .exc0 h (no h n)) .obj .pen (fun h n => .frz h (fun z => z.elim n fun e => by rw [e] at h; rcases h with h | ⟨o, h⟩ <;> (rw [hp] at h; cases h)))
      .nil (fun _ _ i1 i2 => .cons i1 i2) .nil (fun r _ _ i1 i2 => .cons r i1 i2) h
  refine ⟨key, fun vs => ?_⟩
  induction vs with
  | nil =>
    intro ds h
    cases h
    exact .nil
  | cons v vs ih =>
    intro ds h
    cases h with
    | cons h1 h2 => exact .cons (key _ _ h1) (ih _ h2)
theorem RpAll.len : ∀ {vs : List V} {ds : List D}, RpAll K pn M H vs ds → vs.length = ds.length
  | [], _, h => by cases h; rfl
  | _ :: _, _, h => by
    cases h with
    | cons _ h2 => rw [List.length_cons, List.length_cons, RpAll.len h2]
theorem RpAll.get : ∀ {vs : List V} {ds : List D} {i : Nat} {d : D}, RpAll K pn M H vs ds → ds[i]? = some d → ∃ v, vs[i]? = some v ∧ Rp K pn M H v d
  | _, [], _, _, _, e => by simp at e
  | _, d :: ds, 0, _, h, e => by
    cases h with
    | cons h1 _ =>
      simp only [List.getElem?_cons_zero, Option.some.injEq] at e
      subst e
      exact ⟨_, rfl, h1⟩
  | _, d :: ds, i + 1, d', h, e => by
    cases h with
    | cons _ h2 =>
      obtain ⟨v, e1, e2⟩ := RpAll.get (i := i) (d := d') h2 (by simpa using e)
      exact ⟨v, by simpa using e1, e2⟩
theorem RpAll.getV : ∀ {vs : List V} {ds : List D} {i : Nat} {v : V}, RpAll K pn M H vs ds → vs[i]? = some v → ∃ d, ds[i]? = some d ∧ Rp K pn M H v d
  | [], _, _, _, _, e => by simp at e
  | v :: vs, _, 0, _, h, e => by
    cases h with
    | cons h1 _ =>
      simp only [List.getElem?_cons_zero, Option.some.injEq] at e
      subst e
      exact ⟨_, rfl, h1⟩
  | _ :: vs, _, i + 1, v', h, e => by
    cases h with
    | cons _ h2 =>
      obtain ⟨v, e1, e2⟩ := RpAll.getV (i := i) (v := v') h2 (by simpa using e)
      exact ⟨v, by simpa using e1, e2⟩
theorem RpAll.append : ∀ {vs us : List V} {ds es : List D}, RpAll K pn M H vs ds → RpAll K pn M H us es → RpAll K pn M H (vs ++ us) (ds ++ es)
  | [], _, _, _, h, g => by cases h; exact g
  | _ :: _, _, _, _, h, g => by
    cases h with
    | cons h1 h2 => exact .cons h1 (RpAll.append h2 g)
theorem RpAll.take : ∀ {vs : List V} {ds : List D} (n : Nat), RpAll K pn M H vs ds → RpAll K pn M H (vs.take n) (ds.take n)
  | _, _, 0, _ => by rw [List.take_zero, List.take_zero]; exact .nil
  | [], _, n + 1, h => by cases h; exact .nil
  | _ :: _, _, n + 1, h => by
    cases h with
    | cons h1 h2 => exact .cons h1 (RpAll.take n h2)
theorem RpAll.drop : ∀ {vs : List V} {ds : List D} (n : Nat), RpAll K pn M H vs ds → RpAll K pn M H (vs.drop n) (ds.drop n)
  | _, _, 0, h => h
  | [], _, n + 1, h => by cases h; exact .nil
  | _ :: _, _, n + 1, h => by
    cases h with
    | cons h1 h2 => exact RpAll.drop n h2
end
/-! ### the pen -/
def kS (x : Str) : Key := Sum.inr x
/-- the pen's dict at pn; b more draws are allowed -/
structure PenAt (K : PySem.W.Frag) (M : Addr → Prop) (H : Hp) (pn : Addr) (b : Nat) : Prop where
  ex : ∃ (c : Addr) (ns : List Int) (t l : Int), H pn = some (.dK [(kS "cells", .ref c), (kS "turn", .int t), (kS "left", .int l)]) ∧ H c = some (.lst (ns.map V.int)) ∧ ¬ M c ∧ ns.length ≤ 63 ∧ 0 ≤ t ∧ t + b ≤ 1000000000 ∧ 0 ≤ l
theorem PenAt.mono {K : PySem.W.Frag} {M : Addr → Prop} {H H' : Hp} {pn : Addr} {b : Nat} (g : Gm M H H') (hp : H' pn = H pn) (h : PenAt K M H pn b) : PenAt K M H' pn b := by
  obtain ⟨c, ns, t, l, h1, h2, h3, h4⟩ := h.ex
  exact ⟨c, ns, t, l, by rw [hp]; exact h1, g _ _ h3 h2, h3, h4⟩
theorem PenAt.there {K : PySem.W.Frag} {M : Addr → Prop} {H : Hp} {pn : Addr} {b : Nat} (h : PenAt K M H pn b) : ∃ o, H pn = some o := by
  obtain ⟨c, ns, t, l, h1, _⟩ := h.ex
  exact ⟨_, h1⟩
theorem PenAt.less {K : PySem.W.Frag} {M : Addr → Prop} {H : Hp} {pn : Addr} {b b' : Nat} (h : PenAt K M H pn b) (hb : b' ≤ b) : PenAt K M H pn b' := by
  obtain ⟨c, ns, t, l, h1, h2, h3, h4, h5, h6, h7⟩ := h.ex
  exact ⟨c, ns, t, l, h1, h2, h3, h4, h5, by omega, h7⟩
/-! ### a frame's slots -/
inductive Sl where
  | val (d : D) | own (xs : List D)
abbrev Rho := List (Option Sl)
structure Pc where
  pn : Addr
  H0 : Hp
  Mc : Addr → Prop
/-- what a frame holds without a name: an object as it stands, and data -/
abbrev Gh := Addr × Option HO × List V × List D
structure Rel (K : PySem.W.Frag) (P : Pc) (gs : List Gh) (M : Addr → Prop) (σ : L2.St) (H : Hp) (ρ : Rho) (b : Nat) : Prop where
  len : σ.length = ρ.length
  val : ∀ (i : Nat) (d : D), ρ[i]? = some (some (.val d)) → ∃ v, σ[i]? = some (some v) ∧ Rp K P.pn M H v d
  own : ∀ (i : Nat) (xs : List D), ρ[i]? = some (some (.own xs)) → ∃ a vs, σ[i]? = some (some (.ref a)) ∧ H a = some (.lst vs) ∧ RpAll K P.pn M H vs xs ∧ M a ∧ a ≠ P.pn ∧ P.H0 a = none
  sep : ∀ (i j : Nat) (xs ys : List D) (a : Addr), i ≠ j → ρ[i]? = some (some (.own xs)) → ρ[j]? = some (some (.own ys)) → σ[i]? = some (some (.ref a)) → σ[j]? ≠ some (some (.ref a))
  pen : PenAt K M H P.pn b
  mpn : M P.pn
  dom : ∀ a, M a → ∃ o, H a = some o
  ext : Gr P.pn P.H0 H
  sub : ∀ a, P.Mc a → M a
  cdm : ∀ a, P.Mc a → ∃ o, P.H0 a = some o
  gho : ∀ p ∈ gs, (∀ o, p.2.1 = some o → H p.1 = some o ∧ ¬ M p.1) ∧ RpAll K P.pn M H p.2.2.1 p.2.2.2
theorem Rel.gm {K : PySem.W.Frag} {P : Pc} {gs : List Gh} {M : Addr → Prop} {σ : L2.St} {H H' : Hp} {ρ : Rho} {b : Nat} (R : Rel K P gs M σ H ρ b) (g : Gr P.pn H H') : Gm M H H' := .of g R.mpn
/-- the heap grows, the pen is used -/
theorem Rel.grow {K : PySem.W.Frag} {P : Pc} {gs : List Gh} {M : Addr → Prop} {σ : L2.St} {H H' : Hp} {ρ : Rho} {b b' : Nat} (R : Rel K P gs M σ H ρ b) (g : Gr P.pn H H') (p : PenAt K M H' P.pn b') : Rel K P gs M σ H' ρ b' where
  len := R.len
  val := fun i d e => by
    obtain ⟨v, h1, h2⟩ := R.val i d e
    exact ⟨v, h1, h2.mono (R.gm g)⟩
  own := fun i xs e => by
    obtain ⟨a, vs, h1, h2, h3, h4, h5, h6⟩ := R.own i xs e
    exact ⟨a, vs, h1, g a _ h5 h2, h3.mono (R.gm g), h4, h5, h6⟩
  sep := R.sep
  pen := p
  mpn := R.mpn
  dom := fun a m => by
    by_cases e : a = P.pn
    · rw [e]
      exact p.there
    · obtain ⟨o, h⟩ := R.dom a m
      exact ⟨o, g a o e h⟩
  ext := R.ext.trans g
  sub := R.sub
  cdm := R.cdm
  gho := fun q hq => ⟨fun o e => ⟨R.gm g _ _ ((R.gho q hq).1 o e).2 ((R.gho q hq).1 o e).1, ((R.gho q hq).1 o e).2⟩, (R.gho q hq).2.mono (R.gm g)⟩
/-- a new object -/
theorem Rel.new {K : PySem.W.Frag} {P : Pc} {gs : List Gh} {M : Addr → Prop} {σ : L2.St} {H : Hp} {ρ : Rho} {b : Nat} {p : Addr} {o : HO} (R : Rel K P gs M σ H ρ b) (h : H p = none) : Rel K P gs M σ (upd H p o) ρ b :=
  R.grow (.new h) (R.pen.mono (.of (.new h) R.mpn) (upd_ne (by obtain ⟨u, e⟩ := R.pen.there; exact ne_of_none e h)))
theorem Rel.notM {K : PySem.W.Frag} {P : Pc} {gs : List Gh} {M : Addr → Prop} {σ : L2.St} {H : Hp} {ρ : Rho} {b : Nat} {p : Addr} (R : Rel K P gs M σ H ρ b) (h : H p = none) : ¬ M p := fun m => by
  obtain ⟨o, e⟩ := R.dom p m
  rw [h] at e
  cases e
/-- an address that is not there yet may be the frame's own from now on -/
theorem Rel.mask {K : PySem.W.Frag} {P : Pc} {gs : List Gh} {M : Addr → Prop} {σ : L2.St} {H : Hp} {ρ : Rho} {b : Nat} {p : Addr} {o : HO} (R : Rel K P gs M σ H ρ b) (h : H p = none) : Rel K P gs (fun x => M x ∨ x = p) σ (upd H p o) ρ b := by
  have S := R.new (o := o) h
  have g : Gm (fun x => M x ∨ x = p) H (upd H p o) := fun a u n e => by rw [upd_ne (fun z => n (.inr z))]; exact e
  obtain ⟨m1, m2⟩ := Rp.mask3 (K := K) (pn := P.pn) (M := M) h
  refine ⟨R.len, fun i d e => ?_, fun i xs e => ?_, R.sep, ?_, .inl R.mpn, fun a m => ?_, S.ext, fun a z => .inl (R.sub a z), R.cdm, fun q hq => ⟨fun o' e => ?_, (m2 _ _ (R.gho q hq).2).mono g⟩⟩
  · obtain ⟨v, h1, h2⟩ := R.val i d e
    exact ⟨v, h1, (m1 _ _ h2).mono g⟩
  · obtain ⟨a, vs, h1, h2, h3, h4, h5, h6⟩ := R.own i xs e
    exact ⟨a, vs, h1, by rw [upd_ne (ne_of_none h2 h)]; exact h2, (m2 _ _ h3).mono g, .inl h4, h5, h6⟩
  · obtain ⟨c, ns, t, l, h1, h2, h3, h4⟩ := R.pen.ex
    have n3 : ¬ (M c ∨ c = p) := fun z => z.elim h3 fun e => by
      rw [e, h] at h2
      cases h2
    exact ⟨c, ns, t, l, by rw [upd_ne (ne_of_none h1 h)]; exact h1, by rw [upd_ne (ne_of_none h2 h)]; exact h2, n3, h4⟩
  · rcases m with m | m
    · exact S.dom a m
    · rw [m]
      exact ⟨o, upd_same⟩
  · obtain ⟨h1, h2⟩ := (R.gho q hq).1 o' e
    have n : q.1 ≠ p := ne_of_none h1 h
    exact ⟨by rw [upd_ne n]; exact h1, fun z => z.elim h2 n⟩
section
variable {K : PySem.W.Frag} {P : Pc} {gs : List Gh} {M : Addr → Prop} {σ : L2.St} {H : Hp} {ρ : Rho} {b : Nat}
theorem set_get {α : Type} {l : List α} {i j : Nat} {x y : α} (h : (l.set i x)[j]? = some y) : (i = j ∧ x = y) ∨ (i ≠ j ∧ l[j]? = some y) := by
  rw [List.getElem?_set] at h
  by_cases e : i = j
  · rw [if_pos e] at h
    split at h
    · exact .inl ⟨e, Option.some.inj h⟩
    · cases h
  · rw [if_neg e] at h
    exact .inr ⟨e, h⟩
theorem get_set_same {α : Type} {l : List α} {i : Nat} {x : α} (h : i < l.length) : (l.set i x)[i]? = some x := by
  rw [List.getElem?_set, if_pos rfl, if_pos h]
theorem get_set_ne {α : Type} {l : List α} {i j : Nat} {x : α} (h : i ≠ j) : (l.set i x)[j]? = l[j]? := by
  rw [List.getElem?_set, if_neg h]
theorem lt_of_get {α : Type} {l : List α} {i : Nat} {x : α} (h : l[i]? = some x) : i < l.length := (List.getElem?_eq_some_iff.mp h).1
/-- a slot gets a datum -/
theorem Rel.setVal {i : Nat} {v : V} {d : D} (R : Rel K P gs M σ H ρ b) (hi : i < ρ.length) (r : Rp K P.pn M H v d) : Rel K P gs M (σ.set i (some v)) H (ρ.set i (some (.val d))) b where
  len := by rw [List.length_set, List.length_set]; exact R.len
  val := fun j d' e => by
    rcases set_get e with ⟨rfl, e2⟩ | ⟨n, e2⟩
    · cases e2
      exact ⟨v, get_set_same (by rw [R.len]; exact hi), r⟩
    · obtain ⟨u, h1, h2⟩ := R.val j d' e2
      exact ⟨u, by rw [get_set_ne n]; exact h1, h2⟩
  own := fun j xs e => by
    rcases set_get e with ⟨rfl, e2⟩ | ⟨n, e2⟩
    · cases e2
    · obtain ⟨a, vs, h1, h2⟩ := R.own j xs e2
      exact ⟨a, vs, by rw [get_set_ne n]; exact h1, h2⟩
  sep := fun j l xs ys a ne h1 h2 h3 => by
    rcases set_get h1 with ⟨rfl, e⟩ | ⟨n, e⟩
    · cases e
    · rcases set_get h2 with ⟨rfl, e'⟩ | ⟨n', e'⟩
      · cases e'
      · rw [get_set_ne n] at h3
        rw [get_set_ne n']
        exact R.sep j l xs ys a ne e e' h3
  pen := R.pen
  mpn := R.mpn
  dom := R.dom
  ext := R.ext
  sub := R.sub
  cdm := R.cdm
  gho := R.gho
/-- a slot gets a new list of the frame's own -/
theorem Rel.setOwn {i : Nat} {a : Addr} {vs : List V} {xs : List D} {b' : Nat} {H1 : Hp} (R0 : Rel K P gs M σ H1 ρ b') (g : Gr P.pn H1 H) (R : Rel K P gs (fun x => M x ∨ x = a) σ H ρ b) (hi : i < ρ.length) (n : H1 a = none) (h : H a = some (.lst vs)) (r : RpAll K P.pn (fun x => M x ∨ x = a) H vs xs) :
    Rel K P gs (fun x => M x ∨ x = a) (σ.set i (some (.ref a))) H (ρ.set i (some (.own xs))) b where
  len := by rw [List.length_set, List.length_set]; exact R.len
  val := fun j d' e => by
    rcases set_get e with ⟨rfl, e2⟩ | ⟨n, e2⟩
    · cases e2
    · obtain ⟨u, h1, h2⟩ := R.val j d' e2
      exact ⟨u, by rw [get_set_ne n]; exact h1, h2⟩
  own := fun j xs' e => by
    rcases set_get e with ⟨rfl, e2⟩ | ⟨n', e2⟩
    · cases e2
      refine ⟨a, vs, get_set_same (by rw [R.len]; exact hi), h, r, .inr rfl, fun z => ?_, R0.ext.free n R0.pen.there⟩
      obtain ⟨o, ho⟩ := R0.pen.there
      rw [← z, n] at ho
      cases ho
    · obtain ⟨c, us, h1, h2⟩ := R.own j xs' e2
      exact ⟨c, us, by rw [get_set_ne n']; exact h1, h2⟩
  sep := fun j l xs1 ys c ne h1 h2 h3 h4 => by
    have other : ∀ (m : Nat) (zs : List D), ρ[m]? = some (some (.own zs)) → σ[m]? ≠ some (some (V.ref a)) := fun m zs e q => by
      obtain ⟨c, us, f1, f2, _⟩ := R0.own m zs e
      rw [q] at f1
      cases f1
      rw [n] at f2
      cases f2
    rcases set_get h1 with ⟨rfl, e⟩ | ⟨n1, e⟩
    · rcases set_get h2 with ⟨rfl, e'⟩ | ⟨n', e'⟩
      · exact ne rfl
      · rw [get_set_same (by rw [R.len]; exact hi)] at h3
        cases h3
        rw [get_set_ne n'] at h4
        exact other l ys e' h4
    · rcases set_get h2 with ⟨rfl, e'⟩ | ⟨n', e'⟩
      · rw [get_set_same (by rw [R.len]; exact hi)] at h4
        cases h4
        rw [get_set_ne n1] at h3
        exact other j xs1 e h3
      · rw [get_set_ne n1] at h3
        rw [get_set_ne n'] at h4
        exact R.sep j l xs1 ys c ne e e' h3 h4
  pen := R.pen
  mpn := R.mpn
  dom := R.dom
  ext := R.ext
  sub := R.sub
  cdm := R.cdm
  gho := R.gho
/-- the frame's own list in slot i is changed -/
theorem Rel.mut {i : Nat} {a : Addr} {xs ys : List D} {us : List V} (R : Rel K P gs M σ H ρ b) (h : ρ[i]? = some (some (.own xs))) (ha : σ[i]? = some (some (.ref a))) (r : RpAll K P.pn M H us ys) : Rel K P gs M σ (upd H a (.lst us)) (ρ.set i (some (.own ys))) b := by
  obtain ⟨c, vs, h1, h2, h3, h4, h5, h6⟩ := R.own i xs h
  rw [ha] at h1
  cases h1
  have g : Gm M H (upd H a (.lst us)) := fun x u n e => by rw [upd_ne (show x ≠ a from fun z => n (by rw [z]; exact h4))]; exact e
  refine ⟨by rw [List.length_set]; exact R.len, fun j d e => ?_, fun j zs e => ?_, fun j l xs1 ys1 c ne e1 e2 e3 => ?_, ?_, R.mpn, fun x m => ?_, fun x u n e => ?_, R.sub, R.cdm, fun q hq => ⟨fun o' e => ⟨g _ _ ((R.gho q hq).1 o' e).2 ((R.gho q hq).1 o' e).1, ((R.gho q hq).1 o' e).2⟩, (R.gho q hq).2.mono g⟩⟩
  · rcases set_get e with ⟨rfl, e2⟩ | ⟨n, e2⟩
    · cases e2
    · obtain ⟨v, f1, f2⟩ := R.val j d e2
      exact ⟨v, f1, f2.mono g⟩
  · rcases set_get e with ⟨rfl, e2⟩ | ⟨n, e2⟩
    · cases e2
      exact ⟨a, us, ha, upd_same, r.mono g, h4, h5, h6⟩
    · obtain ⟨c, ws, f1, f2, f3, f4⟩ := R.own j zs e2
      refine ⟨c, ws, f1, ?_, f3.mono g, f4⟩
      rw [upd_ne (show c ≠ a from fun z => R.sep i j xs zs a n h e2 ha (by rw [z] at f1; exact f1))]
      exact f2
  · have e1' : ∃ zs, ρ[j]? = some (some (.own zs)) := by
      rcases set_get e1 with ⟨rfl, _⟩ | ⟨_, e⟩
      · exact ⟨_, h⟩
      · exact ⟨_, e⟩
    have e2' : ∃ zs, ρ[l]? = some (some (.own zs)) := by
      rcases set_get e2 with ⟨rfl, _⟩ | ⟨_, e⟩
      · exact ⟨_, h⟩
      · exact ⟨_, e⟩
    obtain ⟨z1, e1'⟩ := e1'
    obtain ⟨z2, e2'⟩ := e2'
    exact R.sep j l z1 z2 c ne e1' e2' e3
  · refine R.pen.mono g (upd_ne h5.symm)
  · by_cases z : x = a
    · rw [z]
      exact ⟨_, upd_same⟩
    · rw [upd_ne z]
      exact R.dom x m
  · by_cases z : x = a
    · rw [z, h6] at e
      cases e
    · rw [upd_ne z]
      exact R.ext x u n e
/-- the frame's own list in slot i is from now on a datum -/
theorem Rel.freeze {i : Nat} {xs : List D} (R : Rel K P gs M σ H ρ b) (h : ρ[i]? = some (some (.own xs))) : ∃ M', Rel K P gs M' σ H (ρ.set i (some (.val (.lst xs)))) b := by
  obtain ⟨a, vs, h1, h2, h3, h4, h5, h6⟩ := R.own i xs h
  have l : ∀ x, (M x ∧ x ≠ a) → M x := fun x z => z.1
  refine ⟨fun x => M x ∧ x ≠ a, by rw [List.length_set]; exact R.len, fun j d e => ?_, fun j zs e => ?_, fun j l xs1 ys1 c ne e1 e2 e3 => ?_, ?_, ⟨R.mpn, h5.symm⟩, fun x m => R.dom x m.1, R.ext, fun x m => ⟨R.sub x m, fun z => ?_⟩, R.cdm, fun q hq => ⟨fun o' e => ⟨((R.gho q hq).1 o' e).1, fun z => ((R.gho q hq).1 o' e).2 z.1⟩, (R.gho q hq).2.less l⟩⟩
  · rcases set_get e with ⟨rfl, e2⟩ | ⟨n, e2⟩
    · cases e2
      exact ⟨.ref a, h1, .lst h2 (fun z => z.2 rfl) (h3.less l)⟩
    · obtain ⟨v, f1, f2⟩ := R.val j d e2
      exact ⟨v, f1, f2.less l⟩
  · rcases set_get e with ⟨rfl, e2⟩ | ⟨n, e2⟩
    · cases e2
    · obtain ⟨c, ws, f1, f2, f3, f4, f5, f6⟩ := R.own j zs e2
      exact ⟨c, ws, f1, f2, f3.less l, ⟨f4, fun z => R.sep i j xs zs a n h e2 h1 (by rw [z] at f1; exact f1)⟩, f5, f6⟩
  · rcases set_get e1 with ⟨rfl, q⟩ | ⟨_, q1⟩
    · cases q
    · rcases set_get e2 with ⟨rfl, q⟩ | ⟨_, q2⟩
      · cases q
      · exact R.sep j l xs1 ys1 c ne q1 q2 e3
  · obtain ⟨c, ns, t, l, f1, f2, f3, f4⟩ := R.pen.ex
    exact ⟨c, ns, t, l, f1, f2, fun z => f3 z.1, f4⟩
  · obtain ⟨o, ho⟩ := R.cdm x m
    rw [z, h6] at ho
    cases ho
end
section
variable {K : PySem.W.Frag} {P : Pc} {gs : List Gh} {M : Addr → Prop} {σ : L2.St} {H : Hp} {ρ : Rho} {b : Nat}
/-- an object that the frame holds without a name -/
theorem Rel.hold {a : Addr} {o : Option HO} {vs : List V} {ds : List D} (R : Rel K P gs M σ H ρ b) (h : ∀ u, o = some u → H a = some u ∧ ¬ M a) (r : RpAll K P.pn M H vs ds) : Rel K P ((a, o, vs, ds) :: gs) M σ H ρ b :=
  ⟨R.len, R.val, R.own, R.sep, R.pen, R.mpn, R.dom, R.ext, R.sub, R.cdm, fun q hq => by
    rcases List.mem_cons.mp hq with e | e
    · rw [e]
      exact ⟨h, r⟩
    · exact R.gho q e⟩
theorem Rel.drop {g : Gh} (R : Rel K P (g :: gs) M σ H ρ b) : Rel K P gs M σ H ρ b :=
  ⟨R.len, R.val, R.own, R.sep, R.pen, R.mpn, R.dom, R.ext, R.sub, R.cdm, fun q hq => R.gho q (List.mem_cons_of_mem _ hq)⟩
end
end NC
set_option maxRecDepth 100000
set_option maxHeartbeats 4000000
namespace NC
open PySem PySem.Spec PyProof.Rows L2
abbrev WE := Rho → Nat → (D → Nat → Prop) → Prop
abbrev WT := Rho → Nat → (Bool → Nat → Prop) → Prop
abbrev WA := Rho → Nat → (List D → Nat → Prop) → Prop
/-- a value that stands for d, or the frame's own list -/
def RpT (K : PySem.W.Frag) (pn : Addr) (M : Addr → Prop) (H : Hp) (v : V) (d : D) : Prop := Rp K pn M H v d ∨ ∃ a vs xs, v = .ref a ∧ d = .lst xs ∧ H a = some (.lst vs) ∧ a ≠ pn ∧ RpAll K pn M H vs xs
section
variable (X : Cx) (P : Pc)
/-- an expression that is worth a datum -/
def DE (e : Expr) (w : WE) : Prop := ∃ t, PE X e t ∧ ∀ gs M σ H ρ b (Q : VK) (k : D → Nat → Prop), Rel X.K P gs M σ H ρ b → w ρ b k →
  (∀ d b' v H', k d b' → Gr P.pn H H' → Rel X.K P gs M σ H' ρ b' → Rp X.K P.pn M H' v d → Q v H') → t σ H Q
/-- .. whose top may be the frame's own list -/
def DB (e : Expr) (w : WE) : Prop := ∃ t, PE X e t ∧ ∀ gs M σ H ρ b (Q : VK) (k : D → Nat → Prop), Rel X.K P gs M σ H ρ b → w ρ b k →
  (∀ d b' v H', k d b' → Gr P.pn H H' → Rel X.K P gs M σ H' ρ b' → RpT X.K P.pn M H' v d → Q v H') → t σ H Q
/-- .. that makes a new list -/
def DF (e : Expr) (w : WA) : Prop := ∃ t, PE X e t ∧ ∀ gs M σ H ρ b (Q : VK) (k : List D → Nat → Prop), Rel X.K P gs M σ H ρ b → w ρ b k →
  (∀ xs b' a vs H', k xs b' → Gr P.pn H H' → Rel X.K P gs M σ H' ρ b' → Rel X.K P gs (fun x => M x ∨ x = a) σ H' ρ b' → H a = none → H' a = some (.lst vs) → RpAll X.K P.pn (fun x => M x ∨ x = a) H' vs xs → Q (.ref a) H') → t σ H Q
def DT (e : Expr) (w : WT) : Prop := ∃ t, PT X e t ∧ ∀ gs M σ H ρ b (Q : Bool → Hp → Prop) (k : Bool → Nat → Prop), Rel X.K P gs M σ H ρ b → w ρ b k →
  (∀ c b' H', k c b' → Gr P.pn H H' → Rel X.K P gs M σ H' ρ b' → Q c H') → t σ H Q
def DW (e : Expr) (w : WT) : Prop := ∃ t, PW X e t ∧ ∀ gs M σ H ρ b (Q : Bool → Hp → Prop) (k : Bool → Nat → Prop), Rel X.K P gs M σ H ρ b → w ρ b k →
  (∀ c b' H', k c b' → Gr P.pn H H' → Rel X.K P gs M σ H' ρ b' → Q c H') → t σ H Q
def DA (es : List Expr) (w : WA) : Prop := ∃ t, PA X es t ∧ ∀ gs M σ H ρ b (Q : List V → Hp → Prop) (k : List D → Nat → Prop), Rel X.K P gs M σ H ρ b → w ρ b k →
  (∀ ds b' vs H', k ds b' → Gr P.pn H H' → Rel X.K P gs M σ H' ρ b' → RpAll X.K P.pn M H' vs ds → Q vs H') → t σ H Q
end
def wVar (i : Nat) : WE := fun ρ b k => ∃ d, ρ[i]? = some (some (.val d)) ∧ k d b
def wOwn (i : Nat) : WE := fun ρ b k => ∃ xs, ρ[i]? = some (some (.own xs)) ∧ k (.lst xs) b
def wC (d : D) : WE := fun _ b k => k d b
def wNil : WA := fun _ b k => k [] b
def wCons (w : WE) (ws : WA) : WA := fun ρ b k => w ρ b fun d b1 => ws ρ b1 fun ds b2 => k (d :: ds) b2
def wTup (ws : WA) : WE := fun ρ b k => ws ρ b fun ds b' => ds.length ≤ 1000000 ∧ k (.tup ds) b'
def wLst (ws : WA) : WA := fun ρ b k => ws ρ b fun ds b' => ds.length ≤ 1000000 ∧ k ds b'
def wL (w : WA) : WE := fun ρ b k => w ρ b fun ds b' => k (.lst ds) b'
def wFn (F : List D → Nat → (D → Nat → Prop) → Prop) (ws : WA) : WE := fun ρ b k => ws ρ b fun ds b' => F ds b' k
/-- a two-place operation -/
def wOp (f : D → D → (D → Prop) → Prop) (wa wb : WE) : WE := fun ρ b k => wa ρ b fun x b1 => wb ρ b1 fun y b2 => f x y fun z => k z b2
def wU (f : D → (D → Prop) → Prop) (wa : WE) : WE := fun ρ b k => wa ρ b fun x b1 => f x fun z => k z b1
theorem sz {n : Nat} (h : n ≤ 1000000) : n ≤ sizeLine := Nat.le_trans h (by decide)
section
variable {X : Cx} {P : Pc} {e a a2 : Expr} {es : List Expr} {pos p : Pos} {w wa wb : WE} {ws : WA}
theorem DE.db (h : DE X P e w) : DB X P e w := by
  obtain ⟨t, h1, h2⟩ := h
  exact ⟨t, h1, fun gs M σ H ρ b Q k R q f => h2 gs M σ H ρ b Q k R q fun d b' v H' z g R' r => f d b' v H' z g R' (.inl r)⟩
theorem DF.de (h : DF X P e ws) : DE X P e (wL ws) := by
  obtain ⟨t, h1, h2⟩ := h
  refine ⟨t, h1, fun gs M σ H ρ b Q k R q f => h2 gs M σ H ρ b Q _ R q fun xs b' a vs H' z g R' R2 n ha hv => f (.lst xs) b' (.ref a) H' z g R' (.lst ha (R.notM n) (hv.less fun _ m => .inl m))⟩
theorem de_var {x : Str} (i : Nat) (hN : X.N[i]? = some x := by rfl) (hv : Vis X.env.scope x := by first | exact .inl rfl | exact .inr (.inl rfl) | exact .inr (.inr rfl)) (hd : (x == ("__debug__" : Str)) = false := by decide) (hcd : (x == ("__classdict__" : Str)) = false := by decide) : DE X P (.Name x pos) (wVar i) := by
  refine ⟨_, pe_var (i := i) hN hv hd hcd, fun gs M σ H ρ b Q k R ⟨d, h1, q⟩ f => ?_⟩
  obtain ⟨v, e1, e2⟩ := R.val i d h1
  exact ⟨v, e1, f d b v H q (.refl H) R e2⟩
theorem db_own {x : Str} (i : Nat) (hN : X.N[i]? = some x := by rfl) (hv : Vis X.env.scope x := by first | exact .inl rfl | exact .inr (.inl rfl) | exact .inr (.inr rfl)) (hd : (x == ("__debug__" : Str)) = false := by decide) (hcd : (x == ("__classdict__" : Str)) = false := by decide) : DB X P (.Name x pos) (wOwn i) := by
  refine ⟨_, pe_var (i := i) hN hv hd hcd, fun gs M σ H ρ b Q k R ⟨d, h1, q⟩ f => ?_⟩
  obtain ⟨a, vs, e1, e2, e3, e4, e5, e6⟩ := R.own i d h1
  exact ⟨.ref a, e1, f (.lst d) b (.ref a) H q (.refl H) R (.inr ⟨a, vs, d, rfl, rfl, e2, e5, e3⟩)⟩
theorem de_c {v : V} {d : D} (h : PE X e (tC v)) (r : ∀ M H, Rp X.K P.pn M H v d) : DE X P e (wC d) :=
  ⟨_, h, fun gs M σ H ρ b Q k R q f => f d b v H q (.refl H) R (r M H)⟩
theorem de_int {i : Int} {j : Nat} : DE X P (.Constant (.int i) j pos) (wC (.int i)) := de_c pe_int fun _ _ => .int i
theorem de_bl {i : Bool} {j : Nat} : DE X P (.Constant (.bool i) j pos) (wC (.bl i)) := de_c pe_bl fun _ _ => .bl i
theorem de_str {i : Str} {j : Nat} : DE X P (.Constant (.str i) j pos) (wC (.str i)) := de_c pe_str fun _ _ => .str i
theorem de_non {j : Nat} : DE X P (.Constant .none j pos) (wC .non) := de_c pe_non fun _ _ => .non
/-- a module's name that stands for an int; for an object -/
theorem de_gint {x : Str} {i : Int} {t : Tok} (hm : X.mg x = some (.int i t)) (hg : Gl X x := by rfl) (hd : (x == ("__debug__" : Str)) = false := by decide) : DE X P (.Name x pos) (wC (.int i)) := de_c (pe_glob (v := .int i) hg hm ⟨t, rfl⟩ hd) fun _ _ => .int i
theorem de_gobj {x : Str} {c : Addr} (hm : X.mg x = some (.ref c)) (hg : Gl X x := by rfl) (hd : (x == ("__debug__" : Str)) = false := by decide) : DE X P (.Name x pos) (wC (.obj c)) := de_c (pe_glob (v := .ref c) hg hm rfl hd) fun _ _ => .obj c
theorem da_nil : DA X P [] wNil := ⟨_, pa_nil, fun gs M σ H ρ b Q k R q f => f [] b [] H q (.refl H) R .nil⟩
theorem da_cons (h : DE X P e w) (hs : DA X P es ws) (he : starEach (e :: es) X.env = (false, eval e X.env) :: starEach es X.env := by rfl) : DA X P (e :: es) (wCons w ws) := by
  obtain ⟨t, h1, h2⟩ := h
  obtain ⟨u, g1, g2⟩ := hs
  refine ⟨_, pa_cons h1 g1 he, fun gs M σ H ρ b Q k R q f => h2 gs M σ H ρ b _ _ R q fun d b' v H' z g R' r => ?_⟩
  refine g2 gs M σ H' ρ b' _ _ R' z fun ds b2 vs H2 z2 g' R2 rs => ?_
  exact f (d :: ds) b2 (v :: vs) H2 z2 (g.trans g') R2 (.cons (r.mono (R'.gm g')) rs)
theorem de_tup {kk : Nat} (hs : DA X P es ws) : DE X P (.Tuple es kk pos) (wTup ws) := by
  obtain ⟨t, h1, h2⟩ := hs
  refine ⟨_, pe_tup h1, fun gs M σ H ρ b Q k R q f => h2 gs M σ H ρ b _ _ R q fun ds b' vs H' z g R' r => ?_⟩
  refine ⟨by rw [r.len]; exact sz z.1, fun p hp => ?_⟩
  have g' : Gr P.pn H' (upd H' p (.tup vs)) := .new hp
  exact f (.tup ds) b' (.ref p) _ z.2 (g.trans g') (R'.new hp) (.tup upd_same (R'.notM hp) (r.mono (R'.gm g')))
theorem df_lst (hs : DA X P es ws) : DF X P (.List es pos) (wLst ws) := by
  obtain ⟨t, h1, h2⟩ := hs
  refine ⟨_, pe_lst h1, fun gs M σ H ρ b Q k R q f => h2 gs M σ H ρ b _ _ R q fun ds b' vs H' z g R' r => ?_⟩
  refine ⟨by rw [r.len]; exact sz z.1, fun p hp => ?_⟩
  have g' : Gr P.pn H' (upd H' p (.lst vs)) := .new hp
  have gm : Gm (fun x => M x ∨ x = p) H' (upd H' p (.lst vs)) := fun a u n e => by rw [upd_ne (fun z => n (.inr z))]; exact e
  exact f ds b' p vs _ z.2 (g.trans g') (R'.new hp) (R'.mask hp) (g.free hp R'.pen.there) upd_same (((Rp.mask3 hp).2 _ _ r).mono gm)
end
end NC
set_option maxRecDepth 100000
set_option maxHeartbeats 4000000
namespace NC
open PySem PySem.Spec PyProof.Rows L2
structure DEnds where
  nx : Rho → Nat → Prop
  rt : D → Nat → Prop
  bk : Rho → Nat → Prop := fun _ _ => False
  ct : Rho → Nat → Prop := fun _ _ => False
abbrev WS := DEnds → Rho → Nat → Prop
abbrev WG := D → Rho → (Rho → Prop) → Prop
abbrev WGs := List D → Rho → (Rho → Prop) → Prop
structure EOk (K : PySem.W.Frag) (P : Pc) (gs : List Gh) (E : Ends) (T : DEnds) : Prop where
  nx : ∀ M σ H ρ b, T.nx ρ b → Rel K P gs M σ H ρ b → E.nx σ H
  rt : ∀ d b v H, T.rt d b → Gr P.pn P.H0 H → PenAt K P.Mc H P.pn b → Rp K P.pn P.Mc H v d → E.rt v H
  bk : ∀ M σ H ρ b, T.bk ρ b → Rel K P gs M σ H ρ b → E.bk σ H
  ct : ∀ M σ H ρ b, T.ct ρ b → Rel K P gs M σ H ρ b → E.ct σ H
def DS (X : Cx) (P : Pc) (st : Stmt) (w : WS) : Prop := ∃ t, PS X st t ∧ ∀ gs M σ H ρ b E T, Rel X.K P gs M σ H ρ b → w T ρ b → EOk X.K P gs E T → t E σ H
def DSs (X : Cx) (P : Pc) (st : List Stmt) (w : WS) : Prop := ∃ t, PSs X st t ∧ ∀ gs M σ H ρ b E T, Rel X.K P gs M σ H ρ b → w T ρ b → EOk X.K P gs E T → t E σ H
/-- but in sl the slots stay -/
def Sm (sl : List Nat) (σ σ' : L2.St) : Prop := σ'.length = σ.length ∧ ∀ i, i ∉ sl → σ'[i]? = σ[i]?
theorem Sm.refl {sl : List Nat} {σ : L2.St} : Sm sl σ σ := ⟨rfl, fun _ _ => rfl⟩
theorem Sm.trans {a b : List Nat} {σ σ' σ2 : L2.St} (h : Sm a σ σ') (g : Sm b σ' σ2) : Sm (a ++ b) σ σ2 :=
  ⟨g.1.trans h.1, fun i hi => (g.2 i fun z => hi (List.mem_append_right _ z)).trans (h.2 i fun z => hi (List.mem_append_left _ z))⟩
def DG (X : Cx) (P : Pc) (tg : Expr) (w : WG) (sl : List Nat) : Prop := ∃ g, PG X tg g ∧ ∀ gs M σ H ρ b v d (Q : L2.St → Hp → Prop) (k : Rho → Prop), Rel X.K P gs M σ H ρ b → Rp X.K P.pn M H v d → w d ρ k → (∀ ρ' σ', k ρ' → Rel X.K P gs M σ' H ρ' b → Sm sl σ σ' → Q σ' H) → g v σ H Q
def DGs (X : Cx) (P : Pc) (tgs : List Expr) (w : WGs) (sl : List Nat) : Prop := ∃ g, PGs X tgs g ∧ ∀ gs M σ H ρ b vs ds (Q : L2.St → Hp → Prop) (k : Rho → Prop), Rel X.K P gs M σ H ρ b → RpAll X.K P.pn M H vs ds → w ds ρ k → (∀ ρ' σ', k ρ' → Rel X.K P gs M σ' H ρ' b → Sm sl σ σ' → Q σ' H) → g vs σ H Q
def wSeq (w u : WS) : WS := fun T => w { T with nx := u T }
def wNext : WS := fun T => T.nx
def wAsg (we : WE) (g : WG) : WS := fun T ρ b => we ρ b fun d b' => g d ρ fun ρ' => T.nx ρ' b'
def wAsgOwn (i : Nat) (wf : WA) : WS := fun T ρ b => wf ρ b fun xs b' => i < ρ.length ∧ T.nx (ρ.set i (some (.own xs))) b'
def wDrop (we : WE) : WS := fun T ρ b => we ρ b fun _ b' => T.nx ρ b'
def wRet (we : WE) : WS := fun T ρ b => we ρ b T.rt
def wRetOwn (i : Nat) : WS := fun T ρ b => ∃ xs, ρ[i]? = some (some (.own xs)) ∧ T.rt (.lst xs) b
def wIf (c : WT) (t u : WS) : WS := fun T ρ b => c ρ b fun z b' => if z = true then t T ρ b' else u T ρ b'
def gN (i : Nat) : WG := fun d ρ k => i < ρ.length ∧ k (ρ.set i (some (.val d)))
def gT (n : Nat) (gs : WGs) : WG := fun d ρ k => ∃ ds, d = .tup ds ∧ ds.length = n ∧ gs ds ρ k
def gsN : WGs := fun ds ρ k => ds = [] ∧ k ρ
def gsC (g : WG) (u : WGs) : WGs := fun ds ρ k => ∃ d r, ds = d :: r ∧ g d ρ fun ρ' => u r ρ' k
/-- for .. in a list -/
def wFor (wl : WE) (g : WG) (body : WS) : WS := fun T ρ b => wl ρ b fun d b1 => ∃ (xs : List D) (I : Nat → Rho → Nat → Prop), d = .lst xs ∧ I 0 ρ b1 ∧
  (∀ n x ρ b, xs[n]? = some x → I n ρ b → g x ρ fun ρ' => body { T with nx := I (n + 1), ct := I (n + 1), bk := T.nx } ρ' b) ∧ ∀ ρ b, I xs.length ρ b → T.nx ρ b
/-- for .. in range(n) -/
def wRange (wl : WE) (g : WG) (body : WS) : WS := fun T ρ b => wl ρ b fun d b1 => ∃ (z : Int) (I : Nat → Rho → Nat → Prop), d = .int z ∧ -(2 ^ 62) ≤ z ∧ z < 2 ^ 62 ∧ I 0 ρ b1 ∧
  (∀ (n : Nat) ρ b, n < z.toNat → I n ρ b → g (.int n) ρ fun ρ' => body { T with nx := I (n + 1), ct := I (n + 1), bk := T.nx } ρ' b) ∧ ∀ ρ b, I z.toNat ρ b → T.nx ρ b
section
variable {K : PySem.W.Frag} {P : Pc} {gs : List Gh} {M : Addr → Prop} {σ : L2.St} {H : Hp} {ρ : Rho} {b : Nat}
theorem Rel.penC (R : Rel K P gs M σ H ρ b) : PenAt K P.Mc H P.pn b := by
  obtain ⟨c, ns, t, l, h1, h2, h3, h4⟩ := R.pen.ex
  exact ⟨c, ns, t, l, h1, h2, fun z => h3 (R.sub c z), h4⟩
end
section
variable {X : Cx} {P : Pc} {e c : Expr} {es : List Expr} {st : Stmt} {rest : List Stmt} {pos p : Pos} {w : WE} {ws : WA} {wc : WT} {u v : WS} {g : WG} {g2 : WGs} {x : Str}
theorem dss_nil : DSs X P [] wNext := ⟨_, pss_nil, fun gs M σ H ρ b E T R q o => o.nx M σ H ρ b q R⟩
theorem dss_cons (h : DS X P st u) (h2 : DSs X P rest v) : DSs X P (st :: rest) (wSeq u v) := by
  obtain ⟨t, a1, a2⟩ := h
  obtain ⟨t', b1, b2⟩ := h2
  exact ⟨_, pss_cons a1 b1, fun gs M σ H ρ b E T R q o => a2 gs M σ H ρ b _ { T with nx := v T } R q ⟨fun M σ H ρ b z R' => b2 gs M σ H ρ b E T R' z o, o.rt, o.bk, o.ct⟩⟩
theorem dss_one (h : DS X P st u) : DSs X P [st] u := by
  obtain ⟨t, a1, a2⟩ := h
  exact ⟨_, pss_one a1, fun gs M σ H ρ b E T R q o => a2 gs M σ H ρ b E T R q o⟩
theorem dg_name {i : Nat} (nd : X.N.Nodup) (hi : X.N[i]? = some x) (hx : Loc X.env.scope x) (hf : X.fn x = true ∨ X.env.scope.names.lookup x = some .local := by first | exact .inl rfl | exact .inr rfl | assumption) : DG X P (.Name x pos) (gN i) [i] :=
  ⟨_, pg_name (i := i) nd hi hx hf, fun gs M σ H ρ b v d Q k R r q f => f _ _ q.2 (R.setVal q.1 r) ⟨List.length_set, fun j hj => get_set_ne (fun z => hj (by rw [z]; exact List.mem_cons_self))⟩⟩
theorem dgs_nil : DGs X P [] gsN [] := ⟨_, pgs_nil, fun gs M σ H ρ b vs ds Q k R r q f => by
  obtain ⟨rfl, q⟩ := q
  cases r
  exact ⟨rfl, f _ _ q R .refl⟩⟩
theorem dgs_cons {s1 s2 : List Nat} (h : DG X P e g s1) (h2 : DGs X P es g2 s2) (hs : (assignEach (e :: es) X.env).map (·.2) = assign e X.env :: (assignEach es X.env).map (·.2) := by rfl) : DGs X P (e :: es) (gsC g g2) (s1 ++ s2) := by
  obtain ⟨t, a1, a2⟩ := h
  obtain ⟨t', b1, b2⟩ := h2
  refine ⟨_, pgs_cons a1 b1 hs, fun gs M σ H ρ b vs ds Q k R r q f => ?_⟩
  obtain ⟨d, ds', rfl, q⟩ := q
  cases r with
  | cons r1 r2 => exact ⟨_, _, rfl, a2 gs M σ H ρ b _ _ _ _ R r1 q fun ρ' σ' z R' m1 => b2 gs M σ' H ρ' b _ _ _ _ R' r2 z fun ρ2 σ2 z2 R2 m2 => f ρ2 σ2 z2 R2 (m1.trans m2)⟩
theorem dg_tup {n k : Nat} {sl : List Nat} (hc : X.calm = true) (h : DGs X P es g2 sl) (hn : (assignEach es X.env).length = n := by rfl) (hst : (assignEach es X.env).findIdx? (·.1) = none := by rfl) : DG X P (.Tuple es k pos) (gT n g2) sl := by
  obtain ⟨t, a1, a2⟩ := h
  refine ⟨_, pg_tup hc a1 hn hst, fun gs M σ H ρ b v d Q k R r q f => ?_⟩
  obtain ⟨ds, rfl, hl, q⟩ := q
  cases r with
  | tup h1 h2 h3 => exact ⟨_, _, rfl, .inl (.inl h1), by rw [h3.len]; exact hl, a2 gs M σ H ρ b _ _ _ _ R h3 q f⟩
  | tupK h1 h3 => exact ⟨_, _, rfl, h1.sq H, by rw [h3.len]; exact hl, a2 gs M σ H ρ b _ _ _ _ R h3 q f⟩
theorem ds_asg {tg : Expr} {sl : List Nat} (h : DE X P e w) (hg : DG X P tg g sl) (hs : swapsWithSole [tg] e pos.line X.env = pure false := by rfl) (hw : swappedStores [tg] e X.env = pure none := by rfl) (h1 : (assignEach [tg] X.env).map (·.2) = [assign tg X.env] := by rfl) : DS X P (.Assign [tg] e pos) (wAsg w g) := by
  obtain ⟨t, a1, a2⟩ := h
  obtain ⟨t', b1, b2⟩ := hg
  refine ⟨_, ps_asg a1 b1 hs hw h1, fun gs M σ H ρ b E T R q o => a2 gs M σ H ρ b _ _ R q fun d b' v H' z g R' r => ?_⟩
  exact b2 gs M σ H' ρ b' v d _ _ R' r z fun ρ' σ' z' R2 _ => o.nx M σ' H' ρ' b' z' R2
theorem ds_asgOwn {i : Nat} {pos2 : Pos} (h : DF X P e ws) (nd : X.N.Nodup) (hi : X.N[i]? = some x) (hx : Loc X.env.scope x) (hf : X.fn x = true ∨ X.env.scope.names.lookup x = some .local := by first | exact .inl rfl | exact .inr rfl | assumption)
    (hs : swapsWithSole [.Name x pos2] e pos.line X.env = pure false := by rfl) (hw : swappedStores [.Name x pos2] e X.env = pure none := by rfl) (h1 : (assignEach [.Name x pos2] X.env).map (·.2) = [assign (.Name x pos2) X.env] := by rfl) : DS X P (.Assign [.Name x pos2] e pos) (wAsgOwn i ws) := by
  obtain ⟨t, a1, a2⟩ := h
  refine ⟨_, ps_asg a1 (pg_name (i := i) nd hi hx hf) hs hw h1, fun gs M σ H ρ b E T R q o => a2 gs M σ H ρ b _ _ R q fun xs b' a vs H' z g R' R2 n ha r => ?_⟩
  exact o.nx _ _ H' _ b' z.2 (R.setOwn g R2 z.1 n ha r)
theorem ds_expr (h : DE X P e w) (hs : swapsWith e none pos.line X.env = pure false := by rfl) : DS X P (.Expr e pos) (wDrop w) := by
  obtain ⟨t, a1, a2⟩ := h
  exact ⟨_, ps_expr a1 hs, fun gs M σ H ρ b E T R q o => a2 gs M σ H ρ b _ _ R q fun d b' v H' z g R' r => o.nx M σ H' ρ b' z R'⟩
theorem ds_ret (h : DE X P e w) : DS X P (.Return (some e) pos) (wRet w) := by
  obtain ⟨t, a1, a2⟩ := h
  exact ⟨_, ps_ret a1, fun gs M σ H ρ b E T R q o => a2 gs M σ H ρ b _ _ R q fun d b' v H' z g R' r => o.rt d b' v H' z R'.ext R'.penC (r.less R'.sub)⟩
theorem ds_retOwn {i : Nat} (hN : X.N[i]? = some x := by rfl) (hv : Vis X.env.scope x := by first | exact .inl rfl | exact .inr (.inl rfl) | exact .inr (.inr rfl)) (hd : (x == ("__debug__" : Str)) = false := by decide) (hcd : (x == ("__classdict__" : Str)) = false := by decide) : DS X P (.Return (some (.Name x pos)) p) (wRetOwn i) := by
  refine ⟨_, ps_ret (pe_var (i := i) hN hv hd hcd), fun gs M σ H ρ b E T R q o => ?_⟩
  obtain ⟨xs, h1, q⟩ := q
  obtain ⟨a, vs, e1, e2, e3, e4, e5, e6⟩ := R.own i xs h1
  refine ⟨.ref a, e1, o.rt _ b _ H q R.ext R.penC (.lst e2 (fun z => ?_) (e3.less R.sub))⟩
  obtain ⟨u, hu⟩ := R.cdm a z
  rw [e6] at hu
  cases hu
theorem ds_if {a1 a2 : List Stmt} (hc : DT X P c wc) (h : DSs X P a1 u) (h' : DSs X P a2 v) : DS X P (.If c a1 a2 pos) (wIf wc u v) := by
  obtain ⟨t, c1, c2⟩ := hc
  obtain ⟨t1, d1, d2⟩ := h
  obtain ⟨t2, e1, e2⟩ := h'
  refine ⟨_, ps_if c1 d1 e1, fun gs M σ H ρ b E T R q o => c2 gs M σ H ρ b _ _ R q fun z b' H' q g R' => ?_⟩
  cases z with
  | true => exact iteT (d2 gs M σ H' ρ b' E T R' (by simpa using q) o)
  | false => exact iteF (e2 gs M σ H' ρ b' E T R' (by simpa using q) o)
theorem ds_for {tg : Expr} {sl : List Nat} {body : List Stmt} (hp : PassesOwn (model X.prog X.w) X.A X.env X.xe) (hc : X.calm = true) (hl : DE X P e w) (hg : DG X P tg g sl) (hb : DSs X P body u) (hs : ∀ x, foldedSetIterable e X.env x = pure x := by intro _; rfl) : DS X P (.For tg e body [] pos) (wFor w g u) := by
  obtain ⟨t, a1, a2⟩ := hl
  obtain ⟨t', b1, b2⟩ := hg
  obtain ⟨t2, c1, c2⟩ := hb
  refine ⟨_, ps_for hp hc (pi_list a1) b1 c1 hs, fun gs M σ H ρ b E T R q o => a2 gs M σ H ρ b _ _ R q fun d b' v H' z gg R' r => ?_⟩
  obtain ⟨xs, I, rfl, i0, turn, last⟩ := z
  cases r with
  | lst ha hm hv =>
    rename_i a vs
    refine ⟨a, rfl, ⟨vs, .inl (.inl ha)⟩, for_list (K := X.K) (a := a) (xs := vs) (fun i σ H => ∃ M ρ b, I i ρ b ∧ Rel X.K P ((a, some (.lst vs), vs, xs) :: gs) M σ H ρ b) ⟨M, ρ, b', i0, R'.hold (fun u e => by cases e; exact ⟨ha, hm⟩) hv⟩ (fun i σ H _ ⟨_, _, _, _, R1⟩ => .inl (.inl ((R1.gho _ List.mem_cons_self).1 _ rfl).1)) ?_ ?_⟩
    · rintro i y σ H1 hi ⟨M1, ρ1, bb, hI, R1⟩
      obtain ⟨d, hd, hr⟩ := ((R1.gho _ List.mem_cons_self).2).getV hi
      refine b2 _ M1 σ H1 ρ1 bb y d _ _ R1 hr (turn i d ρ1 bb hd hI) fun ρ' σ' z R2 _ => ?_
      exact c2 _ M1 σ' H1 ρ' bb _ _ R2 z ⟨fun M σ H ρ b q R => ⟨M, ρ, b, q, R⟩, o.rt, fun M σ H ρ b q R => o.nx M σ H ρ b q R.drop, fun M σ H ρ b q R => ⟨M, ρ, b, q, R⟩⟩
    · rintro σ H1 ⟨M1, ρ1, bb, hI, R1⟩
      rw [hv.len] at hI
      exact o.nx M1 σ H1 ρ1 bb (last _ _ hI) R1.drop
theorem ds_range {tg : Expr} {sl : List Nat} {body : List Stmt} {pf : Pos} (hp : PassesOwn (model X.prog X.w) X.A X.env X.xe) (hc : X.calm = true) (hgl : Gl X "range") (hm : X.mg "range" = none) (hl : DE X P e w) (hg : DG X P tg g sl) (hb : DSs X P body u) (he : starEach [e] X.env = (false, eval e X.env) :: starEach [] X.env := by rfl)
    (hs : ∀ x, foldedSetIterable (.Call (.Name "range" pf) [e] [] p) X.env x = pure x := by intro _; rfl) : DS X P (.For tg (.Call (.Name "range" pf) [e] [] p) body [] pos) (wRange w g u) := by
  obtain ⟨t, a1, a2⟩ := hl
  obtain ⟨t', b1, b2⟩ := hg
  obtain ⟨t2, c1, c2⟩ := hb
  refine ⟨_, ps_for hp hc (pi_range1 hgl hm (pa_cons a1 pa_nil he) he) b1 c1 hs, fun gs M σ H ρ b E T R q o => a2 gs M σ H ρ b _ _ R q fun d b' v H' z gg R' r => ?_⟩
  obtain ⟨z, I, rfl, l1, l2, i0, turn, last⟩ := z
  cases r
  refine ⟨z, rfl, l1, l2, for_range (lo := 0) (n := z.toNat) (fun i σ H => ∃ M ρ b, I i ρ b ∧ Rel X.K P gs M σ H ρ b) ⟨M, ρ, b', i0, R'⟩ ?_ ?_⟩
  · rintro i σ H1 hi ⟨M1, ρ1, bb, hI, R1⟩
    have e0 : (0 : Int) + (i : Int) = (i : Int) := Int.zero_add _
    rw [e0]
    refine b2 _ M1 σ H1 ρ1 bb _ (.int i) _ _ R1 (.int i) (turn i ρ1 bb hi hI) fun ρ' σ' z R2 _ => ?_
    exact c2 _ M1 σ' H1 ρ' bb _ _ R2 z ⟨fun M σ H ρ b q R => ⟨M, ρ, b, q, R⟩, o.rt, fun M σ H ρ b q R => o.nx M σ H ρ b q R, fun M σ H ρ b q R => ⟨M, ρ, b, q, R⟩⟩
  · rintro σ H1 ⟨M1, ρ1, bb, hI, R1⟩
    exact o.nx M1 σ H1 ρ1 bb (last _ _ hI) R1
end
end NC
set_option maxRecDepth 100000
set_option maxHeartbeats 4000000
namespace NC
open PySem PySem.Spec PyProof.Rows L2
inductive RpTs (K : PySem.W.Frag) (pn : Addr) (M : Addr → Prop) (H : Hp) : List V → List D → Prop
  | nil : RpTs K pn M H [] []
  | cons {v : V} {vs : List V} {d : D} {ds : List D} : RpT K pn M H v d → RpTs K pn M H vs ds → RpTs K pn M H (v :: vs) (d :: ds)
section
variable {K : PySem.W.Frag} {P : Pc} {gs : List Gh} {M : Addr → Prop} {σ : L2.St} {H H' : Hp} {ρ : Rho} {b : Nat}
theorem RpT.grow {v : V} {d : D} (R : Rel K P gs M σ H ρ b) (g : Gr P.pn H H') (r : RpT K P.pn M H v d) : RpT K P.pn M H' v d := by
  rcases r with r | ⟨a, vs, xs, e1, e2, h1, h2, h3⟩
  · exact .inl (r.mono (R.gm g))
  · exact .inr ⟨a, vs, xs, e1, e2, g a _ h2 h1, h2, h3.mono (R.gm g)⟩
theorem RpT.lst {v : V} {xs : List D} (r : RpT K P.pn M H v (.lst xs)) : ∃ a vs, v = .ref a ∧ H a = some (.lst vs) ∧ RpAll K P.pn M H vs xs := by
  rcases r with r | ⟨a, vs, xs, e1, e2, h1, h2, h3⟩
  · cases r with
    | lst h1 h2 h3 => exact ⟨_, _, rfl, h1, h3⟩
  · cases e2
    exact ⟨a, vs, e1, h1, h3⟩
theorem RpT.rp {v : V} {d : D} (r : RpT K P.pn M H v d) (h : ∀ xs, d ≠ .lst xs) : Rp K P.pn M H v d := by
  rcases r with r | ⟨a, vs, xs, e1, e2, h1, h2, h3⟩
  · exact r
  · exact absurd e2 (h xs)
theorem Rp.tup_at {v : V} {ds : List D} (r : Rp K P.pn M H v (.tup ds)) : ∃ a vs, v = .ref a ∧ SqT K H a vs ∧ RpAll K P.pn M H vs ds := by
  cases r with
  | tup h1 h2 h3 => exact ⟨_, _, rfl, .inl (.inl h1), h3⟩
  | tupK h1 h3 => exact ⟨_, _, rfl, h1.sq H, h3⟩
end
section
variable (X : Cx) (P : Pc)
def DAB (es : List Expr) (w : WA) : Prop := ∃ t, PA X es t ∧ ∀ gs M σ H ρ b (Q : List V → Hp → Prop) (k : List D → Nat → Prop), Rel X.K P gs M σ H ρ b → w ρ b k →
  (∀ ds b' vs H', k ds b' → Gr P.pn H H' → Rel X.K P gs M σ H' ρ b' → RpTs X.K P.pn M H' vs ds → Q vs H') → t σ H Q
def OpD (r : R2) (f : D → D → (D → Prop) → Prop) : Prop := ∀ gs M σ H ρ b x y dx dy (Q : VK) (k : D → Prop), Rel X.K P gs M σ H ρ b → RpT X.K P.pn M H x dx → RpT X.K P.pn M H y dy → f dx dy k →
  (∀ d v H', k d → Gr P.pn H H' → Rel X.K P gs M σ H' ρ b → Rp X.K P.pn M H' v d → Q v H') → r x y H Q
def UnD (r : V → Hp → VK → Prop) (f : D → (D → Prop) → Prop) : Prop := ∀ gs M σ H ρ b x dx (Q : VK) (k : D → Prop), Rel X.K P gs M σ H ρ b → RpT X.K P.pn M H x dx → f dx k →
  (∀ d v H', k d → Gr P.pn H H' → Rel X.K P gs M σ H' ρ b → Rp X.K P.pn M H' v d → Q v H') → r x H Q
def CallD (r : List V → Hp → VK → Prop) (f : List D → (D → Prop) → Prop) : Prop := ∀ gs M σ H ρ b xs ds (Q : VK) (k : D → Prop), Rel X.K P gs M σ H ρ b → RpTs X.K P.pn M H xs ds → f ds k →
  (∀ d v H', k d → Gr P.pn H H' → Rel X.K P gs M σ H' ρ b → Rp X.K P.pn M H' v d → Q v H') → r xs H Q
end
def wCB (f : List D → (D → Prop) → Prop) (ws : WA) : WE := fun ρ b k => ws ρ b fun ds b' => f ds fun d => k d b'
def wB (w : WE) : WT := fun ρ b k => w ρ b fun d b' => ∃ c, d = .bl c ∧ k c b'
def wOr (u v : WT) : WT := fun ρ b k => u ρ b fun c b' => if c = true then k true b' else v ρ b' k
def wAnd (u v : WT) : WT := fun ρ b k => u ρ b fun c b' => if c = true then v ρ b' k else k false b'
def wNot (u : WT) : WT := fun ρ b k => u ρ b fun c b' => k (!c) b'
def wIfE (c : WT) (t u : WE) : WE := fun ρ b k => c ρ b fun z b' => if z = true then t ρ b' k else u ρ b' k
section
variable {X : Cx} {P : Pc} {e a a2 c : Expr} {es : List Expr} {pos p : Pos} {w wa wb : WE} {ws : WA} {u v : WT} {x : Str} {f : D → D → (D → Prop) → Prop} {fu : D → (D → Prop) → Prop} {fc : List D → (D → Prop) → Prop} {r : R2}
theorem dab_nil : DAB X P [] wNil := ⟨_, pa_nil, fun gs M σ H ρ b Q k R q f => f [] b [] H q (.refl H) R .nil⟩
theorem RpTs.grow {K : PySem.W.Frag} {gs : List Gh} {M : Addr → Prop} {σ : L2.St} {H H' : Hp} {ρ : Rho} {b : Nat} (R : Rel K P gs M σ H ρ b) (g : Gr P.pn H H') : ∀ {vs : List V} {ds : List D}, RpTs K P.pn M H vs ds → RpTs K P.pn M H' vs ds
  | _, _, .nil => .nil
  | _, _, .cons h t => .cons (h.grow R g) (RpTs.grow R g t)
theorem dab_cons (h : DB X P e w) (hs : DAB X P es ws) (he : starEach (e :: es) X.env = (false, eval e X.env) :: starEach es X.env := by rfl) : DAB X P (e :: es) (wCons w ws) := by
  obtain ⟨t, h1, h2⟩ := h
  obtain ⟨u, g1, g2⟩ := hs
  refine ⟨_, pa_cons h1 g1 he, fun gs M σ H ρ b Q k R q f => h2 gs M σ H ρ b _ _ R q fun d b' v H' z g R' r => ?_⟩
  refine g2 gs M σ H' ρ b' _ _ R' z fun ds b2 vs H2 z2 g' R2 rs => ?_
  exact f (d :: ds) b2 (v :: vs) H2 z2 (g.trans g') R2 (.cons (r.grow R' g') rs)
theorem de_op {op : Operator} (ho : OpR X (binaryOp op) r) (hd : OpD X P r f) (ha : DB X P a wa) (hb : DB X P a2 wb) : DE X P (.BinOp a op a2 pos) (wOp f wa wb) := by
  obtain ⟨t, h1, h2⟩ := ha
  obtain ⟨u, g1, g2⟩ := hb
  refine ⟨_, pe_op ho h1 g1, fun gs M σ H ρ b Q k R q f => h2 gs M σ H ρ b _ _ R q fun d b' v H' z g R' r => ?_⟩
  refine g2 gs M σ H' ρ b' _ _ R' z fun d2 b2 v2 H2 z2 g' R2 r2 => ?_
  exact hd gs M σ H2 ρ b2 v v2 d d2 Q _ R2 (r.grow R' g') r2 z2 fun d3 v3 H3 z3 g3 R3 r3 => f d3 b2 v3 H3 z3 ((g.trans g').trans g3) R3 r3
theorem de_cmp {op : CmpOp} (ho : OpR X (compareOp op) r) (hd : OpD X P r f) (ha : DB X P a wa) (hb : DB X P a2 wb) (hm : behindInMarks op a2 = false) : DE X P (.Compare a [op] [a2] pos) (wOp f wa wb) := by
  obtain ⟨t, h1, h2⟩ := ha
  obtain ⟨u, g1, g2⟩ := hb
  refine ⟨_, pe_cmpR ho h1 g1 hm, fun gs M σ H ρ b Q k R q f => h2 gs M σ H ρ b _ _ R q fun d b' v H' z g R' r => ?_⟩
  refine g2 gs M σ H' ρ b' _ _ R' z fun d2 b2 v2 H2 z2 g' R2 r2 => ?_
  exact hd gs M σ H2 ρ b2 v v2 d d2 Q _ R2 (r.grow R' g') r2 z2 fun d3 v3 H3 z3 g3 R3 r3 => f d3 b2 v3 H3 z3 ((g.trans g').trans g3) R3 r3
theorem de_ix (ho : IxR X r) (hd : OpD X P r f) (ha : DB X P a wa) (hb : DB X P a2 wb) (hs : PlainIx a2) : DE X P (.Subscript a a2 pos) (wOp f wa wb) := by
  obtain ⟨t, h1, h2⟩ := ha
  obtain ⟨u, g1, g2⟩ := hb
  refine ⟨_, pe_ix ho h1 g1 hs, fun gs M σ H ρ b Q k R q f => h2 gs M σ H ρ b _ _ R q fun d b' v H' z g R' r => ?_⟩
  refine g2 gs M σ H' ρ b' _ _ R' z fun d2 b2 v2 H2 z2 g' R2 r2 => ?_
  exact hd gs M σ H2 ρ b2 v v2 d d2 Q _ R2 (r.grow R' g') r2 z2 fun d3 v3 H3 z3 g3 R3 r3 => f d3 b2 v3 H3 z3 ((g.trans g').trans g3) R3 r3
theorem de_un {op : UnaryOp} {r : V → Hp → VK → Prop} (ho : UnR X (unaryOp op) r) (hd : UnD X P r fu) (ha : DB X P a wa) : DE X P (.UnaryOp op a pos) (wU fu wa) := by
  obtain ⟨t, h1, h2⟩ := ha
  refine ⟨_, pe_un ho h1, fun gs M σ H ρ b Q k R q f => h2 gs M σ H ρ b _ _ R q fun d b' v H' z g R' r => ?_⟩
  exact hd gs M σ H' ρ b' v d Q _ R' r z fun d3 v3 H3 z3 g3 R3 r3 => f d3 b' v3 H3 z3 (g.trans g3) R3 r3
theorem de_blt {id : String} {r : List V → Hp → VK → Prop} (hc : CallR X (.builtin id) r) (hd : CallD X P r fc) (hm : X.mg x = none) (hv : bootBuiltins x = some (.builtin id)) (ha : DAB X P (e :: es) ws) (hg : Gl X x := by rfl) (hn : x ≠ "__name__" := by decide) (hdb : (x == ("__debug__" : Str)) = false := by decide)
    (he : starEach (e :: es) X.env = (false, eval e X.env) :: starEach es X.env := by rfl) (hpl : (backTo pos (starEach es X.env)).any (·.1) = false := by rfl) : DE X P (.Call (.Name x p) (e :: es) [] pos) (wCB fc ws) := by
  obtain ⟨t, h1, h2⟩ := ha
  refine ⟨_, pe_callB hc hg hm hv h1 hn hdb he hpl, fun gs M σ H ρ b Q k R q f => h2 gs M σ H ρ b _ _ R q fun ds b' vs H' z g R' r => ?_⟩
  exact hd gs M σ H' ρ b' vs ds Q _ R' r z fun d3 v3 H3 z3 g3 R3 r3 => f d3 b' v3 H3 z3 (g.trans g3) R3 r3
theorem de_tyc {id : String} {r : List V → Hp → VK → Prop} (hc : CallR X (.type id) r) (hd : CallD X P r fc) (hm : X.mg x = none) (hv : bootBuiltins x = some (.type id)) (ha : DAB X P (e :: es) ws) (hg : Gl X x := by rfl) (hn : x ≠ "__name__" := by decide) (hdb : (x == ("__debug__" : Str)) = false := by decide)
    (he : starEach (e :: es) X.env = (false, eval e X.env) :: starEach es X.env := by rfl) (hpl : (backTo pos (starEach es X.env)).any (·.1) = false := by rfl) : DE X P (.Call (.Name x p) (e :: es) [] pos) (wCB fc ws) := by
  obtain ⟨t, h1, h2⟩ := ha
  refine ⟨_, pe_callTy hc hg hm hv h1 hn hdb he hpl, fun gs M σ H ρ b Q k R q f => h2 gs M σ H ρ b _ _ R q fun ds b' vs H' z g R' r => ?_⟩
  exact hd gs M σ H' ρ b' vs ds Q _ R' r z fun d3 v3 H3 z3 g3 R3 r3 => f d3 b' v3 H3 z3 (g.trans g3) R3 r3
/-! ### tests -/
theorem dt_val (h : DE X P e w) (he : ∀ whole, isTrue e X.env whole = (do let v ← whole; standAt e.pos; holding [v] (truthy v)) := by intro _; rfl) : DT X P e (wB w) := by
  obtain ⟨t, h1, h2⟩ := h
  refine ⟨_, pt_val h1 he, fun gs M σ H ρ b Q k R q f => h2 gs M σ H ρ b _ _ R q fun d b' v H' z g R' r => ?_⟩
  obtain ⟨c, rfl, z⟩ := z
  cases r
  exact ⟨c, rfl, f c b' H' z g R'⟩
theorem DW.t (h : DW X P e u) : DT X P e u := by
  obtain ⟨t, h1, h2⟩ := h
  exact ⟨_, PW.pt h1, h2⟩
theorem dw_or1 (h : DT X P a u) : DW X P (.BoolOp .Or [a] pos) u := by
  obtain ⟨t, h1, h2⟩ := h
  exact ⟨_, pw_or1 h1, h2⟩
theorem dw_and1 (h : DT X P a u) : DW X P (.BoolOp .And [a] pos) u := by
  obtain ⟨t, h1, h2⟩ := h
  exact ⟨_, pw_and1 h1, h2⟩
theorem dw_or (h : DT X P a u) (h' : DW X P (.BoolOp .Or (c :: es) pos) v) : DW X P (.BoolOp .Or (a :: c :: es) pos) (wOr u v) := by
  obtain ⟨t, h1, h2⟩ := h
  obtain ⟨t', g1, g2⟩ := h'
  refine ⟨_, pw_or h1 g1, fun gs M σ H ρ b Q k R q f => h2 gs M σ H ρ b _ _ R q fun z b' H' q g R' => ?_⟩
  cases z with
  | true => exact iteT (f true b' H' (by simpa using q) g R')
  | false => exact iteF (g2 gs M σ H' ρ b' Q k R' (by simpa using q) fun c2 b2 H2 q2 g2' R2 => f c2 b2 H2 q2 (g.trans g2') R2)
theorem dw_and (h : DT X P a u) (h' : DW X P (.BoolOp .And (c :: es) pos) v) : DW X P (.BoolOp .And (a :: c :: es) pos) (wAnd u v) := by
  obtain ⟨t, h1, h2⟩ := h
  obtain ⟨t', g1, g2⟩ := h'
  refine ⟨_, pw_and h1 g1, fun gs M σ H ρ b Q k R q f => h2 gs M σ H ρ b _ _ R q fun z b' H' q g R' => ?_⟩
  cases z with
  | true => exact iteT (g2 gs M σ H' ρ b' Q k R' (by simpa using q) fun c2 b2 H2 q2 g2' R2 => f c2 b2 H2 q2 (g.trans g2') R2)
  | false => exact iteF (f false b' H' (by simpa using q) g R')
theorem dt_not (h : DT X P a u) : DT X P (.UnaryOp .Not a pos) (wNot u) := by
  obtain ⟨t, h1, h2⟩ := h
  exact ⟨_, pt_not h1, fun gs M σ H ρ b Q k R q f => h2 gs M σ H ρ b _ _ R q fun z b' H' q g R' => f (!z) b' H' q g R'⟩
theorem de_ifE (hc : DT X P c u) (h : DE X P a wa) (h' : DE X P a2 wb) : DE X P (.IfExp c a a2 pos) (wIfE u wa wb) := by
  obtain ⟨t, c1, c2⟩ := hc
  obtain ⟨t1, d1, d2⟩ := h
  obtain ⟨t2, e1, e2⟩ := h'
  refine ⟨_, pe_ifExp c1 d1 e1, fun gs M σ H ρ b Q k R q f => c2 gs M σ H ρ b _ _ R q fun z b' H' q g R' => ?_⟩
  cases z with
  | true => exact iteT (d2 gs M σ H' ρ b' Q k R' (by simpa using q) fun c2 b2 v2 H2 q2 g2' R2 r2 => f c2 b2 v2 H2 q2 (g.trans g2') R2 r2)
  | false => exact iteF (e2 gs M σ H' ρ b' Q k R' (by simpa using q) fun c2 b2 v2 H2 q2 g2' R2 r2 => f c2 b2 v2 H2 q2 (g.trans g2') R2 r2)
end
end NC
set_option maxRecDepth 100000
set_option maxHeartbeats 4000000
/-! a def's promise where no repr is running around (repr asks for that), and the calls of such defs -/
namespace NC
open PySem PyProof.Rows PySem.Spec L2
structure FnG (P : Program) (w : World) (K : PySem.W.Frag) (mg : Str → Option Value) (base : Heap) (CX : CXT) (k : Nat) (f : Addr) (fd : FuncData) (ps : List Str) (sp : Sp) : Prop where
  len : ∀ vs H (Q : VK) (E : XK), sp vs H Q E → vs.length = ps.length
  go : ∀ {A : Around} {outer : List PySem.Env} {s : Shared} {H : Hp} {args : Args} {us : List Value} {vs : List V} {Q : VK} {E : XK}, A.guards = some [] → Room k A → Env0 P w K mg base A outer s H → BindsTo s fd args (ps.zip us) → Vals vs us → sp vs H Q E →
    codeAny (model P w) A (Code.call (.ref f) args) (CR CX outer P w H s Q E) s
section
variable {P : Program} {w : World} {K : PySem.W.Frag} {mg : Str → Option Value} {base : Heap} {CX : CXT} {k : Nat} {f : Addr} {fd : FuncData} {ps N : List Str} {sp : Sp} {x qual : Str} {params : Arguments} {body : List Stmt} {scope : Scope} {dvs : List V} {kws : List (Str × V)}
theorem FnG.up {j : Nat} (F : FnG P w K mg base CX j f fd ps sp) (h : j ≤ k) : FnG P w K mg base CX k f fd ps sp := ⟨F.len, fun g hr => F.go g (hr.mono h)⟩
theorem FnG.weak {sp' : Sp} (F : FnG P w K mg base CX k f fd ps sp) (h : ∀ vs H Q E, sp' vs H Q E → sp vs H Q E) : FnG P w K mg base CX k f fd ps sp' :=
  ⟨fun vs H Q E q => F.len _ _ _ _ (h vs H Q E q), fun g hr e b v q => F.go g hr e b v (h _ _ _ _ q)⟩
/-- a def whose body keeps the promise -/
theorem fng_of (F : FunD K x qual params body scope dvs kws f fd) (S : FnScope N ps scope) (len : ∀ vs H Q E, sp vs H Q E → vs.length = ps.length)
    (hbody : ∀ (cdv : Value) (A : Around) (outer : List PySem.Env) (s : Shared) (H : Hp) (vs : List V) (Q : VK) (E : XK), A.guards = some [] → Room k (A.deeper (envOfC qual scope s.heap.objs.size f cdv)) → sp vs H Q E →
      ∃ t, PSs (cxOf CX P w K mg base N qual scope f cdv A outer s H E) body t ∧ t { nx := fun _ H' => Q .non H', rt := Q } (start N vs) H) : FnG P w K mg base CX (k + 1) f fd ps sp := by
  obtain ⟨_, _, dV, kV, doc, pm, an, cdv, ct, _, rfl, lk, hcd, _⟩ := F.ex
  refine ⟨len, fun {A outer s H args us vs Q E} g hr e0 hb r hsp => ?_⟩
  have old : ∀ b o, base.get? b = some o → s.heap.get? b = some o := fun b o e => (e0.bs b o e).1
  have KX := e0.mod.kin.keeps old
  obtain ⟨t, ht, hq⟩ := hbody cdv A outer s H vs Q E g (hr.deeper _) hsp
  have par : ∀ y ∈ ps.zip us, scope.names.lookup y.1 = some .local ∨ (scope.names.lookup y.1 = some .cell ∧ ((cellsFrom (s.heap.objs.size + 1) scope.names []).lookup y.1).isSome = true) := by
    rintro ⟨n, v⟩ hy
    exact (S.par n (List.of_mem_zip hy).1).imp id fun q => ⟨q, PySem.W.cellsFrom_some _ _ _ (.inl q)⟩
  refine codeAny_call_function hr.depth (KX _ _ lk) rfl S.co S.gen rfl (PySem.W.codeRec_of KX hcd) (hb _ _ _ _ (wpAny_newFunctionEnv_cells S.kind par ?_))
  rintro env rfl s1 y
  refine ⟨(e0.mod.nolimit.keeps old).keeps y.toInCall.keep, codeAny_func (wpAny_mono (ht.run [] s1 _ H _ (inv_start S hr.hd e0 (len _ _ _ _ hsp) r y) hq) (fun fl s' hs => ?_) fun _ _ z => z)⟩
  cases fl with
  | ret u => obtain ⟨v, _, H', J, rv, q⟩ := hs; exact ⟨v, H', J.os, J.bare, J.base, J.hok, rv, q⟩
  | next => obtain ⟨_, H', J, q⟩ := hs; exact ⟨.non, H', J.os, J.bare, J.base, J.hok, rfl, q⟩
  | brk => exact hs.elim fun _ h => h.elim fun _ h => h.2.elim
  | cont => exact hs.elim fun _ h => h.elim fun _ h => h.2.elim
end
section
variable {X : Cx} {CX : CXT} {k : Nat} {f : Addr} {fd : FuncData} {ps : List Str} {sp : Sp} {dvs : List V} {ds : List Value} {E : XK} {x : Str} {p pos : Pos} {e : Expr} {es : List Expr} {t : TA}
/-- such a def is called -/
theorem go_fn {pins : List (Addr × Obj)} {σ : L2.St} {H : Hp} {s : Shared} {Q : VK} {us : List Value} {vs : List V} (g : X.A.guards = some []) (F : FnG X.prog X.w X.K X.mg X.base CX k f fd ps sp) (hr : Room k X.A) (hb : Binds X.K fd ps ds) (hd : Vals dvs ds) (hx : Passes CX X E)
    (I : Inv X pins σ H s) (r : Vals vs us) (h : sp (vs ++ dvs) H Q E) :
    wpAny (model X.prog X.w) X.A (PySem.call (.ref f) us) (EP X pins σ Q) X.xe s := by
  have r' := r.append hd
  refine wpAny_call (codeAny_mono (F.go g hr I.env0 (hb s us I.kIn (by rw [← r'.length]; exact F.len _ _ _ _ h)) r' h) ?_)
  intro z s' q
  match z, q with
  | .error er, q => exact hx pins σ H s er s' I q
  | .ok (.ret u), q => exact I.after q
theorem pe_callG (g : X.A.guards = some []) (F : FnG X.prog X.w X.K X.mg X.base CX k f fd ps sp) (hr : Room k X.A) (hg : Gl X x) (hm : X.mg x = some (.ref f)) (hk : PySem.W.keepIn X.K (.ref f) = true) (hb : Binds X.K fd ps ds) (hd : Vals dvs ds) (hx : Passes CX X E)
    (ha : PA X (e :: es) t) (hdb : (x == ("__debug__" : Str)) = false) (he : starEach (e :: es) X.env = (false, eval e X.env) :: starEach es X.env) (hpl : (backTo pos (starEach es X.env)).any (·.1) = false) :
    PE X (.Call (.Name x p) (e :: es) [] pos) (tCall sp dvs E t) :=
  ⟨fun pins s σ H Q I h => wpAny_Call_Name_kw (ld_glob I hg hm (PySem.W.callWith_K (h₀ := X.base) I.ok.mod.kin hk (thn (ha.run pos pins s σ H _ I h) fun us s1 ⟨vs, H1, I1, r, q⟩ => ⟨I1.kIn, go_fn g F hr hb hd hx I1 r q⟩) he hpl) hdb)⟩
end
/-- what a def does with data, as a promise; CX0: it raises nothing -/
def spD (K : PySem.W.Frag) (n : Nat) (F : List D → Nat → (D → Nat → Prop) → Prop) : Sp := fun vs H Q _ => vs.length = n ∧ ∃ pn Mc ds b k, Mc pn ∧ (∀ a, Mc a → ∃ o, H a = some o) ∧ PenAt K Mc H pn b ∧ RpAll K pn Mc H vs ds ∧ F ds b k ∧
  ∀ d b' v H', k d b' → Gr pn H H' → PenAt K Mc H' pn b' → Rp K pn Mc H' v d → Q v H'
section
variable {X : Cx} {P : Pc} {CX : CXT} {k n : Nat} {f : Addr} {fd : FuncData} {ps : List Str} {F : List D → Nat → (D → Nat → Prop) → Prop} {E : XK} {x : Str} {p pos : Pos} {e : Expr} {es : List Expr} {ws : WA}
theorem de_fn (g : X.A.guards = some []) (G : FnG X.prog X.w X.K X.mg X.base CX k f fd ps (spD X.K n F)) (hr : Room k X.A) (hm : X.mg x = some (.ref f)) (hk : PySem.W.keepIn X.K (.ref f) = true) (hb : Binds X.K fd ps []) (hx : Passes CX X E)
    (ha : DA X P (e :: es) ws) (hn : (e :: es).length = n := by rfl) (hg : Gl X x := by rfl) (hdb : (x == ("__debug__" : Str)) = false := by decide) (he : starEach (e :: es) X.env = (false, eval e X.env) :: starEach es X.env := by rfl) (hpl : (backTo pos (starEach es X.env)).any (·.1) = false := by rfl) :
    DE X P (.Call (.Name x p) (e :: es) [] pos) (wFn (fun ds b k => ds.length = n ∧ F ds b k) ws) := by
  obtain ⟨t, h1, h2⟩ := ha
  refine ⟨_, pe_callG g G hr hg hm hk hb .nil hx h1 hdb he hpl, fun gs M σ H ρ b Q k R q f => h2 gs M σ H ρ b _ _ R q fun ds b' vs H' z g R' r => ?_⟩
  rw [List.append_nil]
  refine ⟨by rw [r.len]; exact z.1, P.pn, M, ds, b', k, R'.mpn, R'.dom, R'.pen, r, z.2, fun d b2 v H2 q2 g2 p2 r2 => f d b2 v H2 q2 (g.trans g2) (R'.grow g2 p2) r2⟩
end
/-- the slots at a def's entry -/
def ρ0 (n : Nat) (ds : List D) : Rho := ds.map (fun d => some (.val d)) ++ List.replicate (n - ds.length) none
theorem rel0 {K : PySem.W.Frag} {pn : Addr} {Mc : Addr → Prop} {H : Hp} {N : List Str} {vs : List V} {ds : List D} {b : Nat} (h1 : Mc pn) (h2 : ∀ a, Mc a → ∃ o, H a = some o) (h3 : PenAt K Mc H pn b) (h4 : RpAll K pn Mc H vs ds) : Rel K ⟨pn, H, Mc⟩ [] Mc (start N vs) H (ρ0 N.length ds) b where
  len := by unfold L2.start ρ0; simp [h4.len]
  val := fun i d e => by
    unfold ρ0 at e
    by_cases c : i < ds.length
    · rw [List.getElem?_append_left (by simpa using c), List.getElem?_map] at e
      obtain ⟨d', e1, e2⟩ := Option.map_eq_some_iff.mp e
      cases e2
      obtain ⟨v, f1, f2⟩ := h4.get e1
      refine ⟨v, ?_, f2⟩
      unfold L2.start
      rw [List.getElem?_append_left (by simpa [h4.len] using c), List.getElem?_map, f1] <;> rfl
    · rw [List.getElem?_append_right (by simpa using c), List.getElem?_replicate] at e
      split at e <;> cases e
  own := fun i xs e => by
    unfold ρ0 at e
    by_cases c : i < ds.length
    · rw [List.getElem?_append_left (by simpa using c), List.getElem?_map] at e
      obtain ⟨d', e1, e2⟩ := Option.map_eq_some_iff.mp e
      cases e2
    · rw [List.getElem?_append_right (by simpa using c), List.getElem?_replicate] at e
      split at e <;> cases e
  sep := fun i j xs ys a _ e => by
    unfold ρ0 at e
    by_cases c : i < ds.length
    · rw [List.getElem?_append_left (by simpa using c), List.getElem?_map] at e
      obtain ⟨d', e1, e2⟩ := Option.map_eq_some_iff.mp e
      cases e2
    · rw [List.getElem?_append_right (by simpa using c), List.getElem?_replicate] at e
      split at e <;> cases e
  pen := h3
  mpn := h1
  dom := h2
  ext := .refl H
  sub := fun _ z => z
  cdm := h2
  gho := fun _ z => nomatch z
section
variable {PP : Program} {w : World} {K : PySem.W.Frag} {mg : Str → Option Value} {base : Heap} {k n : Nat} {f : Addr} {fd : FuncData} {ps N : List Str} {F : List D → Nat → (D → Nat → Prop) → Prop} {x qual : Str} {params : Arguments} {body : List Stmt} {scope : Scope} {dvs : List V} {kws : List (Str × V)} {ws : WS}
/-- a def that works on data and raises nothing -/
theorem fn_data (U : FunD K x qual params body scope dvs kws f fd) (S : FnScope N ps scope) (hn : ps.length = n)
    (hb : ∀ (cdv : Value) (A : Around) (outer : List PySem.Env) (s : Shared) (H : Hp) (E : XK) (P : Pc), A.guards = some [] → Room k (A.deeper (envOfC qual scope s.heap.objs.size f cdv)) → DSs (cxOf CX0 PP w K mg base N qual scope f cdv A outer s H E) P body ws)
    (hw : ∀ ds b (q : D → Nat → Prop), ds.length = n → F ds b q → ws { nx := fun _ b' => q .non b', rt := q } (ρ0 N.length ds) b) : FnG PP w K mg base CX0 (k + 1) f fd ps (spD K n F) := by
  refine fng_of U S (fun vs H Q E h => by rw [hn]; exact h.1) fun cdv A outer s H vs Q E g hr h => ?_
  obtain ⟨hl, pn, Mc, ds, b, q, h1, h2, h3, h4, h5, h6⟩ := h
  obtain ⟨t, t1, t2⟩ := hb cdv A outer s H E ⟨pn, H, Mc⟩ g hr
  refine ⟨t, t1, t2 [] Mc _ H _ b _ _ (rel0 h1 h2 h3 h4) (hw ds b q (by rw [← h4.len]; exact hl) h5) ⟨fun M σ H' ρ b' z R => ?_, fun d b' v H' z g p r => h6 d b' v H' z g p r, fun _ _ _ _ _ z => z.elim, fun _ _ _ _ _ z => z.elim⟩⟩
  exact h6 .non b' .non H' z R.ext R.penC .non
end
end NC
set_option maxRecDepth 100000
set_option maxHeartbeats 4000000
namespace NC
open PySem PyProof.Rows PySem.Spec L2
section
variable {X : Cx} {P : Pc}
/-- one of two readings -/
theorem op_either {f : Value → Value → Sem Value} {r r' : R2} (h : OpR X f r) (h' : OpR X f r') : OpR X f (fun x y H Q => r x y H Q ∨ r' x y H Q) := fun pins s σ H x y v u Q I rx ry q => q.elim (h pins s σ H x y v u Q I rx ry) (h' pins s σ H x y v u Q I rx ry)
theorem ix_either {r r' : R2} (h : IxR X r) (h' : IxR X r') : IxR X (fun x y H Q => r x y H Q ∨ r' x y H Q) := fun a b pins s σ H x y v u Q I rx ry q => q.elim (h a b pins s σ H x y v u Q I rx ry) (h' a b pins s σ H x y v u Q I rx ry)
/-! ### whole numbers -/
def fI (C : Int → Int → Prop) (g : Int → Int → D) : D → D → (D → Prop) → Prop := fun x y k => ∃ i j, x = .int i ∧ y = .int j ∧ C i j ∧ k (g i j)
def gV : D → V
  | .bl b => .bl b
  | .int i => .int i
  | .str x => .str x
  | _ => .non
theorem RpT.int {K : PySem.W.Frag} {pn : Addr} {M : Addr → Prop} {H : Hp} {v : V} {i : Int} (r : RpT K pn M H v (.int i)) : v = .int i := by
  rcases r with r | ⟨_, _, _, _, e, _⟩
  · cases r
    rfl
  · cases e
theorem RpT.str {K : PySem.W.Frag} {pn : Addr} {M : Addr → Prop} {H : Hp} {v : V} {i : Str} (r : RpT K pn M H v (.str i)) : v = .str i := by
  rcases r with r | ⟨_, _, _, _, e, _⟩
  · cases r
    rfl
  · cases e
theorem RpT.bl {K : PySem.W.Frag} {pn : Addr} {M : Addr → Prop} {H : Hp} {v : V} {i : Bool} (r : RpT K pn M H v (.bl i)) : v = .bl i := by
  rcases r with r | ⟨_, _, _, _, e, _⟩
  · cases r
    rfl
  · cases e
theorem opd_int {C : Int → Int → Prop} {g : Int → Int → D} (hg : ∀ i j K pn M H, Rp K pn M H (gV (g i j)) (g i j)) : OpD X P (rI C fun i j => gV (g i j)) (fI C g) := fun gs M σ H ρ b x y dx dy Q k R r1 r2 ⟨i, j, e1, e2, c, q⟩ f => by
  subst e1 e2
  exact ⟨i, j, r1.int, r2.int, c, f _ _ H q (.refl H) R (hg i j _ _ _ _)⟩
theorem opd_int0 {g : Int → Int → D} (hg : ∀ i j K pn M H, Rp K pn M H (gV (g i j)) (g i j)) : OpD X P (rI0 fun i j => gV (g i j)) (fI (fun _ _ => True) g) := fun gs M σ H ρ b x y dx dy Q k R r1 r2 ⟨i, j, e1, e2, _, q⟩ f => by
  subst e1 e2
  exact ⟨i, j, r1.int, r2.int, f _ _ H q (.refl H) R (hg i j _ _ _ _)⟩
/-! ### + -/
def dAdd : D → D → (D → Prop) → Prop
  | .int i, .int j, k => k (.int (i + j))
  | .str s, .str t, k => s.length + t.length ≤ 1000000 ∧ k (.str (s ++ t))
  | .lst a, .lst b, k => a.length + b.length ≤ 1000000 ∧ k (.lst (a ++ b))
  | _, _, _ => False
def rAdd : R2 := fun x y H Q => rI0 (fun i j => .int (i + j)) x y H Q ∨ (∃ i j, x = .str i ∧ y = .str j ∧ i.length + j.length ≤ sizeLine ∧ Q (.str (i ++ j)) H) ∨ rCat x y H Q
theorem or_add : OpR X (binaryOp .Add) rAdd := op_either op_add (op_either op_add_str op_cat)
theorem od_add : OpD X P rAdd dAdd := fun gs M σ H ρ b x y dx dy Q k R r1 r2 q f => by
  unfold dAdd at q
  split at q
  · exact .inl ⟨_, _, r1.int, r2.int, f _ _ H q (.refl H) R (.int _)⟩
  · exact .inr (.inl ⟨_, _, r1.str, r2.str, sz q.1, f _ _ H q.2 (.refl H) R (.str _)⟩)
  · obtain ⟨a, vs, rfl, h1, h2⟩ := RpT.lst (P := P) r1
    obtain ⟨c, us, rfl, h3, h4⟩ := RpT.lst (P := P) r2
    refine .inr (.inr ⟨a, c, vs, us, rfl, rfl, h1, h3, by rw [h2.len, h4.len]; exact sz q.1, fun p hp => ?_⟩)
    have g : Gr P.pn H (upd H p (.lst (vs ++ us))) := .new hp
    exact f _ _ _ q.2 g (R.new hp) (.lst upd_same (R.notM hp) ((h2.append h4).mono (R.gm g)))
  · exact q.elim
/-- a list that is made by + is new -/
def wCat (wa wb : WE) : WA := fun ρ b k => wa ρ b fun x b1 => wb ρ b1 fun y b2 => ∃ xs ys, x = .lst xs ∧ y = .lst ys ∧ xs.length + ys.length ≤ 1000000 ∧ k (xs ++ ys) b2
theorem df_add {a a2 : Expr} {pos : Pos} {wa wb : WE} (ha : DB X P a wa) (hb : DB X P a2 wb) : DF X P (.BinOp a .Add a2 pos) (wCat wa wb) := by
  obtain ⟨t, h1, h2⟩ := ha
  obtain ⟨u, g1, g2⟩ := hb
  refine ⟨_, pe_op op_cat h1 g1, fun gs M σ H ρ b Q k R q f => h2 gs M σ H ρ b _ _ R q fun d b' v H' z g R' r => ?_⟩
  refine g2 gs M σ H' ρ b' _ _ R' z fun d2 b2 v2 H2 z2 g' R2 r2 => ?_
  obtain ⟨xs, ys, rfl, rfl, hl, q2⟩ := z2
  obtain ⟨a, vs, rfl, h1, h2⟩ := RpT.lst (P := P) (r.grow R' g')
  obtain ⟨c, us, rfl, h3, h4⟩ := RpT.lst (P := P) r2
  refine ⟨a, c, vs, us, rfl, rfl, h1, h3, by rw [h2.len, h4.len]; exact sz hl, fun p hp => ?_⟩
  have gm : Gm (fun x => M x ∨ x = p) H2 (upd H2 p (.lst (vs ++ us))) := fun a u n e => by rw [upd_ne (fun z => n (.inr z))]; exact e
  exact f _ b2 p _ _ q2 ((g.trans g').trans (.new hp)) (R2.new hp) (R2.mask hp) ((g.trans g').free hp R2.pen.there) upd_same (((Rp.mask3 hp).2 _ _ (h2.append h4)).mono gm)
/-! ### items -/
def dIx : D → D → (D → Prop) → Prop := fun x y k => ∃ i, y = .int i ∧ match x with
  | .lst xs => ∃ d, atI xs i = some d ∧ k d
  | .tup xs => ∃ d, atI xs i = some d ∧ k d
  | .str z => z.length ≤ 1000000 ∧ ∃ c, atI z.cps.toList i = some c ∧ k (.str ⟨#[c]⟩)
  | _ => False
def rIxAny (K : PySem.W.Frag) : R2 := fun x y H Q => rIxL K x y H Q ∨ rIxT K x y H Q ∨ rIxS x y H Q
theorem or_ix : IxR X (rIxAny X.K) := ix_either ix_list (ix_either ix_tup ix_str)
theorem atI_rp {K : PySem.W.Frag} {pn : Addr} {M : Addr → Prop} {H : Hp} {vs : List V} {xs : List D} {i : Int} {d : D} (r : RpAll K pn M H vs xs) (h : atI xs i = some d) : ∃ v, atI vs i = some v ∧ Rp K pn M H v d := by
  unfold atI at h ⊢
  rw [r.len]
  match e : ixN xs.length i with
  | none => rw [e] at h; cases h
  | some j => rw [e] at h; exact r.get h
theorem od_ix : OpD X P (rIxAny X.K) dIx := fun gs M σ H ρ b x y dx dy Q k R r1 r2 ⟨i, e, q⟩ f => by
  subst e
  split at q
  · obtain ⟨a, vs, rfl, h1, h2⟩ := RpT.lst (P := P) r1
    obtain ⟨d, q1, q2⟩ := q
    obtain ⟨v, e1, e2⟩ := atI_rp h2 q1
    exact .inl ⟨a, vs, i, v, rfl, r2.int, .inl (.inl h1), e1, f d v H q2 (.refl H) R e2⟩
  · obtain ⟨a, vs, rfl, h1, h2⟩ := Rp.tup_at (P := P) (r1.rp (fun _ z => by cases z))
    obtain ⟨d, q1, q2⟩ := q
    obtain ⟨v, e1, e2⟩ := atI_rp h2 q1
    exact .inr (.inl ⟨a, vs, i, v, rfl, r2.int, h1, e1, f d v H q2 (.refl H) R e2⟩)
  · obtain ⟨hl, c, q1, q2⟩ := q
    exact .inr (.inr ⟨_, i, c, r1.str, r2.int, sz hl, q1, f _ _ H q2 (.refl H) R (.str _)⟩)
  · exact q.elim
/-! ### len -/
def dLen : List D → (D → Prop) → Prop
  | [.lst xs], k => k (.int xs.length)
  | [.tup xs], k => k (.int xs.length)
  | [.str z], k => z.length ≤ 1000000 ∧ k (.int z.length)
  | [.frz ns], k => k (.int ns.length)
  | _, _ => False
theorem od_len : CallD X P (fun xs H Q => ∃ x n, xs = [x] ∧ LenV X.K x H n ∧ Q (.int n) H) dLen := fun gs M σ H ρ b xs ds Q k R r q f => by
  unfold dLen at q
  split at q
  · cases r with
    | cons r1 r2 =>
      cases r2
      obtain ⟨a, vs, rfl, h1, h2⟩ := RpT.lst (P := P) r1
      exact ⟨_, _, rfl, .inl ⟨vs, .inl (.inl h1), by rw [← h2.len]⟩, f _ _ H q (.refl H) R (.int _)⟩
  · cases r with
    | cons r1 r2 =>
      cases r2
      obtain ⟨a, vs, rfl, h1, h2⟩ := Rp.tup_at (P := P) (r1.rp (fun _ z => by cases z))
      exact ⟨_, _, rfl, .inr ⟨vs, h1, by rw [← h2.len]⟩, f _ _ H q (.refl H) R (.int _)⟩
  · cases r with
    | cons r1 r2 =>
      cases r2
      rw [r1.str]
      exact ⟨_, _, rfl, ⟨sz q.1, rfl⟩, f _ _ H q.2 (.refl H) R (.int _)⟩
  · cases r with
    | cons r1 r2 =>
      cases r2
      have r1' := r1.rp (fun _ z => by cases z)
      cases r1' with
      | frz h1 h2 => exact ⟨_, _, rfl, .inl ⟨_, .inl h1, by rw [List.length_map]⟩, f _ _ H q (.refl H) R (.int _)⟩
  · exact q.elim
def dMin : List D → (D → Prop) → Prop
  | [.int i, .int j], k => k (.int (if j < i then j else i))
  | _, _ => False
theorem od_min : CallD X P (fun xs H Q => ∃ i j, xs = [.int i, .int j] ∧ Q (.int (if j < i then j else i)) H) dMin := fun gs M σ H ρ b xs ds Q k R r q f => by
  unfold dMin at q
  split at q
  · cases r with
    | cons r1 r2 =>
      cases r2 with
      | cons r3 r4 =>
        cases r4
        rw [r1.int, r3.int]
        exact ⟨_, _, rfl, f _ _ H q (.refl H) R (.int _)⟩
  · exact q.elim
end
end NC
set_option maxRecDepth 100000
set_option maxHeartbeats 8000000
/-! the pen: a dict with the cells, the turn and what is left -/
namespace NC
open PySem PyProof.Rows PySem.Spec L2
def penD (c : Addr) (t l : Int) : List (Key × V) := [(kS "cells", .ref c), (kS "turn", .int t), (kS "left", .int l)]
theorem k1 : ¬ kS "cells" = kS "turn" := by decide +kernel
theorem k2 : ¬ kS "cells" = kS "left" := by decide +kernel
theorem k3 : ¬ kS "turn" = kS "left" := by decide +kernel
theorem k4 : ¬ kS "turn" = kS "cells" := fun z => k1 z.symm
theorem k5 : ¬ kS "left" = kS "cells" := fun z => k2 z.symm
theorem k6 : ¬ kS "left" = kS "turn" := fun z => k3 z.symm
theorem pen_cells (c : Addr) (t l : Int) : valV (penD c t l) (kS "cells") = some (.ref c) := valV_pos rfl
theorem pen_turn (c : Addr) (t l : Int) : valV (penD c t l) (kS "turn") = some (.int t) := (valV_neg k1).trans (valV_pos rfl)
theorem pen_left (c : Addr) (t l : Int) : valV (penD c t l) (kS "left") = some (.int l) := (valV_neg k2).trans ((valV_neg k3).trans (valV_pos rfl))
theorem put_turn (c : Addr) (t l z : Int) : putK (penD c t l) (kS "turn") (.int z) = penD c z l := by
  simp [putK, penD, k1, k6]
theorem put_left (c : Addr) (t l z : Int) : putK (penD c t l) (kS "left") (.int z) = penD c t z := by
  simp [putK, penD, k2, k3]
/-- the promise of the draw, by values -/
def spDraw (K : PySem.W.Frag) : Sp := fun vs H Q _ => ∃ (pn : Addr) (M : Addr → Prop) (many : Int) (b : Nat), vs = [.ref pn, .int many] ∧ 0 < many ∧ many < 2 ^ 64 ∧ M pn ∧ PenAt K M H pn (b + 1) ∧
  ∀ (r : Int) (H' : Hp), 0 ≤ r → r < many → Gr pn H H' → PenAt K M H' pn b → Q (.int r) H'
def primes : List Int := [2147483629, 2147483647, 2147483587, 2147483563, 2147483579]
theorem gr_pen {pn : Addr} {H : Hp} {o : HO} : Gr pn H (upd H pn o) := fun a u n e => by rw [upd_ne n]; exact e
theorem dp_ints {K : PySem.W.Frag} {H : Hp} : ∀ ns : List Int, DpAll K H (ns.map V.int) (ns.map PyData.int)
  | [] => .nil
  | n :: r => .cons (.int n) (dp_ints r)
theorem eqv_nil (ns : List Int) : PyData.eqv (.list (ns.map PyData.int)) (.list []) = ns.isEmpty := by
  cases ns <;> rfl
theorem prime_at (z : Int) (h0 : 0 ≤ z) (h5 : z < 5) : ∃ p, atI (primes.map V.int) z = some (.int p) ∧ 0 < p ∧ p < 2 ^ 32 := by
  have e : z = 0 ∨ z = 1 ∨ z = 2 ∨ z = 3 ∨ z = 4 := by omega
  rcases e with rfl | rfl | rfl | rfl | rfl
  all_goals exact ⟨_, rfl, by decide, by decide⟩
theorem atI_nn {α : Type} {xs : List α} {z : Int} (h0 : 0 ≤ z) (h : z < xs.length) : ∃ v, atI xs z = some v ∧ v ∈ xs := by
  obtain ⟨n, rfl⟩ := Int.eq_ofNat_of_zero_le h0
  have hn : n < xs.length := by omega
  exact ⟨xs[n], atI_nat (List.getElem?_eq_getElem hn), List.getElem_mem hn⟩
end NC
namespace NC
open PySem PyProof.Rows PySem.Spec L2
section
variable {H : Hp} {pn c : Addr} {t l : Int}
theorem getC (e : H pn = some (.dK (penD c t l))) : DGet H pn (.str "cells") (some (.ref c)) := by
  rw [← pen_cells c t l]
  exact DGet.k (k := kS "cells") e
theorem getT (e : H pn = some (.dK (penD c t l))) : DGet H pn (.str "turn") (some (.int t)) := by
  rw [← pen_turn c t l]
  exact DGet.k (k := kS "turn") e
theorem getL' (e : H pn = some (.dK (penD c t l))) : DGet H pn (.str "left") (some (.int l)) := by
  rw [← pen_left c t l]
  exact DGet.k (k := kS "left") e
theorem putT (z : Int) (e : H pn = some (.dK (penD c t l))) : DPut H pn (.str "turn") (.int z) (upd H pn (.dK (penD c z l))) := by
  rw [← put_turn c t l z]
  exact DPut.k (k := kS "turn") e (by show 3 < sizeLine; decide)
theorem putL' (z : Int) (e : H pn = some (.dK (penD c t l))) : DPut H pn (.str "left") (.int z) (upd H pn (.dK (penD c t z))) := by
  rw [← put_left c t l z]
  exact DPut.k (k := kS "left") e (by show 3 < sizeLine; decide)
end
/-- the built-in names that no module's name hides -/
structure Bl (mg : Str → Option Value) : Prop where
  len : mg "len" = none
  int : mg "int" = none
  abs : mg "abs" = none
  range : mg "range" = none
  repr : mg "repr" = none
  min : mg "min" = none
  list : mg "list" = none
  isi : mg "isinstance" = none
end NC
set_option maxRecDepth 100000
set_option maxHeartbeats 4000000
namespace NC
open PySem PyProof.Rows PySem.Spec L2
section
variable {X : Cx} {P : Pc} {pos p : Pos}
def dNeg : D → (D → Prop) → Prop := fun x k => ∃ i, x = .int i ∧ k (.int (-i))
theorem od_neg : UnD X P (rU fun i => .int (-i)) dNeg := fun gs M σ H ρ b x dx Q k R r ⟨i, e, q⟩ f => by
  subst e
  exact ⟨i, r.int, f _ _ H q (.refl H) R (.int _)⟩
def dPow := fI CPow fun i j => .int (i ^ j.toNat)
theorem od_pow : OpD X P (rI CPow fun i j => .int (i ^ j.toNat)) dPow := opd_int (g := fun i j => .int (i ^ j.toNat)) fun _ _ _ _ _ _ => .int _
def dSub := fI (fun _ _ => True) fun i j => .int (i - j)
theorem od_sub : OpD X P (rI0 fun i j => .int (i - j)) dSub := opd_int0 (g := fun i j => .int (i - j)) fun _ _ _ _ _ _ => .int _
/-! ### dicts with text keys, as they are written -/
theorem de_dict0 : DE X P (.Dict [] [] pos) (wC (.dct [])) := by
  refine ⟨_, pe_dnewK, fun gs M σ H ρ b Q k R q f d hd => ?_⟩
  exact f (.dct []) b (.ref d) _ q (.new hd) (R.new hd) (.dct upd_same (R.notM hd) .nil)
def wDict1 (wk wv : WE) : WE := fun ρ b k => wk ρ b fun x b1 => wv ρ b1 fun y b2 => ∃ s, x = .str s ∧ k (.dct [(s, y)]) b2
theorem de_dict1 {ke ve : Expr} {wk wv : WE} (hk : DE X P ke wk) (hv : DE X P ve wv) : DE X P (.Dict [some ke] [ve] pos) (wDict1 wk wv) := by
  obtain ⟨t, h1, h2⟩ := hk
  obtain ⟨u, g1, g2⟩ := hv
  refine ⟨_, pe_disp (pps_cons h1 g1 pps_nil) rfl rfl (fun z => by cases z) (by show 1 ≤ 15; decide), fun gs M σ H ρ b Q k R q f d hd => ?_⟩
  have R1 := R.mask (o := .dK []) hd
  have m0 : ∀ a, M a → (M a ∨ a = d) := fun a z => .inl z
  refine h2 gs _ σ _ ρ b _ _ R1 q fun x b1 v1 H1 z1 gr1 R2 r1 => ?_
  refine g2 gs _ σ H1 ρ b1 _ _ R2 z1 fun y b2 v2 H2 z2 gr2 R3 r2 => ?_
  obtain ⟨s, rfl, z⟩ := z2
  have n1 : d ≠ P.pn := fun e => by
    obtain ⟨o, ho⟩ := R.pen.there
    rw [← e, hd] at ho
    cases ho
  have hd2 : H2 d = some (.dK []) := gr2 d _ n1 (gr1 d _ n1 upd_same)
  cases r1
  refine ⟨hd2, [(kS s, v2)], rfl, (by show 1 ≤ 15; decide), ?_⟩
  have em : mergeK [] [(kS s, v2)] = [(kS s, v2)] := rfl
  rw [em]
  have gm : Gm (fun x => M x ∨ x = d) H2 (upd H2 d (.dK [(kS s, v2)])) := fun a u n e => by rw [upd_ne (fun z => n (.inr z))]; exact e
  have g3 : Gr P.pn H (upd H2 d (.dK [(kS s, v2)])) := fun a o n e => by
    have nd : a ≠ d := ne_of_none e hd
    rw [upd_ne nd]
    exact gr2 a o n (gr1 a o n (by rw [upd_ne nd]; exact e))
  have pp : PenAt X.K M (upd H2 d (.dK [(kS s, v2)])) P.pn b2 := by
    obtain ⟨c, ns, t, l, q1, q2, q3, q4⟩ := R3.pen.ex
    exact ⟨c, ns, t, l, by rw [upd_ne n1.symm]; exact q1, by rw [upd_ne (show c ≠ d from fun e => q3 (.inr e))]; exact q2, fun z => q3 (.inl z), q4⟩
  exact f _ b2 (.ref d) _ z g3 (R.grow g3 pp) (.dct upd_same (R.notM hd) (.cons rfl ((r2.mono gm).less m0) .nil))
/-! ### the frame's own list grows -/
def wAppend (i : Nat) (we : WE) : WS := fun T ρ b => ∃ xs, ρ[i]? = some (some (.own xs)) ∧ we ρ b fun d b' => xs.length < 1000000 ∧ T.nx (ρ.set i (some (.own (xs ++ [d])))) b'
def wExtend (i : Nat) (we : WE) : WS := fun T ρ b => ∃ xs, ρ[i]? = some (some (.own xs)) ∧ we ρ b fun d b' => ∃ ys, d = .lst ys ∧ xs.length + ys.length ≤ 1000000 ∧ T.nx (ρ.set i (some (.own (xs ++ ys)))) b'
end
section
variable {X : Cx} {P : Pc} {pos cpos apos p : Pos} {e : Expr} {w : WE} {x : Str} {i : Nat}
theorem ds_append {call : Expr} (h : DE X P e w) (hm : ∀ {t : TE}, PE X e t → PE X call (tBM X.K "list" rAppend (tVar i) (tCons t tNil))) (hs : swapsWith call none pos.line X.env = pure false := by rfl) : DS X P (.Expr call pos) (wAppend i w) := by
  obtain ⟨t, h1, h2⟩ := h
  refine ⟨_, ps_expr (hm h1) hs, fun gs M σ H ρ b E T R q o => ?_⟩
  -- the list is read first, then the item, then it grows
  obtain ⟨xs, hx, q⟩ := q
  obtain ⟨a, vs, e1, e2, e3, _⟩ := R.own i xs hx
  refine ⟨_, e1, .inl ⟨rfl, vs, .inl (.inl e2)⟩, h2 gs M σ H ρ b _ _ R q fun d b' v H' z g R' r => ?_⟩
  obtain ⟨hl, z⟩ := z
  obtain ⟨a', us, f1, f2, f3, _⟩ := R'.own i xs hx
  rw [e1] at f1
  cases f1
  exact ⟨a, us, v, rfl, rfl, f2, by rw [f3.len]; exact Nat.lt_of_lt_of_le hl (by decide), o.nx M σ _ _ b' z (R'.mut hx e1 (f3.append (.cons r .nil)))⟩
theorem ds_extend {call : Expr} (h : DB X P e w) (hm : ∀ {t : TE}, PE X e t → PE X call (tBM X.K "list" rExtend (tVar i) (tCons t tNil))) (hs : swapsWith call none pos.line X.env = pure false := by rfl) : DS X P (.Expr call pos) (wExtend i w) := by
  obtain ⟨t, h1, h2⟩ := h
  refine ⟨_, ps_expr (hm h1) hs, fun gs M σ H ρ b E T R q o => ?_⟩
  obtain ⟨xs, hx, q⟩ := q
  obtain ⟨a, vs, e1, e2, e3, _⟩ := R.own i xs hx
  refine ⟨_, e1, .inl ⟨rfl, vs, .inl (.inl e2)⟩, h2 gs M σ H ρ b _ _ R q fun d b' v H' z g R' r => ?_⟩
  obtain ⟨ys, rfl, hl, z⟩ := z
  obtain ⟨a', us, f1, f2, f3, _⟩ := R'.own i xs hx
  rw [e1] at f1
  cases f1
  obtain ⟨c, zs, rfl, l1, l2⟩ := RpT.lst (P := P) r
  exact ⟨a, c, us, zs, rfl, rfl, f2, l1, by rw [f3.len, l2.len]; exact sz hl, o.nx M σ _ _ b' z (R'.mut hx e1 (f3.append l2))⟩
end
end NC
set_option maxRecDepth 100000
set_option maxHeartbeats 4000000
/-! repr of data -/
namespace NC
open PySem PyProof.Rows PySem.Spec L2
mutual
/-- a datum as plain data -/
def pd : D → PyData
  | .bl b => .bool b
  | .int i => .int i
  | .str x => .str x
  | .lst xs => .list (pds xs)
  | .tup xs => .tuple (pds xs)
  | .dct kvs => .dict (pdk kvs)
  | _ => .none
def pds : List D → List PyData
  | [] => []
  | x :: r => pd x :: pds r
def pdk : List (Str × D) → List (PyData × PyData)
  | [] => []
  | (k, v) :: r => (.str k, pd v) :: pdk r
end
mutual
/-- it is plain data -/
def isPd : D → Bool
  | .non | .bl _ | .int _ | .str _ => true
  | .lst xs => isPds xs
  | .tup xs => isPds xs
  | .dct kvs => isPdk kvs
  | _ => false
def isPds : List D → Bool
  | [] => true
  | x :: r => isPd x && isPds r
def isPdk : List (Str × D) → Bool
  | [] => true
  | (_, v) :: r => isPd v && isPdk r
end
/-- the written part knows sys.modules: nothing of ours stands there -/
def SysK (K : PySem.W.Frag) : Prop := ∃ o, K.lookup sysModules = some o ∧ o.cls = .type "dict"
section
variable {X : Cx} {pins : List (Addr × Obj)} {σ : L2.St} {H : Hp} {s : Shared} {pn : Addr} {M : Addr → Prop}
theorem sys_free (I : Inv X pins σ H s) (hs : SysK X.K) {a : Addr} {o : HO} (h : H a = some o) : a ≠ sysModules := fun z => by
  obtain ⟨u, hu, _⟩ := hs
  have q := (I.bs sysModules u (I.ok.mod.kin _ _ hu)).2
  rw [z, q] at h
  cases h
theorem dict_parts {P : Program} {w : World} {h : Heap} {es : List DictEntry} {vs : List (Key × Value)} (hp : Pairs (mixKind P w) es vs) : ∀ {kvs : List (Key × V)} {ds : List (Str × D)}, KV kvs vs → Paired (fun (p : Key × V) (q : Str × D) => p.1 = Sum.inr q.1) kvs ds →
    ReadsAll h (es.map (·.key)) ((pdk ds).map (·.1)) [] ∧ Vals (kvs.map (·.2)) (es.map (·.val)) := by
  induction hp with
  | nil =>
    intro kvs ds r q
    cases r
    cases q
    exact ⟨.nil, .nil⟩
  | @cons e kv es kvs0 h1 h2 _ ih =>
    intro kvs ds r q
    cases r with
    | cons r rs =>
      cases q with
      | @cons _ z _ _ q qs =>
        obtain ⟨a, b⟩ := ih rs qs
        have ek : kv.1 = Sum.inr z.1 := r.1.symm.trans q
        rw [ek] at h1
        obtain ⟨t, et⟩ := Value.isStrOf_shape (x := z.1) (v := e.key) h1
        refine ⟨?_, ?_⟩
        · rw [List.map_cons, et]
          exact .cons (as := []) (bs := []) (.str z.1 t) a
        · rw [List.map_cons, List.map_cons, h2]
          exact .cons r.2 b
theorem Rp.reads (I : Inv X pins σ H s) (hs : SysK X.K) {v : V} {d : D} (h : Rp X.K pn M H v d) : isPd d = true → ∀ u, RelV v u → ∃ as, Reads s.heap u (pd d) as ∧ sysModules ∉ as := by
  refine Rp.rec (motive_1 := fun v d _ => isPd d = true → ∀ u, RelV v u → ∃ as, Reads s.heap u (pd d) as ∧ sysModules ∉ as)
    (motive_2 := fun vs ds _ => isPds ds = true → ∀ us, Vals vs us → ∃ as, ReadsAll s.heap us (pds ds) as ∧ sysModules ∉ as)
    (motive_3 := fun {κ} r vs ds _ => Paired (fun (p : κ × V) (q : Str × D) => r p.1 q.1) vs ds ∧ (isPdk ds = true → ∀ us, Vals (vs.map (·.2)) us → ∃ as, ReadsAll s.heap us ((pdk ds).map (·.2)) as ∧ sysModules ∉ as))
    ?_ ?_ ?_ ?_ ?_ ?_ ?_ ?_ ?_ ?_ ?_ ?_ ?_ ?_ ?_ ?_ ?_ ?_ ?_ h
  · rintro _ u rfl
    exact ⟨_, .none, by simp⟩
  · rintro b _ u rfl
    exact ⟨_, .bool b, by simp⟩
  · rintro i _ u ⟨t, rfl⟩
    exact ⟨_, .int i t, by simp⟩
  · rintro x _ u ⟨t, rfl⟩
    exact ⟨_, .str x t, by simp⟩
  · rintro n e
    cases e
  · rintro a xs ds h1 h2 _ ih e u rfl
    obtain ⟨its, rv, ⟨o, n, ho, hc, _, hd⟩, _⟩ := I.list (.inl (.inl h1))
    obtain ⟨as, r1, r2⟩ := ih e its rv
    refine ⟨_, .list ho hc hd r1, fun z => ?_⟩
    rcases List.mem_cons.mp z with z | z
    · exact sys_free I hs h1 z.symm
    · exact r2 z
  · rintro a xs ds h1 h2 _ ih e u rfl
    obtain ⟨its, rv, ⟨o, ho, hc, n, hd⟩, _⟩ := I.tuple (.inl (.inl h1))
    obtain ⟨as, r1, r2⟩ := ih e its rv
    exact ⟨_, .tuple ho hc hd r1, r2⟩
  · rintro a xs ds h1 _ ih e u rfl
    obtain ⟨its, rv, ⟨o, ho, hc, n, hd⟩, _⟩ := I.tuple (h1.sq H)
    obtain ⟨as, r1, r2⟩ := ih e its rv
    exact ⟨_, .tuple ho hc hd r1, r2⟩
  · rintro a kvs ds h1 h2 _ ih e u rfl
    obtain ⟨hp, hv⟩ := ih
    obtain ⟨_, _, vs, kv, o, es, ep, ho, hx, hd, _, hq, _⟩ := I.hok a _ h1
    obtain ⟨rk, rv⟩ := dict_parts (h := s.heap) hq kv hp
    obtain ⟨as, r1, r2⟩ := hv e _ rv
    have ek : (pdk ds).map (·.1) = (pdk ds).map (·.1) := rfl
    refine ⟨a :: [] ++ as, .dict (kvs := pdk ds) ho hx.1 hd rk r1, fun z => ?_⟩
    rcases List.mem_cons.mp z with z | z
    · exact sys_free I hs h1 z.symm
    · exact r2 (by simpa using z)
  · intro a C dx fs ds h1 h2 _ ih e
    cases e
  · intro a C d fs ds h1 h2 h3 h4 _ ih e
    cases e
  · intro a C h1 h2 e
    cases e
  · intro a e
    cases e
  · intro e
    cases e
  · intro a ns h1 h2 e
    cases e
  · intro _ us hv
    cases hv
    exact ⟨[], .nil, by simp⟩
  · intro v vs d ds _ _ i1 i2 e us hv
    obtain ⟨e1, e2⟩ := Bool.and_eq_true_iff.mp (show (isPd d && isPds ds) = true from e)
    cases hv with
    | cons r rs =>
      obtain ⟨as, a1, a2⟩ := i1 e1 _ r
      obtain ⟨bs, b1, b2⟩ := i2 e2 _ rs
      exact ⟨as ++ bs, .cons a1 b1, fun z => (List.mem_append.mp z).elim a2 b2⟩
  · intro κ r
    refine ⟨.nil, fun _ us hv => ?_⟩
    cases hv
    exact ⟨[], .nil, by simp⟩
  · intro κ r k v vs x d ds hr _ _ i1 i2
    refine ⟨.cons hr i2.1, fun e us hv => ?_⟩
    obtain ⟨e1, e2⟩ := Bool.and_eq_true_iff.mp (show (isPd d && isPdk ds) = true from e)
    cases hv with
    | cons r rs =>
      obtain ⟨as, a1, a2⟩ := i1 e1 _ r
      obtain ⟨bs, b1, b2⟩ := i2.2 e2 _ rs
      exact ⟨as ++ bs, .cons a1 b1, fun z => (List.mem_append.mp z).elim a2 b2⟩
/-- repr(x), where no repr is running -/
theorem call_repr {k : Nat} (g : X.A.guards = some []) (hs : SysK X.K) (hr : Room k X.A) : CallR X (.builtin "repr") (fun xs H Q => ∃ (v : V) (d : D) (pn : Addr) (M : Addr → Prop), xs = [v] ∧ Rp X.K pn M H v d ∧ isPd d = true ∧ (pd d).showable = true ∧ (pd d).depth ≤ 60 ∧ (pd d).shown.length ≤ sizeLine ∧ Q (.str (pd d).shown) H) := by
  intro pins s σ H xs us Q I r h
  obtain ⟨v, d, pn, M, rfl, rp, hp, hsh, hdp, hsz, q⟩ := h
  obtain ⟨u, rfl, rv⟩ := vals1 r
  obtain ⟨as, rd, hm⟩ := rp.reads I hs hp u rv
  have un : X.A.units + ((pd d).depth + 1) < cLine := by have := hr.un; omega
  have go : ∀ (h' : Heap) (tk : Nat), (∀ b o, s.heap.get? b = some o → h'.get? b = some o) → Inv X pins σ H { s with heap := h', toks := tk } := fun h' tk k => I.un (Un.kept k) (I.hok.kept k)
  have leaf : ∀ x, x = (pd d).shown → EP X pins σ Q (.str x s.toks) { s with toks := s.toks + 1 } := fun x e => ⟨.str x, H, I.tok _, ⟨_, rfl⟩, by rw [e]; exact q⟩
  cases u with
  | ref a => exact repr_of_reads' rd hsh (fun _ => hm) g un (fun _ _ z => z) (fun h' t tk k => ⟨.str _, H, go h' tk k, ⟨t, rfl⟩, q⟩) hsz
  | none =>
    obtain ⟨z, hz⟩ : ∃ z, z = pd d := ⟨_, rfl⟩
    rw [← hz] at rd leaf
    cases rd
    exact PySem.P.repr_of_none (leaf _ rfl)
  | bool c =>
    obtain ⟨z, hz⟩ : ∃ z, z = pd d := ⟨_, rfl⟩
    rw [← hz] at rd leaf
    cases rd
    exact PySem.P.repr_of_bool (leaf _ rfl)
  | int i t =>
    obtain ⟨z, hz⟩ : ∃ z, z = pd d := ⟨_, rfl⟩
    rw [← hz] at rd leaf hsh
    cases rd
    exact PySem.P.repr_of_int (of_decide_eq_true hsh) (leaf _ rfl)
  | str x t =>
    obtain ⟨z, hz⟩ : ∃ z, z = pd d := ⟨_, rfl⟩
    rw [← hz] at rd leaf hsz
    cases rd
    exact PySem.P.repr_of_str (leaf _ rfl) hsz
  | _ => cases rd
def dRepr : List D → (D → Prop) → Prop := fun ds k => ∃ d, ds = [d] ∧ isPd d = true ∧ (pd d).showable = true ∧ (pd d).depth ≤ 60 ∧ (pd d).shown.length ≤ 1000000 ∧ k (.str (pd d).shown)
end
section
variable {X : Cx} {P : Pc}
theorem od_repr : CallD X P (fun xs H Q => ∃ (v : V) (d : D) (pn : Addr) (M : Addr → Prop), xs = [v] ∧ Rp X.K pn M H v d ∧ isPd d = true ∧ (pd d).showable = true ∧ (pd d).depth ≤ 60 ∧ (pd d).shown.length ≤ sizeLine ∧ Q (.str (pd d).shown) H) dRepr := fun gs M σ H ρ b xs ds Q k R r ⟨d, e, h1, h2, h3, h4, q⟩ f => by
  subst e
  cases r with
  | cons r1 r2 =>
    cases r2
    have out : Q (.str (pd d).shown) H := f _ _ H q (.refl H) R (.str _)
    rcases r1 with r1 | ⟨a, vs, xs, rfl, rfl, e1, e2, e3⟩
    · exact ⟨_, d, P.pn, M, rfl, r1, h1, h2, h3, sz h4, out⟩
    · exact ⟨_, .lst xs, P.pn, fun x => M x ∧ x ≠ a, rfl, .lst e1 (fun z => z.2 rfl) (e3.less fun _ z => z.1), h1, h2, h3, sz h4, out⟩
end
end NC
set_option maxRecDepth 100000
set_option maxHeartbeats 4000000
/-! exceptions of the program's own classes as values: made, asked for a field, asked for their class -/
namespace NC
open PySem PyProof.Rows PySem.Spec L2
/-- what the written part says of an exception class -/
structure XF (K : PySem.W.Frag) (C : Addr) : Prop where
  reach : PySem.W.findIn K (.ref C) "__getattribute__" = some (some (.builtin "BaseException.__getattribute__"))
  plain : PySem.W.findIn K (.ref C) "__getattr__" = some none
  exc : PySem.W.subIn K (.ref C) (.type "BaseException") = some true
  dict : PySem.W.hasDictIn K C = true
  kind : PySem.W.findIn K (.ref C) "__class__" = some (some (.builtin "object.__class__"))
  root : PySem.W.mroIn K C (.type "object") = some true
  slot : PySem.W.specialIn K (.builtin "object.__class__") "__get__" = some (some (.builtin "getset_descriptor.__get__"))
  take : PySem.W.takesIn K (.builtin "object.__class__") = some true
theorem XF.cls {K : PySem.W.Frag} {C : Addr} (T : XF K C) : (PySem.W.clsIn K C).isSome = true := by
  obtain ⟨cd, z, _⟩ := PySem.W.any_some T.dict
  rw [z] <;> rfl
/-- the fields' values vs are handed in by position, by name, or by name the other way about -/
def Hand (fs : List Str) (us : List Value) (kw : List (Str × Value)) (vs : List Value) : Prop := vs.length = fs.length ∧ ((us = vs ∧ kw = []) ∨ (us = [] ∧ kw = fs.zip vs) ∨ (us = [] ∧ kw = (fs.zip vs).reverse))
/-- .. and of its name, its fields and its __init__ -/
structure XCl (K : PySem.W.Frag) (prog : Program) (mg : Str → Option Value) (x : Str) (C : Addr) (fs : List Str) : Prop where
  at_ : mg x = some (.ref C)
  keep : PySem.W.keepIn K (.ref C) = true
  facts : XF K C
  free : ∀ f ∈ fs, PySem.W.findIn K (.ref C) f = some none
  made : ∀ {w : World} {A : Around} {s : Shared} {us vs : List Value} {kw : List (Str × Value)} {mb : Str → Option Value} {R : Result → Shared → Prop}, Hand fs us kw vs → us.length ≤ sizeLine →
    K.In s.heap → s.heap.NoLimit → s.heap.Ns mainGlobals mg → s.heap.Ns builtinsNs mb → mb "super" = some (.type "super") → A.depth + 1 < recursionLimit →
    (∀ h' tk e, NCX.Made s.heap h' e C (fun y => (fs.zip vs).lookup y) → R (.ok (.ret (.ref e))) { s with heap := h', toks := tk }) → codeAny (model prog w) A (.call (.ref C) ⟨us, kw⟩) R s
theorem zip_rev {α β : Type} : ∀ {a : List α} {b : List β}, a.length = b.length → (a.zip b).reverse = a.reverse.zip b.reverse
  | [], [], _ => rfl
  | x :: a, y :: b, h => by
    have h' : a.length = b.length := by simpa using h
    rw [List.zip_cons_cons, List.reverse_cons, List.reverse_cons, List.reverse_cons, zip_rev h', List.zip_append (by rw [List.length_reverse, List.length_reverse, h'])]
    rfl
theorem rel_fs (y : Str) : ∀ {fs : List Str} {zs : List V} {us : List Value}, Vals zs us → RelO ((fs.zip zs).lookup y) ((fs.zip us).lookup y)
  | [], _, _, _ => by simp [List.lookup, RelO]
  | _ :: _, _, _, .nil => by simp [List.lookup, RelO]
  | f :: fs, _, _, .cons r t => by
    by_cases c : y = f
    · simp only [List.zip_cons_cons, List.lookup, c, beq_self_eq_true]
      exact r
    · have z : (y == f) = false := by simpa using c
      simp only [List.zip_cons_cons, List.lookup, z]
      exact rel_fs y t
section
variable {X : Cx} {x f : Str} {k : Nat} {a : Expr} {ta : TE} {p pos : Pos} {C : Addr} {fs : List Str}
/-- an exception lies there -/
def laidX (C : Addr) (fs : List Str) (zs : List V) (H1 : Hp) (Q : VK) : Prop := ∀ e d, H1 e = none → H1 d = none → d ≠ e → Q (.ref e) (upd (upd H1 d (.xd (fs.zip zs))) e (ExA C d e))
theorem run_x {pins : List (Addr × Obj)} {σ : L2.St} {H1 : Hp} {s1 : Shared} {Q : VK} {us vs : List Value} {zs : List V} {kw : List (Str × Value)} (T : XCl X.K X.prog X.mg x C fs) (hr : Room k X.A) (I1 : Inv X pins σ H1 s1) (ac : Hand fs us kw vs) (hs : us.length ≤ sizeLine) (rz : Vals zs vs) (q : laidX C fs zs H1 Q) :
    wpAny (model X.prog X.w) X.A (PySem.call (.ref C) us kw) (EP X pins σ Q) X.xe s1 := by
  obtain ⟨mb, b1, b2⟩ := I1.mod.blt
  refine wpAny_call (T.made ac hs I1.kIn I1.nolimit (I1.mod.glob.keeps I1.bk) (b1.keeps I1.bk) ((b2 _ (by decide)).trans (by decide +kernel)) (by have := hr.dp; omega) fun h' tk' e M => ?_)
  obtain ⟨d, t1, m1, m2, m3, m4⟩ := M.ob
  obtain ⟨G, g1, g2⟩ := restrict h' fun b => decide (b ≠ e)
  have gk : ∀ b, b ≠ e → G.get? b = h'.get? b := fun b hb => g1 b (decide_eq_true hb)
  have ge : G.get? e = none := g2 e (by simp)
  have He := I1.hok.gone M.new
  have Hd := I1.hok.gone m2
  have old : ∀ b o, s1.heap.get? b = some o → G.get? b = some o := fun b o z => (gk b (fun y => by rw [y, M.new] at z; cases z)).trans (M.keep b o z)
  have J : Inv X pins σ (upd H1 d (.xd (fs.zip zs))) { s1 with heap := G, toks := tk' } := I1.laidN old m2 Hd ⟨_, m4.at fun o z => (gk d m3).trans z, fun y => rel_fs y rz⟩
  have J' : Inv X pins σ (upd (upd H1 d (.xd (fs.zip zs))) e (ExA C d e)) { s1 with heap := h', toks := tk' } := J.laidN (fun b o z => by
    have hb : b ≠ e := fun y => by
      rw [y] at z
      exact absurd (ge.symm.trans z) (by simp)
    exact (gk b hb).symm.trans z) ge (by rw [upd_ne m3.symm]; exact He) ⟨⟨t1, m1⟩, ⟨_, m1⟩, fun _ _ ⟨t, z⟩ kk => ⟨t, kk _ z⟩⟩
  exact ⟨.ref e, _, J', rfl, q e d He Hd m3⟩
/-- C(..) by position -/
theorem pe_xP {e : Expr} {es : List Expr} {t : TA} (T : XCl X.K X.prog X.mg x C fs) (hr : Room k X.A) (ha : PA X (e :: es) t) (hg : Gl X x := by rfl) (hdb : (x == ("__debug__" : Str)) = false := by decide)
    (he : starEach (e :: es) X.env = (false, eval e X.env) :: starEach es X.env := by rfl) (hpl : (backTo pos (starEach es X.env)).any (·.1) = false := by rfl) :
    PE X (.Call (.Name x p) (e :: es) [] pos) (fun σ H Q => t σ H fun zs H1 => zs.length = fs.length ∧ zs.length ≤ 1000000 ∧ laidX C fs zs H1 Q) :=
  ⟨fun pins s σ H Q I h => wpAny_Call_Name_kw (ld_glob I hg T.at_ (PySem.W.callWith_K (h₀ := X.base) I.ok.mod.kin T.keep (thn (ha.run pos pins s σ H _ I h) fun us s1 ⟨zs, H1, I1, r, l1, l2, q⟩ => ⟨I1.kIn, run_x (us := us) T hr I1 ⟨r.length.symm.trans l1, .inl ⟨rfl, rfl⟩⟩ (by rw [← r.length]; exact sz l2) r q⟩) he hpl) hdb)⟩
/-- C(k = ..), in the fields' order or the other way about -/
theorem pe_xK {ks : List Str} {kws : List Keyword} {t : TA} (back : Bool) (hkf : ks = if back then fs.reverse else fs) (T : XCl X.K X.prog X.mg x C fs) (hr : Room k X.A) (hkw : PK X kws t)
    (hall : (backToKw pos (keywordEach kws X.env)).all (·.1.isSome) = true := by rfl) (hks : (backToKw pos (keywordEach kws X.env)).filterMap (·.1) = ks := by rfl) (hg : Gl X x := by rfl) (hdb : (x == ("__debug__" : Str)) = false := by decide)
    (hpl : ((backTo pos (starEach [] X.env)).any (·.1) || (backToKw pos (keywordEach kws X.env)).any (·.1.isNone)) = false := by rfl) :
    PE X (.Call (.Name x p) [] kws pos) (fun σ H Q => t σ H fun zs H1 => zs.length = fs.length ∧ laidX C fs (if back then zs.reverse else zs) H1 Q) := by
  refine ⟨fun pins s σ H Q I h => wpAny_Call_Name_kw (ld_glob I hg T.at_ ?_ hdb)⟩
  refine PySem.W.callWith_KW0 (h₀ := X.base) I.ok.mod.kin T.keep hall (thn (hkw.run pos pins s σ H _ I h) fun ws s1 ⟨zs, H1, I1, r, l1, q⟩ => ⟨I1.kIn, ?_⟩) hpl
  rw [hks, hkf]
  have l2 : ws.length = fs.length := r.length.symm.trans l1
  cases back with
  | false => exact run_x (us := []) (vs := ws) (kw := fs.zip ws) T hr I1 ⟨l2, .inr (.inl ⟨rfl, rfl⟩)⟩ (Nat.zero_le _) r q
  | true =>
    have e : fs.reverse.zip ws = (fs.zip ws.reverse).reverse := by
      have z := zip_rev (a := fs) (b := ws.reverse) (by rw [List.length_reverse, l2])
      rw [List.reverse_reverse] at z
      exact z.symm
    show wpAny _ _ (PySem.call (.ref C) [] (fs.reverse.zip ws)) _ _ _
    rw [e]
    exact run_x (us := []) (vs := ws.reverse) T hr I1 ⟨by rw [List.length_reverse, l2], .inr (.inr ⟨rfl, rfl⟩)⟩ (Nat.zero_le _) r.reverse q
/-- e.f of such an exception -/
theorem pe_xat (T : XF X.K C) (nf : PySem.W.findIn X.K (.ref C) f = some none) (he : PE X a ta) (hb : attributeBase a f X.env (eval a X.env) = eval a X.env) :
    PE X (.Attribute a f pos) (fun σ H Q => ta σ H fun y H1 => ∃ e d fs v, y = .ref e ∧ H1 e = some (ExA C d e) ∧ H1 d = some (.xd fs) ∧ fs.lookup f = some v ∧ Q v H1) := by
  refine ⟨fun pins s σ H Q I h => attr_of hb (thn (he.run pins s σ H _ I h) fun u s1 hh => ?_)⟩
  obtain ⟨y, H1, I1, ry, e, d, fs, v, rfl, h1, h2, h3, q⟩ := hh
  cases ry
  obtain ⟨⟨t1, ho⟩, _⟩ := I1.hok e _ h1
  obtain ⟨mA, hn, hrel⟩ := I1.hok d _ h2
  obtain ⟨od, o1, o2⟩ := lookIn_ns hn
  obtain ⟨w', e1, e2⟩ := RelO.some_of (v := v) (o := mA f) (by rw [← h3]; exact hrel f)
  have J : PySem.W.InstAt s1.heap e (PySem.W.excObj C t1 (some d) .none) C (some od) := ⟨ho, rfl, rfl, o1⟩
  exact PX.exc_get I1.kIn J T.reach T.plain T.exc (PySem.W.findObj_own T.dict nf rfl (by rw [o2 f, e1])) (handed_of e2) ⟨v, H1, I1.tok _, e2, q⟩
/-- a class without an __init__ of its own, called with nothing -/
theorem pe_x0 {B newId initId : String} {bmB : List Value} (D : ExcBaseFacts B newId initId bmB) (at_ : X.mg x = some (.ref C)) (keep : PySem.W.keepIn X.K (.ref C) = true) (ini : PySem.W.excIn X.K C bmB newId = true) (hg : Gl X x := by rfl) (hdb : (x == ("__debug__" : Str)) = false := by decide) :
    PE X (.Call (.Name x p) [] [] pos) (fun σ H Q => ∀ e, H e = none → Q (.ref e) (upd H e (ExN C e))) := by
  refine ⟨fun pins s σ H Q I h => wpAny_Call_Name_kw (ld_glob I hg at_ (PySem.W.callWith_K0 I.kIn keep ?_) hdb)⟩
  obtain ⟨bm, N, nm, qn, bs, hdct, sn, sub, ab, col, dd, k0, k1, k2, k3, k5, mN, hC, hN, hni, T⟩ := exc_obj I.kIn ini
  refine wpAny_call_exc_subT D T hC hN hni (fun h' e M => ?_) (Nat.zero_le _)
  obtain ⟨t1, m1, m2, m3⟩ := M.there
  have He := I.hok.gone M.new
  have J : Inv X pins σ (upd H e (ExN C e)) { s with heap := h', toks := s.toks } := I.laidN M.keeps M.new He ⟨⟨t1, m1⟩, ⟨_, m1⟩, fun _ _ ⟨t, z⟩ kk => ⟨t, kk _ z⟩⟩
  exact ⟨.ref e, _, J, rfl, h e He⟩
end
/-! ### isinstance -/
/-- the class of a value, exceptions too -/
inductive TyE (K : PySem.W.Frag) (H : Hp) : V → Value → Prop where
  | any {x : V} {t : Value} : TyX K H x t → TyE K H x t
  | exc {e d C : Addr} {fs : List (Str × V)} : XF K C → H e = some (ExA C d e) → H d = some (.xd fs) → TyE K H (.ref e) (.ref C)
  | exc0 {e C : Addr} : XF K C → H e = some (ExN C e) → TyE K H (.ref e) (.ref C)
theorem kit_e {X : Cx} {pins : List (Addr × Obj)} {σ : L2.St} {H : Hp} {s : Shared} {x : V} {u t : Value} (I : Inv X pins σ H s) (r : RelV x u) (ty : TyE X.K H x t) : ∃ P : Heap → Prop, PySem.W.KitX X.K u t P ∧ P s.heap ∧ u ≠ .builtin "__main__.__loader__#opaque" := by
  cases ty with
  | any h => exact kit_of I r h
  | exc T h1 h2 =>
    cases r
    obtain ⟨⟨t1, ho⟩, _⟩ := I.hok _ _ h1
    obtain ⟨mA, hn, _⟩ := I.hok _ _ h2
    obtain ⟨od, o1, _⟩ := lookIn_ns hn
    exact ⟨_, PySem.W.kitx_exc (ox := PySem.W.excObj _ t1 (some _) .none) (od := some od) T.cls T.reach T.plain T.exc T.kind T.slot T.take T.root, ⟨ho, rfl, rfl, o1⟩, fun z => nomatch z⟩
  | exc0 T h1 =>
    cases r
    obtain ⟨⟨t1, ho⟩, _⟩ := I.hok _ _ h1
    exact ⟨_, PySem.W.kitx_exc (ox := PySem.W.excObj _ t1 none .none) (od := none) T.cls T.reach T.plain T.exc T.kind T.slot T.take T.root, ⟨ho, rfl, rfl, trivial⟩, fun z => nomatch z⟩
/-- isinstance with a class, or with a tuple of classes -/
def rIs (K : PySem.W.Frag) : List V → Hp → VK → Prop := fun xs H Q => ∃ (x c : V) (t : Value) (b : Bool), xs = [x, c] ∧ TyE K H x t ∧ Q (.bl b) H ∧
  ((∃ u, ClsV c u ∧ PySem.W.kitOne K t u = some b) ∨ ∃ tp cs us, c = .ref tp ∧ SqT K H tp cs ∧ Paired ClsV cs us ∧ PySem.W.kitAny K t us = some b)
theorem call_is {X : Cx} : CallR X (.builtin "isinstance") (rIs X.K) := fun pins s σ H xs us Q I r h => by
  obtain ⟨x, c, t, b, rfl, ty, q, h⟩ := h
  obtain ⟨u1, u2, rfl, r1, r2⟩ := vals2 r
  obtain ⟨P, Z, p, hx⟩ := kit_e I r1 ty
  have out : ∀ tk, EP X pins σ Q (.bool b) { s with toks := tk } := fun tk => ⟨.bl b, H, I.tok tk, rfl, q⟩
  rcases h with ⟨u, k, e⟩ | ⟨tp, cs, ws, rfl, hT, k, e⟩
  · have z := k.eq r2
    subst z
    exact PySem.W.kia_one Z I.kIn p e hx out
  · cases r2
    obtain ⟨its, rv, ⟨⟨oc, od, dt, sl⟩, h1, h2, n, h3⟩, _⟩ := I.tuple hT
    obtain rfl := ClsV.all k rv
    simp only at h2 h3
    subst h2 h3
    exact PySem.W.kia_tup Z I.kIn p h1 e hx out
/-- a datum's class; what must be known of it -/
def tyD : D → Option Value
  | .non => some (.type "NoneType")
  | .bl _ => some (.type "bool")
  | .int _ => some (.type "int")
  | .str _ => some (.type "str")
  | .lst _ => some (.type "list")
  | .tup _ => some (.type "tuple")
  | .dct _ => some (.type "dict")
  | .exc C _ => some (.ref C)
  | _ => none
def clD : D → Option Value
  | .obj a => some (.ref a)
  | .ty n => some (.type n)
  | _ => none
def clDs : List D → Option (List Value)
  | [] => some []
  | d :: r => (clD d).bind fun u => (clDs r).map (u :: ·)
def okD (K : PySem.W.Frag) : D → Prop
  | .exc C _ => XF K C
  | _ => True
/-- what isinstance says -/
def kitD (K : PySem.W.Frag) (t : Value) (c : D) : Option Bool := match c with
  | .tup cs => (clDs cs).bind (PySem.W.kitAny K t)
  | c => (clD c).bind (PySem.W.kitOne K t)
def dIs (K : PySem.W.Frag) : List D → (D → Prop) → Prop := fun ds k => ∃ d c t b, ds = [d, c] ∧ tyD d = some t ∧ okD K d ∧ kitD K t c = some b ∧ k (.bl b)
section
variable {X : Cx} {P : Pc} {M : Addr → Prop} {H : Hp}
theorem cls_rp {v : V} {d : D} {u : Value} (r : Rp X.K P.pn M H v d) (e : clD d = some u) : ClsV v u := by
  cases r <;> cases e
  · exact .ty _
  · exact .own _
theorem cls_all : ∀ {vs : List V} {ds : List D} {us : List Value}, RpAll X.K P.pn M H vs ds → clDs ds = some us → Paired ClsV vs us
  | [], _, us, .nil, e => by
    cases e
    exact .nil
  | v :: vs, _, us, .cons (d := d) (ds := ds) r rs, e => by
    unfold clDs at e
    obtain ⟨u, e1, e2⟩ := Option.bind_eq_some_iff.mp e
    obtain ⟨ws, e3, rfl⟩ := Option.map_eq_some_iff.mp e2
    exact .cons (cls_rp r e1) (cls_all rs e3)
theorem od_is : CallD X P (rIs X.K) (dIs X.K) := fun gs M σ H ρ b xs ds Q k R r ⟨d, c, t, z, e, h1, h2, h3, q⟩ f => by
  subst e
  cases r with
  | @cons va _ _ _ ra r' =>
    cases r' with
    | @cons vc _ _ _ rc r2 =>
      cases r2
      have rc' : Rp X.K P.pn M H vc c := rc.rp fun xs z => by
        rw [z] at h3
        cases h3
      have ty : TyE X.K H va t := by
        rcases ra with ra | ⟨a, vs, xs, rfl, rfl, e1, e2, e3⟩
        · cases ra <;> cases h1
          · exact .any (.base .non)
          · exact .any (.base (.bl _))
          · exact .any (.base (.int _))
          · exact .any (.base (.str _))
          · exact .any (.base (.lst ‹H _ = some (.lst _)›))
          · exact .any (.base (.tup ‹H _ = some (.tup _)›))
          · obtain ⟨o, _, _, g1, g2, _⟩ := ‹KTup X.K _ _›
            exact .any (.kTuple g1 g2)
          · exact .any (.base (.dK ‹H _ = some (.dK _)›))
          · exact .exc h2 ‹H _ = some (ExA _ _ _)› ‹H _ = some (.xd _)›
          · exact .exc0 h2 ‹H _ = some (ExN _ _)›
        · cases h1
          exact .any (.base (.lst e1))
      refine ⟨_, _, t, z, rfl, ty, f _ _ H q (.refl H) R (.bl z), ?_⟩
      cases rc' with
      | tup a1 a2 a3 =>
        obtain ⟨us, e1, e2⟩ := Option.bind_eq_some_iff.mp h3
        exact .inr ⟨_, _, us, rfl, .inl (.inl a1), cls_all a3 e1, e2⟩
      | ty n => exact .inl ⟨_, .ty n, h3⟩
      | obj a => exact .inl ⟨_, .own a, h3⟩
      | tupK a1 a3 =>
        obtain ⟨us, e1, e2⟩ := Option.bind_eq_some_iff.mp h3
        exact .inr ⟨_, _, us, rfl, a1.sq H, cls_all a3 e1, e2⟩
      | _ => cases h3
end
end NC
set_option maxRecDepth 100000
set_option maxHeartbeats 4000000
/-! what is walked, and lists that are written as [.. for .. in .. if ..] -/
namespace NC
open PySem PySem.Spec PyProof.Rows L2
/-- a judgement's reading as one term, the same in every frame -/
def tD (K : PySem.W.Frag) (P : Pc) (w : WE) : TE := fun σ H Q => ∃ gs M ρ b k, Rel K P gs M σ H ρ b ∧ w ρ b k ∧ ∀ d b' v H', k d b' → Gr P.pn H H' → Rel K P gs M σ H' ρ b' → Rp K P.pn M H' v d → Q v H'
def tDT (K : PySem.W.Frag) (P : Pc) (w : WT) : TT := fun σ H Q => ∃ gs M ρ b k, Rel K P gs M σ H ρ b ∧ w ρ b k ∧ ∀ c b' H', k c b' → Gr P.pn H H' → Rel K P gs M σ H' ρ b' → Q c H'
def tDG (K : PySem.W.Frag) (P : Pc) (w : WG) (sl : List Nat) : TG := fun v σ H Q => ∃ gs M ρ b d k, Rel K P gs M σ H ρ b ∧ Rp K P.pn M H v d ∧ w d ρ k ∧ ∀ ρ' σ', k ρ' → Rel K P gs M σ' H ρ' b → Sm sl σ σ' → Q σ' H
section
variable {X : Cx} {P : Pc} {e : Expr} {w : WE} {wt : WT} {g : WG} {sl : List Nat}
theorem DE.pe (h : DE X P e w) : PE X e (tD X.K P w) := by
  obtain ⟨t, h1, h2⟩ := h
  exact ⟨fun pins s σ H Q I ⟨gs, M, ρ, b, k, R, q, f⟩ => h1.run pins s σ H Q I (h2 gs M σ H ρ b Q k R q f)⟩
theorem DT.pt (h : DT X P e wt) : PT X e (tDT X.K P wt) := by
  obtain ⟨t, h1, h2⟩ := h
  exact ⟨fun pins s σ H Q I ⟨gs, M, ρ, b, k, R, q, f⟩ => h1.run pins s σ H Q I (h2 gs M σ H ρ b Q k R q f)⟩
theorem DG.pg (h : DG X P e g sl) : PG X e (tDG X.K P g sl) := by
  obtain ⟨t, h1, h2⟩ := h
  exact ⟨fun pins s σ H v u Q I r ⟨gs, M, ρ, b, d, k, R, rp, q, f⟩ => h1.run pins s σ H v u Q I r (h2 gs M σ H ρ b v d Q k R rp q f)⟩
end
/-- an iterator that yields the data xs, as long as gl is held -/
def ItD (K : PySem.W.Frag) (P : Pc) (J : It) (gl : List Gh) (xs : List D) : Prop := ∀ {gs : List Gh} {M : Addr → Prop} {σ : L2.St} {H : Hp} {ρ : Rho} {b : Nat}, Rel K P (gl ++ gs) M σ H ρ b →
  (∀ i d, xs[i]? = some d → J.go i H ∧ ∀ v H', J.yld i H v H' → Gr P.pn H H' ∧ Rel K P (gl ++ gs) M σ H' ρ b ∧ Rp K P.pn M H' v d) ∧ J.stop xs.length H
def DI (X : Cx) (P : Pc) (tg it : Expr) (w : WA) : Prop := ∃ wi, PI X tg it wi ∧ ∀ gs M σ H ρ b (Q : It → Hp → Prop) (k : List D → Nat → Prop), Rel X.K P gs M σ H ρ b → w ρ b k →
  (∀ xs b' J gl H', k xs b' → Gr P.pn H H' → Rel X.K P (gl ++ gs) M σ H' ρ b' → ItD X.K P J gl xs → Q J H') → wi σ H Q
def wIL (w : WE) : WA := fun ρ b k => w ρ b fun d b' => ∃ xs, d = .lst xs ∧ k xs b'
def wIT (w : WE) : WA := fun ρ b k => w ρ b fun d b' => ∃ xs, d = .tup xs ∧ k xs b'
def wIR (w : WE) : WA := fun ρ b k => w ρ b fun d b' => ∃ z : Int, d = .int z ∧ -(2 ^ 62) ≤ z ∧ z < 2 ^ 62 ∧ k ((List.range z.toNat).map fun i : Nat => .int (i : Int)) b'
def wIZ (w w2 : WE) : WA := fun ρ b k => w ρ b fun d b' => w2 ρ b' fun d2 b2 => ∃ xs ys, d = .lst xs ∧ d2 = .lst ys ∧ xs.length = ys.length ∧ k ((xs.zip ys).map fun p => .tup [p.1, p.2]) b2
section
variable {K : PySem.W.Frag} {P : Pc} {gs : List Gh} {M : Addr → Prop} {σ : L2.St} {H : Hp} {ρ : Rho} {b : Nat}
/-- a list's or tuple's items, held -/
theorem ghost {a : Addr} {o : Option HO} {vs : List V} {ds : List D} (R : Rel K P ((a, o, vs, ds) :: gs) M σ H ρ b) : (∀ u, o = some u → H a = some u ∧ ¬ M a) ∧ RpAll K P.pn M H vs ds := R.gho _ List.mem_cons_self
theorem itd_list {a : Addr} {vs : List V} {ds : List D} : ItD K P (Itl K a) [(a, some (.lst vs), vs, ds)] ds := fun {gs M σ H ρ b} R => by
  obtain ⟨g1, g2⟩ := ghost R
  have sq : SqL K H a vs := .inl (.inl (g1 _ rfl).1)
  refine ⟨fun i d e => ?_, ⟨vs, sq, Nat.le_of_eq g2.len⟩⟩
  obtain ⟨v, e1, e2⟩ := g2.get e
  refine ⟨⟨vs, v, sq, e1⟩, fun u H' ⟨h, q⟩ => ?_⟩
  subst h
  have z := q vs sq
  rw [e1] at z
  cases z
  exact ⟨.refl _, R, e2⟩
theorem itd_tup {a : Addr} {o : Option HO} {vs : List V} {ds : List D} (ho : (∃ u, o = some u ∧ u = .tup vs) ∨ KTup K a vs) : ItD K P (Itt K a) [(a, o, vs, ds)] ds := fun {gs M σ H ρ b} R => by
  obtain ⟨g1, g2⟩ := ghost R
  have sq : SqT K H a vs := by
    rcases ho with ⟨u, h1, h2⟩ | h
    · have z := (g1 u h1).1
      rw [h2] at z
      exact .inl (.inl z)
    · exact h.sq H
  refine ⟨fun i d e => ?_, ⟨vs, sq, Nat.le_of_eq g2.len⟩⟩
  obtain ⟨v, e1, e2⟩ := g2.get e
  refine ⟨⟨vs, v, sq, e1⟩, fun u H' ⟨h, q⟩ => ?_⟩
  subst h
  have z := q vs sq
  rw [e1] at z
  cases z
  exact ⟨.refl _, R, e2⟩
theorem itd_range {n : Nat} : ItD K P (Itr 0 n) [] ((List.range n).map fun i : Nat => D.int (i : Int)) := fun {gs M σ H ρ b} R => by
  refine ⟨fun i d e => ?_, by simp [Itr]⟩
  have hi : i < n := by simpa using lt_of_get e
  have hd : d = .int i := by
    rw [List.getElem?_map, List.getElem?_range hi] at e
    exact (Option.some.inj e).symm
  subst hd
  refine ⟨hi, fun v H' ⟨h, q⟩ => ?_⟩
  subst h q
  rw [Int.zero_add]
  exact ⟨.refl _, R, .int i⟩
theorem itd_zip {a c : Addr} {vs us : List V} {ds es : List D} (hl : ds.length = es.length) : ItD K P (Itz K a c) [(a, some (.lst vs), vs, ds), (c, some (.lst us), us, es)] ((ds.zip es).map fun p => D.tup [p.1, p.2]) := fun {gs M σ H ρ b} R => by
  obtain ⟨g1, g2⟩ := ghost R
  obtain ⟨f1, f2⟩ := ghost R.drop
  have sa : SqL K H a vs := .inl (.inl (g1 _ rfl).1)
  have sc : SqL K H c us := .inl (.inl (f1 _ rfl).1)
  refine ⟨fun i d e => ?_, ⟨vs, us, sa, sc, .inl ?_⟩⟩
  · rw [List.getElem?_map] at e
    obtain ⟨⟨x, y⟩, e1, e2⟩ := Option.map_eq_some_iff.mp e
    subst e2
    obtain ⟨ex, ey⟩ := List.getElem?_zip_eq_some.mp e1
    obtain ⟨v, v1, v2⟩ := g2.get ex
    obtain ⟨u, u1, u2⟩ := f2.get ey
    refine ⟨⟨vs, us, v, u, sa, sc, v1, u1⟩, fun w H' ⟨T, x', y', q1, q2, q3, q4, q5⟩ => ?_⟩
    subst q1 q3
    have z1 := q4 vs sa
    have z2 := q5 us sc
    rw [v1] at z1
    rw [u1] at z2
    cases z1
    cases z2
    have g : Gr P.pn H (upd H T (.tup [v, u])) := .new q2
    exact ⟨g, R.new q2, .tup upd_same (R.notM q2) (.cons (v2.mono (R.gm g)) (.cons (u2.mono (R.gm g)) .nil))⟩
  · simp [g2.len, hl]
end
section
variable {X : Cx} {P : Pc} {tg e e2 : Expr} {w w2 : WE} {p pos tpos : Pos}
theorem di_list (h : DE X P e w) : DI X P tg e (wIL w) := by
  obtain ⟨t, h1, h2⟩ := h
  refine ⟨_, pi_list h1, fun gs M σ H ρ b Q k R q f => h2 gs M σ H ρ b _ _ R q fun d b' v H' z g R' r => ?_⟩
  obtain ⟨xs, rfl, z⟩ := z
  cases r with
  | @lst a vs _ ha hm hv => exact ⟨a, rfl, ⟨vs, .inl (.inl ha)⟩, f xs b' _ [(a, some (.lst vs), vs, xs)] H' z g (R'.hold (fun u e => by cases e; exact ⟨ha, hm⟩) hv) itd_list⟩
theorem di_tup (h : DE X P e w) : DI X P tg e (wIT w) := by
  obtain ⟨t, h1, h2⟩ := h
  refine ⟨_, pi_tup h1, fun gs M σ H ρ b Q k R q f => h2 gs M σ H ρ b _ _ R q fun d b' v H' z g R' r => ?_⟩
  obtain ⟨xs, rfl, z⟩ := z
  cases r with
  | @tup a vs _ ha hm hv => exact ⟨a, rfl, ⟨vs, .inl (.inl ha)⟩, f xs b' _ [(a, some (.tup vs), vs, xs)] H' z g (R'.hold (fun u e => by cases e; exact ⟨ha, hm⟩) hv) (itd_tup (.inl ⟨_, rfl, rfl⟩))⟩
  | @tupK a vs _ ha hv => exact ⟨a, rfl, ⟨vs, ha.sq H'⟩, f xs b' _ [(a, none, vs, xs)] H' z g (R'.hold (fun u e => nomatch e) hv) (itd_tup (.inr ha))⟩
theorem di_range (hgl : Gl X "range") (hm : X.mg "range" = none) (h : DE X P e w) (he : starEach [e] X.env = (false, eval e X.env) :: starEach [] X.env := by rfl) : DI X P tg (.Call (.Name "range" p) [e] [] pos) (wIR w) := by
  obtain ⟨t, h1, h2⟩ := h
  refine ⟨_, pi_range1 hgl hm (pa_cons h1 pa_nil he) he, fun gs M σ H ρ b Q k R q f => h2 gs M σ H ρ b _ _ R q fun d b' v H' z g R' r => ?_⟩
  obtain ⟨i, rfl, l1, l2, z⟩ := z
  cases r
  exact ⟨i, rfl, l1, l2, f _ b' _ [] H' z g R' itd_range⟩
theorem di_zip {elts : List Expr} {kk : Nat} (hgl : Gl X "zip") (hm : X.mg "zip" = none) (h : DE X P e w) (h' : DE X P e2 w2) (he : starEach [e, e2] X.env = (false, eval e X.env) :: starEach [e2] X.env := by rfl) (he2 : starEach [e2] X.env = (false, eval e2 X.env) :: starEach [] X.env := by rfl)
    (hpl : (backTo pos (starEach [e2] X.env)).any (·.1) = false := by rfl) : DI X P (.Tuple elts kk tpos) (.Call (.Name "zip" p) [e, e2] [] pos) (wIZ w w2) := by
  obtain ⟨t, h1, h2⟩ := h
  obtain ⟨t', g1, g2⟩ := h'
  refine ⟨_, pi_zip hgl hm (pa_cons h1 (pa_cons g1 pa_nil he2) he) he hpl, fun gs M σ H ρ b Q k R q f => h2 gs M σ H ρ b _ _ R q fun d b1 v H1 z g R1 r => ?_⟩
  refine g2 gs M σ H1 ρ b1 _ _ R1 z fun d2 b2 v2 H2 z2 gg R2 r2 => ?_
  obtain ⟨xs, ys, rfl, rfl, hl, z2⟩ := z2
  cases r.mono (R1.gm gg) with
  | @lst a vs _ ha hm hv =>
    cases r2 with
    | @lst c us _ hc hm2 hu =>
      exact ⟨a, c, vs, us, rfl, .inl (.inl ha), .inl (.inl hc), f _ b2 _ [(a, some (.lst vs), vs, xs), (c, some (.lst us), us, ys)] H2 z2 (g.trans gg) ((R2.hold (fun u e => by cases e; exact ⟨hc, hm2⟩) hu).hold (fun u e => by cases e; exact ⟨ha, hm⟩) hv) (itd_zip hl)⟩
end
/-- the slots of a block's own names forgotten -/
def wipeR (ρ : Rho) : List Nat → Rho
  | [] => ρ
  | v :: vs => (wipeR ρ vs).set v none
theorem wipeR_len (ρ : Rho) : ∀ vs, (wipeR ρ vs).length = ρ.length
  | [] => rfl
  | v :: vs => by
    unfold wipeR
    rw [List.length_set, wipeR_len ρ vs]
theorem wipeR_get {ρ : Rho} {i : Nat} {x : Sl} : ∀ {vs : List Nat}, (wipeR ρ vs)[i]? = some (some x) → ρ[i]? = some (some x) ∧ i ∉ vs
  | [], h => ⟨h, by simp⟩
  | v :: vs, h => by
    unfold wipeR at h
    rcases set_get h with ⟨_, e⟩ | ⟨n, e⟩
    · cases e
    · obtain ⟨h1, h2⟩ := wipeR_get e
      exact ⟨h1, fun z => (List.mem_cons.mp z).elim (fun q => n q.symm) h2⟩
theorem Rel.wipe {K : PySem.W.Frag} {P : Pc} {gs : List Gh} {M : Addr → Prop} {σ : L2.St} {H : Hp} {ρ : Rho} {b : Nat} (R : Rel K P gs M σ H ρ b) (vs : List Nat) : Rel K P gs M (L2.wipe σ vs) H (wipeR ρ vs) b where
  len := by rw [wipe_length, wipeR_len, R.len]
  val := fun i d e => by
    obtain ⟨h1, h2⟩ := wipeR_get e
    obtain ⟨v, e1, e2⟩ := R.val i d h1
    exact ⟨v, by rw [wipe_out h2]; exact e1, e2⟩
  own := fun i xs e => by
    obtain ⟨h1, h2⟩ := wipeR_get e
    obtain ⟨a, us, e1, e2⟩ := R.own i xs h1
    exact ⟨a, us, by rw [wipe_out h2]; exact e1, e2⟩
  sep := fun i j xs ys a n e1 e2 e3 => by
    obtain ⟨h1, h2⟩ := wipeR_get e1
    obtain ⟨g1, g2⟩ := wipeR_get e2
    rw [wipe_out h2] at e3
    rw [wipe_out g2]
    exact R.sep i j xs ys a n h1 g1 e3
  pen := R.pen
  mpn := R.mpn
  dom := R.dom
  ext := R.ext
  sub := R.sub
  cdm := R.cdm
  gho := R.gho
theorem wipe_in {σ : L2.St} {i : Nat} : ∀ {vs : List Nat}, i ∈ vs → i < σ.length → (L2.wipe σ vs)[i]? = some none
  | v :: vs, h, l => by
    unfold L2.wipe
    by_cases c : v = i
    · subst c
      exact get_set_same (by rw [wipe_length]; exact l)
    · rw [get_set_ne c]
      exact wipe_in ((List.mem_cons.mp h).resolve_left fun z => c z.symm) l
theorem wipe_sm {vs sl : List Nat} {σ σ' : L2.St} (h : Sm sl (L2.wipe σ vs) σ') (hs : ∀ i ∈ sl, i ∈ vs) : L2.wipe σ' vs = L2.wipe σ vs := by
  have hl : σ'.length = σ.length := by rw [h.1, wipe_length]
  refine List.ext_getElem? fun i => ?_
  by_cases c : i ∈ vs
  · by_cases l : i < σ.length
    · rw [wipe_in c l, wipe_in c (by rw [hl]; exact l)]
    · rw [List.getElem?_eq_none (by rw [wipe_length, hl]; omega), List.getElem?_eq_none (by rw [wipe_length]; omega)]
  · rw [wipe_out c, h.2 i fun z => c (hs i z), wipe_out c]
theorem Rel.drops {K : PySem.W.Frag} {P : Pc} {gs : List Gh} {M : Addr → Prop} {σ : L2.St} {H : Hp} {ρ : Rho} {b : Nat} : ∀ {gl : List Gh}, Rel K P (gl ++ gs) M σ H ρ b → Rel K P gs M σ H ρ b
  | [], R => R
  | _ :: _, R => Rel.drops (Rel.drop R)
/-- an object of the frame's own that was not there in H1, and what grew beside it -/
theorem Rel.beside {K : PySem.W.Frag} {P : Pc} {gs : List Gh} {M : Addr → Prop} {σ : L2.St} {H1 H : Hp} {ρ : Rho} {b1 b : Nat} {a : Addr} {o : HO} (R : Rel K P gs M σ H1 ρ b1) (n : H1 a = none) (g : Gr P.pn H1 H) (p : PenAt K (fun x => M x ∨ x = a) H P.pn b) (h : H a = some o) : Rel K P gs M σ H ρ b ∧ Rel K P gs (fun x => M x ∨ x = a) σ H ρ b := by
  obtain ⟨c, ns, t, l, p1, p2, p3, p4⟩ := p.ex
  have np : P.pn ≠ a := fun e => by
    obtain ⟨u, hu⟩ := R.pen.there
    rw [e, n] at hu
    cases hu
  obtain ⟨G, hG⟩ : ∃ G : Hp, G = fun x => if x = a then none else H x := ⟨_, rfl⟩
  have ga : G a = none := by rw [hG]; exact if_pos rfl
  have gn : ∀ x, x ≠ a → G x = H x := fun x z => by rw [hG]; exact if_neg z
  have gg : Gr P.pn H1 G := fun x u m e => by
    rw [gn x (ne_of_none e n)]
    exact g x u m e
  have S := (R.grow gg ⟨c, ns, t, l, by rw [gn _ np]; exact p1, by rw [gn c fun z => p3 (.inr z)]; exact p2, fun z => p3 (.inl z), p4⟩).mask (o := o) ga
  have e : upd G a o = H := by
    funext x
    by_cases z : x = a
    · rw [z, upd_same, h]
    · rw [upd_ne z, gn x z]
  rw [e] at S
  exact ⟨R.grow g ⟨c, ns, t, l, p1, p2, fun z => p3 (.inl z), p4⟩, S⟩
def wLc (wI : WA) (vs : List Nat) (g : WG) (tt : WT) (we : WE) : WA := fun ρ b k => wI ρ b fun xs b1 => ∃ I : Nat → List D → Nat → Prop, I 0 [] b1 ∧
  (∀ n x acc b, xs[n]? = some x → I n acc b → g x (wipeR ρ vs) fun ρ2 => tt ρ2 b fun c b2 => if c = true then we ρ2 b2 fun y b3 => acc.length < 1000000 ∧ I (n + 1) (acc ++ [y]) b3 else I (n + 1) acc b2) ∧ ∀ acc b, I xs.length acc b → k acc b
section
variable {X : Cx} {P : Pc} {elt tg iter : Expr} {ifs : List Expr} {scope : Scope} {own : List (Str × Nat)} {pos : Pos} {wI : WA} {g : WG} {tt : WT} {we : WE} {sl : List Nat}
theorem df_lcT {tq : TT} (hc : X.calm = true) (hN : X.N.Nodup) (hi : DI X P tg iter wI) (ok : BlkOk X.N X.env.scope scope own)
    (hg : ∀ (s : Shared) (H : Hp) (C : Addr) (cl : List (Str × Addr)) (fp : List Addr), DG (X.blk s H scope (compEnvC scope cl C X.env) fp) P tg g sl) (hsl : ∀ i ∈ sl, i ∈ own.map (·.2))
    (ht : ∀ (s : Shared) (H : Hp) (C : Addr) (cl : List (Str × Addr)) (fp : List Addr), PTs (X.blk s H scope (compEnvC scope cl C X.env) fp) ifs tq)
    (htq : ∀ σ H Q, tDT X.K P tt σ H Q → tq σ H Q)
    (he : ∀ (s : Shared) (H : Hp) (C : Addr) (cl : List (Str × Addr)) (fp : List Addr), DE (X.blk s H scope (compEnvC scope cl C X.env) fp) P elt we) (hs : ∀ x, foldedSetIterable iter X.env x = pure x := by intro _; rfl) :
    DF X P (.ListComp elt [⟨tg, iter, ifs, 0⟩] scope pos) (wLc wI (own.map (·.2)) g tt we) := by
  obtain ⟨wi, i1, i2⟩ := hi
  refine ⟨_, pe_lc (g := tDG X.K P g sl) (te := tD X.K P we) hc hN i1 ok (fun s H C cl fp => (hg s H C cl fp).pg) ht (fun s H C cl fp => (he s H C cl fp).pe) hs, fun gs M σ H ρ b Q k R q f => i2 gs M σ H ρ b _ _ R q fun xs b1 J gl H1 z g1 R1 J1 => ?_⟩
  intro D hD
  obtain ⟨I, z0, zn, zl⟩ := z
  have np : D ≠ P.pn := fun e => by
    obtain ⟨o, ho⟩ := R1.pen.there
    rw [← e, hD] at ho
    cases ho
  refine ⟨fun i m H2 => ∃ acc vs b, I i acc b ∧ i ≤ xs.length ∧ m = xs.length - i ∧ H2 D = some (.lst vs) ∧ RpAll X.K P.pn (fun x => M x ∨ x = D) H2 vs acc ∧ Gr P.pn H1 H2 ∧ Rel X.K P (gl ++ gs) (fun x => M x ∨ x = D) σ H2 ρ b, ⟨_, [], [], b1, z0, Nat.zero_le _, rfl, upd_same, .nil, .new hD, R1.mask hD⟩, ?_⟩
  rintro i m H2 ⟨acc, vs, b2, hI, hle, rfl, hv, hr, gr, R2⟩
  obtain ⟨go, stop⟩ := J1 R2
  by_cases c : i < xs.length
  · obtain ⟨d, hd⟩ : ∃ d, xs[i]? = some d := ⟨_, List.getElem?_eq_getElem c⟩
    obtain ⟨j1, j2⟩ := go i d hd
    refine .inr ⟨j1, fun H3 => ∃ acc vs b, I (i + 1) acc b ∧ H3 D = some (.lst vs) ∧ RpAll X.K P.pn (fun x => M x ∨ x = D) H3 vs acc ∧ Gr P.pn H1 H3 ∧ Rel X.K P (gl ++ gs) (fun x => M x ∨ x = D) σ H3 ρ b, fun H3 ⟨acc, vs, b, w1, w2, w3, w4, w5⟩ => ⟨xs.length - (i + 1), by omega, acc, vs, b, w1, c, rfl, w2, w3, w4, w5⟩, fun x H3 hy => ?_⟩
    obtain ⟨y1, y2, y3⟩ := j2 x H3 hy
    have hv3 : H3 D = some (.lst vs) := y1 D _ np hv
    have hr3 := hr.mono (R2.gm y1)
    refine ⟨gl ++ gs, _, wipeR ρ (own.map (·.2)), b2, d, _, y2.wipe _, y3, zn i d acc b2 hd hI, fun ρ2 σ2 q2 S2 sm => ⟨wipe_sm sm hsl, ?_⟩⟩
    refine htq _ _ _ ⟨gl ++ gs, _, ρ2, b2, _, S2, q2, fun cc b3 H4 q3 g4 S3 => ?_⟩
    have hv4 : H4 D = some (.lst vs) := g4 D _ np hv3
    have hr4 := hr3.mono (y2.gm g4)
    cases cc with
    | false =>
      have q3 := (by simpa using q3 : I (i + 1) acc b3)
      exact iteF ⟨acc, vs, b3, q3, hv4, hr4, gr.trans (y1.trans g4), y2.grow g4 S3.pen⟩
    | true =>
      have q3 := (by simpa using q3 : we ρ2 b3 fun y b4 => acc.length < 1000000 ∧ I (i + 1) (acc ++ [y]) b4)
      refine iteT ⟨gl ++ gs, _, ρ2, b3, _, S3, q3, fun y b4 u H5 q5 g5 S4 r5 => ?_⟩
      have hv5 : H5 D = some (.lst vs) := g5 D _ np hv4
      have hr5 := hr4.mono (S3.gm g5)
      have g35 := g4.trans g5
      have R5 : Rel X.K P (gl ++ gs) (fun x => M x ∨ x = D) σ H5 ρ b4 := y2.grow g35 S4.pen
      have gm : Gm (fun x => M x ∨ x = D) H5 (upd H5 D (.lst (vs ++ [u]))) := fun a o n e => by rw [upd_ne (fun z => n (.inr z))]; exact e
      have g6 : Gr P.pn H1 (upd H5 D (.lst (vs ++ [u]))) := fun a o n e => by
        rw [upd_ne (ne_of_none e hD)]
        exact (gr.trans (y1.trans g35)) a o n e
      refine ⟨vs, hv5, by rw [hr5.len]; exact Nat.lt_of_lt_of_le q5.1 (by decide), acc ++ [y], vs ++ [u], b4, q5.2, upd_same, (hr5.append (.cons r5 .nil)).mono gm, g6, ?_⟩
      have pp : PenAt X.K (fun x => M x ∨ x = D) (upd H5 D (.lst (vs ++ [u]))) P.pn b4 := R5.pen.mono gm (upd_ne np.symm)
      exact (R1.beside hD g6 pp upd_same).2
  · have e : i = xs.length := by omega
    subst e
    obtain ⟨s1, s2⟩ := R1.beside hD gr R2.pen hv
    exact .inl ⟨stop, f acc b2 D vs H2 (zl acc b2 hI) (g1.trans gr) s1.drops s2.drops (g1.free hD R1.pen.there) hv hr⟩
/-- without a test; with one -/
theorem df_lc0 (hc : X.calm = true) (hN : X.N.Nodup) (hi : DI X P tg iter wI) (ok : BlkOk X.N X.env.scope scope own)
    (hg : ∀ (s : Shared) (H : Hp) (C : Addr) (cl : List (Str × Addr)) (fp : List Addr), DG (X.blk s H scope (compEnvC scope cl C X.env) fp) P tg g sl) (hsl : ∀ i ∈ sl, i ∈ own.map (·.2))
    (he : ∀ (s : Shared) (H : Hp) (C : Addr) (cl : List (Str × Addr)) (fp : List Addr), DE (X.blk s H scope (compEnvC scope cl C X.env) fp) P elt we) (hs : ∀ x, foldedSetIterable iter X.env x = pure x := by intro _; rfl) :
    DF X P (.ListComp elt [⟨tg, iter, [], 0⟩] scope pos) (wLc wI (own.map (·.2)) g (fun _ b k => k true b) we) :=
  df_lcT (tt := fun _ b k => k true b) hc hN hi ok hg hsl (fun s H C cl fp => pts_nil) (fun σ H Q ⟨gs, M, ρ, b, k, R, q, f⟩ => f true b H q (.refl H) R) he hs
theorem df_lc {c : Expr} (hc : X.calm = true) (hN : X.N.Nodup) (hi : DI X P tg iter wI) (ok : BlkOk X.N X.env.scope scope own)
    (hg : ∀ (s : Shared) (H : Hp) (C : Addr) (cl : List (Str × Addr)) (fp : List Addr), DG (X.blk s H scope (compEnvC scope cl C X.env) fp) P tg g sl) (hsl : ∀ i ∈ sl, i ∈ own.map (·.2))
    (ht : ∀ (s : Shared) (H : Hp) (C : Addr) (cl : List (Str × Addr)) (fp : List Addr), DT (X.blk s H scope (compEnvC scope cl C X.env) fp) P c tt)
    (he : ∀ (s : Shared) (H : Hp) (C : Addr) (cl : List (Str × Addr)) (fp : List Addr), DE (X.blk s H scope (compEnvC scope cl C X.env) fp) P elt we) (hs : ∀ x, foldedSetIterable iter X.env x = pure x := by intro _; rfl) :
    DF X P (.ListComp elt [⟨tg, iter, [c], 0⟩] scope pos) (wLc wI (own.map (·.2)) g tt we) :=
  df_lcT hc hN hi ok hg hsl (fun s H C cl fp => pts_one (ht s H C cl fp).pt) (fun σ H Q h => h) he hs
end
end NC
set_option maxRecDepth 100000
set_option maxHeartbeats 4000000
namespace NC
open PySem PySem.Spec PyProof.Rows L2
/-! ### exceptions, built-in classes -/
def DK (X : Cx) (P : Pc) (kws : List Keyword) (w : WA) : Prop := ∃ t, PK X kws t ∧ ∀ gs M σ H ρ b (Q : List V → Hp → Prop) (k : List D → Nat → Prop), Rel X.K P gs M σ H ρ b → w ρ b k →
  (∀ ds b' vs H', k ds b' → Gr P.pn H H' → Rel X.K P gs M σ H' ρ b' → RpAll X.K P.pn M H' vs ds → Q vs H') → t σ H Q
def wX (C : Addr) (fs : List Str) (ws : WA) : WE := fun ρ b k => ws ρ b fun ds b' => ds.length = fs.length ∧ ds.length ≤ 1000 ∧ k (.exc C (fs.zip ds)) b'
def wXK (C : Addr) (fs : List Str) (back : Bool) (ws : WA) : WE := fun ρ b k => ws ρ b fun ds b' => ds.length = fs.length ∧ k (.exc C (fs.zip (if back then ds.reverse else ds))) b'
def wXat (C : Addr) (f : Str) (w : WE) : WE := fun ρ b k => w ρ b fun d b' => ∃ fs v, d = .exc C fs ∧ fs.lookup f = some v ∧ k v b'
section
variable {X : Cx} {P : Pc} {e : Expr} {es : List Expr} {kws : List Keyword} {w : WE} {ws : WA} {x f : Str} {C : Addr} {fs : List Str} {k : Nat} {p pos kpos : Pos} {nm : Option Str}
theorem dk_nil : DK X P [] wNil := ⟨_, pk_nil, fun gs M σ H ρ b Q k R q f => f [] b [] H q (.refl H) R .nil⟩
theorem dk_cons (h : DE X P e w) (hs : DK X P kws ws) : DK X P (⟨nm, e, kpos⟩ :: kws) (wCons w ws) := by
  obtain ⟨t, h1, h2⟩ := h
  obtain ⟨u, g1, g2⟩ := hs
  refine ⟨_, pk_cons h1 g1, fun gs M σ H ρ b Q k R q f => h2 gs M σ H ρ b _ _ R q fun d b' v H' z g R' r => ?_⟩
  refine g2 gs M σ H' ρ b' _ _ R' z fun ds b2 vs H2 z2 g' R2 rs => ?_
  exact f (d :: ds) b2 (v :: vs) H2 z2 (g.trans g') R2 (.cons (r.mono (R'.gm g')) rs)
theorem rp_fields {K : PySem.W.Frag} {pn : Addr} {M : Addr → Prop} {H : Hp} : ∀ {fs : List Str} {vs : List V} {ds : List D}, RpAll K pn M H vs ds → RpFs K pn M H (fun (k : Str) (x : Str) => k = x) (fs.zip vs) (fs.zip ds)
  | [], _, _, _ => .nil
  | _ :: _, _, _, .nil => .nil
  | _ :: _, _, _, .cons r t => .cons rfl r (rp_fields t)
theorem laid_x {gs : List Gh} {M : Addr → Prop} {σ : L2.St} {H H' : Hp} {ρ : Rho} {b' : Nat} {vs : List V} {ds : List D} {Q : VK} {q : D → Nat → Prop} (g : Gr P.pn H H') (R : Rel X.K P gs M σ H' ρ b') (r : RpAll X.K P.pn M H' vs ds) (z : q (.exc C (fs.zip ds)) b')
    (f : ∀ d b' v H', q d b' → Gr P.pn H H' → Rel X.K P gs M σ H' ρ b' → Rp X.K P.pn M H' v d → Q v H') : laidX C fs vs H' Q := fun a d ha hd ne => by
  have g1 : Gr P.pn H' (upd H' d (.xd (fs.zip vs))) := .new hd
  have ha' : upd H' d (.xd (fs.zip vs)) a = none := by rw [upd_ne ne.symm]; exact ha
  have g2 : Gr P.pn (upd H' d (.xd (fs.zip vs))) (upd (upd H' d (.xd (fs.zip vs))) a (ExA C d a)) := .new ha'
  have R1 := R.new (o := .xd (fs.zip vs)) hd
  exact f _ b' _ _ z (g.trans (g1.trans g2)) (R1.new ha') (.exc upd_same (R.notM ha) (by rw [upd_ne ne]; exact upd_same) (R.notM hd) (rp_fields ((r.mono (R.gm g1)).mono (R1.gm g2))))
theorem de_xP (T : XCl X.K X.prog X.mg x C fs) (hr : Room k X.A) (ha : DA X P (e :: es) ws) (hg : Gl X x := by rfl) (hdb : (x == ("__debug__" : Str)) = false := by decide)
    (he : starEach (e :: es) X.env = (false, eval e X.env) :: starEach es X.env := by rfl) (hpl : (backTo pos (starEach es X.env)).any (·.1) = false := by rfl) : DE X P (.Call (.Name x p) (e :: es) [] pos) (wX C fs ws) := by
  obtain ⟨t, h1, h2⟩ := ha
  refine ⟨_, pe_xP T hr h1 hg hdb he hpl, fun gs M σ H ρ b Q k R q f => h2 gs M σ H ρ b _ _ R q fun ds b' vs H' z g R' r => ?_⟩
  exact ⟨by rw [r.len]; exact z.1, by rw [r.len]; exact Nat.le_trans z.2.1 (by decide), laid_x g R' r z.2.2 f⟩
theorem RpAll.rev {K : PySem.W.Frag} {pn : Addr} {M : Addr → Prop} {H : Hp} : ∀ {vs : List V} {ds : List D}, RpAll K pn M H vs ds → RpAll K pn M H vs.reverse ds.reverse
  | _, _, .nil => .nil
  | _, _, .cons r t => by
    rw [List.reverse_cons, List.reverse_cons]
    exact (RpAll.rev t).append (.cons r .nil)
theorem de_xK {ks : List Str} (back : Bool) (hkf : ks = if back then fs.reverse else fs) (T : XCl X.K X.prog X.mg x C fs) (hr : Room k X.A) (hk : DK X P kws ws)
    (hall : (backToKw pos (keywordEach kws X.env)).all (·.1.isSome) = true := by rfl) (hks : (backToKw pos (keywordEach kws X.env)).filterMap (·.1) = ks := by rfl) (hg : Gl X x := by rfl) (hdb : (x == ("__debug__" : Str)) = false := by decide)
    (hpl : ((backTo pos (starEach [] X.env)).any (·.1) || (backToKw pos (keywordEach kws X.env)).any (·.1.isNone)) = false := by rfl) : DE X P (.Call (.Name x p) [] kws pos) (wXK C fs back ws) := by
  obtain ⟨t, h1, h2⟩ := hk
  refine ⟨_, pe_xK back hkf T hr h1 hall hks hg hdb hpl, fun gs M σ H ρ b Q k R q f => h2 gs M σ H ρ b _ _ R q fun ds b' vs H' z gg R' r => ?_⟩
  refine ⟨by rw [r.len]; exact z.1, laid_x gg R' ?_ z.2 f⟩
  cases back with
  | false => exact r
  | true => exact r.rev
theorem de_x0 {B newId initId : String} {bmB : List Value} (D : ExcBaseFacts B newId initId bmB) (at_ : X.mg x = some (.ref C)) (keep : PySem.W.keepIn X.K (.ref C) = true) (ini : PySem.W.excIn X.K C bmB newId = true) (hg : Gl X x := by rfl) (hdb : (x == ("__debug__" : Str)) = false := by decide) :
    DE X P (.Call (.Name x p) [] [] pos) (wC (.exc C [])) :=
  ⟨_, pe_x0 D at_ keep ini hg hdb, fun gs M σ H ρ b Q k R q f e he => f _ b _ _ q (.new he) (R.new he) (.exc0 upd_same (R.notM he))⟩
theorem fs_get {K : PySem.W.Frag} {pn : Addr} {M : Addr → Prop} {H : Hp} {f : Str} {d : D} : ∀ {vs : List (Str × V)} {ds : List (Str × D)}, RpFs K pn M H (fun (k : Str) (x : Str) => k = x) vs ds → ds.lookup f = some d → ∃ v, vs.lookup f = some v ∧ Rp K pn M H v d
  | _, _, .nil, e => nomatch e
  | _, _, .cons (k := y) (v := v) (vs := vs) (d := d') (ds := ds) rfl r t, e => by
    by_cases c : f = y
    · subst c
      simp only [List.lookup, beq_self_eq_true] at e ⊢
      cases e
      exact ⟨v, rfl, r⟩
    · have z : (f == y) = false := by simpa using c
      simp only [List.lookup, z] at e ⊢
      exact fs_get t e
theorem de_xat (T : XF X.K C) (nf : PySem.W.findIn X.K (.ref C) f = some none) (h : DE X P e w) (hb : attributeBase e f X.env (eval e X.env) = eval e X.env := by rfl) : DE X P (.Attribute e f pos) (wXat C f w) := by
  obtain ⟨t, h1, h2⟩ := h
  refine ⟨_, pe_xat T nf h1 hb, fun gs M σ H ρ b Q k R q f => h2 gs M σ H ρ b _ _ R q fun d b' v H' z g R' r => ?_⟩
  obtain ⟨fs, y, rfl, hl, z⟩ := z
  cases r with
  | exc a1 a2 a3 a4 a5 =>
    obtain ⟨u, u1, u2⟩ := fs_get a5 hl
    exact ⟨_, _, _, u, rfl, a1, a3, u1, f y b' u H' z g R' u2⟩
  | exc0 a1 a2 => cases hl
theorem de_ty {n : String} (hm : X.mg x = none) (hv : bootBuiltins x = some (.type n)) (hg : Gl X x := by rfl) (hn : x ≠ "__name__" := by decide) (hd : (x == ("__debug__" : Str)) = false := by decide) : DE X P (.Name x pos) (wC (.ty n)) :=
  de_c (pe_bltn (v := .ty n) hg hm hv rfl hn hd) fun _ _ => .ty n
end
theorem od_isK {X : Cx} {P : Pc} {K : PySem.W.Frag} (h : X.K = K) : CallD X P (rIs X.K) (dIs K) := by
  rw [← h]
  exact od_is
theorem blk_ok {X : Cx} {N : List Str} {sc scope : Scope} {own : List (Str × Nat)} (hN : X.N = N) (hs : X.env.scope = sc) (h : BlkOk N sc scope own) : BlkOk X.N X.env.scope scope own := by
  rw [hN, hs]
  exact h
/-! ### and, or, not as values -/
def wAndV (u v : WE) : WE := fun ρ b k => u ρ b fun d b' => ∃ c, d = .bl c ∧ if c = true then v ρ b' k else k (.bl false) b'
def wOrV (u v : WE) : WE := fun ρ b k => u ρ b fun d b' => ∃ c, d = .bl c ∧ if c = true then k (.bl true) b' else v ρ b' k
def wNotV (u : WE) : WE := fun ρ b k => u ρ b fun d b' => ∃ c, d = .bl c ∧ k (.bl (!c)) b'
section
variable {X : Cx} {P : Pc} {a c : Expr} {es : List Expr} {pos : Pos} {u v : WE}
theorem de_one {op} (h : DE X P a u) : DE X P (.BoolOp op [a] pos) u := by
  obtain ⟨t, h1, h2⟩ := h
  exact ⟨_, pe_one h1, h2⟩
theorem de_and (h : DE X P a u) (h' : DE X P (.BoolOp .And (c :: es) pos) v) : DE X P (.BoolOp .And (a :: c :: es) pos) (wAndV u v) := by
  obtain ⟨t, h1, h2⟩ := h
  obtain ⟨t', g1, g2⟩ := h'
  refine ⟨_, pe_and h1 g1, fun gs M σ H ρ b Q k R q f => h2 gs M σ H ρ b _ _ R q fun d b' x H' z g R' r => ?_⟩
  obtain ⟨y, rfl, z⟩ := z
  cases r
  refine ⟨y, rfl, ?_⟩
  cases y with
  | true => exact iteT (g2 gs M σ H' ρ b' Q k R' (by simpa using z) fun c2 b2 v2 H2 q2 g2' R2 r2 => f c2 b2 v2 H2 q2 (g.trans g2') R2 r2)
  | false => exact iteF (f _ b' _ H' (by simpa using z) g R' (.bl false))
theorem de_or (h : DE X P a u) (h' : DE X P (.BoolOp .Or (c :: es) pos) v) : DE X P (.BoolOp .Or (a :: c :: es) pos) (wOrV u v) := by
  obtain ⟨t, h1, h2⟩ := h
  obtain ⟨t', g1, g2⟩ := h'
  refine ⟨_, pe_or h1 g1, fun gs M σ H ρ b Q k R q f => h2 gs M σ H ρ b _ _ R q fun d b' x H' z g R' r => ?_⟩
  obtain ⟨y, rfl, z⟩ := z
  cases r
  refine ⟨y, rfl, ?_⟩
  cases y with
  | true => exact iteT (f _ b' _ H' (by simpa using z) g R' (.bl true))
  | false => exact iteF (g2 gs M σ H' ρ b' Q k R' (by simpa using z) fun c2 b2 v2 H2 q2 g2' R2 r2 => f c2 b2 v2 H2 q2 (g.trans g2') R2 r2)
theorem de_not (h : DE X P a u) : DE X P (.UnaryOp .Not a pos) (wNotV u) := by
  obtain ⟨t, h1, h2⟩ := h
  refine ⟨_, pe_not h1, fun gs M σ H ρ b Q k R q f => h2 gs M σ H ρ b _ _ R q fun d b' x H' z g R' r => ?_⟩
  obtain ⟨y, rfl, z⟩ := z
  cases r
  exact ⟨y, rfl, f _ b' _ H' z g R' (.bl _)⟩
end
/-- a comparison as a test -/
theorem dt_cmp {X : Cx} {P : Pc} {a a2 : Expr} {op : CmpOp} {r : R2} {f : D → D → (D → Prop) → Prop} {wa wb : WE} {pos : Pos} (ho : OpR X (compareOp op) r) (hd : OpD X P r f) (ha : DB X P a wa) (hb : DB X P a2 wb) (hm : behindInMarks op a2 = false) : DT X P (.Compare a [op] [a2] pos) (wB (wOp f wa wb)) := by
  obtain ⟨t, h1, h2⟩ := ha
  obtain ⟨u, g1, g2⟩ := hb
  refine ⟨_, pt_cmpR ho h1 g1 hm, fun gs M σ H ρ b Q k R q f => h2 gs M σ H ρ b _ _ R q fun d b' v H' z g R' r => ?_⟩
  refine g2 gs M σ H' ρ b' _ _ R' z fun d2 b2 v2 H2 z2 g' R2 r2 => ?_
  refine hd gs M σ H2 ρ b2 v v2 d d2 _ _ R2 (r.grow R' g') r2 z2 fun d3 v3 H3 z3 g3 R3 r3 => ?_
  obtain ⟨c, rfl, z⟩ := z3
  cases r3
  exact ⟨c, rfl, f c b2 H3 z ((g.trans g').trans g3) R3⟩
/-! ### == and != of plain data -/
/-- a value that stands for plain data, wherever it lies -/
def PlD (K : PySem.W.Frag) (H : Hp) (v : V) (d : D) : Prop := isPd d = true ∧ ∃ pn M, Rp K pn M H v d
theorem PlD.of {X : Cx} {P : Pc} {M : Addr → Prop} {H : Hp} {v : V} {d : D} (r : RpT X.K P.pn M H v d) (h : isPd d = true) : PlD X.K H v d := by
  rcases r with r | ⟨a, vs, xs, rfl, rfl, e1, e2, e3⟩
  · exact ⟨h, _, _, r⟩
  · exact ⟨h, P.pn, fun x => M x ∧ x ≠ a, .lst e1 (fun z => z.2 rfl) (e3.less fun _ z => z.1)⟩
def rEqP (K : PySem.W.Frag) (neg : Bool) : R2 := fun x y H Q => ∃ d e, PlD K H x d ∧ PlD K H y e ∧ SeqAt.shaped (pd d) = true ∧ SeqAt.shaped (pd e) = true ∧ Q (.bl (neg ^^ PyData.eqv (pd d) (pd e))) H
def dEq (neg : Bool) : D → D → (D → Prop) → Prop := fun d e k => isPd d = true ∧ isPd e = true ∧ SeqAt.shaped (pd d) = true ∧ SeqAt.shaped (pd e) = true ∧ k (.bl (neg ^^ PyData.eqv (pd d) (pd e)))
section
variable {X : Cx} {P : Pc}
theorem or_eq (hs : SysK X.K) (hu : X.A.units + 64 < cLine) : OpR X (compareOp .Eq) (rEqP X.K false) := fun pins s σ H x y v u Q I rx ry ⟨d, e, ⟨pd1, _, _, h1⟩, ⟨pd2, _, _, h2⟩, s1, s2, q⟩ => by
  obtain ⟨as, r1, _⟩ := h1.reads I hs pd1 v rx
  obtain ⟨bs, r2, _⟩ := h2.reads I hs pd2 u ry
  exact SeqAt.compareEq_shaped r1 r2 s1 s2 hu ⟨.bl _, H, I, rfl, by simpa using q⟩
theorem or_ne (hs : SysK X.K) (hu : X.A.units + 64 < cLine) : OpR X (compareOp .NotEq) (rEqP X.K true) := fun pins s σ H x y v u Q I rx ry ⟨d, e, ⟨pd1, _, _, h1⟩, ⟨pd2, _, _, h2⟩, s1, s2, q⟩ => by
  obtain ⟨as, r1, _⟩ := h1.reads I hs pd1 v rx
  obtain ⟨bs, r2, _⟩ := h2.reads I hs pd2 u ry
  exact SeqAt.compareNe_shaped r1 r2 s1 s2 hu ⟨.bl _, H, I, rfl, by simpa using q⟩
theorem od_eq {neg : Bool} : OpD X P (rEqP X.K neg) (dEq neg) := fun gs M σ H ρ b x y dx dy Q k R rx ry ⟨h1, h2, h3, h4, q⟩ f =>
  ⟨dx, dy, .of rx h1, .of ry h2, h3, h4, f _ _ H q (.refl H) R (.bl _)⟩
end
/-! ### list.count(True) -/
def rCntB (K : PySem.W.Frag) : V → List V → Hp → VK → Prop := fun x xs H Q => ∃ (p : Addr) (bs : List Bool) (k : Bool), x = .ref p ∧ xs = [.bl k] ∧ SqL K H p (bs.map V.bl) ∧ Q (.int (countIn (.bool k) (bs.map PyData.bool))) H
theorem reads_bools {h : Heap} : ∀ {bs : List Bool} {us : List Value}, Vals (bs.map V.bl) us → ReadsAll h us (bs.map PyData.bool) []
  | [], _, .nil => .nil
  | b :: bs, _, .cons r t => by
    cases r
    exact .cons (as := []) (bs := []) (.bool b) (reads_bools t)
section
variable {X : Cx} {P : Pc}
theorem mt_count : MtR X "list.count" (rCntB X.K) := fun pins s σ H x xs v us Q I rx rxs ⟨p, bs, k, e1, e2, hs, q⟩ => by
  subst e1 e2
  cases rx
  obtain ⟨u, rfl, ru⟩ := rxs.one
  cases ru
  obtain ⟨its, rv, pl, _⟩ := I.list hs
  exact count_list_bools (hp := s.heap) pl.isList (reads_bools rv) (by simp [Shape.has]) ⟨.int _, H, I.tok _, ⟨_, rfl⟩, q⟩
/-- a method of a list -/
def wLM (fm : List D → List D → (D → Prop) → Prop) (w : WE) (ws : WA) : WE := fun ρ b k => w ρ b fun d b1 => ∃ xs, d = .lst xs ∧ ws ρ b1 fun ds b2 => fm xs ds fun z => k z b2
def MtD (X : Cx) (P : Pc) (r : V → List V → Hp → VK → Prop) (fm : List D → List D → (D → Prop) → Prop) : Prop := ∀ gs M σ H ρ b x xs dx ds (Q : VK) (k : D → Prop), Rel X.K P gs M σ H ρ b → RpT X.K P.pn M H x (.lst dx) → RpTs X.K P.pn M H xs ds → fm dx ds k →
  (∀ d v H', k d → Gr P.pn H H' → Rel X.K P gs M σ H' ρ b → Rp X.K P.pn M H' v d → Q v H') → r x xs H Q
theorem de_lm {o call : Expr} {es : List Expr} {w : WE} {ws : WA} {r : V → List V → Hp → VK → Prop} {fm : List D → List D → (D → Prop) → Prop} (hd : MtD X P r fm) (h : DB X P o w) (ha : DAB X P es ws) (hm : ∀ {to : TE} {t : TA}, PE X o to → PA X es t → PE X call (tBM X.K "list" r to t)) : DE X P call (wLM fm w ws) := by
  obtain ⟨t, h1, h2⟩ := h
  obtain ⟨u, g1, g2⟩ := ha
  refine ⟨_, hm h1 g1, fun gs M σ H ρ b Q k R q f => h2 gs M σ H ρ b _ _ R q fun d b1 v H1 z gr R1 r1 => ?_⟩
  obtain ⟨xs, rfl, z⟩ := z
  obtain ⟨a, vs, rfl, e1, e2⟩ := RpT.lst (P := P) r1
  refine ⟨.inl ⟨rfl, vs, .inl (.inl e1)⟩, g2 gs M σ H1 ρ b1 _ _ R1 z fun ds b2 us H2 z2 gr2 R2 r2 => ?_⟩
  exact hd gs M σ H2 ρ b2 _ us xs ds Q _ R2 (r1.grow R1 gr2) r2 z2 fun d3 v3 H3 z3 g3 R3 r3 => f d3 b2 v3 H3 z3 ((gr.trans gr2).trans g3) R3 r3
def dCnt : List D → List D → (D → Prop) → Prop := fun xs ds k => ∃ (bs : List Bool) (c : Bool), xs = bs.map D.bl ∧ ds = [.bl c] ∧ k (.int (countIn (.bool c) (bs.map PyData.bool)))
theorem bools_of {K : PySem.W.Frag} {pn : Addr} {M : Addr → Prop} {H : Hp} : ∀ {bs : List Bool} {vs : List V}, RpAll K pn M H vs (bs.map D.bl) → vs = bs.map V.bl
  | [], _, .nil => rfl
  | b :: bs, _, .cons r t => by
    cases r
    rw [bools_of t] <;> rfl
theorem md_count : MtD X P (rCntB X.K) dCnt := fun gs M σ H ρ b x xs dx ds Q k R rx rs ⟨bs, c, e1, e2, q⟩ f => by
  subst e1 e2
  obtain ⟨a, vs, rfl, h1, h2⟩ := RpT.lst (P := P) rx
  obtain rfl := bools_of h2
  cases rs with
  | cons r1 r2 =>
    cases r2
    cases r1.rp (P := P) (fun xs z => nomatch z)
    exact ⟨a, bs, c, rfl, rfl, .inl (.inl h1), f _ _ H q (.refl H) R (.int _)⟩
end
end NC
set_option maxRecDepth 100000
set_option maxHeartbeats 4000000
/-! what the top leaves, by one Bool and the defs' rows; a law's end where no repr runs around -/
namespace NC
open PySem PySem.Spec PyProof.Rows L2
/-- the written part: what the module's names reach in n steps, sys.modules, the statics -/
def frN (n : Nat) (g : Addr → Option Obj) : PySem.W.Frag := He.frT g (sysModules :: cStatics :: He.asD g n)
abbrev AlN : Type := He.AlD × Bool
def obsN (n : Nat) (fa : List He.Fa) (fn : List He.DefD) (tf : List He.Defn) (ex : PySem.W.Frag → Bool) (g : Addr → Option Obj) : AlN := (He.obsD fa fn (frN n g), ex (frN n g) && He.tabsB g tf (frN n g))
structure SaysN (fa : List He.Fa) (fn : List He.DefD) (tf : List He.Defn) (ex : PySem.W.Frag → Bool) (h : Heap) (K : PySem.W.Frag) : Prop where
  d : He.SaysD fa fn K
  more : ex K = true
  hd : ∀ p ∈ tf, PySem.W.codeHdIn K (He.cT K p).1 (He.cT K p).2 = true
  out : ∀ p ∈ tf, K.lookup (He.cT K p).2 = none
  empty : ∀ p ∈ tf, h.get? (He.cT K p).2 = some { cls := .none, data := .fields #[] }
theorem tabs_at {g : Addr → Option Obj} {tf : List He.Defn} {K : PySem.W.Frag} (h : He.tabsB g tf K = true) {p : He.Defn} (hp : p ∈ tf) : PySem.W.codeHdIn K (He.cT K p).1 (He.cT K p).2 = true ∧ ∃ o, g (He.cT K p).2 = some o ∧ He.emptyTab o = true := by
  obtain ⟨a, b⟩ := Bool.and_eq_true_iff.mp (List.all_eq_true.mp h p hp)
  refine ⟨a, ?_⟩
  match e : g (He.cT K p).2 with
  | none => rw [e] at b; cases b
  | some o => rw [e] at b; exact ⟨o, rfl, b⟩
def hookN (n : Nat) (fa : List He.Fa) (fn : List He.DefD) (tf : List He.Defn) (ex : PySem.W.Frag → Bool) : PySem.W.Hook where
  α := AlN
  obs := fun s => obsN n fa fn tf ex s.heap.get?
  val := fun _ => (He.valD fn, true)
  says := fun _ h => ∃ K : PySem.W.Frag, K.In h ∧ SaysN fa fn tf ex h K
  of := fun _ s e => by
    obtain ⟨h1, h2⟩ := Prod.mk.inj e
    obtain ⟨h3, h4⟩ := Bool.and_eq_true_iff.mp h2
    exact ⟨_, He.frT_in, h1, h3, fun p hp => (tabs_at h4 hp).1, fun p hp => let ⟨_, _, q, z⟩ := tabs_at h4 hp; He.frT_none q z, fun p hp => by
      obtain ⟨_, o, q, z⟩ := tabs_at h4 hp
      rw [← He.emptyTab_eq z]
      exact q⟩
  keeps := fun _ _ _ ⟨K, X, c⟩ k => ⟨K, X.keeps k, c.d, c.more, c.hd, c.out, fun p hp => k _ _ (c.empty p hp)⟩
theorem obsN_eq {n : Nat} {fa : List He.Fa} {fn : List He.DefD} {tf : List He.Defn} {ex : PySem.W.Frag → Bool} (s : PySem.W.SharedT) : obsN n fa fn tf ex (HandSHeadRun.getT s) = (hookN n fa fn tf ex).obs s.abs := by
  rw [show HandSHeadRun.getT s = s.abs.heap.get? from funext (HandSHeadRun.getT_eq s)]
  rfl
/-! ### exception classes by a Bool -/
def eqo (a b : Option (Option Value)) : Bool := decide (a = b)
def xfB (K : PySem.W.Frag) (C : Addr) : Bool :=
  eqo (PySem.W.findIn K (.ref C) "__getattribute__") (some (some (.builtin "BaseException.__getattribute__"))) && (eqo (PySem.W.findIn K (.ref C) "__getattr__") (some none) && (decide (PySem.W.subIn K (.ref C) (.type "BaseException") = some true)
  && (PySem.W.hasDictIn K C && (eqo (PySem.W.findIn K (.ref C) "__class__") (some (some (.builtin "object.__class__"))) && (decide (PySem.W.mroIn K C (.type "object") = some true)
  && (eqo (PySem.W.specialIn K (.builtin "object.__class__") "__get__") (some (some (.builtin "getset_descriptor.__get__"))) && decide (PySem.W.takesIn K (.builtin "object.__class__") = some true)))))))
theorem xfB_ok {K : PySem.W.Frag} {C : Addr} (h : xfB K C = true) : XF K C := by
  simp only [xfB, eqo, Bool.and_eq_true, decide_eq_true_eq] at h
  obtain ⟨h1, h2, h3, h4, h5, h6, h7, h8⟩ := h
  exact ⟨h1, h2, h3, h4, h5, h6, h7, h8⟩
/-- the written __init__ of such a class: one field, two fields -/
def shape1 (f : Str) (ar : Arguments) (b : FuncBody) (sc : Scope) : Bool := match ar, b with
  | ⟨[], [⟨s, none, _⟩, ⟨g, none, _⟩], none, [], [], none, []⟩, .stmts [.Expr (.Call (.Attribute (.Call (.Name su _) [] [] _) ini q3) [.Name g2 _] [] q4) _, .Assign [.Attribute (.Name s2 _) g3 _] (.Name g4 _) _] =>
    decide (s = "self" ∧ g = f ∧ su = "super" ∧ ini = "__init__" ∧ g2 = f ∧ s2 = "self" ∧ g3 = f ∧ g4 = f ∧ q3.endLine = q4.line ∧ sc = NCX.sc1 f)
  | _, _ => false
theorem shape1_ok {f : Str} {ar : Arguments} {b : FuncBody} {sc : Scope} (h : shape1 f ar b sc = true) : ∃ p p' q0 q1 q2 q3 q4 q5 r1 r2 r3 r4, ar = NCX.a1 f p p' ∧ b = .stmts [NCX.callSup [.Name f q0] q1 q2 q3 q4 q5, NCX.keepF f r1 r2 r3 r4] ∧ sc = NCX.sc1 f ∧ (q3.endLine == q4.line) = true := by
  unfold shape1 at h
  split at h
  · obtain ⟨rfl, rfl, rfl, rfl, rfl, rfl, rfl, rfl, hl, rfl⟩ := of_decide_eq_true h
    exact ⟨_, _, _, _, _, _, _, _, _, _, _, _, rfl, rfl, rfl, by rw [hl]; exact beq_self_eq_true _⟩
  · cases h
def shape2 (f f' : Str) (ar : Arguments) (b : FuncBody) (sc : Scope) : Bool := match ar, b with
  | ⟨[], [⟨s, none, _⟩, ⟨g, none, _⟩, ⟨k, none, _⟩], none, [], [], none, []⟩, .stmts [.Expr (.Call (.Attribute (.Call (.Name su _) [] [] _) ini q3) [.Name g2 _, .Name k2 _] [] q4) _, .Assign [.Attribute (.Name s2 _) g3 _] (.Name g4 _) _, .Assign [.Attribute (.Name s3 _) k3 _] (.Name k4 _) _] =>
    decide (s = "self" ∧ g = f ∧ k = f' ∧ su = "super" ∧ ini = "__init__" ∧ g2 = f ∧ k2 = f' ∧ s2 = "self" ∧ g3 = f ∧ g4 = f ∧ s3 = "self" ∧ k3 = f' ∧ k4 = f' ∧ q3.endLine = q4.line ∧ sc = NCX.sc2 f f')
  | _, _ => false
theorem shape2_ok {f f' : Str} {ar : Arguments} {b : FuncBody} {sc : Scope} (h : shape2 f f' ar b sc = true) : ∃ p p' p'' q0 q0' q1 q2 q3 q4 q5 r1 r2 r3 r4 z1 z2 z3 z4, ar = NCX.a2 f f' p p' p'' ∧ b = .stmts [NCX.callSup [.Name f q0, .Name f' q0'] q1 q2 q3 q4 q5, NCX.keepF f r1 r2 r3 r4, NCX.keepF f' z1 z2 z3 z4] ∧ sc = NCX.sc2 f f' ∧ (q3.endLine == q4.line) = true := by
  unfold shape2 at h
  split at h
  · obtain ⟨rfl, rfl, rfl, rfl, rfl, rfl, rfl, rfl, rfl, rfl, rfl, rfl, rfl, hl, rfl⟩ := of_decide_eq_true h
    exact ⟨_, _, _, _, _, _, _, _, _, _, _, _, _, _, _, _, _, _, rfl, rfl, rfl, by rw [hl]; exact beq_self_eq_true _⟩
  · cases h
/-- the function object: its row, its code, its cell -/
def inB (K : PySem.W.Frag) (prog : Program) (C fI : Addr) (qual : Str) (sh : Arguments → FuncBody → Scope → Bool) : Bool := match K.lookup fI with
  | some ⟨_, _, .func fd, _⟩ => (match fd.closure, fd.defaults, fd.kwdefaults, fd.code with
    | [(cn, cc)], .none, .none, .ref cda => decide (fd.name = "__init__" ∧ fd.qualname = qual ∧ fd.globals = mainGlobals ∧ cn = "__class__" ∧ fd.builtins = builtinsNs) && (sh fd.params fd.body fd.scope && (PySem.W.codeIn K (.ref cda) qual
      && ((match K.lookup cda with
        | some ⟨_, _, .fields vs, _⟩ => (match (vs[2]? : Option Value) with
          | some (.str file _) => ((prog.main.file : Str) == file)
          | _ => false)
        | _ => false)
      && (match K.lookup cc with
        | some ⟨_, _, .cell (some (.ref D)), _⟩ => decide (D = C)
        | _ => false))))
    | _, _, _, _ => false)
  | _ => false
theorem inB_ok {K : PySem.W.Frag} {prog : Program} {C fI : Addr} {qual : Str} {sh : Arguments → FuncBody → Scope → Bool} (h : inB K prog C fI qual sh = true) : ∃ params body scope cc, sh params body scope = true ∧ (∃ cl cld csl, K.lookup cc = some ⟨cl, cld, .cell (some (.ref C)), csl⟩) ∧ ∀ bd, body = .stmts bd → ∃ (oc : Value) (od : Option Addr) (doc pm : Value) (an : Option Addr) (cda : Addr) (ct : Value) (osl : Array (Option Value)) (ccl : Value) (cdd : Option Addr) (vs : Array Value) (ccs : Array (Option Value)) (file : Str) (tf : Tok),
    K.lookup fI = some ⟨oc, od, .func (PySem.W.ksFn "__init__" qual params bd scope .none .none doc pm an (.ref cda) ct cc), osl⟩ ∧ PySem.W.codeIn K (.ref cda) qual = true ∧ K.lookup cda = some ⟨ccl, cdd, .fields vs, ccs⟩ ∧ vs[2]? = some (.str file tf) ∧ ((prog.main.file : Str) == file) = true := by
  unfold inB at h
  split at h
  · rename_i oc od fd osl lk
    obtain ⟨n1, n2, n3, n4, n5, n6, n7, n8, n9, n10, n11, n12, n13, n14, n15⟩ := fd
    dsimp only at h
    split at h
    · obtain ⟨h1, h⟩ := Bool.and_eq_true_iff.mp h
      obtain ⟨h2, h⟩ := Bool.and_eq_true_iff.mp h
      obtain ⟨h3, h⟩ := Bool.and_eq_true_iff.mp h
      obtain ⟨h4, h5⟩ := Bool.and_eq_true_iff.mp h
      obtain ⟨rfl, rfl, rfl, rfl, rfl⟩ := of_decide_eq_true h1
      split at h4
      · rename_i l2
        split at h4
        · rename_i l3
          split at h5
          · rename_i l4
            cases of_decide_eq_true h5
            exact ⟨_, _, _, _, h2, ⟨_, _, _, l4⟩, fun bd e => by
              cases e
              exact ⟨_, _, _, _, _, _, _, _, _, _, _, _, _, _, lk, h3, l2, l3, h4⟩⟩
          · cases h5
        · cases h4
      · cases h4
    · cases h
  · cases h
def clB (K : PySem.W.Frag) (prog : Program) (x : Str) (C fI : Addr) (B newId initId : String) (bmB : List Value) (fs : List Str) (sh : Arguments → FuncBody → Scope → Bool) : Bool :=
  PySem.W.excInitIn K C bmB newId && (PySem.W.excOver K C bmB && (PySem.W.hasDictIn K C && (eqo (PySem.W.findIn K (.ref C) "__setattr__") (some (some (.builtin "object.__setattr__")))
  && (eqo (PySem.W.findIn K (.ref C) "__init__") (some (some (.ref fI))) && (decide (PySem.W.typeIn K (.ref fI) = some (.type "function")) && (decide (PySem.W.mroIn K C (.ref C) = some true) && (eqo (PySem.W.ks_superIn K C C "__init__") (some (some (.builtin initId)))
  && (decide (PySem.W.subIn K (.ref C) (.type B) = some true) && (eqo (PySem.W.nsIn K mainGlobals "super") (some none) && (eqo (PySem.W.nsIn K cStatics "thirdparty.any") (some none) && (!(prog.main.scope.names.lookup ("super" : Str)).isSome
  && (inB K prog C fI (x ++ ".__init__") sh && (xfB K C && (PySem.W.keepIn K (.ref C) && (fs.all (fun f => eqo (PySem.W.findIn K (.ref C) f) (some none)) && eqo (PySem.W.nsIn K mainGlobals x) (some (some (.ref C))))))))))))))))))
structure ClF (K : PySem.W.Frag) (prog : Program) (x : Str) (C fI : Addr) (B newId initId : String) (bmB : List Value) (fs : List Str) (sh : Arguments → FuncBody → Scope → Bool) : Prop where
  cl : ∃ params body scope cc, sh params body scope = true ∧ ∀ bd, body = .stmts bd → NCX.Cl K prog C fI cc B newId initId bmB (x ++ ".__init__") params bd scope
  facts : XF K C
  keep : PySem.W.keepIn K (.ref C) = true
  free : ∀ f ∈ fs, PySem.W.findIn K (.ref C) f = some none
  glo : PySem.W.nsIn K mainGlobals x = some (some (.ref C))
  sup : PySem.W.nsIn K mainGlobals "super" = some none
  ini : PySem.W.excInitIn K C bmB newId = true
  iC : PySem.W.findIn K (.ref C) "__init__" = some (some (.ref fI))
  tC : PySem.W.typeIn K (.ref fI) = some (.type "function")
theorem clB_ok {K : PySem.W.Frag} {prog : Program} {x : Str} {C fI : Addr} {B newId initId : String} {bmB : List Value} {fs : List Str} {sh : Arguments → FuncBody → Scope → Bool} (h : clB K prog x C fI B newId initId bmB fs sh = true) : ClF K prog x C fI B newId initId bmB fs sh := by
  simp only [clB, eqo, Bool.and_eq_true, decide_eq_true_eq, Bool.not_eq_true', List.all_eq_true] at h
  obtain ⟨h1, h2, h3, h4, h5, h6, h7, h8, h9, h10, h11, h12, h13, h14, h15, h16, h17⟩ := h
  obtain ⟨params, body, scope, cc, s1, s2, s3⟩ := inB_ok h13
  exact ⟨⟨params, body, scope, cc, s1, fun bd e => ⟨h1, h2, h3, h4, h5, h6, s3 bd e, s2, h7, h8, h9, h10, h11, h12⟩⟩, xfB_ok h14, h15, h16, h17, h10, h1, h5, h6⟩
/-- a class with one field, with two fields -/
theorem xcl1 {K : PySem.W.Frag} {prog : Program} {x f : Str} {C fI : Addr} {B newId initId : String} {bmB : List Value} {mg : Str → Option Value} {h : Heap} (D : NCX.Base B newId initId bmB) (F : NCX.Tx1 f) (ac : ∀ p p' us kw vs, Hand [f] us kw vs → NCX.Acc (NCX.a1 f p p') [f] us kw vs) (X : K.In h) (G : h.Ns mainGlobals mg) (T : ClF K prog x C fI B newId initId bmB [f] (shape1 f)) : XCl K prog mg x C [f] := by
  obtain ⟨params, body, scope, cc, s1, s2⟩ := T.cl
  obtain ⟨p, p', q0, q1, q2, q3, q4, q5, r1, r2, r3, r4, rfl, rfl, rfl, hl⟩ := shape1_ok s1
  refine ⟨PySem.W.mg_of X G T.glo, T.keep, T.facts, T.free, fun {w A s us vs kw mb R} ha hs hK hlim hg hb hmb hd hq => ?_⟩
  exact NCX.made D T.ini T.iC T.tC (NCX.ini1 F D (s2 _ rfl) hl (T.free f List.mem_cons_self)) (ac p p' us kw vs ha) ha.1 hs hK hlim hg (PySem.W.mg_none_of X G T.sup) hb hmb hd hq
theorem xcl2 {K : PySem.W.Frag} {prog : Program} {x f g : Str} {C fI : Addr} {B newId initId : String} {bmB : List Value} {mg : Str → Option Value} {h : Heap} (D : NCX.Base B newId initId bmB) (F : NCX.Tx2 f g) (ac : ∀ p p' p'' us kw vs, Hand [f, g] us kw vs → NCX.Acc (NCX.a2 f g p p' p'') [f, g] us kw vs) (X : K.In h) (G : h.Ns mainGlobals mg) (T : ClF K prog x C fI B newId initId bmB [f, g] (shape2 f g)) : XCl K prog mg x C [f, g] := by
  obtain ⟨params, body, scope, cc, s1, s2⟩ := T.cl
  obtain ⟨p, p', p'', q0, q0', q1, q2, q3, q4, q5, r1, r2, r3, r4, z1, z2, z3, z4, rfl, rfl, rfl, hl⟩ := shape2_ok s1
  refine ⟨PySem.W.mg_of X G T.glo, T.keep, T.facts, T.free, fun {w A s us vs kw mb R} ha hs hK hlim hg hb hmb hd hq => ?_⟩
  exact NCX.made D T.ini T.iC T.tC (NCX.ini2 F D (s2 _ rfl) hl (T.free f List.mem_cons_self) (T.free g (List.mem_cons_of_mem _ List.mem_cons_self))) (ac p p' p'' us kw vs ha) ha.1 hs hK hlim hg (PySem.W.mg_none_of X G T.sup) hb hmb hd hq
theorem one_of {α : Type} {vs : List α} (h : vs.length = 1) : ∃ v, vs = [v] := by
  match vs, h with
  | [v], _ => exact ⟨v, rfl⟩
theorem two_of {α : Type} {vs : List α} (h : vs.length = 2) : ∃ v u, vs = [v, u] := by
  match vs, h with
  | [v, u], _ => exact ⟨v, u, rfl⟩
theorem bsV : NCX.Base "ValueError" "ValueError.__new__" "ValueError.__init__" [.type "ValueError", .type "Exception", .type "BaseException", .type "object"] := ⟨PySem.F.excBase_ValueError, PySem.W.kxs_ValueError, PySem.F.store_ValueError⟩
theorem bsL : NCX.Base "LookupError" "LookupError.__new__" "LookupError.__init__" [.type "LookupError", .type "Exception", .type "BaseException", .type "object"] := ⟨PySem.F.excBase_LookupError, PySem.W.kxs_LookupError, PySem.F.store_LookupError⟩
theorem bsO : NCX.Base "OverflowError" "OverflowError.__new__" "OverflowError.__init__" [.type "OverflowError", .type "ArithmeticError", .type "Exception", .type "BaseException", .type "object"] := ⟨PySem.F.excBase_OverflowError, PySem.W.kxs_OverflowError, PySem.F.store_OverflowError⟩
theorem bsR : NCX.Base "RuntimeError" "RuntimeError.__new__" "RuntimeError.__init__" [.type "RuntimeError", .type "Exception", .type "BaseException", .type "object"] := ⟨PySem.F.excBase_RuntimeError, PySem.W.kxs_RuntimeError, PySem.F.store_RuntimeError⟩
/-! ### small looks at the written part -/
def sysB (K : PySem.W.Frag) : Bool := match K.lookup sysModules with
  | some o => decide (o.cls = .type "dict")
  | none => false
theorem sysB_ok {K : PySem.W.Frag} (h : sysB K = true) : SysK K := by
  unfold sysB at h
  split at h
  · rename_i o e
    exact ⟨o, e, of_decide_eq_true h⟩
  · cases h
/-- no list of the module's own -/
def nolstB (K : PySem.W.Frag) : Bool := K.all fun q => decide (q.2.cls ≠ .type "list")
theorem nolstB_ok {K : PySem.W.Frag} (h : nolstB K = true) : ∀ a o, K.lookup a = some o → o.cls ≠ .type "list" := fun a o e => of_decide_eq_true (List.all_eq_true.mp h (a, o) (He.lookup_mem e))
/-! ### a law's end -/
section
variable {P : Program} {w : World} {K : PySem.W.Frag} {mg mb : Str → Option Value} {k : Nat} {fa a : Addr} {fd : FuncData} {x : Str} {sp : Sp} {s : Shared} {vs : List Value} {ns : List Int}
/-- the script alone is tracked -/
def scrH (a : Addr) (o : Obj) (xs : List V) : Hp := fun b => if b = a then some (.frz o (.lst xs)) else none
theorem scrH_at {a : Addr} {o : Obj} {xs : List V} : scrH a o xs a = some (.frz o (.lst xs)) := if_pos rfl
theorem scrH_no {a b : Addr} {o : Obj} {xs : List V} (h : b ≠ a) : scrH a o xs b = none := if_neg h
theorem law_runs (KX : K.In s.heap) (nl : ∀ o, K.lookup a = some o → o.cls ≠ .type "list") (gl : s.heap.Ns mainGlobals mg) (bn : s.heap.Ns builtinsNs mb) (bb : ∀ y : Str, y ≠ "__name__" → mb y = bootBuiltins y) (lim : s.heap.NoLimit) (gens : s.gens = #[])
    (at_ : s.heap.get? a = some { cls := .type "list", data := .seq vs.toArray }) (hin : IntsAre vs ns) (few : ns.length ≤ sizeLine) (room : Room k callerA) (F : ∀ base : Heap, K.In base → base.Ns mainGlobals mg → FnG P w K mg base CX0 k fa fd [x] sp)
    (binds : ∀ (t : Shared) (u : Value), BindsTo t fd ⟨[u], []⟩ [(x, u)]) (keeps : ∀ H : Hp, Only H → Rd H a (.lst (ns.map V.int)) → sp [.ref a] H (fun v _ => v = .bl true) fun _ _ _ => False) :
    codeAny (model P w) callerA (.call (.ref fa) ⟨[.ref a], []⟩) (fun r s' => r = .ok (.ret (.bool true)) ∧ OldK s.heap s'.heap ∧ s'.os = s.os ∧ AllBare s'.gens) s := by
  obtain ⟨o, ho⟩ : ∃ o : Obj, o = { cls := .type "list", data := .seq vs.toArray } := ⟨_, rfl⟩
  rw [← ho] at at_
  obtain ⟨H, hH⟩ : ∃ H, H = scrH a o (ns.map V.int) := ⟨_, rfl⟩
  have Ha : H a = some (.frz o (.lst (ns.map V.int))) := hH ▸ scrH_at
  have Hn : ∀ {b}, b ≠ a → H b = none := fun z => hH ▸ scrH_no z
  have only : Only H := fun b => by
    by_cases z : b = a
    · exact .inr ⟨_, _, z ▸ Ha⟩
    · exact .inl (Hn z)
  have hok : HOk P w H s.heap := fun b u e => by
    by_cases z : b = a
    · subst z
      rw [Ha] at e
      cases e
      exact ⟨at_, by rw [List.length_map]; exact few, vs, _, vals_ints hin, ho ▸ at_⟩
    · rw [Hn z] at e
      cases e
  have stay : ∀ {b : Addr} {u : Obj}, b ≠ a → s.heap.get? b = some u → (hidT s.heap H).get? b = some u := fun z e => hidT_get e (Hn z)
  have dict : ∀ {b : Addr} {m : Str → Option Value}, s.heap.Ns b m → (hidT s.heap H).Ns b m := by
    rintro b m ⟨u, es, ep, e, dt, r⟩
    refine ⟨u, es, ep, stay (fun z => ?_) e, dt, r⟩
    rw [z, at_] at e
    cases e
    rw [ho] at dt
    cases dt
  have KB : K.In (hidT s.heap H) := fun b u e => stay (fun z => by
    rw [z] at e
    have q := KX a u e
    rw [at_] at q
    cases q
    exact nl _ e (by rw [ho])) (KX b u e)
  obtain ⟨mc, l1, l2⟩ := lim
  have env : Env0 P w K mg (hidT s.heap H) callerA [] s H := ⟨rfl, ⟨KB, dict gl, ⟨mb, dict bn, bb⟩, ⟨mc, dict l1, l2⟩⟩, fun b u e => of_hidT e, Nat.le_of_eq (hidT_size _ _), trivial, fun b z => (nomatch (show b ∈ ([] : List Addr) from z)), hok, .of_eq gens⟩
  refine codeAny_mono ((F _ KB (dict gl)).go (us := [.ref a]) (vs := [.ref a]) rfl room env (binds s (.ref a)) (.cons rfl .nil) (keeps H only (.inr ⟨o, Ha⟩))) ?_
  rintro (er | fl) s' q
  · exact q.elim
  · match fl, q with
    | .ret u, ⟨v, H', os, bare, un, ok', rv, e⟩ =>
      have e' : v = .bl true := e
      subst e'
      cases rv
      refine ⟨rfl, OldK.of_keep fun b u e => ?_, os, bare⟩
      by_cases z : b = a
      · subst z
        rw [at_] at e
        cases e
        exact (ok' _ _ (un.frzs _ _ _ Ha)).1
      · exact un.keep b u e (Hn z) (fun y => nomatch (show b ∈ ([] : List Addr) from y)) (by simp)
    | .next, q => exact q.elim
    | .brk, q => exact q.elim
    | .cont, q => exact q.elim
end
/-- a law's walk: F gives the written part and the law's promise -/
theorem walk_ofG {l : PySem.W.OpenLaw} {n k : Nat} {q : Program} {loose : List Str} {XP : (Str → Option Value) → Heap → Prop} {YP : World → Heap → Prop} {d : DefRec} {x : Str} (hn : l.most = some n) (hn2 : n ≤ sizeLine) (hdf : d.params.defaults = []) (hr : Room k callerA)
    (F : ∀ (w : World) (mg : Str → Option Value) (fa : Addr) (h : Heap), YP w h → h.Ns mainGlobals mg → mg d.name = some (.ref fa) →
      ∃ (K : PySem.W.Frag) (fd : FuncData) (sp : Sp), K.In h ∧ (∀ a o, K.lookup a = some o → o.cls ≠ .type "list") ∧ (∀ (s : Shared) (u : Value), BindsTo s fd ⟨[u], []⟩ [(x, u)]) ∧
        (∀ (H : Hp) (a : Addr) (ns : List Int), ns.length ≤ n → (∀ z ∈ ns, Builtin.Int.intBits z ≤ 1048576) → Only H → Rd H a (.lst (ns.map V.int)) → sp [.ref a] H (fun v _ => v = .bl true) fun _ _ _ => False) ∧
        ∀ base : Heap, K.In base → base.Ns mainGlobals mg → FnG l.prog w K mg base CX0 k fa fd [x] sp) :
    PySem.W.WalkO q loose XP YP l.row.toRowW d [] (fun f vs => PySem.call f vs) := by
  refine Att.attach_callB hn hdf fun w s₀ s₁ mg mb fa o pm cd doc a vs ns G Y ho hd hcd hmg hobj hints hlen hbits hg => ?_
  obtain ⟨K, fd, sp, KX, nl, hb, hsp, hF⟩ := F w mg fa _ Y G.T.g hmg
  exact law_runs KX (nl a) G.T.g G.T.b G.T.builtins G.T.nolimit hg hobj hints (Nat.le_trans hlen hn2) hr hF hb fun H hO hS => hsp H a ns hlen hbits hO hS
/-! ### a judgement of a block, where the pen is made within the body -/
def tDSs (K : PySem.W.Frag) (w : WS) : TS := fun E σ H => ∃ P gs M ρ b T, Rel K P gs M σ H ρ b ∧ w T ρ b ∧ EOk K P gs E T
theorem DSs.pss {X : Cx} {st : List Stmt} {w : WS} (h : ∀ P, DSs X P st w) : PSs X st (tDSs X.K w) :=
  ⟨fun pins s σ H E I ⟨P, gs, M, ρ, b, T, R, q, o⟩ => let ⟨_, h1, h2⟩ := h P; h1.run pins s σ H E I (h2 gs M σ H ρ b E T R q o)⟩
end NC
set_option maxRecDepth 100000
set_option maxHeartbeats 8000000
namespace NC
open PySem PyProof.Rows PySem.Spec L2
def top (i : Nat) : Stmt := PySem.Challenge.pw_namechains_k10_errors_and_limits.main.body.getD i (.Pass ⟨0, 0, 0, 0⟩)
abbrev s_pen : Stmt := top 34
abbrev s_draw : Stmt := top 35
abbrev s_pick : Stmt := top 36
abbrev s_any : Stmt := top 37
abbrev FnP (K : PySem.W.Frag) (x : Str) (st : Stmt) (f : Addr) (fd : FuncData) : Prop := FunD K x x (defArgs st) (defBody st) (defScope st) [] [] f fd
theorem scDraw : FnScope ["_law_pen_here", "_law_many", "_law_digit", "_law_turn", "_law_cell", "_law_primes", "_law_prime", "_law_drawn"] ["_law_pen_here", "_law_many"] (defScope s_draw) := ⟨rfl, rfl, rfl, by decide +kernel, rfl, by decide +kernel, by decide +kernel⟩
end NC
set_option maxRecDepth 100000
set_option maxHeartbeats 8000000
namespace NC
open PySem PyProof.Rows PySem.Spec L2
theorem iteT' {c : Bool} {A B : Prop} (hc : c = true) (h : A) : if c = true then A else B := by rw [if_pos hc]; exact h
theorem iteF' {c : Bool} {A B : Prop} (hc : c = false) (h : B) : if c = true then A else B := by rw [hc, if_neg Bool.false_ne_true]; exact h
theorem mb {x p : Int} (h : 0 < p) (h' : p < 2 ^ 32) : -(2 ^ 64) < x % p ∧ x % p < 2 ^ 64 := by
  have a := Int.emod_nonneg x (Int.ne_of_gt h)
  have b := Int.emod_lt_of_pos x h
  omega
section
variable {P : Program} {w : World} {K : PySem.W.Frag} {mg : Str → Option Value} {base : Heap}
theorem ok_draw {f : Addr} {fd : FuncData} (F : FnP K "_law_draw" s_draw f fd) (T : Bl mg) : FnG P w K mg base CX0 1 f fd ["_law_pen_here", "_law_many"] (spDraw K) := by
  refine fng_of F scDraw (fun vs H Q E h => ?_) (fun cdv A outer s H vs Q E _ hr h => ?_)
  · obtain ⟨pn, M, many, b, rfl, _⟩ := h
    rfl
  obtain ⟨pn, M, many, b, rfl, h0, h1, hM, hp, k⟩ := h
  obtain ⟨c, ns, t, l, e1, e2, e3, e4, e5, e6, e7⟩ := hp.ex
  have e1 : H pn = some (.dK (penD c t l)) := e1
  have hu := hu_of hr
  refine ⟨_, PSs.nox (pss_cons (ps_if (pt_cmpR op_gt (pe_dget hu (pv 0) pe_str (fun _ _ => rfl)) pe_int (nomark _)) (pss_cons (ps_set (i := 2) scDraw.nd rfl (Or.inl rfl) (pe_op op_mod (pe_callTy call_int1 (by rfl) T.int (by decide +kernel) (pa_cons (pe_dget hu (pv 0) pe_str (fun _ _ => rfl)) pa_nil)) (pv 1)))
      (pss_cons (ps_dput hu (pv 0) pe_str (pe_op op_fdivW (pe_dget hu (pv 0) pe_str (fun _ _ => rfl)) (pv 1)) rfl)
      (pss_one (ps_ret (pv 2))))) pss_nil)
      (pss_cons (ps_set (i := 3) scDraw.nd rfl (Or.inl rfl) (pe_dget hu (pv 0) pe_str (fun _ _ => rfl)))
      (pss_cons (ps_dput hu (pv 0) pe_str (pe_op op_add (pv 3) pe_int) rfl)
      (pss_cons (ps_set (i := 4) scDraw.nd rfl (Or.inl rfl) (pe_op op_add (pe_op op_mul pe_int (pv 3)) pe_int))
      (pss_cons (ps_if (pt_cmpR (op_neD hr.units) (pe_dget hu (pv 0) pe_str (fun _ _ => rfl)) (pe_lst pa_nil) (nomark _)) (pss_one (ps_set (i := 4) scDraw.nd rfl (Or.inl rfl) (pe_ix ix_list (pe_dget hu (pv 0) pe_str (fun _ _ => rfl)) (pe_op op_mod (pe_callTy call_int1 (by rfl) T.int (by decide +kernel) (pa_cons (pv 3) pa_nil)) (pe_callB call_len (by rfl) T.len PySem.boot_len (pa_cons (pe_dget hu (pv 0) pe_str (fun _ _ => rfl)) pa_nil))) (fun _ _ => rfl)))) pss_nil)
      (pss_cons (ps_if (PW.pt (pw_and (pt_cmpR op_lt (pv 3) (pe_callB call_len (by rfl) T.len PySem.boot_len (pa_cons (pe_dget hu (pv 0) pe_str (fun _ _ => rfl)) pa_nil)) (nomark _)) (pw_and1 (pt_cmpR op_ge (pe_callB call_abs (by rfl) T.abs (by decide +kernel) (pa_cons (pv 4) pa_nil)) (pe_op op_pow pe_int pe_int) (nomark _))))) (pss_cons (ps_dput hu (pv 0) pe_str (pe_op op_fdivW (pe_op op_sub (pe_callB call_abs (by rfl) T.abs (by decide +kernel) (pa_cons (pv 4) pa_nil)) (pe_op op_pow pe_int pe_int)) (pv 1)) rfl)
      (pss_one (ps_ret (pe_op op_mod (pe_op op_sub (pe_callB call_abs (by rfl) T.abs (by decide +kernel) (pa_cons (pv 4) pa_nil)) (pe_op op_pow pe_int pe_int)) (pv 1))))) pss_nil)
      (pss_cons (ps_set (i := 5) scDraw.nd rfl (Or.inl rfl) (pe_lst (pa_cons pe_int (pa_cons pe_int (pa_cons pe_int (pa_cons pe_int (pa_cons pe_int pa_nil)))))))
      (pss_cons (ps_set (i := 6) scDraw.nd rfl (Or.inl rfl) (pe_ix ix_list (pv 5) (pe_op op_mod (pe_callTy call_int1 (by rfl) T.int (by decide +kernel) (pa_cons (pv 3) pa_nil)) pe_int) (fun _ _ => rfl)))
      (pss_cons (ps_set (i := 7) scDraw.nd rfl (Or.inl rfl) (pe_op op_mod (pe_callTy call_int1 (by rfl) T.int (by decide +kernel) (pa_cons (pe_op op_add (pe_op op_add (pe_op op_mul (pe_op op_mod (pe_callTy call_int1 (by rfl) T.int (by decide +kernel) (pa_cons (pv 4) pa_nil)) (pv 6)) pe_int) (pe_op op_mul (pv 3) (pe_op op_add (pe_op op_mul pe_int (pv 3)) pe_int))) pe_int) pa_nil)) (pv 6)))
      (pss_cons (ps_set (i := 7) scDraw.nd rfl (Or.inl rfl) (pe_op op_mod (pe_callTy call_int1 (by rfl) T.int (by decide +kernel) (pa_cons (pe_op op_mul (pv 7) (pe_op op_add (pv 7) pe_int)) pa_nil)) (pe_ix ix_list (pv 5) (pe_op op_mod (pe_callTy call_int1 (by rfl) T.int (by decide +kernel) (pa_cons (pe_op op_add (pv 3) pe_int) pa_nil)) pe_int) (fun _ _ => rfl))))
      (pss_one (ps_ret (pe_op op_mod (pe_callTy call_int1 (by rfl) T.int (by decide +kernel) (pa_cons (pe_op op_fdiv (pe_op op_mod (pe_callTy call_int1 (by rfl) T.int (by decide +kernel) (pa_cons (pe_op op_add (pe_op op_add (pe_op op_mul (pv 7) (pv 7)) (pe_op op_mul pe_int (pv 7))) (pv 3)) pa_nil)) pe_int) pe_int) pa_nil)) (pv 1)))))))))))))), ?_⟩
  have wd : ∀ i, CDivW i many := fun i => wide_div (b := 64) h0 (by omega) (by decide) (by decide)
  have nc : c ≠ pn := fun z => e3 (by rw [z]; exact hM)
  have fin : ∀ (H' : Hp) (t' l' : Int), (∀ a o, a ≠ pn → H a = some o → H' a = some o) → H' pn = some (.dK (penD c t' l')) → 0 ≤ t' → t' + b ≤ 1000000000 → 0 ≤ l' → Gr pn H H' ∧ PenAt K M H' pn b := fun H' t' l' g q1 q2 q3 q4 =>
    ⟨g, ⟨c, ns, t', l', q1, g c _ nc e2, e3, e4, q2, q3, q4⟩⟩
  -- is something left
  refine ⟨_, rfl, pn, _, rfl, getL' e1, _, _, rfl, rfl, _, rfl, ?_⟩
  by_cases cl : (0 : Int) < l
  · refine iteT' (decide_eq_true cl) ?_
    refine ⟨_, rfl, pn, _, rfl, getL' e1, .inl ⟨_, rfl, _, rfl, _, _, rfl, rfl, h0, ?_⟩⟩
    refine ⟨_, rfl, pn, _, rfl, getL' e1, _, rfl, _, _, rfl, rfl, wd _, _, rfl, pn, _, rfl, putL' _ e1, _, rfl, ?_⟩
    obtain ⟨g, q⟩ := fin _ t (l / many) (fun a o n e => by rw [upd_ne n]; exact e) upd_same e5 (by omega) (Int.ediv_nonneg e7 (Int.le_of_lt h0))
    exact k _ _ (Int.emod_nonneg _ (by omega)) (Int.emod_lt_of_pos _ h0) g q
  · refine iteF' (decide_eq_false cl) ?_
    -- the turn, and one turn more
    refine ⟨_, rfl, pn, _, rfl, getT e1, ?_⟩
    refine ⟨_, rfl, _, _, rfl, rfl, _, rfl, pn, _, rfl, putT _ e1, ?_⟩
    obtain ⟨H1, hH1⟩ : ∃ z, z = upd H pn (.dK (penD c (t + 1) l)) := ⟨_, rfl⟩
    have p1 : H1 pn = some (.dK (penD c (t + 1) l)) := by rw [hH1]; exact upd_same
    have n1 : ∀ a, a ≠ pn → H1 a = H a := fun a n => by rw [hH1]; exact upd_ne n
    have c1 : H1 c = some (.lst (ns.map V.int)) := by rw [n1 c nc]; exact e2
    rw [← hH1]
    have tb : -(2 ^ 64) < t ∧ t < 2 ^ 64 := by omega
    refine ⟨_, rfl, _, _, rfl, rfl, .inr tb, _, _, rfl, rfl, ?_⟩
    -- the cell
    refine ⟨_, rfl, pn, _, rfl, getC p1, (by show 0 ≤ sizeLine; decide), fun y hy => ?_⟩
    have ny : y ≠ pn := fun z => by rw [z, p1] at hy; cases hy
    have yc : y ≠ c := fun z => by rw [z, c1] at hy; cases hy
    have p2 : (upd H1 y (.lst [])) pn = some (.dK (penD c (t + 1) l)) := by rw [upd_ne ny.symm]; exact p1
    have c2 : (upd H1 y (.lst [])) c = some (.lst (ns.map V.int)) := by rw [upd_ne yc.symm]; exact c1
    have g2 : ∀ a o, a ≠ pn → H a = some o → (upd H1 y (.lst [])) a = some o := fun a o n e => by
      have q := (n1 a n).trans e
      rw [upd_ne (ne_of_none q hy)]
      exact q
    obtain ⟨H2, hH2⟩ : ∃ z, z = upd H1 y (.lst []) := ⟨_, rfl⟩
    have y2 : H2 y = some (.lst []) := by rw [hH2]; exact upd_same
    rw [← hH2] at p2 c2 g2 ⊢
    refine ⟨.list (ns.map PyData.int), .list [], .lst (.inl (.inl c2)) (dp_ints ns), .lst (.inl (.inl y2)) .nil, PySem.W.ke_shaped_ints ns, rfl, _, rfl, ?_⟩
    have len63 : (ns.map V.int).length = ns.length := List.length_map _
    have pw : CPow 10 18 := ⟨by decide, by decide, by decide⟩
    obtain ⟨p, hp1, hp2, hp3⟩ := prime_at (t % 5) (Int.emod_nonneg _ (by decide)) (Int.emod_lt_of_pos _ (by decide))
    obtain ⟨p', hp1', hp2', hp3'⟩ := prime_at ((t + 2) % 5) (Int.emod_nonneg _ (by decide)) (Int.emod_lt_of_pos _ (by decide))
    by_cases ce : ns = []
    · refine iteF' (by rw [eqv_nil, ce]; rfl) ?_
      refine ⟨_, rfl, _, rfl, pn, _, rfl, getC p2, _, _, rfl, .inl ⟨_, .inl (.inl c2), rfl⟩, _, _, rfl, rfl, _, rfl, ?_⟩
      by_cases d1 : t < ((ns.map V.int).length : Int)
      · refine iteT' (decide_eq_true d1) ?_
        refine ⟨_, rfl, _, rfl, _, _, rfl, rfl, pw, _, _, rfl, rfl, _, rfl, ?_⟩
        by_cases d2 : (10 : Int) ^ (18 : Int).toNat ≤ (if (43 * t + 19) < 0 then -(43 * t + 19) else (43 * t + 19))
        · refine iteT' (decide_eq_true d2) ?_
          refine ⟨_, rfl, _, rfl, _, _, rfl, rfl, pw, _, _, rfl, rfl, _, rfl, _, _, rfl, rfl, wd _, _, rfl, pn, _, rfl, putL' _ p2, ?_⟩
          refine ⟨_, rfl, _, rfl, _, _, rfl, rfl, pw, _, _, rfl, rfl, _, rfl, _, _, rfl, rfl, h0, ?_⟩
          obtain ⟨gr, pa⟩ := fin (upd H2 pn (.dK (penD c (t + 1) (((if (43 * t + 19) < 0 then -(43 * t + 19) else (43 * t + 19)) - 10 ^ (18 : Int).toNat) / many)))) (t + 1) _ (fun a o n e => by rw [upd_ne n]; exact g2 a o n e) upd_same (by omega) (by omega) (Int.ediv_nonneg (by omega) (Int.le_of_lt h0))
          exact k _ _ (Int.emod_nonneg _ (by omega)) (Int.emod_lt_of_pos _ h0) gr pa
        · refine iteF' (decide_eq_false d2) ?_
          refine ⟨(by show 5 ≤ sizeLine; decide), fun y3 hy3 => ?_⟩
          have x3 : y3 ≠ pn := fun z => by rw [z, p2] at hy3; cases hy3
          obtain ⟨H3, hH3⟩ : ∃ z, z = upd H2 y3 (.lst (primes.map V.int)) := ⟨_, rfl⟩
          have w3 : H3 y3 = some (.lst (primes.map V.int)) := by rw [hH3]; exact upd_same
          have g3 : ∀ a o, a ≠ pn → H a = some o → H3 a = some o := fun a o n e => by rw [hH3, upd_ne (ne_of_none (g2 a o n e) hy3)]; exact g2 a o n e
          have p3 : H3 pn = some (.dK (penD c (t + 1) l)) := by rw [hH3, upd_ne x3.symm]; exact p2
          obtain ⟨gr, pa⟩ := fin H3 (t + 1) l g3 p3 (by omega) (by omega) e7
          have go : ∀ r, 0 ≤ r → r < many → Q (.int r) (upd H2 y3 (.lst (primes.map V.int))) := fun r q1 q2 => by rw [← hH3]; exact k r H3 q1 q2 gr pa
          have w3' : SqL K (upd H2 y3 (.lst (primes.map V.int))) y3 (primes.map V.int) := .inl (.inl upd_same)
          refine ⟨_, rfl, _, rfl, .inl ⟨_, rfl, _, _, rfl, rfl, (by decide : (0 : Int) < 5), y3, _, _, _, rfl, rfl, w3', hp1, ?_⟩⟩
          refine ⟨_, rfl, .inl ⟨_, rfl, _, rfl, _, _, rfl, rfl, hp2, _, _, rfl, rfl, .inr (by decide), _, rfl, _, rfl, _, _, rfl, rfl, .inl (by decide), _, _, rfl, rfl, _, _, rfl, rfl, .inl tb, _, _, rfl, rfl, _, _, rfl, rfl, .inl ⟨_, rfl, _, rfl, _, _, rfl, rfl, hp2, ?_⟩⟩⟩
          refine ⟨_, rfl, _, rfl, _, _, rfl, rfl, _, _, rfl, rfl, .inl (mb hp2 hp3), .inl ⟨_, rfl, _, rfl, _, rfl, _, _, rfl, rfl, .inl ⟨_, rfl, _, _, rfl, rfl, (by decide : (0 : Int) < 5), y3, _, _, _, rfl, rfl, w3', hp1', _, _, rfl, rfl, hp2', ?_⟩⟩⟩
          refine ⟨_, rfl, _, rfl, _, _, rfl, rfl, .inl (mb hp2' hp3'), _, rfl, _, _, rfl, rfl, .inl (by decide), _, _, rfl, rfl, _, rfl, _, _, rfl, rfl, .inl ⟨_, rfl, _, _, rfl, rfl, (by decide : (0 : Int) < 2147483549), _, _, rfl, rfl, ⟨by decide, by decide⟩, .inl ⟨_, rfl, _, rfl, _, _, rfl, rfl, h0, ?_⟩⟩⟩
          exact go _ (Int.emod_nonneg _ (by omega)) (Int.emod_lt_of_pos _ h0)
      · refine iteF' (decide_eq_false d1) ?_
        refine ⟨(by show 5 ≤ sizeLine; decide), fun y3 hy3 => ?_⟩
        have x3 : y3 ≠ pn := fun z => by rw [z, p2] at hy3; cases hy3
        obtain ⟨H3, hH3⟩ : ∃ z, z = upd H2 y3 (.lst (primes.map V.int)) := ⟨_, rfl⟩
        have w3 : H3 y3 = some (.lst (primes.map V.int)) := by rw [hH3]; exact upd_same
        have g3 : ∀ a o, a ≠ pn → H a = some o → H3 a = some o := fun a o n e => by rw [hH3, upd_ne (ne_of_none (g2 a o n e) hy3)]; exact g2 a o n e
        have p3 : H3 pn = some (.dK (penD c (t + 1) l)) := by rw [hH3, upd_ne x3.symm]; exact p2
        obtain ⟨gr, pa⟩ := fin H3 (t + 1) l g3 p3 (by omega) (by omega) e7
        have go : ∀ r, 0 ≤ r → r < many → Q (.int r) (upd H2 y3 (.lst (primes.map V.int))) := fun r q1 q2 => by rw [← hH3]; exact k r H3 q1 q2 gr pa
        have w3' : SqL K (upd H2 y3 (.lst (primes.map V.int))) y3 (primes.map V.int) := .inl (.inl upd_same)
        refine ⟨_, rfl, _, rfl, .inl ⟨_, rfl, _, _, rfl, rfl, (by decide : (0 : Int) < 5), y3, _, _, _, rfl, rfl, w3', hp1, ?_⟩⟩
        refine ⟨_, rfl, .inl ⟨_, rfl, _, rfl, _, _, rfl, rfl, hp2, _, _, rfl, rfl, .inr (by decide), _, rfl, _, rfl, _, _, rfl, rfl, .inl (by decide), _, _, rfl, rfl, _, _, rfl, rfl, .inl tb, _, _, rfl, rfl, _, _, rfl, rfl, .inl ⟨_, rfl, _, rfl, _, _, rfl, rfl, hp2, ?_⟩⟩⟩
        refine ⟨_, rfl, _, rfl, _, _, rfl, rfl, _, _, rfl, rfl, .inl (mb hp2 hp3), .inl ⟨_, rfl, _, rfl, _, rfl, _, _, rfl, rfl, .inl ⟨_, rfl, _, _, rfl, rfl, (by decide : (0 : Int) < 5), y3, _, _, _, rfl, rfl, w3', hp1', _, _, rfl, rfl, hp2', ?_⟩⟩⟩
        refine ⟨_, rfl, _, rfl, _, _, rfl, rfl, .inl (mb hp2' hp3'), _, rfl, _, _, rfl, rfl, .inl (by decide), _, _, rfl, rfl, _, rfl, _, _, rfl, rfl, .inl ⟨_, rfl, _, _, rfl, rfl, (by decide : (0 : Int) < 2147483549), _, _, rfl, rfl, ⟨by decide, by decide⟩, .inl ⟨_, rfl, _, rfl, _, _, rfl, rfl, h0, ?_⟩⟩⟩
        exact go _ (Int.emod_nonneg _ (by omega)) (Int.emod_lt_of_pos _ h0)
    · have pos : 0 < ns.length := List.length_pos_iff.mpr ce
      refine iteT' (by rw [eqv_nil]; simpa using ce) ?_
      have lp : (0 : Int) < ((ns.map V.int).length : Int) := by rw [len63]; omega
      have i0 : 0 ≤ t % ((ns.map V.int).length : Int) := Int.emod_nonneg _ (by omega)
      have i1 : t % ((ns.map V.int).length : Int) < ((ns.map V.int).length : Int) := Int.emod_lt_of_pos _ lp
      obtain ⟨v, hv, hm⟩ := atI_nn i0 i1
      obtain ⟨cell, _, rfl⟩ := List.mem_map.mp hm
      refine ⟨_, rfl, pn, _, rfl, getC p2, _, rfl, .inl ⟨_, rfl, _, rfl, pn, _, rfl, getC p2, _, _, rfl, .inl ⟨_, .inl (.inl c2), rfl⟩, _, _, rfl, rfl, lp, c, _, _, _, rfl, rfl, .inl (.inl c2), hv, ?_⟩⟩
      refine ⟨_, rfl, _, rfl, pn, _, rfl, getC p2, _, _, rfl, .inl ⟨_, .inl (.inl c2), rfl⟩, _, _, rfl, rfl, _, rfl, ?_⟩
      by_cases d1 : t < ((ns.map V.int).length : Int)
      · refine iteT' (decide_eq_true d1) ?_
        refine ⟨_, rfl, _, rfl, _, _, rfl, rfl, pw, _, _, rfl, rfl, _, rfl, ?_⟩
        by_cases d2 : (10 : Int) ^ (18 : Int).toNat ≤ (if cell < 0 then -cell else cell)
        · refine iteT' (decide_eq_true d2) ?_
          refine ⟨_, rfl, _, rfl, _, _, rfl, rfl, pw, _, _, rfl, rfl, _, rfl, _, _, rfl, rfl, wd _, _, rfl, pn, _, rfl, putL' _ p2, ?_⟩
          refine ⟨_, rfl, _, rfl, _, _, rfl, rfl, pw, _, _, rfl, rfl, _, rfl, _, _, rfl, rfl, h0, ?_⟩
          obtain ⟨gr, pa⟩ := fin (upd H2 pn (.dK (penD c (t + 1) (((if cell < 0 then -cell else cell) - 10 ^ (18 : Int).toNat) / many)))) (t + 1) _ (fun a o n e => by rw [upd_ne n]; exact g2 a o n e) upd_same (by omega) (by omega) (Int.ediv_nonneg (by omega) (Int.le_of_lt h0))
          exact k _ _ (Int.emod_nonneg _ (by omega)) (Int.emod_lt_of_pos _ h0) gr pa
        · refine iteF' (decide_eq_false d2) ?_
          refine ⟨(by show 5 ≤ sizeLine; decide), fun y3 hy3 => ?_⟩
          have x3 : y3 ≠ pn := fun z => by rw [z, p2] at hy3; cases hy3
          obtain ⟨H3, hH3⟩ : ∃ z, z = upd H2 y3 (.lst (primes.map V.int)) := ⟨_, rfl⟩
          have w3 : H3 y3 = some (.lst (primes.map V.int)) := by rw [hH3]; exact upd_same
          have g3 : ∀ a o, a ≠ pn → H a = some o → H3 a = some o := fun a o n e => by rw [hH3, upd_ne (ne_of_none (g2 a o n e) hy3)]; exact g2 a o n e
          have p3 : H3 pn = some (.dK (penD c (t + 1) l)) := by rw [hH3, upd_ne x3.symm]; exact p2
          obtain ⟨gr, pa⟩ := fin H3 (t + 1) l g3 p3 (by omega) (by omega) e7
          have go : ∀ r, 0 ≤ r → r < many → Q (.int r) (upd H2 y3 (.lst (primes.map V.int))) := fun r q1 q2 => by rw [← hH3]; exact k r H3 q1 q2 gr pa
          have w3' : SqL K (upd H2 y3 (.lst (primes.map V.int))) y3 (primes.map V.int) := .inl (.inl upd_same)
          refine ⟨_, rfl, _, rfl, .inl ⟨_, rfl, _, _, rfl, rfl, (by decide : (0 : Int) < 5), y3, _, _, _, rfl, rfl, w3', hp1, ?_⟩⟩
          refine ⟨_, rfl, .inl ⟨_, rfl, _, rfl, _, _, rfl, rfl, hp2, _, _, rfl, rfl, .inr (by decide), _, rfl, _, rfl, _, _, rfl, rfl, .inl (by decide), _, _, rfl, rfl, _, _, rfl, rfl, .inl tb, _, _, rfl, rfl, _, _, rfl, rfl, .inl ⟨_, rfl, _, rfl, _, _, rfl, rfl, hp2, ?_⟩⟩⟩
          refine ⟨_, rfl, _, rfl, _, _, rfl, rfl, _, _, rfl, rfl, .inl (mb hp2 hp3), .inl ⟨_, rfl, _, rfl, _, rfl, _, _, rfl, rfl, .inl ⟨_, rfl, _, _, rfl, rfl, (by decide : (0 : Int) < 5), y3, _, _, _, rfl, rfl, w3', hp1', _, _, rfl, rfl, hp2', ?_⟩⟩⟩
          refine ⟨_, rfl, _, rfl, _, _, rfl, rfl, .inl (mb hp2' hp3'), _, rfl, _, _, rfl, rfl, .inl (by decide), _, _, rfl, rfl, _, rfl, _, _, rfl, rfl, .inl ⟨_, rfl, _, _, rfl, rfl, (by decide : (0 : Int) < 2147483549), _, _, rfl, rfl, ⟨by decide, by decide⟩, .inl ⟨_, rfl, _, rfl, _, _, rfl, rfl, h0, ?_⟩⟩⟩
          exact go _ (Int.emod_nonneg _ (by omega)) (Int.emod_lt_of_pos _ h0)
      · refine iteF' (decide_eq_false d1) ?_
        refine ⟨(by show 5 ≤ sizeLine; decide), fun y3 hy3 => ?_⟩
        have x3 : y3 ≠ pn := fun z => by rw [z, p2] at hy3; cases hy3
        obtain ⟨H3, hH3⟩ : ∃ z, z = upd H2 y3 (.lst (primes.map V.int)) := ⟨_, rfl⟩
        have w3 : H3 y3 = some (.lst (primes.map V.int)) := by rw [hH3]; exact upd_same
        have g3 : ∀ a o, a ≠ pn → H a = some o → H3 a = some o := fun a o n e => by rw [hH3, upd_ne (ne_of_none (g2 a o n e) hy3)]; exact g2 a o n e
        have p3 : H3 pn = some (.dK (penD c (t + 1) l)) := by rw [hH3, upd_ne x3.symm]; exact p2
        obtain ⟨gr, pa⟩ := fin H3 (t + 1) l g3 p3 (by omega) (by omega) e7
        have go : ∀ r, 0 ≤ r → r < many → Q (.int r) (upd H2 y3 (.lst (primes.map V.int))) := fun r q1 q2 => by rw [← hH3]; exact k r H3 q1 q2 gr pa
        have w3' : SqL K (upd H2 y3 (.lst (primes.map V.int))) y3 (primes.map V.int) := .inl (.inl upd_same)
        refine ⟨_, rfl, _, rfl, .inl ⟨_, rfl, _, _, rfl, rfl, (by decide : (0 : Int) < 5), y3, _, _, _, rfl, rfl, w3', hp1, ?_⟩⟩
        refine ⟨_, rfl, .inl ⟨_, rfl, _, rfl, _, _, rfl, rfl, hp2, _, _, rfl, rfl, .inr (by decide), _, rfl, _, rfl, _, _, rfl, rfl, .inl (by decide), _, _, rfl, rfl, _, _, rfl, rfl, .inl tb, _, _, rfl, rfl, _, _, rfl, rfl, .inl ⟨_, rfl, _, rfl, _, _, rfl, rfl, hp2, ?_⟩⟩⟩
        refine ⟨_, rfl, _, rfl, _, _, rfl, rfl, _, _, rfl, rfl, .inl (mb hp2 hp3), .inl ⟨_, rfl, _, rfl, _, rfl, _, _, rfl, rfl, .inl ⟨_, rfl, _, _, rfl, rfl, (by decide : (0 : Int) < 5), y3, _, _, _, rfl, rfl, w3', hp1', _, _, rfl, rfl, hp2', ?_⟩⟩⟩
        refine ⟨_, rfl, _, rfl, _, _, rfl, rfl, .inl (mb hp2' hp3'), _, rfl, _, _, rfl, rfl, .inl (by decide), _, _, rfl, rfl, _, rfl, _, _, rfl, rfl, .inl ⟨_, rfl, _, _, rfl, rfl, (by decide : (0 : Int) < 2147483549), _, _, rfl, rfl, ⟨by decide, by decide⟩, .inl ⟨_, rfl, _, rfl, _, _, rfl, rfl, h0, ?_⟩⟩⟩
        exact go _ (Int.emod_nonneg _ (by omega)) (Int.emod_lt_of_pos _ h0)
end
end NC
set_option maxRecDepth 100000
set_option maxHeartbeats 8000000
namespace NC
open PySem PyProof.Rows PySem.Spec L2
def dDraw : List D → Nat → (D → Nat → Prop) → Prop := fun ds b k => ∃ (many : Int) (b' : Nat), ds = [.pen, .int many] ∧ 0 < many ∧ many < 2 ^ 64 ∧ b = b' + 1 ∧ ∀ r, 0 ≤ r → r < many → k (.int r) b'
def dPick : List D → Nat → (D → Nat → Prop) → Prop := fun ds b k => ∃ (o : D) (b' : Nat), ds = [.pen, o] ∧ b = b' + 1 ∧
  ((∃ xs, o = .lst xs ∧ xs ≠ [] ∧ xs.length ≤ 1000000 ∧ ∀ x ∈ xs, k x b') ∨ ∃ z : Str, o = .str z ∧ 0 < z.length ∧ z.length ≤ 1000000 ∧ ∀ c ∈ z.cps.toList, k (.str ⟨#[c]⟩) b')
theorem scPick : FnScope ["_law_pen_here", "_law_options"] ["_law_pen_here", "_law_options"] (defScope s_pick) := ⟨rfl, rfl, rfl, by decide +kernel, rfl, by decide +kernel, by decide +kernel⟩
section
variable {P : Program} {w : World} {K : PySem.W.Frag} {mg : Str → Option Value} {base : Heap} {f fD : Addr} {fd fdD : FuncData}
theorem ok_drawD (F : FnP K "_law_draw" s_draw f fd) (T : Bl mg) : FnG P w K mg base CX0 1 f fd ["_law_pen_here", "_law_many"] (spD K 2 dDraw) :=
  (ok_draw F T).weak fun vs H Q E ⟨_, pn, Mc, ds, b, k, h1, _, h3, h4, ⟨many, b', e, c1, c2, eb, q⟩, f⟩ => by
    subst e eb
    cases h4 with
    | cons r1 r2 =>
      cases r2 with
      | cons r3 r4 =>
        cases r4
        cases r1
        cases r3
        exact ⟨pn, Mc, many, b', rfl, c1, c2, h1, h3, fun r H' z1 z2 g p => f _ _ _ H' (q r z1 z2) g p (.int r)⟩
theorem ok_pick (F : FnP K "_law_pick" s_pick f fd) (FD : FnP K "_law_draw" s_draw fD fdD) (gD : mg "_law_draw" = some (.ref fD)) (T : Bl mg) : FnG P w K mg base CX0 2 f fd ["_law_pen_here", "_law_options"] (spD K 2 dPick) := by
  have bD : Binds K fdD ["_law_pen_here", "_law_many"] [] := FD.bindsN fun _ _ _ _ _ _ us hl => match us, hl with | [_, _], _ => rfl
  refine fn_data F scPick rfl (fun cdv A outer s H E PC g hr => dss_one (ds_ret (de_ix or_ix od_ix (de_var 1).db (de_fn g (ok_drawD FD T) hr gD FD.kp bD pass0 (da_cons (de_var 0) (da_cons (de_blt call_len od_len T.len PySem.boot_len (dab_cons (de_var 1).db dab_nil)) da_nil))).db (fun _ _ => rfl)))) (fun ds b q hl h => ?_)
  · obtain ⟨o, b', rfl, rfl, h⟩ := h
    rcases h with ⟨xs, rfl, ne, hx, h⟩ | ⟨z, rfl, z0, z1, h⟩
    · have lp : 0 < xs.length := List.length_pos_iff.mpr ne
      refine ⟨_, rfl, _, rfl, _, rfl, rfl, _, _, rfl, by omega, by omega, rfl, fun r r0 r1 => ⟨_, rfl, ?_⟩⟩
      obtain ⟨v, e, m⟩ := atI_nn r0 r1
      exact ⟨v, e, h v m⟩
    · refine ⟨_, rfl, _, rfl, _, rfl, z1, rfl, _, _, rfl, by omega, by omega, rfl, fun r r0 r1 => ⟨_, rfl, z1, ?_⟩⟩
      obtain ⟨v, e, m⟩ := atI_nn (xs := z.cps.toList) r0 (by rw [Array.length_toList]; exact r1)
      exact ⟨v, e, h v m⟩
end
end NC
set_option maxRecDepth 100000
set_option maxHeartbeats 8000000
namespace NC
open PySem PyProof.Rows PySem.Spec L2
def free : List Str := ["len", "int", "abs", "range", "repr", "min", "list", "isinstance", "zip", "super", "ValueError", "LookupError", "OverflowError", "RuntimeError", "IndexError", "KeyError", "NotImplementedError"]
structure V10 (P : Program) (K : PySem.W.Frag) (mg : Str → Option Value) where
  cInvalidWord : Addr
  xInvalidWord : XCl K P mg "InvalidWord" cInvalidWord ["value"]
  cInvalidChain : Addr
  xInvalidChain : XCl K P mg "InvalidChain" cInvalidChain ["value"]
  cInvalidStretch : Addr
  xInvalidStretch : XCl K P mg "InvalidStretch" cInvalidStretch ["value"]
  cInvalidSubject : Addr
  xInvalidSubject : XCl K P mg "InvalidSubject" cInvalidSubject ["value"]
  cInvalidTimes : Addr
  xInvalidTimes : XCl K P mg "InvalidTimes" cInvalidTimes ["value"]
  cInvalidDay : Addr
  xInvalidDay : XCl K P mg "InvalidDay" cInvalidDay ["value"]
  cInvalidTable : Addr
  xInvalidTable : XCl K P mg "InvalidTable" cInvalidTable ["value"]
  cInvalidCount : Addr
  xInvalidCount : XCl K P mg "InvalidCount" cInvalidCount ["value"]
  cInvalidLogs : Addr
  xInvalidLogs : XCl K P mg "InvalidLogs" cInvalidLogs ["value"]
  cInvalidStatement : Addr
  xInvalidStatement : XCl K P mg "InvalidStatement" cInvalidStatement ["index"]
  cInvalidPart : Addr
  xInvalidPart : XCl K P mg "InvalidPart" cInvalidPart ["index"]
  cInvalidGuard : Addr
  xInvalidGuard : XCl K P mg "InvalidGuard" cInvalidGuard ["index"]
  cInvalidText : Addr
  xInvalidText : XCl K P mg "InvalidText" cInvalidText ["index"]
  cInvalidLine : Addr
  xInvalidLine : XCl K P mg "InvalidLine" cInvalidLine ["line", "index"]
  cInvalidRow : Addr
  xInvalidRow : XCl K P mg "InvalidRow" cInvalidRow ["row"]
  cRepeated : Addr
  xRepeated : XCl K P mg "Repeated" cRepeated ["index"]
  cNotDone : Addr
  xNotDone : XCl K P mg "NotDone" cNotDone ["index"]
  cNotLeast : Addr
  xNotLeast : XF K cNotLeast
  gNotLeast : mg "NotLeast" = some (.ref cNotLeast)
  kNotLeast : PySem.W.keepIn K (.ref cNotLeast) = true
  cOutOfRange : Addr
  xOutOfRange : XCl K P mg "OutOfRange" cOutOfRange ["value"]
  cNotMeant : Addr
  xNotMeant : XCl K P mg "NotMeant" cNotMeant ["word"]
  cMissing : Addr
  xMissing : XCl K P mg "Missing" cMissing ["index"]
  cTooMany : Addr
  xTooMany : XCl K P mg "TooMany" cTooMany ["limit"]
  cBroken : Addr
  xBroken : XCl K P mg "Broken" cBroken ["index"]
  cClosed : Addr
  xClosed : XCl K P mg "Closed" cClosed ["index"]
  cForked : Addr
  xForked : XCl K P mg "Forked" cForked ["word", "line"]
  aPen : Addr
  dPen : FuncData
  fPen : FnP K "_law_pen" (top 34) aPen dPen
  mPen : mg "_law_pen" = some (.ref aPen)
  aDraw : Addr
  dDraw : FuncData
  fDraw : FnP K "_law_draw" (top 35) aDraw dDraw
  mDraw : mg "_law_draw" = some (.ref aDraw)
  aPick : Addr
  dPick : FuncData
  fPick : FnP K "_law_pick" (top 36) aPick dPick
  mPick : mg "_law_pick" = some (.ref aPick)
  aAnyValue : Addr
  dAnyValue : FuncData
  fAnyValue : FnP K "_law_any_value" (top 37) aAnyValue dAnyValue
  mAnyValue : mg "_law_any_value" = some (.ref aAnyValue)
  aSomeErrors : Addr
  dSomeErrors : FuncData
  fSomeErrors : FnP K "_law_some_errors" (top 38) aSomeErrors dSomeErrors
  mSomeErrors : mg "_law_some_errors" = some (.ref aSomeErrors)
  aOtherErrors : Addr
  dOtherErrors : FuncData
  fOtherErrors : FnP K "_law_other_errors" (top 39) aOtherErrors dOtherErrors
  mOtherErrors : mg "_law_other_errors" = some (.ref aOtherErrors)
  aClasses : Addr
  dClasses : FuncData
  fClasses : FnP K "_law_classes" (top 40) aClasses dClasses
  mClasses : mg "_law_classes" = some (.ref aClasses)
  aSorts : Addr
  dSorts : FuncData
  fSorts : FnP K "_law_sorts" (top 41) aSorts dSorts
  mSorts : mg "_law_sorts" = some (.ref aSorts)
  aLaw : Addr
  dLaw : FuncData
  fLaw : FnP K "law" (top 42) aLaw dLaw
  mLaw : mg "law" = some (.ref aLaw)
  tLIMIT : Tok
  iLIMIT : mg "LIMIT" = some (.int (1000000000000000000000000000000) tLIMIT)
  tMAX_LETTERS : Tok
  iMAX_LETTERS : mg "MAX_LETTERS" = some (.int (8) tMAX_LETTERS)
  tMAX_NAMES : Tok
  iMAX_NAMES : mg "MAX_NAMES" = some (.int (4) tMAX_NAMES)
  tMAX_ASKED : Tok
  iMAX_ASKED : mg "MAX_ASKED" = some (.int (8) tMAX_ASKED)
  tMAX_STATEMENTS : Tok
  iMAX_STATEMENTS : mg "MAX_STATEMENTS" = some (.int (24) tMAX_STATEMENTS)
  tMAX_CHAINS : Tok
  iMAX_CHAINS : mg "MAX_CHAINS" = some (.int (4) tMAX_CHAINS)
  tMAX_TIMES : Tok
  iMAX_TIMES : mg "MAX_TIMES" = some (.int (9) tMAX_TIMES)
  bl : ∀ x ∈ free, mg x = none
  sys : SysK K
  iniNotLeast : PySem.W.excIn K cNotLeast [.type "ValueError", .type "Exception", .type "BaseException", .type "object"] "ValueError.__new__" = true
section
variable {P : Program} {w : World} {K : PySem.W.Frag} {mg : Str → Option Value} {base : Heap}
theorem V10.blt (V : V10 P K mg) : Bl mg := ⟨V.bl _ (by decide +kernel), V.bl _ (by decide +kernel), V.bl _ (by decide +kernel), V.bl _ (by decide +kernel), V.bl _ (by decide +kernel), V.bl _ (by decide +kernel), V.bl _ (by decide +kernel), V.bl _ (by decide +kernel)⟩
theorem okPick (V : V10 P K mg) : FnG P w K mg base CX0 2 V.aPick V.dPick ["_law_pen_here", "_law_options"] (spD K 2 dPick) := ok_pick V.fPick V.fDraw V.mDraw V.blt
theorem bPick (V : V10 P K mg) : Binds K V.dPick ["_law_pen_here", "_law_options"] [] := V.fPick.bindsN fun _ _ _ _ _ _ us hl => match us, hl with | [_, _], _ => rfl
theorem bAnyValue (V : V10 P K mg) : Binds K V.dAnyValue ["_law_pen_here"] [] := V.fAnyValue.bindsN fun _ _ _ _ _ _ us hl => match us, hl with | [_], _ => rfl
theorem bSomeErrors (V : V10 P K mg) : Binds K V.dSomeErrors ["_law_thing"] [] := V.fSomeErrors.bindsN fun _ _ _ _ _ _ us hl => match us, hl with | [_], _ => rfl
theorem bOtherErrors (V : V10 P K mg) : Binds K V.dOtherErrors ["_law_thing"] [] := V.fOtherErrors.bindsN fun _ _ _ _ _ _ us hl => match us, hl with | [_], _ => rfl
theorem bClasses (V : V10 P K mg) : Binds K V.dClasses ["_law_error"] [] := V.fClasses.bindsN fun _ _ _ _ _ _ us hl => match us, hl with | [_], _ => rfl
theorem bSorts (V : V10 P K mg) : Binds K V.dSorts ["_law_error"] [] := V.fSorts.bindsN fun _ _ _ _ _ _ us hl => match us, hl with | [_], _ => rfl
end
end NC
set_option maxRecDepth 100000
set_option maxHeartbeats 8000000
namespace NC
open PySem PyProof.Rows PySem.Spec L2
def anyVals : List D :=
  [.non, .bl true, .bl false, .int 0, .int 1, .int (-1), .int (10 ^ (30 : Int).toNat + 1), .str "", .str "a", .str "A", .str "abcdefghi", .tup [], .tup [.int 1], .lst [.int 1], .dct [], .dct [("a", .int 1)], .tup [.non]]
  ++ [.str "a b", .tup [.str "a"], .tup [.str "a", .str "b"], .lst [.str "a", .str "b"], .tup [.str "a", .int 1], .tup [.int 1, .int 0], .tup [.int 0, .int 1], .lst [.int 0, .int 1], .tup [.bl true, .int 2], .tup [.str "a", .str ""], .str "="]
  ++ [.tup [.int 2, .tup [.tup [.str "a"], .tup [.str "b"]]], .tup [.int 0, .int (10 ^ (30 : Int).toNat + 1)], .tup [.str "a", .tup [.str "b"]], .tup [.str "", .str "a"], .int (10 ^ (59 : Int).toNat), .str "ann"]
def dAny : List D → Nat → (D → Nat → Prop) → Prop := fun ds b k => ∃ b', ds = [.pen] ∧ b = b' + 1 ∧ ∀ d ∈ anyVals, k d b'

theorem scAnyValue : FnScope ["_law_pen_here", "_law_some"] ["_law_pen_here"] (defScope (top 37)) := ⟨rfl, rfl, rfl, by decide +kernel, rfl, by decide +kernel, by decide +kernel⟩
section
variable {P : Program} {w : World} {K : PySem.W.Frag} {mg : Str → Option Value} {base : Heap}
theorem okAnyValue (V : V10 P K mg) : FnG P w K mg base CX0 3 V.aAnyValue V.dAnyValue ["_law_pen_here"] (spD K 1 dAny) := by
  refine fn_data V.fAnyValue scAnyValue rfl (fun cdv A outer s H E PC g hr => (dss_cons (ds_asg (df_lst (da_cons de_non (da_cons de_bl (da_cons de_bl (da_cons de_int (da_cons de_int (da_cons (de_un un_neg od_neg de_int.db) (da_cons (de_op or_add od_add (de_op op_pow od_pow de_int.db de_int.db).db de_int.db) (da_cons de_str (da_cons de_str (da_cons de_str (da_cons de_str (da_cons (de_tup da_nil) (da_cons (de_tup (da_cons de_int da_nil)) (da_cons (df_lst (da_cons de_int da_nil)).de (da_cons de_dict0 (da_cons (de_dict1 de_str de_int) (da_cons (de_tup (da_cons de_non da_nil)) da_nil)))))))))))))))))).de (dg_name (i := 1) scAnyValue.nd rfl (Or.inl rfl)))
    (dss_cons (ds_asg (de_op or_add od_add (de_var 1).db (df_lst (da_cons de_str (da_cons (de_tup (da_cons de_str da_nil)) (da_cons (de_tup (da_cons de_str (da_cons de_str da_nil))) (da_cons (df_lst (da_cons de_str (da_cons de_str da_nil))).de (da_cons (de_tup (da_cons de_str (da_cons de_int da_nil))) (da_cons (de_tup (da_cons de_int (da_cons de_int da_nil))) (da_cons (de_tup (da_cons de_int (da_cons de_int da_nil))) (da_cons (df_lst (da_cons de_int (da_cons de_int da_nil))).de (da_cons (de_tup (da_cons de_bl (da_cons de_int da_nil))) (da_cons (de_tup (da_cons de_str (da_cons de_str da_nil))) (da_cons de_str da_nil)))))))))))).de.db) (dg_name (i := 1) scAnyValue.nd rfl (Or.inl rfl)))
    (dss_one (ds_ret (de_fn g (okPick V) (hr.mono (by decide)) V.mPick V.fPick.kp (bPick V) pass0 (da_cons (de_var 0) (da_cons (de_op or_add od_add (de_var 1).db (df_lst (da_cons (de_tup (da_cons de_int (da_cons (de_tup (da_cons (de_tup (da_cons de_str da_nil)) (da_cons (de_tup (da_cons de_str da_nil)) da_nil))) da_nil))) (da_cons (de_tup (da_cons de_int (da_cons (de_op or_add od_add (de_op op_pow od_pow de_int.db de_int.db).db de_int.db) da_nil))) (da_cons (de_tup (da_cons de_str (da_cons (de_tup (da_cons de_str da_nil)) da_nil))) (da_cons (de_tup (da_cons de_str (da_cons de_str da_nil))) (da_cons (de_op op_pow od_pow de_int.db de_int.db) (da_cons de_str da_nil))))))).de.db) da_nil)))))))) (fun ds b q hl h => ?_)
  obtain ⟨b', rfl, rfl, h⟩ := h
  repeat first
    | refine ⟨_, rfl, ?_⟩
    | refine ⟨by decide, ?_⟩
    | refine ⟨_, _, rfl, rfl, ⟨by decide, by decide +kernel⟩, ?_⟩
  refine ⟨_, b', rfl, rfl, .inl ⟨anyVals, rfl, ?_, ?_, h⟩⟩
  · intro z
    cases z
  · decide
end
end NC
set_option maxRecDepth 100000
set_option maxHeartbeats 8000000
namespace NC
open PySem PyProof.Rows PySem.Spec L2
/-! the steps of both defs -/
section
variable {T : DEnds} {b : Nat} {d e x : D} {xs : List D} {we : WE} {rest : WS} {C : Addr} {f g z : Str} {ρ : Rho} {k : D → Nat → Prop} {r : Option Sl}
theorem app2 (h2 : ∀ k : D → Nat → Prop, k x b → we [some (.val d), some (.own xs)] b k) (h3 : xs.length < 1000000) (h : rest T [some (.val d), some (.own (xs ++ [x]))] b) : wSeq (wAppend 1 we) rest T [some (.val d), some (.own xs)] b := ⟨xs, rfl, h2 _ ⟨h3, h⟩⟩
theorem app3 (h2 : ∀ k : D → Nat → Prop, k x b → we [some (.val d), some (.own xs), r] b k) (h3 : xs.length < 1000000) (h : rest T [some (.val d), some (.own (xs ++ [x])), r] b) : wSeq (wAppend 1 we) rest T [some (.val d), some (.own xs), r] b := ⟨xs, rfl, h2 _ ⟨h3, h⟩⟩
theorem put3 (h2 : ∀ k : D → Nat → Prop, k x b → we [some (.val d), some (.own xs), r] b k) (h : rest T [some (.val d), some (.own xs), some (.val x)] b) : wSeq (wAsg we (gN 2)) rest T [some (.val d), some (.own xs), r] b := h2 _ ⟨by show 2 < 3; decide, h⟩
/-- an error with its fields, the thing twice, its sort -/
def er (C : Addr) (fs : List (Str × D)) (d : D) (z : Str) : D := .tup [.exc C fs, d, d, .str z]
theorem ev1 (h0 : ρ[0]? = some (some (.val d))) (h : k (er C [(f, d)] d z) b) : wTup (wCons (wX C [f] (wCons (wVar 0) wNil)) (wCons (wXat C f (wXK C [f] false (wCons (wVar 0) wNil))) (wCons (wXat C f (wX C [f] (wCons (wVar 0) wNil))) (wCons (wC (.str z)) wNil)))) ρ b k :=
  ⟨d, h0, rfl, by show 1 ≤ 1000; decide, d, h0, rfl, [(f, d)], d, rfl, by simp [List.lookup], d, h0, rfl, by show 1 ≤ 1000; decide, [(f, d)], d, rfl, by simp [List.lookup], by show 4 ≤ 1000000; decide, h⟩
/-- two fields, the thing the second one; the first one -/
theorem evB (h0 : ρ[0]? = some (some (.val d))) (h2 : ρ[2]? = some (some (.val (.exc C [(f, .int 0), (g, d)])))) (n : (g == f) = false) (h : k (er C [(f, .int 0), (g, d)] d z) b) : wTup (wCons (wX C [f, g] (wCons (wC (.int 0)) (wCons (wVar 0) wNil))) (wCons (wXat C g (wVar 2)) (wCons (wXat C g (wX C [f, g] (wCons (wC (.int 0)) (wCons (wVar 0) wNil)))) (wCons (wC (.str z)) wNil)))) ρ b k :=
  ⟨d, h0, rfl, by show 2 ≤ 1000; decide, _, h2, _, d, rfl, by simp [List.lookup, n], d, h0, rfl, by show 2 ≤ 1000; decide, [(f, .int 0), (g, d)], d, rfl, by simp [List.lookup, n], by show 4 ≤ 1000000; decide, h⟩
theorem evA (h0 : ρ[0]? = some (some (.val d))) (h2 : ρ[2]? = some (some (.val (.exc C [(f, d), (g, .int 0)])))) (h : k (er C [(f, d), (g, .int 0)] d z) b) : wTup (wCons (wX C [f, g] (wCons (wVar 0) (wCons (wC (.int 0)) wNil))) (wCons (wXat C f (wVar 2)) (wCons (wXat C f (wX C [f, g] (wCons (wVar 0) (wCons (wC (.int 0)) wNil)))) (wCons (wC (.str z)) wNil)))) ρ b k :=
  ⟨d, h0, rfl, by show 2 ≤ 1000; decide, _, h2, _, d, rfl, by simp [List.lookup], d, h0, rfl, by show 2 ≤ 1000; decide, [(f, d), (g, .int 0)], d, rfl, by simp [List.lookup], by show 4 ≤ 1000000; decide, h⟩
theorem ev0 (h0 : ρ[0]? = some (some (.val d))) (h : k (er C [] d z) b) : wTup (wCons (wC (.exc C [])) (wCons (wVar 0) (wCons (wVar 0) (wCons (wC (.str z)) wNil)))) ρ b k := ⟨d, h0, d, h0, by show 4 ≤ 1000000; decide, h⟩
end
section
variable {P : Program} {w : World} {K : PySem.W.Frag} {mg : Str → Option Value} {base : Heap}
def someErrs (V : V10 P K mg) (d : D) : List D :=
  [er V.cInvalidWord [("value", d)] d "value",
    er V.cInvalidChain [("value", d)] d "value",
    er V.cInvalidStretch [("value", d)] d "value",
    er V.cInvalidSubject [("value", d)] d "value",
    er V.cInvalidTimes [("value", d)] d "value",
    er V.cInvalidDay [("value", d)] d "value",
    er V.cInvalidTable [("value", d)] d "value",
    er V.cInvalidCount [("value", d)] d "value",
    er V.cInvalidLogs [("value", d)] d "value",
    er V.cInvalidStatement [("index", d)] d "value",
    er V.cInvalidPart [("index", d)] d "value",
    er V.cInvalidGuard [("index", d)] d "value"]
def otherErrs (V : V10 P K mg) (d : D) : List D :=
  [er V.cInvalidText [("index", d)] d "value",
    er V.cInvalidLine [("line", .int 0), ("index", d)] d "value",
    er V.cInvalidLine [("line", d), ("index", .int 0)] d "value",
    er V.cInvalidRow [("row", d)] d "value",
    er V.cRepeated [("index", d)] d "value",
    er V.cNotDone [("index", d)] d "value",
    er V.cOutOfRange [("value", d)] d "lookup",
    er V.cNotMeant [("word", d)] d "lookup",
    er V.cMissing [("index", d)] d "lookup",
    er V.cTooMany [("limit", d)] d "overflow",
    er V.cBroken [("index", d)] d "runtime",
    er V.cClosed [("index", d)] d "runtime",
    er V.cForked [("word", .int 0), ("line", d)] d "runtime",
    er V.cForked [("word", d), ("line", .int 0)] d "runtime",
    er V.cNotLeast [] d "value"]
def dSome (V : V10 P K mg) : List D → Nat → (D → Nat → Prop) → Prop := fun ds b k => ∃ d, ds = [d] ∧ k (.lst (someErrs V d)) b
def dOther (V : V10 P K mg) : List D → Nat → (D → Nat → Prop) → Prop := fun ds b k => ∃ d, ds = [d] ∧ k (.lst (otherErrs V d)) b
theorem scSomeErrors : FnScope ["_law_thing", "_law_found"] ["_law_thing"] (defScope (top 38)) := ⟨rfl, rfl, rfl, by decide +kernel, rfl, by decide +kernel, by decide +kernel⟩
theorem okSomeErrors (V : V10 P K mg) : FnG P w K mg base CX0 2 V.aSomeErrors V.dSomeErrors ["_law_thing"] (spD K 1 (dSome V)) := by
  refine fn_data V.fSomeErrors scSomeErrors rfl (fun cdv A outer s H E PC g hr => (dss_cons (ds_asgOwn (i := 1) (df_lst da_nil) scSomeErrors.nd rfl (Or.inl rfl))
    (dss_cons (ds_append (i := 1) (de_tup (da_cons (de_xP V.xInvalidWord hr (da_cons (de_var 0) da_nil)) (da_cons (de_xat V.xInvalidWord.facts (V.xInvalidWord.free _ (by decide +kernel)) (de_xK false rfl V.xInvalidWord hr (dk_cons (de_var 0) dk_nil))) (da_cons (de_xat V.xInvalidWord.facts (V.xInvalidWord.free _ (by decide +kernel)) (de_xP V.xInvalidWord hr (da_cons (de_var 0) da_nil))) (da_cons de_str da_nil))))) (fun h => pe_bm PySem.F.plainAttrs_list PySem.F.slot_list_append PySem.F.type_list_append mt_append (pv 1) (pa_cons h pa_nil)))
    (dss_cons (ds_append (i := 1) (de_tup (da_cons (de_xP V.xInvalidChain hr (da_cons (de_var 0) da_nil)) (da_cons (de_xat V.xInvalidChain.facts (V.xInvalidChain.free _ (by decide +kernel)) (de_xK false rfl V.xInvalidChain hr (dk_cons (de_var 0) dk_nil))) (da_cons (de_xat V.xInvalidChain.facts (V.xInvalidChain.free _ (by decide +kernel)) (de_xP V.xInvalidChain hr (da_cons (de_var 0) da_nil))) (da_cons de_str da_nil))))) (fun h => pe_bm PySem.F.plainAttrs_list PySem.F.slot_list_append PySem.F.type_list_append mt_append (pv 1) (pa_cons h pa_nil)))
    (dss_cons (ds_append (i := 1) (de_tup (da_cons (de_xP V.xInvalidStretch hr (da_cons (de_var 0) da_nil)) (da_cons (de_xat V.xInvalidStretch.facts (V.xInvalidStretch.free _ (by decide +kernel)) (de_xK false rfl V.xInvalidStretch hr (dk_cons (de_var 0) dk_nil))) (da_cons (de_xat V.xInvalidStretch.facts (V.xInvalidStretch.free _ (by decide +kernel)) (de_xP V.xInvalidStretch hr (da_cons (de_var 0) da_nil))) (da_cons de_str da_nil))))) (fun h => pe_bm PySem.F.plainAttrs_list PySem.F.slot_list_append PySem.F.type_list_append mt_append (pv 1) (pa_cons h pa_nil)))
    (dss_cons (ds_append (i := 1) (de_tup (da_cons (de_xP V.xInvalidSubject hr (da_cons (de_var 0) da_nil)) (da_cons (de_xat V.xInvalidSubject.facts (V.xInvalidSubject.free _ (by decide +kernel)) (de_xK false rfl V.xInvalidSubject hr (dk_cons (de_var 0) dk_nil))) (da_cons (de_xat V.xInvalidSubject.facts (V.xInvalidSubject.free _ (by decide +kernel)) (de_xP V.xInvalidSubject hr (da_cons (de_var 0) da_nil))) (da_cons de_str da_nil))))) (fun h => pe_bm PySem.F.plainAttrs_list PySem.F.slot_list_append PySem.F.type_list_append mt_append (pv 1) (pa_cons h pa_nil)))
    (dss_cons (ds_append (i := 1) (de_tup (da_cons (de_xP V.xInvalidTimes hr (da_cons (de_var 0) da_nil)) (da_cons (de_xat V.xInvalidTimes.facts (V.xInvalidTimes.free _ (by decide +kernel)) (de_xK false rfl V.xInvalidTimes hr (dk_cons (de_var 0) dk_nil))) (da_cons (de_xat V.xInvalidTimes.facts (V.xInvalidTimes.free _ (by decide +kernel)) (de_xP V.xInvalidTimes hr (da_cons (de_var 0) da_nil))) (da_cons de_str da_nil))))) (fun h => pe_bm PySem.F.plainAttrs_list PySem.F.slot_list_append PySem.F.type_list_append mt_append (pv 1) (pa_cons h pa_nil)))
    (dss_cons (ds_append (i := 1) (de_tup (da_cons (de_xP V.xInvalidDay hr (da_cons (de_var 0) da_nil)) (da_cons (de_xat V.xInvalidDay.facts (V.xInvalidDay.free _ (by decide +kernel)) (de_xK false rfl V.xInvalidDay hr (dk_cons (de_var 0) dk_nil))) (da_cons (de_xat V.xInvalidDay.facts (V.xInvalidDay.free _ (by decide +kernel)) (de_xP V.xInvalidDay hr (da_cons (de_var 0) da_nil))) (da_cons de_str da_nil))))) (fun h => pe_bm PySem.F.plainAttrs_list PySem.F.slot_list_append PySem.F.type_list_append mt_append (pv 1) (pa_cons h pa_nil)))
    (dss_cons (ds_append (i := 1) (de_tup (da_cons (de_xP V.xInvalidTable hr (da_cons (de_var 0) da_nil)) (da_cons (de_xat V.xInvalidTable.facts (V.xInvalidTable.free _ (by decide +kernel)) (de_xK false rfl V.xInvalidTable hr (dk_cons (de_var 0) dk_nil))) (da_cons (de_xat V.xInvalidTable.facts (V.xInvalidTable.free _ (by decide +kernel)) (de_xP V.xInvalidTable hr (da_cons (de_var 0) da_nil))) (da_cons de_str da_nil))))) (fun h => pe_bm PySem.F.plainAttrs_list PySem.F.slot_list_append PySem.F.type_list_append mt_append (pv 1) (pa_cons h pa_nil)))
    (dss_cons (ds_append (i := 1) (de_tup (da_cons (de_xP V.xInvalidCount hr (da_cons (de_var 0) da_nil)) (da_cons (de_xat V.xInvalidCount.facts (V.xInvalidCount.free _ (by decide +kernel)) (de_xK false rfl V.xInvalidCount hr (dk_cons (de_var 0) dk_nil))) (da_cons (de_xat V.xInvalidCount.facts (V.xInvalidCount.free _ (by decide +kernel)) (de_xP V.xInvalidCount hr (da_cons (de_var 0) da_nil))) (da_cons de_str da_nil))))) (fun h => pe_bm PySem.F.plainAttrs_list PySem.F.slot_list_append PySem.F.type_list_append mt_append (pv 1) (pa_cons h pa_nil)))
    (dss_cons (ds_append (i := 1) (de_tup (da_cons (de_xP V.xInvalidLogs hr (da_cons (de_var 0) da_nil)) (da_cons (de_xat V.xInvalidLogs.facts (V.xInvalidLogs.free _ (by decide +kernel)) (de_xK false rfl V.xInvalidLogs hr (dk_cons (de_var 0) dk_nil))) (da_cons (de_xat V.xInvalidLogs.facts (V.xInvalidLogs.free _ (by decide +kernel)) (de_xP V.xInvalidLogs hr (da_cons (de_var 0) da_nil))) (da_cons de_str da_nil))))) (fun h => pe_bm PySem.F.plainAttrs_list PySem.F.slot_list_append PySem.F.type_list_append mt_append (pv 1) (pa_cons h pa_nil)))
    (dss_cons (ds_append (i := 1) (de_tup (da_cons (de_xP V.xInvalidStatement hr (da_cons (de_var 0) da_nil)) (da_cons (de_xat V.xInvalidStatement.facts (V.xInvalidStatement.free _ (by decide +kernel)) (de_xK false rfl V.xInvalidStatement hr (dk_cons (de_var 0) dk_nil))) (da_cons (de_xat V.xInvalidStatement.facts (V.xInvalidStatement.free _ (by decide +kernel)) (de_xP V.xInvalidStatement hr (da_cons (de_var 0) da_nil))) (da_cons de_str da_nil))))) (fun h => pe_bm PySem.F.plainAttrs_list PySem.F.slot_list_append PySem.F.type_list_append mt_append (pv 1) (pa_cons h pa_nil)))
    (dss_cons (ds_append (i := 1) (de_tup (da_cons (de_xP V.xInvalidPart hr (da_cons (de_var 0) da_nil)) (da_cons (de_xat V.xInvalidPart.facts (V.xInvalidPart.free _ (by decide +kernel)) (de_xK false rfl V.xInvalidPart hr (dk_cons (de_var 0) dk_nil))) (da_cons (de_xat V.xInvalidPart.facts (V.xInvalidPart.free _ (by decide +kernel)) (de_xP V.xInvalidPart hr (da_cons (de_var 0) da_nil))) (da_cons de_str da_nil))))) (fun h => pe_bm PySem.F.plainAttrs_list PySem.F.slot_list_append PySem.F.type_list_append mt_append (pv 1) (pa_cons h pa_nil)))
    (dss_cons (ds_append (i := 1) (de_tup (da_cons (de_xP V.xInvalidGuard hr (da_cons (de_var 0) da_nil)) (da_cons (de_xat V.xInvalidGuard.facts (V.xInvalidGuard.free _ (by decide +kernel)) (de_xK false rfl V.xInvalidGuard hr (dk_cons (de_var 0) dk_nil))) (da_cons (de_xat V.xInvalidGuard.facts (V.xInvalidGuard.free _ (by decide +kernel)) (de_xP V.xInvalidGuard hr (da_cons (de_var 0) da_nil))) (da_cons de_str da_nil))))) (fun h => pe_bm PySem.F.plainAttrs_list PySem.F.slot_list_append PySem.F.type_list_append mt_append (pv 1) (pa_cons h pa_nil)))
    (dss_one (ds_retOwn (i := 1))))))))))))))))) (fun ds b q hl h => ?_)
  obtain ⟨d, rfl, h⟩ := h
  refine ⟨Nat.zero_le _, Nat.le_of_ble_eq_true rfl, ?_⟩
  show wSeq _ _ _ [some (.val d), some (.own [])] b
  refine app2 (fun k h => ev1 rfl h) (Nat.le_of_ble_eq_true rfl) ?_
  refine app2 (fun k h => ev1 rfl h) (Nat.le_of_ble_eq_true rfl) ?_
  refine app2 (fun k h => ev1 rfl h) (Nat.le_of_ble_eq_true rfl) ?_
  refine app2 (fun k h => ev1 rfl h) (Nat.le_of_ble_eq_true rfl) ?_
  refine app2 (fun k h => ev1 rfl h) (Nat.le_of_ble_eq_true rfl) ?_
  refine app2 (fun k h => ev1 rfl h) (Nat.le_of_ble_eq_true rfl) ?_
  refine app2 (fun k h => ev1 rfl h) (Nat.le_of_ble_eq_true rfl) ?_
  refine app2 (fun k h => ev1 rfl h) (Nat.le_of_ble_eq_true rfl) ?_
  refine app2 (fun k h => ev1 rfl h) (Nat.le_of_ble_eq_true rfl) ?_
  refine app2 (fun k h => ev1 rfl h) (Nat.le_of_ble_eq_true rfl) ?_
  refine app2 (fun k h => ev1 rfl h) (Nat.le_of_ble_eq_true rfl) ?_
  refine app2 (fun k h => ev1 rfl h) (Nat.le_of_ble_eq_true rfl) ?_
  exact ⟨_, rfl, h⟩
theorem scOtherErrors : FnScope ["_law_thing", "_law_found", "_law_error"] ["_law_thing"] (defScope (top 39)) := ⟨rfl, rfl, rfl, by decide +kernel, rfl, by decide +kernel, by decide +kernel⟩
theorem okOtherErrors (V : V10 P K mg) : FnG P w K mg base CX0 2 V.aOtherErrors V.dOtherErrors ["_law_thing"] (spD K 1 (dOther V)) := by
  refine fn_data V.fOtherErrors scOtherErrors rfl (fun cdv A outer s H E PC g hr => (dss_cons (ds_asgOwn (i := 1) (df_lst da_nil) scOtherErrors.nd rfl (Or.inl rfl))
    (dss_cons (ds_append (i := 1) (de_tup (da_cons (de_xP V.xInvalidText hr (da_cons (de_var 0) da_nil)) (da_cons (de_xat V.xInvalidText.facts (V.xInvalidText.free _ (by decide +kernel)) (de_xK false rfl V.xInvalidText hr (dk_cons (de_var 0) dk_nil))) (da_cons (de_xat V.xInvalidText.facts (V.xInvalidText.free _ (by decide +kernel)) (de_xP V.xInvalidText hr (da_cons (de_var 0) da_nil))) (da_cons de_str da_nil))))) (fun h => pe_bm PySem.F.plainAttrs_list PySem.F.slot_list_append PySem.F.type_list_append mt_append (pv 1) (pa_cons h pa_nil)))
    (dss_cons (ds_asg (de_xK false rfl V.xInvalidLine hr (dk_cons de_int (dk_cons (de_var 0) dk_nil))) (dg_name (i := 2) scOtherErrors.nd rfl (Or.inl rfl)))
    (dss_cons (ds_append (i := 1) (de_tup (da_cons (de_xP V.xInvalidLine hr (da_cons de_int (da_cons (de_var 0) da_nil))) (da_cons (de_xat V.xInvalidLine.facts (V.xInvalidLine.free _ (by decide +kernel)) (de_var 2)) (da_cons (de_xat V.xInvalidLine.facts (V.xInvalidLine.free _ (by decide +kernel)) (de_xP V.xInvalidLine hr (da_cons de_int (da_cons (de_var 0) da_nil)))) (da_cons de_str da_nil))))) (fun h => pe_bm PySem.F.plainAttrs_list PySem.F.slot_list_append PySem.F.type_list_append mt_append (pv 1) (pa_cons h pa_nil)))
    (dss_cons (ds_asg (de_xK false rfl V.xInvalidLine hr (dk_cons (de_var 0) (dk_cons de_int dk_nil))) (dg_name (i := 2) scOtherErrors.nd rfl (Or.inl rfl)))
    (dss_cons (ds_append (i := 1) (de_tup (da_cons (de_xP V.xInvalidLine hr (da_cons (de_var 0) (da_cons de_int da_nil))) (da_cons (de_xat V.xInvalidLine.facts (V.xInvalidLine.free _ (by decide +kernel)) (de_var 2)) (da_cons (de_xat V.xInvalidLine.facts (V.xInvalidLine.free _ (by decide +kernel)) (de_xP V.xInvalidLine hr (da_cons (de_var 0) (da_cons de_int da_nil)))) (da_cons de_str da_nil))))) (fun h => pe_bm PySem.F.plainAttrs_list PySem.F.slot_list_append PySem.F.type_list_append mt_append (pv 1) (pa_cons h pa_nil)))
    (dss_cons (ds_append (i := 1) (de_tup (da_cons (de_xP V.xInvalidRow hr (da_cons (de_var 0) da_nil)) (da_cons (de_xat V.xInvalidRow.facts (V.xInvalidRow.free _ (by decide +kernel)) (de_xK false rfl V.xInvalidRow hr (dk_cons (de_var 0) dk_nil))) (da_cons (de_xat V.xInvalidRow.facts (V.xInvalidRow.free _ (by decide +kernel)) (de_xP V.xInvalidRow hr (da_cons (de_var 0) da_nil))) (da_cons de_str da_nil))))) (fun h => pe_bm PySem.F.plainAttrs_list PySem.F.slot_list_append PySem.F.type_list_append mt_append (pv 1) (pa_cons h pa_nil)))
    (dss_cons (ds_append (i := 1) (de_tup (da_cons (de_xP V.xRepeated hr (da_cons (de_var 0) da_nil)) (da_cons (de_xat V.xRepeated.facts (V.xRepeated.free _ (by decide +kernel)) (de_xK false rfl V.xRepeated hr (dk_cons (de_var 0) dk_nil))) (da_cons (de_xat V.xRepeated.facts (V.xRepeated.free _ (by decide +kernel)) (de_xP V.xRepeated hr (da_cons (de_var 0) da_nil))) (da_cons de_str da_nil))))) (fun h => pe_bm PySem.F.plainAttrs_list PySem.F.slot_list_append PySem.F.type_list_append mt_append (pv 1) (pa_cons h pa_nil)))
    (dss_cons (ds_append (i := 1) (de_tup (da_cons (de_xP V.xNotDone hr (da_cons (de_var 0) da_nil)) (da_cons (de_xat V.xNotDone.facts (V.xNotDone.free _ (by decide +kernel)) (de_xK false rfl V.xNotDone hr (dk_cons (de_var 0) dk_nil))) (da_cons (de_xat V.xNotDone.facts (V.xNotDone.free _ (by decide +kernel)) (de_xP V.xNotDone hr (da_cons (de_var 0) da_nil))) (da_cons de_str da_nil))))) (fun h => pe_bm PySem.F.plainAttrs_list PySem.F.slot_list_append PySem.F.type_list_append mt_append (pv 1) (pa_cons h pa_nil)))
    (dss_cons (ds_append (i := 1) (de_tup (da_cons (de_xP V.xOutOfRange hr (da_cons (de_var 0) da_nil)) (da_cons (de_xat V.xOutOfRange.facts (V.xOutOfRange.free _ (by decide +kernel)) (de_xK false rfl V.xOutOfRange hr (dk_cons (de_var 0) dk_nil))) (da_cons (de_xat V.xOutOfRange.facts (V.xOutOfRange.free _ (by decide +kernel)) (de_xP V.xOutOfRange hr (da_cons (de_var 0) da_nil))) (da_cons de_str da_nil))))) (fun h => pe_bm PySem.F.plainAttrs_list PySem.F.slot_list_append PySem.F.type_list_append mt_append (pv 1) (pa_cons h pa_nil)))
    (dss_cons (ds_append (i := 1) (de_tup (da_cons (de_xP V.xNotMeant hr (da_cons (de_var 0) da_nil)) (da_cons (de_xat V.xNotMeant.facts (V.xNotMeant.free _ (by decide +kernel)) (de_xK false rfl V.xNotMeant hr (dk_cons (de_var 0) dk_nil))) (da_cons (de_xat V.xNotMeant.facts (V.xNotMeant.free _ (by decide +kernel)) (de_xP V.xNotMeant hr (da_cons (de_var 0) da_nil))) (da_cons de_str da_nil))))) (fun h => pe_bm PySem.F.plainAttrs_list PySem.F.slot_list_append PySem.F.type_list_append mt_append (pv 1) (pa_cons h pa_nil)))
    (dss_cons (ds_append (i := 1) (de_tup (da_cons (de_xP V.xMissing hr (da_cons (de_var 0) da_nil)) (da_cons (de_xat V.xMissing.facts (V.xMissing.free _ (by decide +kernel)) (de_xK false rfl V.xMissing hr (dk_cons (de_var 0) dk_nil))) (da_cons (de_xat V.xMissing.facts (V.xMissing.free _ (by decide +kernel)) (de_xP V.xMissing hr (da_cons (de_var 0) da_nil))) (da_cons de_str da_nil))))) (fun h => pe_bm PySem.F.plainAttrs_list PySem.F.slot_list_append PySem.F.type_list_append mt_append (pv 1) (pa_cons h pa_nil)))
    (dss_cons (ds_append (i := 1) (de_tup (da_cons (de_xP V.xTooMany hr (da_cons (de_var 0) da_nil)) (da_cons (de_xat V.xTooMany.facts (V.xTooMany.free _ (by decide +kernel)) (de_xK false rfl V.xTooMany hr (dk_cons (de_var 0) dk_nil))) (da_cons (de_xat V.xTooMany.facts (V.xTooMany.free _ (by decide +kernel)) (de_xP V.xTooMany hr (da_cons (de_var 0) da_nil))) (da_cons de_str da_nil))))) (fun h => pe_bm PySem.F.plainAttrs_list PySem.F.slot_list_append PySem.F.type_list_append mt_append (pv 1) (pa_cons h pa_nil)))
    (dss_cons (ds_append (i := 1) (de_tup (da_cons (de_xP V.xBroken hr (da_cons (de_var 0) da_nil)) (da_cons (de_xat V.xBroken.facts (V.xBroken.free _ (by decide +kernel)) (de_xK false rfl V.xBroken hr (dk_cons (de_var 0) dk_nil))) (da_cons (de_xat V.xBroken.facts (V.xBroken.free _ (by decide +kernel)) (de_xP V.xBroken hr (da_cons (de_var 0) da_nil))) (da_cons de_str da_nil))))) (fun h => pe_bm PySem.F.plainAttrs_list PySem.F.slot_list_append PySem.F.type_list_append mt_append (pv 1) (pa_cons h pa_nil)))
    (dss_cons (ds_append (i := 1) (de_tup (da_cons (de_xP V.xClosed hr (da_cons (de_var 0) da_nil)) (da_cons (de_xat V.xClosed.facts (V.xClosed.free _ (by decide +kernel)) (de_xK false rfl V.xClosed hr (dk_cons (de_var 0) dk_nil))) (da_cons (de_xat V.xClosed.facts (V.xClosed.free _ (by decide +kernel)) (de_xP V.xClosed hr (da_cons (de_var 0) da_nil))) (da_cons de_str da_nil))))) (fun h => pe_bm PySem.F.plainAttrs_list PySem.F.slot_list_append PySem.F.type_list_append mt_append (pv 1) (pa_cons h pa_nil)))
    (dss_cons (ds_asg (de_xK true rfl V.xForked hr (dk_cons (de_var 0) (dk_cons de_int dk_nil))) (dg_name (i := 2) scOtherErrors.nd rfl (Or.inl rfl)))
    (dss_cons (ds_append (i := 1) (de_tup (da_cons (de_xP V.xForked hr (da_cons de_int (da_cons (de_var 0) da_nil))) (da_cons (de_xat V.xForked.facts (V.xForked.free _ (by decide +kernel)) (de_var 2)) (da_cons (de_xat V.xForked.facts (V.xForked.free _ (by decide +kernel)) (de_xP V.xForked hr (da_cons de_int (da_cons (de_var 0) da_nil)))) (da_cons de_str da_nil))))) (fun h => pe_bm PySem.F.plainAttrs_list PySem.F.slot_list_append PySem.F.type_list_append mt_append (pv 1) (pa_cons h pa_nil)))
    (dss_cons (ds_asg (de_xK true rfl V.xForked hr (dk_cons de_int (dk_cons (de_var 0) dk_nil))) (dg_name (i := 2) scOtherErrors.nd rfl (Or.inl rfl)))
    (dss_cons (ds_append (i := 1) (de_tup (da_cons (de_xP V.xForked hr (da_cons (de_var 0) (da_cons de_int da_nil))) (da_cons (de_xat V.xForked.facts (V.xForked.free _ (by decide +kernel)) (de_var 2)) (da_cons (de_xat V.xForked.facts (V.xForked.free _ (by decide +kernel)) (de_xP V.xForked hr (da_cons (de_var 0) (da_cons de_int da_nil)))) (da_cons de_str da_nil))))) (fun h => pe_bm PySem.F.plainAttrs_list PySem.F.slot_list_append PySem.F.type_list_append mt_append (pv 1) (pa_cons h pa_nil)))
    (dss_cons (ds_append (i := 1) (de_tup (da_cons (de_x0 PySem.F.excBase_ValueError V.gNotLeast V.kNotLeast (V.iniNotLeast)) (da_cons (de_var 0) (da_cons (de_var 0) (da_cons de_str da_nil))))) (fun h => pe_bm PySem.F.plainAttrs_list PySem.F.slot_list_append PySem.F.type_list_append mt_append (pv 1) (pa_cons h pa_nil)))
    (dss_one (ds_retOwn (i := 1)))))))))))))))))))))))) (fun ds b q hl h => ?_)
  obtain ⟨d, rfl, h⟩ := h
  refine ⟨Nat.zero_le _, Nat.le_of_ble_eq_true rfl, ?_⟩
  show wSeq _ _ _ [some (.val d), some (.own []), none] b
  refine app3 (fun k h => ev1 rfl h) (Nat.le_of_ble_eq_true rfl) ?_
  refine put3 (x := .exc V.cInvalidLine [("line", .int 0), ("index", d)]) (fun k h => ?_) ?_
  · exact ⟨d, rfl, rfl, h⟩
  refine app3 (fun k h => evB rfl rfl (by decide) h) (Nat.le_of_ble_eq_true rfl) ?_
  refine put3 (x := .exc V.cInvalidLine [("line", d), ("index", .int 0)]) (fun k h => ?_) ?_
  · exact ⟨d, rfl, rfl, h⟩
  refine app3 (fun k h => evA rfl rfl h) (Nat.le_of_ble_eq_true rfl) ?_
  refine app3 (fun k h => ev1 rfl h) (Nat.le_of_ble_eq_true rfl) ?_
  refine app3 (fun k h => ev1 rfl h) (Nat.le_of_ble_eq_true rfl) ?_
  refine app3 (fun k h => ev1 rfl h) (Nat.le_of_ble_eq_true rfl) ?_
  refine app3 (fun k h => ev1 rfl h) (Nat.le_of_ble_eq_true rfl) ?_
  refine app3 (fun k h => ev1 rfl h) (Nat.le_of_ble_eq_true rfl) ?_
  refine app3 (fun k h => ev1 rfl h) (Nat.le_of_ble_eq_true rfl) ?_
  refine app3 (fun k h => ev1 rfl h) (Nat.le_of_ble_eq_true rfl) ?_
  refine app3 (fun k h => ev1 rfl h) (Nat.le_of_ble_eq_true rfl) ?_
  refine app3 (fun k h => ev1 rfl h) (Nat.le_of_ble_eq_true rfl) ?_
  refine put3 (x := .exc V.cForked [("word", .int 0), ("line", d)]) (fun k h => ?_) ?_
  · exact ⟨d, rfl, rfl, h⟩
  refine app3 (fun k h => evB rfl rfl (by decide) h) (Nat.le_of_ble_eq_true rfl) ?_
  refine put3 (x := .exc V.cForked [("word", d), ("line", .int 0)]) (fun k h => ?_) ?_
  · exact ⟨d, rfl, rfl, h⟩
  refine app3 (fun k h => evA rfl rfl h) (Nat.le_of_ble_eq_true rfl) ?_
  refine app3 (fun k h => ev0 rfl h) (Nat.le_of_ble_eq_true rfl) ?_
  exact ⟨_, rfl, h⟩
end
end NC
set_option maxRecDepth 100000
set_option maxHeartbeats 8000000
namespace NC
open PySem PyProof.Rows PySem.Spec L2
section
variable {K : PySem.W.Frag} {T : DEnds} {b : Nat} {xs : List D} {rest : WS} {C c c2 : Addr} {v v2 : Bool} {n : String} {ρ : Rho} {k : D → Nat → Prop} {fs : List (Str × D)}
theorem is1 (h0 : ρ[0]? = some (some (.val (.exc C fs)))) (xf : XF K C) (hk : PySem.W.kitOne K (.ref C) (.ref c) = some v) (h : k (.bl v) b) : wCB (dIs K) (wCons (wVar 0) (wCons (wC (.obj c)) wNil)) ρ b k := ⟨.exc C fs, h0, .exc C fs, .obj c, .ref C, v, rfl, rfl, xf, hk, h⟩
theorem isT (h0 : ρ[0]? = some (some (.val (.exc C fs)))) (xf : XF K C) (hk : PySem.W.kitOne K (.ref C) (.type n) = some v) (h : k (.bl v) b) : wCB (dIs K) (wCons (wVar 0) (wCons (wC (.ty n)) wNil)) ρ b k := ⟨.exc C fs, h0, .exc C fs, .ty n, .ref C, v, rfl, rfl, xf, hk, h⟩
theorem ext2 (xf : XF K C) (h1 : PySem.W.kitOne K (.ref C) (.ref c) = some v) (h2 : PySem.W.kitOne K (.ref C) (.ref c2) = some v2) (h3 : xs.length + 2 ≤ 1000000) (h : rest T [some (.val (.exc C fs)), some (.own (xs ++ [.bl v, .bl v2]))] b) :
    wSeq (wExtend 1 (wL (wLst (wCons (wCB (dIs K) (wCons (wVar 0) (wCons (wC (.obj c)) wNil))) (wCons (wCB (dIs K) (wCons (wVar 0) (wCons (wC (.obj c2)) wNil))) wNil))))) rest T [some (.val (.exc C fs)), some (.own xs)] b :=
  ⟨xs, rfl, is1 rfl xf h1 (is1 rfl xf h2 ⟨by show 2 ≤ 1000000; decide, _, rfl, h3, h⟩)⟩
theorem ext1 (xf : XF K C) (h1 : PySem.W.kitOne K (.ref C) (.ref c) = some v) (h3 : xs.length + 1 ≤ 1000000) (h : rest T [some (.val (.exc C fs)), some (.own (xs ++ [.bl v]))] b) :
    wSeq (wExtend 1 (wL (wLst (wCons (wCB (dIs K) (wCons (wVar 0) (wCons (wC (.obj c)) wNil))) wNil)))) rest T [some (.val (.exc C fs)), some (.own xs)] b :=
  ⟨xs, rfl, is1 rfl xf h1 ⟨by show 1 ≤ 1000000; decide, _, rfl, h3, h⟩⟩
end
/-- the names whose flags are set, of the first n -/
def pick4 (l : List (Str × Bool)) (n : Nat) : List D := ((l.take n).filter (·.2)).map fun p => .str p.1
def four (b : Nat) (l : List (Str × Bool)) : Nat → List D → Nat → Prop := fun n acc b' => b' = b ∧ acc = pick4 l n
theorem pick4_yes {l : List (Str × Bool)} {n : Nat} {z : Str} (h : l[n]? = some (z, true)) : pick4 l (n + 1) = pick4 l n ++ [.str z] := by
  unfold pick4
  rw [List.take_succ, h]
  simp
theorem pick4_no {l : List (Str × Bool)} {n : Nat} {z : Str} (h : l[n]? = some (z, false)) : pick4 l (n + 1) = pick4 l n := by
  unfold pick4
  rw [List.take_succ, h]
  simp
theorem pick4_short {l : List (Str × Bool)} {n : Nat} (h : l.length < 1000000) : (pick4 l n).length < 1000000 := by
  unfold pick4
  rw [List.length_map]
  have h1 := List.length_filter_le (fun p : Str × Bool => p.2) (l.take n)
  have h2 : (l.take n).length ≤ l.length := by rw [List.length_take]; exact Nat.min_le_right _ _
  omega
section
variable {P : Program} {w : World} {K : PySem.W.Frag} {mg : Str → Option Value} {base : Heap}
/-- the package's errors -/
def V10.cls (V : V10 P K mg) : List Addr := [V.cInvalidWord, V.cInvalidChain, V.cInvalidStretch, V.cInvalidSubject, V.cInvalidTimes, V.cInvalidDay, V.cInvalidTable, V.cInvalidCount, V.cInvalidLogs, V.cInvalidStatement, V.cInvalidPart, V.cInvalidGuard, V.cInvalidText, V.cInvalidLine, V.cInvalidRow, V.cRepeated, V.cNotDone, V.cNotLeast, V.cOutOfRange, V.cNotMeant, V.cMissing, V.cTooMany, V.cBroken, V.cClosed, V.cForked]
def dClasses (V : V10 P K mg) : List D → Nat → (D → Nat → Prop) → Prop := fun ds b k => ∃ C fs q, ds = [.exc C fs] ∧ XF K C ∧ (∀ c ∈ V.cls, PySem.W.kitOne K (.ref C) (.ref c) = some (q c)) ∧ k (.lst ((V.cls.map q).map .bl)) b
/-- the Python errors of a class -/
structure Sorted (K : PySem.W.Frag) (C : Addr) (z : Str) : Prop where
  one : z = "value" ∨ z = "lookup" ∨ z = "overflow" ∨ z = "runtime"
  va : PySem.W.kitOne K (.ref C) (.type "ValueError") = some (z == "value")
  lo : PySem.W.kitOne K (.ref C) (.type "LookupError") = some (z == "lookup")
  ov : PySem.W.kitOne K (.ref C) (.type "OverflowError") = some (z == "overflow")
  ru : PySem.W.kitOne K (.ref C) (.type "RuntimeError") = some (z == "runtime")
  no : PySem.W.kitAny K (.ref C) [.type "IndexError", .type "KeyError", .type "NotImplementedError"] = some false
def dSorts (K : PySem.W.Frag) : List D → Nat → (D → Nat → Prop) → Prop := fun ds b k => ∃ C fs z, ds = [.exc C fs] ∧ XF K C ∧ Sorted K C z ∧ k (.lst [.str z]) b

theorem scClasses : FnScope ["_law_error", "_law_found"] ["_law_error"] (defScope (top 40)) := ⟨rfl, rfl, rfl, by decide +kernel, rfl, by decide +kernel, by decide +kernel⟩
theorem scSorts : FnScope ["_law_error", "_law_flags", "_law_one", "_law_flag"] ["_law_error"] (defScope (top 41)) := ⟨rfl, rfl, rfl, by decide +kernel, rfl, by decide +kernel, by decide +kernel⟩
theorem okClasses (V : V10 P K mg) : FnG P w K mg base CX0 2 V.aClasses V.dClasses ["_law_error"] (spD K 1 (dClasses V)) := by
  refine fn_data V.fClasses scClasses rfl (fun cdv A outer s H E PC g hr => (dss_cons (ds_asgOwn (i := 1) (df_lst da_nil) scClasses.nd rfl (Or.inl rfl))
    (dss_cons (ds_extend (i := 1) (DE.db (DF.de (df_lst (da_cons (de_blt call_is (od_isK (K := K) rfl) (V.bl _ (by decide +kernel)) (by decide +kernel) (dab_cons (DE.db (de_var 0)) (dab_cons (DE.db (de_gobj V.xInvalidWord.at_)) dab_nil))) (da_cons (de_blt call_is (od_isK (K := K) rfl) (V.bl _ (by decide +kernel)) (by decide +kernel) (dab_cons (DE.db (de_var 0)) (dab_cons (DE.db (de_gobj V.xInvalidChain.at_)) dab_nil))) da_nil))))) (fun h => pe_bm PySem.F.plainAttrs_list PySem.F.slot_list_extend PySem.F.type_list_extend mt_extend (pv 1) (pa_cons h pa_nil)))
    (dss_cons (ds_extend (i := 1) (DE.db (DF.de (df_lst (da_cons (de_blt call_is (od_isK (K := K) rfl) (V.bl _ (by decide +kernel)) (by decide +kernel) (dab_cons (DE.db (de_var 0)) (dab_cons (DE.db (de_gobj V.xInvalidStretch.at_)) dab_nil))) (da_cons (de_blt call_is (od_isK (K := K) rfl) (V.bl _ (by decide +kernel)) (by decide +kernel) (dab_cons (DE.db (de_var 0)) (dab_cons (DE.db (de_gobj V.xInvalidSubject.at_)) dab_nil))) da_nil))))) (fun h => pe_bm PySem.F.plainAttrs_list PySem.F.slot_list_extend PySem.F.type_list_extend mt_extend (pv 1) (pa_cons h pa_nil)))
    (dss_cons (ds_extend (i := 1) (DE.db (DF.de (df_lst (da_cons (de_blt call_is (od_isK (K := K) rfl) (V.bl _ (by decide +kernel)) (by decide +kernel) (dab_cons (DE.db (de_var 0)) (dab_cons (DE.db (de_gobj V.xInvalidTimes.at_)) dab_nil))) (da_cons (de_blt call_is (od_isK (K := K) rfl) (V.bl _ (by decide +kernel)) (by decide +kernel) (dab_cons (DE.db (de_var 0)) (dab_cons (DE.db (de_gobj V.xInvalidDay.at_)) dab_nil))) da_nil))))) (fun h => pe_bm PySem.F.plainAttrs_list PySem.F.slot_list_extend PySem.F.type_list_extend mt_extend (pv 1) (pa_cons h pa_nil)))
    (dss_cons (ds_extend (i := 1) (DE.db (DF.de (df_lst (da_cons (de_blt call_is (od_isK (K := K) rfl) (V.bl _ (by decide +kernel)) (by decide +kernel) (dab_cons (DE.db (de_var 0)) (dab_cons (DE.db (de_gobj V.xInvalidTable.at_)) dab_nil))) (da_cons (de_blt call_is (od_isK (K := K) rfl) (V.bl _ (by decide +kernel)) (by decide +kernel) (dab_cons (DE.db (de_var 0)) (dab_cons (DE.db (de_gobj V.xInvalidCount.at_)) dab_nil))) da_nil))))) (fun h => pe_bm PySem.F.plainAttrs_list PySem.F.slot_list_extend PySem.F.type_list_extend mt_extend (pv 1) (pa_cons h pa_nil)))
    (dss_cons (ds_extend (i := 1) (DE.db (DF.de (df_lst (da_cons (de_blt call_is (od_isK (K := K) rfl) (V.bl _ (by decide +kernel)) (by decide +kernel) (dab_cons (DE.db (de_var 0)) (dab_cons (DE.db (de_gobj V.xInvalidLogs.at_)) dab_nil))) (da_cons (de_blt call_is (od_isK (K := K) rfl) (V.bl _ (by decide +kernel)) (by decide +kernel) (dab_cons (DE.db (de_var 0)) (dab_cons (DE.db (de_gobj V.xInvalidStatement.at_)) dab_nil))) da_nil))))) (fun h => pe_bm PySem.F.plainAttrs_list PySem.F.slot_list_extend PySem.F.type_list_extend mt_extend (pv 1) (pa_cons h pa_nil)))
    (dss_cons (ds_extend (i := 1) (DE.db (DF.de (df_lst (da_cons (de_blt call_is (od_isK (K := K) rfl) (V.bl _ (by decide +kernel)) (by decide +kernel) (dab_cons (DE.db (de_var 0)) (dab_cons (DE.db (de_gobj V.xInvalidPart.at_)) dab_nil))) (da_cons (de_blt call_is (od_isK (K := K) rfl) (V.bl _ (by decide +kernel)) (by decide +kernel) (dab_cons (DE.db (de_var 0)) (dab_cons (DE.db (de_gobj V.xInvalidGuard.at_)) dab_nil))) da_nil))))) (fun h => pe_bm PySem.F.plainAttrs_list PySem.F.slot_list_extend PySem.F.type_list_extend mt_extend (pv 1) (pa_cons h pa_nil)))
    (dss_cons (ds_extend (i := 1) (DE.db (DF.de (df_lst (da_cons (de_blt call_is (od_isK (K := K) rfl) (V.bl _ (by decide +kernel)) (by decide +kernel) (dab_cons (DE.db (de_var 0)) (dab_cons (DE.db (de_gobj V.xInvalidText.at_)) dab_nil))) (da_cons (de_blt call_is (od_isK (K := K) rfl) (V.bl _ (by decide +kernel)) (by decide +kernel) (dab_cons (DE.db (de_var 0)) (dab_cons (DE.db (de_gobj V.xInvalidLine.at_)) dab_nil))) da_nil))))) (fun h => pe_bm PySem.F.plainAttrs_list PySem.F.slot_list_extend PySem.F.type_list_extend mt_extend (pv 1) (pa_cons h pa_nil)))
    (dss_cons (ds_extend (i := 1) (DE.db (DF.de (df_lst (da_cons (de_blt call_is (od_isK (K := K) rfl) (V.bl _ (by decide +kernel)) (by decide +kernel) (dab_cons (DE.db (de_var 0)) (dab_cons (DE.db (de_gobj V.xInvalidRow.at_)) dab_nil))) (da_cons (de_blt call_is (od_isK (K := K) rfl) (V.bl _ (by decide +kernel)) (by decide +kernel) (dab_cons (DE.db (de_var 0)) (dab_cons (DE.db (de_gobj V.xRepeated.at_)) dab_nil))) da_nil))))) (fun h => pe_bm PySem.F.plainAttrs_list PySem.F.slot_list_extend PySem.F.type_list_extend mt_extend (pv 1) (pa_cons h pa_nil)))
    (dss_cons (ds_extend (i := 1) (DE.db (DF.de (df_lst (da_cons (de_blt call_is (od_isK (K := K) rfl) (V.bl _ (by decide +kernel)) (by decide +kernel) (dab_cons (DE.db (de_var 0)) (dab_cons (DE.db (de_gobj V.xNotDone.at_)) dab_nil))) (da_cons (de_blt call_is (od_isK (K := K) rfl) (V.bl _ (by decide +kernel)) (by decide +kernel) (dab_cons (DE.db (de_var 0)) (dab_cons (DE.db (de_gobj V.gNotLeast)) dab_nil))) da_nil))))) (fun h => pe_bm PySem.F.plainAttrs_list PySem.F.slot_list_extend PySem.F.type_list_extend mt_extend (pv 1) (pa_cons h pa_nil)))
    (dss_cons (ds_extend (i := 1) (DE.db (DF.de (df_lst (da_cons (de_blt call_is (od_isK (K := K) rfl) (V.bl _ (by decide +kernel)) (by decide +kernel) (dab_cons (DE.db (de_var 0)) (dab_cons (DE.db (de_gobj V.xOutOfRange.at_)) dab_nil))) (da_cons (de_blt call_is (od_isK (K := K) rfl) (V.bl _ (by decide +kernel)) (by decide +kernel) (dab_cons (DE.db (de_var 0)) (dab_cons (DE.db (de_gobj V.xNotMeant.at_)) dab_nil))) da_nil))))) (fun h => pe_bm PySem.F.plainAttrs_list PySem.F.slot_list_extend PySem.F.type_list_extend mt_extend (pv 1) (pa_cons h pa_nil)))
    (dss_cons (ds_extend (i := 1) (DE.db (DF.de (df_lst (da_cons (de_blt call_is (od_isK (K := K) rfl) (V.bl _ (by decide +kernel)) (by decide +kernel) (dab_cons (DE.db (de_var 0)) (dab_cons (DE.db (de_gobj V.xMissing.at_)) dab_nil))) (da_cons (de_blt call_is (od_isK (K := K) rfl) (V.bl _ (by decide +kernel)) (by decide +kernel) (dab_cons (DE.db (de_var 0)) (dab_cons (DE.db (de_gobj V.xTooMany.at_)) dab_nil))) da_nil))))) (fun h => pe_bm PySem.F.plainAttrs_list PySem.F.slot_list_extend PySem.F.type_list_extend mt_extend (pv 1) (pa_cons h pa_nil)))
    (dss_cons (ds_extend (i := 1) (DE.db (DF.de (df_lst (da_cons (de_blt call_is (od_isK (K := K) rfl) (V.bl _ (by decide +kernel)) (by decide +kernel) (dab_cons (DE.db (de_var 0)) (dab_cons (DE.db (de_gobj V.xBroken.at_)) dab_nil))) (da_cons (de_blt call_is (od_isK (K := K) rfl) (V.bl _ (by decide +kernel)) (by decide +kernel) (dab_cons (DE.db (de_var 0)) (dab_cons (DE.db (de_gobj V.xClosed.at_)) dab_nil))) da_nil))))) (fun h => pe_bm PySem.F.plainAttrs_list PySem.F.slot_list_extend PySem.F.type_list_extend mt_extend (pv 1) (pa_cons h pa_nil)))
    (dss_cons (ds_extend (i := 1) (DE.db (DF.de (df_lst (da_cons (de_blt call_is (od_isK (K := K) rfl) (V.bl _ (by decide +kernel)) (by decide +kernel) (dab_cons (DE.db (de_var 0)) (dab_cons (DE.db (de_gobj V.xForked.at_)) dab_nil))) da_nil)))) (fun h => pe_bm PySem.F.plainAttrs_list PySem.F.slot_list_extend PySem.F.type_list_extend mt_extend (pv 1) (pa_cons h pa_nil)))
    (dss_one (ds_retOwn (i := 1)))))))))))))))))) (fun ds b q hl h => ?_)
  obtain ⟨C, fs, f, rfl, xf, hq, h⟩ := h
  refine ⟨Nat.zero_le _, Nat.le_of_ble_eq_true rfl, ?_⟩
  show wSeq _ _ _ [some (.val (.exc C fs)), some (.own [])] b
  refine ext2 xf (hq V.cInvalidWord (by simp [V10.cls])) (hq V.cInvalidChain (by simp [V10.cls])) (Nat.le_of_ble_eq_true rfl) ?_
  refine ext2 xf (hq V.cInvalidStretch (by simp [V10.cls])) (hq V.cInvalidSubject (by simp [V10.cls])) (Nat.le_of_ble_eq_true rfl) ?_
  refine ext2 xf (hq V.cInvalidTimes (by simp [V10.cls])) (hq V.cInvalidDay (by simp [V10.cls])) (Nat.le_of_ble_eq_true rfl) ?_
  refine ext2 xf (hq V.cInvalidTable (by simp [V10.cls])) (hq V.cInvalidCount (by simp [V10.cls])) (Nat.le_of_ble_eq_true rfl) ?_
  refine ext2 xf (hq V.cInvalidLogs (by simp [V10.cls])) (hq V.cInvalidStatement (by simp [V10.cls])) (Nat.le_of_ble_eq_true rfl) ?_
  refine ext2 xf (hq V.cInvalidPart (by simp [V10.cls])) (hq V.cInvalidGuard (by simp [V10.cls])) (Nat.le_of_ble_eq_true rfl) ?_
  refine ext2 xf (hq V.cInvalidText (by simp [V10.cls])) (hq V.cInvalidLine (by simp [V10.cls])) (Nat.le_of_ble_eq_true rfl) ?_
  refine ext2 xf (hq V.cInvalidRow (by simp [V10.cls])) (hq V.cRepeated (by simp [V10.cls])) (Nat.le_of_ble_eq_true rfl) ?_
  refine ext2 xf (hq V.cNotDone (by simp [V10.cls])) (hq V.cNotLeast (by simp [V10.cls])) (Nat.le_of_ble_eq_true rfl) ?_
  refine ext2 xf (hq V.cOutOfRange (by simp [V10.cls])) (hq V.cNotMeant (by simp [V10.cls])) (Nat.le_of_ble_eq_true rfl) ?_
  refine ext2 xf (hq V.cMissing (by simp [V10.cls])) (hq V.cTooMany (by simp [V10.cls])) (Nat.le_of_ble_eq_true rfl) ?_
  refine ext2 xf (hq V.cBroken (by simp [V10.cls])) (hq V.cClosed (by simp [V10.cls])) (Nat.le_of_ble_eq_true rfl) ?_
  refine ext1 xf (hq V.cForked (by simp [V10.cls])) (Nat.le_of_ble_eq_true rfl) ?_
  exact ⟨_, rfl, h⟩
theorem okSorts (V : V10 P K mg) : FnG P w K mg base CX0 2 V.aSorts V.dSorts ["_law_error"] (spD K 1 (dSorts K)) := by
  refine fn_data V.fSorts scSorts rfl (fun cdv A outer s H E PC g hr => (dss_cons (ds_asg (DF.de (df_lst (da_cons (de_blt call_is (od_isK (K := K) rfl) (V.bl _ (by decide +kernel)) (by decide +kernel) (dab_cons (DE.db (de_var 0)) (dab_cons (DE.db (de_ty (n := "ValueError") (V.bl _ (by decide +kernel)) (by decide +kernel))) dab_nil))) (da_cons (de_blt call_is (od_isK (K := K) rfl) (V.bl _ (by decide +kernel)) (by decide +kernel) (dab_cons (DE.db (de_var 0)) (dab_cons (DE.db (de_ty (n := "LookupError") (V.bl _ (by decide +kernel)) (by decide +kernel))) dab_nil))) da_nil)))) (dg_name (i := 1) scSorts.nd rfl (Or.inl rfl)))
    (dss_cons (ds_asg (de_op or_add od_add (DE.db (de_var 1)) (DE.db (DF.de (df_lst (da_cons (de_blt call_is (od_isK (K := K) rfl) (V.bl _ (by decide +kernel)) (by decide +kernel) (dab_cons (DE.db (de_var 0)) (dab_cons (DE.db (de_ty (n := "OverflowError") (V.bl _ (by decide +kernel)) (by decide +kernel))) dab_nil))) (da_cons (de_blt call_is (od_isK (K := K) rfl) (V.bl _ (by decide +kernel)) (by decide +kernel) (dab_cons (DE.db (de_var 0)) (dab_cons (DE.db (de_ty (n := "RuntimeError") (V.bl _ (by decide +kernel)) (by decide +kernel))) dab_nil))) da_nil)))))) (dg_name (i := 1) scSorts.nd rfl (Or.inl rfl)))
    (dss_cons (ds_if (dt_val (de_blt call_is (od_isK (K := K) rfl) (V.bl _ (by decide +kernel)) (by decide +kernel) (dab_cons (DE.db (de_var 0)) (dab_cons (DE.db (de_tup (da_cons (de_ty (n := "IndexError") (V.bl _ (by decide +kernel)) (by decide +kernel)) (da_cons (de_ty (n := "KeyError") (V.bl _ (by decide +kernel)) (by decide +kernel)) (da_cons (de_ty (n := "NotImplementedError") (V.bl _ (by decide +kernel)) (by decide +kernel)) da_nil))))) dab_nil)))) (dss_one (ds_ret (DF.de (df_lst (da_cons de_str da_nil))))) dss_nil)
    (dss_one (ds_ret (DF.de (df_lc (own := [("_law_one", 2), ("_law_flag", 3)]) rfl scSorts.nd (di_zip rfl (V.bl _ (by decide +kernel)) (DF.de (df_lst (da_cons de_str (da_cons de_str (da_cons de_str (da_cons de_str da_nil)))))) (de_var 1)) (blk_ok (N := ["_law_error", "_law_flags", "_law_one", "_law_flag"]) (sc := defScope (top 41)) rfl rfl ⟨rfl, by decide +kernel, by decide +kernel, by decide +kernel, by decide +kernel⟩) (fun s H C cl fp => (dg_tup (n := 2) rfl (dgs_cons (dg_name (i := 2) scSorts.nd rfl (Or.inl rfl)) (dgs_cons (dg_name (i := 3) scSorts.nd rfl (Or.inl rfl)) dgs_nil)))) (by decide) (fun s H C cl fp => (dt_val (de_var 3))) (fun s H C cl fp => (de_var 2)))))))))) (fun ds b q hl h => ?_)
  obtain ⟨C, fs, z, rfl, xf, S, h⟩ := h
  refine isT rfl xf S.va (isT rfl xf S.lo ⟨Nat.le_of_ble_eq_true rfl, Nat.le_of_ble_eq_true rfl, ?_⟩)
  refine ⟨_, rfl, isT rfl xf S.ov (isT rfl xf S.ru ⟨Nat.le_of_ble_eq_true rfl, Nat.le_of_ble_eq_true rfl, Nat.le_of_ble_eq_true rfl, ?_⟩)⟩
  show wSeq _ _ _ [some (.val (.exc C fs)), some (.val (.lst [.bl (z == "value"), .bl (z == "lookup"), .bl (z == "overflow"), .bl (z == "runtime")])), none, none] b
  refine ⟨.exc C fs, rfl, Nat.le_of_ble_eq_true rfl, .exc C fs, .tup [.ty "IndexError", .ty "KeyError", .ty "NotImplementedError"], .ref C, false, rfl, rfl, xf, S.no, false, rfl, iteF ?_⟩
  refine ⟨Nat.le_of_ble_eq_true rfl, _, rfl, _, _, rfl, rfl, rfl, four b [("value", z == "value"), ("lookup", z == "lookup"), ("overflow", z == "overflow"), ("runtime", z == "runtime")], ⟨rfl, rfl⟩, ?_, ?_⟩
  · rintro n x acc b2 hx ⟨e1, e2⟩
    subst e1 e2
    have key : ∀ (nm : Str) (fl : Bool), [(("value" : Str), z == "value"), ("lookup", z == "lookup"), ("overflow", z == "overflow"), ("runtime", z == "runtime")][n]? = some (nm, fl) → x = .tup [.str nm, .bl fl] →
        gT 2 (gsC (gN 2) (gsC (gN 3) gsN)) x (wipeR [some (.val (.exc C fs)), some (.val (.lst [.bl (z == "value"), .bl (z == "lookup"), .bl (z == "overflow"), .bl (z == "runtime")])), none, none] [2, 3]) fun ρ2 =>
          wB (wVar 3) ρ2 b2 fun c b2' => if c = true then wVar 2 ρ2 b2' fun y b3 => (pick4 [("value", z == "value"), ("lookup", z == "lookup"), ("overflow", z == "overflow"), ("runtime", z == "runtime")] n).length < 1000000 ∧ four b2 [("value", z == "value"), ("lookup", z == "lookup"), ("overflow", z == "overflow"), ("runtime", z == "runtime")] (n + 1) (pick4 [("value", z == "value"), ("lookup", z == "lookup"), ("overflow", z == "overflow"), ("runtime", z == "runtime")] n ++ [y]) b3
            else four b2 [("value", z == "value"), ("lookup", z == "lookup"), ("overflow", z == "overflow"), ("runtime", z == "runtime")] (n + 1) (pick4 [("value", z == "value"), ("lookup", z == "lookup"), ("overflow", z == "overflow"), ("runtime", z == "runtime")] n) b2' := by
      intro nm fl hn hx
      subst hx
      refine ⟨[.str nm, .bl fl], rfl, rfl, .str nm, [.bl fl], rfl, Nat.le_of_ble_eq_true rfl, .bl fl, [], rfl, Nat.le_of_ble_eq_true rfl, rfl, .bl fl, rfl, fl, rfl, ?_⟩
      cases fl with
      | true => exact iteT ⟨.str nm, rfl, pick4_short (by show 4 < 1000000; decide), rfl, (pick4_yes hn).symm⟩
      | false => exact iteF ⟨rfl, (pick4_no hn).symm⟩
    match n, hx with
    | 0, hx => exact key _ _ rfl (Option.some.inj hx).symm
    | 1, hx => exact key _ _ rfl (Option.some.inj hx).symm
    | 2, hx => exact key _ _ rfl (Option.some.inj hx).symm
    | 3, hx => exact key _ _ rfl (Option.some.inj hx).symm
  · rintro acc b2 ⟨e1, e2⟩
    subst e1 e2
    have e : pick4 [("value", z == "value"), ("lookup", z == "lookup"), ("overflow", z == "overflow"), ("runtime", z == "runtime")] 4 = [.str z] := by
      rcases S.one with e | e | e | e <;> rw [e] <;> rfl
    show q (.lst (pick4 [("value", z == "value"), ("lookup", z == "lookup"), ("overflow", z == "overflow"), ("runtime", z == "runtime")] 4)) b2
    rw [e]
    exact h
end
end NC
set_option maxRecDepth 100000
set_option maxHeartbeats 8000000
namespace NC
open PySem PyProof.Rows PySem.Spec L2
/-- the pen is made: a dict at pn, the cells at c -/
def spPen (K : PySem.W.Frag) : Sp := fun vs H Q _ => ∃ (s : Addr) (ns : List Int), vs = [.ref s] ∧ Rd H s (.lst (ns.map L2.V.int)) ∧ ns.length ≤ 63 ∧ ∀ pn c H', H pn = none → H c = none → c ≠ pn → H' pn = some (.dK (penD c 0 0)) → H' c = some (.lst (ns.map L2.V.int)) → (∀ a o, H a = some o → H' a = some o) → Q (.ref pn) H'
theorem scPen : FnScope ["_law_script"] ["_law_script"] (defScope (top 34)) := ⟨rfl, rfl, rfl, by decide +kernel, rfl, by decide +kernel, by decide +kernel⟩
section
variable {P : Program} {w : World} {K : PySem.W.Frag} {mg : Str → Option Value} {base : Heap}
theorem okPen (V : V10 P K mg) : FnG P w K mg base CX0 1 V.aPen V.dPen ["_law_script"] (spPen K) := by
  refine fng_of V.fPen scPen (fun vs H Q E h => ?_) (fun cdv A outer s H vs Q E _ hr h => ?_)
  · obtain ⟨_, _, rfl, _⟩ := h
    rfl
  obtain ⟨a, ns, rfl, hs, hl, q⟩ := h
  refine ⟨_, PSs.nox (pss_one (ps_ret (pe_disp (pps_cons pe_str (pe_callTy call_list_of (by rfl) (V.bl _ (by decide +kernel)) (by decide +kernel) (pa_cons (pe_slice sl_list (pv 0) po_none (po_some pe_int)) pa_nil)) (pps_cons pe_str pe_int (pps_cons pe_str pe_int pps_nil))) rfl rfl (fun z => nomatch z) (by show 3 ≤ 15; decide)))), ?_⟩
  intro pn hp
  have ne : ∀ {x : Addr} {o : HO}, H x = some o → x ≠ pn := fun e => ne_of_none e hp
  have hs1 : Rd (upd H pn (.dK [])) a (.lst (ns.map L2.V.int)) := by
    rcases hs with h | ⟨o, h⟩
    · exact .inl ((upd_ne (ne h)).trans h)
    · exact .inr ⟨o, (upd_ne (ne h)).trans h⟩
  have hcut : cutV (ns.map L2.V.int) none (some 63) = ns.map L2.V.int := by
    unfold cutV
    rw [HT.sIx_none, List.drop_zero, Nat.sub_zero]
    refine List.take_of_length_le ?_
    have e : HT.sIx (ns.map L2.V.int).length (ns.map L2.V.int).length (some 63) = min 63 (ns.map L2.V.int).length := HT.sIx_nat _ _ 63
    rw [e, List.length_map]
    omega
  refine ⟨.ref a, rfl, 63, rfl, a, ns.map L2.V.int, rfl, .inl hs1, fun p hp1 => ⟨p, _, rfl, .inl (.inl (.inl upd_same)), fun c hc => ?_⟩⟩
  rw [hcut] at hc ⊢
  have pp : p ≠ pn := fun z => by rw [z, upd_same] at hp1; cases hp1
  have cp : c ≠ p := fun z => by rw [z, upd_same] at hc; cases hc
  have cpn : c ≠ pn := fun z => by rw [z, upd_ne pp.symm, upd_same] at hc; cases hc
  have hc0 : H c = none := by
    rw [upd_ne cp, upd_ne cpn] at hc
    exact hc
  refine ⟨?_, [(kS "cells", .ref c), (kS "turn", .int 0), (kS "left", .int 0)], rfl, (by show 3 ≤ 15; decide), q pn c _ hp hc0 cpn ?_ ?_ fun b o e => ?_⟩
  · rw [upd_ne cpn.symm, upd_ne pp.symm, upd_same]
  · rw [upd_same]
    have e : mergeK [] [(kS "cells", L2.V.ref c), (kS "turn", L2.V.int 0), (kS "left", L2.V.int 0)] = penD c 0 0 := by
      simp [mergeK, putK, penD, k1, k2, k3]
    rw [e]
  · rw [upd_ne cpn, upd_same]
  · have bp : b ≠ p := fun z => by
      rw [z] at e
      rw [upd_ne pp, e] at hp1
      cases hp1
    have bc : b ≠ c := ne_of_none e hc0
    rw [upd_ne (ne e), upd_ne bc, upd_ne bp, upd_ne (ne e)]
    exact e
end
end NC
set_option maxRecDepth 100000
set_option maxHeartbeats 8000000
namespace NC
open PySem PyProof.Rows PySem.Spec L2
/-- a slot list whose first two are the script and the pen -/
theorem relL {K : PySem.W.Frag} {pn c s : Addr} {ns : List Int} {H : Hp} {n b : Nat} (h1 : H pn = some (.dK (penD c 0 0))) (h2 : H c = some (.lst (ns.map L2.V.int))) (h3 : c ≠ pn) (h4 : Rd H s (.lst (ns.map L2.V.int))) (h5 : s ≠ pn) (hl : ns.length ≤ 63) (hb : b ≤ 1000000000) :
    Rel K ⟨pn, H, fun x => x = pn⟩ [] (fun x => x = pn) (some (.ref s) :: some (.ref pn) :: List.replicate n none) H (some (.val (.frz ns)) :: some (.val .pen) :: List.replicate n none) b where
  len := by simp
  val := fun i d e => by
    match i, e with
    | 0, e => cases e; exact ⟨_, rfl, .frz h4 h5⟩
    | 1, e => cases e; exact ⟨_, rfl, .pen⟩
    | i + 2, e =>
      simp only [List.getElem?_cons_succ, List.getElem?_replicate] at e
      split at e <;> cases e
  own := fun i xs e => by
    match i, e with
    | 0, e => cases e
    | 1, e => cases e
    | i + 2, e =>
      simp only [List.getElem?_cons_succ, List.getElem?_replicate] at e
      split at e <;> cases e
  sep := fun i j xs ys a _ e => by
    match i, e with
    | 0, e => cases e
    | 1, e => cases e
    | i + 2, e =>
      simp only [List.getElem?_cons_succ, List.getElem?_replicate] at e
      split at e <;> cases e
  pen := ⟨c, ns, 0, 0, h1, h2, h3, hl, Int.le_refl _, by omega, Int.le_refl _⟩
  mpn := rfl
  dom := fun a z => by
    have z' : a = pn := z
    rw [z']
    exact ⟨_, h1⟩
  ext := .refl H
  sub := fun _ z => z
  cdm := fun a z => by
    have z' : a = pn := z
    rw [z']
    exact ⟨_, h1⟩
  gho := fun _ z => nomatch z
/-- what repr asks of a datum, and of a list of it twice -/
def reprOk (d : D) : Bool := isPd d && (pd d).showable && decide ((pd d).depth ≤ 60) && (decide ((pd d).shown.length ≤ 1000000) && PyData.strOk (pd d).shown)
theorem repr_of {d : D} {k : D → Prop} (h : reprOk d = true) (q : k (.str (pd d).shown)) : dRepr [d] k := by
  simp only [reprOk, Bool.and_eq_true, decide_eq_true_eq] at h
  obtain ⟨⟨⟨h1, h2⟩, h3⟩, h4, _⟩ := h
  exact ⟨d, rfl, h1, h2, h3, h4, q⟩
theorem repr_str {d : D} (h : reprOk d = true) : PyData.strOk (pd d).shown = true := (Bool.and_eq_true_iff.mp (Bool.and_eq_true_iff.mp h).2).2
theorem any_repr : (anyVals.all fun d => reprOk d && reprOk (.lst [d, d])) = true := by decide +kernel
theorem rV {ρ : Rho} {b i : Nat} {d : D} {k : D → Nat → Prop} (h0 : ρ[i]? = some (some (.val d))) (h : reprOk d = true) (q : k (.str (pd d).shown) b) : wCB dRepr (wCons (wVar i) wNil) ρ b k := ⟨d, h0, repr_of (k := fun d => k d b) h q⟩
theorem rLL {ρ : Rho} {b i j : Nat} {d : D} {k : D → Nat → Prop} (h0 : ρ[i]? = some (some (.val d))) (h1 : ρ[j]? = some (some (.val d))) (h : reprOk (.lst [d, d]) = true) (q : k (.str (pd (.lst [d, d])).shown) b) : wCB dRepr (wCons (wL (wLst (wCons (wVar i) (wCons (wVar j) wNil)))) wNil) ρ b k := ⟨d, h0, d, h1, Nat.le_of_ble_eq_true rfl, repr_of (k := fun d => k d b) h q⟩
theorem rC {ρ : Rho} {b : Nat} {d : D} {k : D → Nat → Prop} (h : reprOk d = true) (q : k (.str (pd d).shown) b) : wCB dRepr (wCons (wC d) wNil) ρ b k := repr_of (k := fun d => k d b) h q
theorem rPw {ρ : Rho} {b : Nat} {i j : Int} {k : D → Nat → Prop} (c : CPow i j) (h : reprOk (.int (i ^ j.toNat)) = true) (q : k (.str (pd (.int (i ^ j.toNat))).shown) b) : wCB dRepr (wCons (wOp dPow (wC (.int i)) (wC (.int j))) wNil) ρ b k := ⟨i, j, rfl, rfl, c, repr_of (k := fun d => k d b) h q⟩
theorem shapedS {s : Str} (h : PyData.strOk s = true) : SeqAt.shaped (.str s) = true := by simp [SeqAt.shaped, PyData.canLay0, h, PyData.depth]
theorem shapedL {s : Str} (h : PyData.strOk s = true) : SeqAt.shaped (.list [.str s]) = true := by simp [SeqAt.shaped, PyData.canLay0, PyData.canLayAll0, h, PyData.depth, PyData.depthAll]
theorem neS {s : Str} {k : D → Prop} (hs : PyData.strOk s = true) (h : k (.bl false)) : dEq true (.str s) (.str s) k := ⟨rfl, rfl, shapedS hs, shapedS hs, by
  have e : (true ^^ PyData.eqv (pd (.str s)) (pd (.str s))) = false := by simp [pd, PyData.eqv]
  rw [e]
  exact h⟩
theorem neL {s : Str} {k : D → Prop} (hs : PyData.strOk s = true) (h : k (.bl false)) : dEq true (.lst [.str s]) (.lst [.str s]) k := ⟨rfl, rfl, shapedL hs, shapedL hs, by
  have e : (true ^^ PyData.eqv (pd (.lst [.str s])) (pd (.lst [.str s]))) = false := by simp [pd, pds, PyData.eqv, PyData.eqvAll]
  rw [e]
  exact h⟩
section
variable {P : Program} {w : World} {K : PySem.W.Frag} {mg : Str → Option Value} {base : Heap}
structure L10 (V : V10 P K mg) : Prop where
  xf : ∀ C ∈ V.cls, XF K C
  one : ∀ C ∈ V.cls, ∃ q : Addr → Bool, (∀ c ∈ V.cls, PySem.W.kitOne K (.ref C) (.ref c) = some (q c)) ∧ countIn (.bool true) ((V.cls.map q).map PyData.bool) = 1
  va : ∀ C ∈ [V.cInvalidWord, V.cInvalidChain, V.cInvalidStretch, V.cInvalidSubject, V.cInvalidTimes, V.cInvalidDay, V.cInvalidTable, V.cInvalidCount, V.cInvalidLogs, V.cInvalidStatement, V.cInvalidPart, V.cInvalidGuard, V.cInvalidText, V.cInvalidLine, V.cInvalidRow, V.cRepeated, V.cNotDone, V.cNotLeast], Sorted K C "value"
  lo : ∀ C ∈ [V.cOutOfRange, V.cNotMeant, V.cMissing], Sorted K C "lookup"
  ov : ∀ C ∈ [V.cTooMany], Sorted K C "overflow"
  ru : ∀ C ∈ [V.cBroken, V.cClosed, V.cForked], Sorted K C "runtime"
theorem errs_ok {V : V10 P K mg} (L : L10 V) (d : D) : ∀ x ∈ someErrs V d ++ otherErrs V d, ∃ C fs z, x = er C fs d z ∧ C ∈ V.cls ∧ Sorted K C z := by
  intro x hx
  rcases List.mem_append.mp hx with hx | hx
  · simp only [someErrs, List.mem_cons, List.not_mem_nil, or_false] at hx
    rcases hx with rfl | rfl | rfl | rfl | rfl | rfl | rfl | rfl | rfl | rfl | rfl | rfl
    all_goals exact ⟨_, _, _, rfl, by simp [V10.cls], L.va _ (by simp)⟩
  · simp only [otherErrs, List.mem_cons, List.not_mem_nil, or_false] at hx
    rcases hx with rfl | rfl | rfl | rfl | rfl | rfl | rfl | rfl | rfl | rfl | rfl | rfl | rfl | rfl | rfl
    all_goals first
      | exact ⟨_, _, _, rfl, by simp [V10.cls], L.va _ (by simp)⟩
      | exact ⟨_, _, _, rfl, by simp [V10.cls], L.lo _ (by simp)⟩
      | exact ⟨_, _, _, rfl, by simp [V10.cls], L.ov _ (by simp)⟩
      | exact ⟨_, _, _, rfl, by simp [V10.cls], L.ru _ (by simp)⟩
def spLaw : Sp := fun vs H Q _ => ∃ (a : Addr) (ns : List Int), vs = [.ref a] ∧ Rd H a (.lst (ns.map L2.V.int)) ∧ ns.length ≤ 63 ∧ ∀ H', Q (.bl true) H'
theorem bPen (V : V10 P K mg) : Binds K V.dPen ["_law_script"] [] := V.fPen.bindsN fun _ _ _ _ _ _ us hl => match us, hl with | [_], _ => rfl
theorem scLaw : FnScope ["_law_script", "_law_pen_here", "_law_turn", "_law_some", "_law_thing", "_law_kept", "_law_every", "_law_error", "_law_titled", "_law_placed", "_law_sort"] ["_law_script"] (defScope (top 42)) := ⟨rfl, rfl, rfl, by decide +kernel, rfl, by decide +kernel, by decide +kernel⟩
theorem okLaw (V : V10 P K mg) (L : L10 V) : FnG P w K mg base CX0 5 V.aLaw V.dLaw ["_law_script"] spLaw := by
  refine fng_of V.fLaw scLaw (fun vs H Q E h => ?_) (fun cdv A outer s H vs Q E g hr h => ?_)
  · obtain ⟨_, _, rfl, _⟩ := h
    rfl
  obtain ⟨a, ns, rfl, hs, hl, hq⟩ := h
  refine ⟨_, PSs.nox (pss_cons (ps_set (i := 1) scLaw.nd rfl (Or.inl rfl) (pe_callG g (okPen V) (hr.mono (by decide)) rfl V.mPen V.fPen.kp (bPen V) .nil pass0 (pa_cons (pv 0) pa_nil) (by decide) rfl rfl))
    (DSs.pss fun PC => (dss_cons (ds_range PassesOwn.never rfl rfl (V.bl _ (by decide +kernel)) (de_op or_add od_add (DE.db de_int) (DE.db (de_blt (call_min2 rfl) od_min (V.bl _ (by decide +kernel)) (by decide +kernel) (dab_cons (DE.db de_int) (dab_cons (DE.db (de_blt call_len od_len (V.bl _ (by decide +kernel)) PySem.boot_len (dab_cons (DE.db (de_var 0)) dab_nil))) dab_nil))))) (dg_name (i := 2) scLaw.nd rfl (Or.inl rfl)) (dss_cons (ds_asg (de_fn g (okAnyValue V) (hr.mono (by decide)) V.mAnyValue V.fAnyValue.kp (bAnyValue V) pass0 (da_cons (de_var 1) da_nil)) (dg_name (i := 4) scLaw.nd rfl (Or.inl rfl)))
    (dss_cons (ds_asg (de_blt (call_repr g V.sys hr) od_repr (V.bl _ (by decide +kernel)) (by decide +kernel) (dab_cons (DE.db (de_var 4)) dab_nil)) (dg_name (i := 5) scLaw.nd rfl (Or.inl rfl)))
    (dss_cons (ds_asg (de_op or_add od_add (DE.db (de_fn g (okSomeErrors V) (hr.mono (by decide)) V.mSomeErrors V.fSomeErrors.kp (bSomeErrors V) pass0 (da_cons (de_var 4) da_nil))) (DE.db (de_fn g (okOtherErrors V) (hr.mono (by decide)) V.mOtherErrors V.fOtherErrors.kp (bOtherErrors V) pass0 (da_cons (de_var 4) da_nil)))) (dg_name (i := 6) scLaw.nd rfl (Or.inl rfl)))
    (dss_one (ds_for PassesOwn.never rfl (de_var 6) (dg_tup (n := 4) rfl (dgs_cons (dg_name (i := 7) scLaw.nd rfl (Or.inl rfl)) (dgs_cons (dg_name (i := 8) scLaw.nd rfl (Or.inl rfl)) (dgs_cons (dg_name (i := 9) scLaw.nd rfl (Or.inl rfl)) (dgs_cons (dg_name (i := 10) scLaw.nd rfl (Or.inl rfl)) dgs_nil))))) (dss_cons (ds_if (DW.t (dw_or (dt_cmp (or_ne V.sys hr.units) od_eq (DE.db (de_blt (call_repr g V.sys hr) od_repr (V.bl _ (by decide +kernel)) (by decide +kernel) (dab_cons (DE.db (DF.de (df_lst (da_cons (de_var 8) (da_cons (de_var 9) da_nil))))) dab_nil))) (DE.db (de_blt (call_repr g V.sys hr) od_repr (V.bl _ (by decide +kernel)) (by decide +kernel) (dab_cons (DE.db (DF.de (df_lst (da_cons (de_var 4) (da_cons (de_var 4) da_nil))))) dab_nil))) (nomark _)) (dw_or1 (dt_cmp (or_ne V.sys hr.units) od_eq (DE.db (de_fn g (okSorts V) (hr.mono (by decide)) V.mSorts V.fSorts.kp (bSorts V) pass0 (da_cons (de_var 7) da_nil))) (DE.db (DF.de (df_lst (da_cons (de_var 10) da_nil)))) (nomark _))))) (dss_one (ds_ret de_bl)) dss_nil)
    (dss_one (ds_if (DW.t (dw_or (dt_cmp (or_ne V.sys hr.units) od_eq (DE.db (de_lm md_count (DE.db (de_fn g (okClasses V) (hr.mono (by decide)) V.mClasses V.fClasses.kp (bClasses V) pass0 (da_cons (de_var 7) da_nil))) (dab_cons (DE.db de_bl) dab_nil) (fun h h2 => pe_bm PySem.F.plainAttrs_list PySem.F.slot_list_count PySem.F.type_list_count mt_count h h2))) (DE.db de_int) (nomark _)) (dw_or1 (dt_cmp (or_ne V.sys hr.units) od_eq (DE.db (de_blt (call_repr g V.sys hr) od_repr (V.bl _ (by decide +kernel)) (by decide +kernel) (dab_cons (DE.db (de_var 4)) dab_nil))) (DE.db (de_var 5)) (nomark _))))) (dss_one (ds_ret de_bl)) dss_nil)))))))))
    (dss_cons (ds_asg (DF.de (df_lst (da_cons (de_gint V.iMAX_LETTERS) (da_cons (de_gint V.iMAX_NAMES) (da_cons (de_gint V.iMAX_ASKED) (da_cons (de_gint V.iMAX_STATEMENTS) (da_cons (de_gint V.iMAX_CHAINS) (da_cons (de_gint V.iMAX_TIMES) da_nil)))))))) (dg_name (i := 3) scLaw.nd rfl (Or.inl rfl)))
    (dss_one (ds_ret (de_and (de_cmp (or_eq V.sys hr.units) od_eq (DE.db (de_blt (call_repr g V.sys hr) od_repr (V.bl _ (by decide +kernel)) (by decide +kernel) (dab_cons (DE.db (de_var 3)) dab_nil))) (DE.db de_str) (nomark _)) (de_one (de_cmp (or_eq V.sys hr.units) od_eq (DE.db (de_blt (call_repr g V.sys hr) od_repr (V.bl _ (by decide +kernel)) (by decide +kernel) (dab_cons (DE.db (de_gint V.iLIMIT)) dab_nil))) (DE.db (de_blt (call_repr g V.sys hr) od_repr (V.bl _ (by decide +kernel)) (by decide +kernel) (dab_cons (DE.db (de_op op_pow od_pow (DE.db de_int) (DE.db de_int))) dab_nil))) (nomark _)))))))))), ?_⟩
  refine ⟨.ref a, rfl, a, ns, rfl, hs, hl, fun pn c H' n1 n2 n3 p1 p2 g' => ?_⟩
  have hs' : Rd H' a (.lst (ns.map L2.V.int)) := by
    rcases hs with z | ⟨o, z⟩
    · exact .inl (g' _ _ z)
    · exact .inr ⟨o, g' _ _ z⟩
  have na : a ≠ pn := fun z => by
    rw [z] at hs
    rcases hs with y | ⟨o, y⟩ <;> (rw [n1] at y; cases y)
  refine ⟨⟨pn, H', fun x => x = pn⟩, [], fun x => x = pn, some (.val (.frz ns)) :: some (.val .pen) :: List.replicate 9 none, 8, { nx := fun _ _ => False, rt := fun d _ => d = .bl true }, relL (n := 9) p1 p2 n3 hs' na hl (by decide), ?_, fun M σ H ρ b z => z.elim, fun d b v H z _ _ r => by subst z; cases r; exact hq H, fun M σ H ρ b z => z.elim, fun M σ H ρ b z => z.elim⟩
  have hm : ∃ m : Nat, 3 + (if (ns.length : Int) < 5 then (ns.length : Int) else 5) = (m : Int) ∧ m ≤ 8 := by
    by_cases c : (ns.length : Int) < 5
    · rw [if_pos c]
      exact ⟨3 + ns.length, by omega, by omega⟩
    · rw [if_neg c]
      exact ⟨8, by omega, by omega⟩
  obtain ⟨m, em, lm⟩ := hm
  refine ⟨.frz ns, rfl, 3 + (if (ns.length : Int) < 5 then (ns.length : Int) else 5), fun n ρ b => ∃ r2 r3 r4 r5 r6 r7 r8 r9 r10, ρ = [some (.val (.frz ns)), some (.val .pen), r2, r3, r4, r5, r6, r7, r8, r9, r10] ∧ b + n = 8, rfl, by rw [em]; omega, by rw [em]; omega, ⟨none, none, none, none, none, none, none, none, none, rfl, rfl⟩, ?_, ?_⟩
  · rintro n ρ b hn ⟨r2, r3, r4, r5, r6, r7, r8, r9, r10, rfl, hb⟩
    rw [em] at hn
    obtain ⟨b', rfl⟩ : ∃ b', b = b' + 1 := ⟨b - 1, by
      have := Int.toNat_natCast m
      omega⟩
    refine ⟨Nat.le_of_ble_eq_true rfl, .pen, rfl, rfl, b', rfl, rfl, fun d hd => ⟨Nat.le_of_ble_eq_true rfl, ?_⟩⟩
    obtain ⟨k1, k2⟩ := Bool.and_eq_true_iff.mp (List.all_eq_true.mp any_repr d hd)
    refine rV rfl k1 ⟨Nat.le_of_ble_eq_true rfl, ?_⟩
    refine ⟨d, rfl, rfl, d, rfl, d, rfl, rfl, d, rfl, Nat.le_of_ble_eq_true rfl, Nat.le_of_ble_eq_true rfl, ?_⟩
    refine ⟨.lst (someErrs V d ++ otherErrs V d), rfl, someErrs V d ++ otherErrs V d, fun _ ρ b => ∃ r7 r8 r9 r10, ρ = [some (.val (.frz ns)), some (.val .pen), some (.val (.int n)), r3, some (.val d), some (.val (.str (pd d).shown)), some (.val (.lst (someErrs V d ++ otherErrs V d))), r7, r8, r9, r10] ∧ b = b', rfl, ⟨r7, r8, r9, r10, rfl, rfl⟩, ?_, ?_⟩
    · rintro j x ρ b hx ⟨r7, r8, r9, r10, rfl, rfl⟩
      obtain ⟨C, fs, z, rfl, hC, hS⟩ := errs_ok L d x (List.mem_of_getElem? hx)
      obtain ⟨q, q1, q2⟩ := L.one C hC
      have hz : PyData.strOk z = true := by rcases hS.one with e | e | e | e <;> (rw [e]; decide +kernel)
      refine ⟨_, rfl, rfl, _, _, rfl, Nat.le_of_ble_eq_true rfl, _, _, rfl, Nat.le_of_ble_eq_true rfl, _, _, rfl, Nat.le_of_ble_eq_true rfl, _, _, rfl, Nat.le_of_ble_eq_true rfl, rfl, ?_⟩
      refine rLL rfl rfl k2 (rLL rfl rfl k2 (neS (repr_str k2) ⟨false, rfl, iteF ?_⟩))
      refine ⟨_, rfl, rfl, C, fs, z, rfl, L.xf C hC, hS, .str z, rfl, Nat.le_of_ble_eq_true rfl, neL hz ⟨false, rfl, iteF ?_⟩⟩
      refine ⟨_, rfl, rfl, C, fs, q, rfl, L.xf C hC, q1, _, rfl, V.cls.map q, true, rfl, rfl, ?_⟩
      refine ⟨rfl, rfl, rfl, rfl, false, by rw [q2]; rfl, iteF ?_⟩
      exact rV rfl k1 ⟨_, rfl, neS (repr_str k1) ⟨false, rfl, iteF ⟨_, _, _, _, rfl, rfl⟩⟩⟩
    · rintro ρ b ⟨r7, r8, r9, r10, rfl, rfl⟩
      exact ⟨_, _, _, _, _, _, _, _, _, rfl, by omega⟩
  · rintro ρ b ⟨r2, r3, r4, r5, r6, r7, r8, r9, r10, rfl, hb⟩
    refine ⟨Nat.le_of_ble_eq_true rfl, Nat.le_of_ble_eq_true rfl, ?_⟩
    refine rV rfl (by decide +kernel) ⟨rfl, rfl, by decide +kernel, by decide +kernel, true, congrArg D.bl (by decide +kernel), iteT ?_⟩
    exact rC (by decide +kernel) (rPw ⟨by decide, by decide +kernel⟩ (by decide +kernel) ⟨rfl, rfl, by decide +kernel, by decide +kernel, congrArg D.bl (by decide +kernel)⟩)
end
end NC
set_option maxRecDepth 100000
set_option maxHeartbeats 0
namespace NC
open PySem PySem.Spec PyProof.Rows L2
abbrev R : PySem.W.OpenRow := PySem.W.OpenLaw.row PySem.Challenge.rw_namechains_k10_errors_and_limits
def rowPen : He.DefD := ⟨("_law_pen", none), "_law_pen", "_law_pen", defArgs (top 34), defBody (top 34), defScope (top 34), [], []⟩
def rowDraw : He.DefD := ⟨("_law_draw", none), "_law_draw", "_law_draw", defArgs (top 35), defBody (top 35), defScope (top 35), [], []⟩
def rowPick : He.DefD := ⟨("_law_pick", none), "_law_pick", "_law_pick", defArgs (top 36), defBody (top 36), defScope (top 36), [], []⟩
def rowAnyValue : He.DefD := ⟨("_law_any_value", none), "_law_any_value", "_law_any_value", defArgs (top 37), defBody (top 37), defScope (top 37), [], []⟩
def rowSomeErrors : He.DefD := ⟨("_law_some_errors", none), "_law_some_errors", "_law_some_errors", defArgs (top 38), defBody (top 38), defScope (top 38), [], []⟩
def rowOtherErrors : He.DefD := ⟨("_law_other_errors", none), "_law_other_errors", "_law_other_errors", defArgs (top 39), defBody (top 39), defScope (top 39), [], []⟩
def rowClasses : He.DefD := ⟨("_law_classes", none), "_law_classes", "_law_classes", defArgs (top 40), defBody (top 40), defScope (top 40), [], []⟩
def rowSorts : He.DefD := ⟨("_law_sorts", none), "_law_sorts", "_law_sorts", defArgs (top 41), defBody (top 41), defScope (top 41), [], []⟩
def rowLaw : He.DefD := ⟨("law", none), "law", "law", defArgs (top 42), defBody (top 42), defScope (top 42), [], []⟩
def fn : List He.DefD := [rowPen, rowDraw, rowPick, rowAnyValue, rowSomeErrors, rowOtherErrors, rowClasses, rowSorts, rowLaw]
def fa : List He.Fa := [.glo "_law_pen", .glo "_law_draw", .glo "_law_pick", .glo "_law_any_value", .glo "_law_some_errors", .glo "_law_other_errors", .glo "_law_classes", .glo "_law_sorts", .glo "law", .free "len", .free "int", .free "abs", .free "range", .free "repr", .free "min", .free "list", .free "isinstance", .free "zip", .free "super", .free "ValueError", .free "LookupError", .free "OverflowError", .free "RuntimeError", .free "IndexError", .free "KeyError", .free "NotImplementedError", .int "LIMIT" 1000000000000000000000000000000, .int "MAX_LETTERS" 8, .int "MAX_NAMES" 4, .int "MAX_ASKED" 8, .int "MAX_STATEMENTS" 24, .int "MAX_CHAINS" 4, .int "MAX_TIMES" 9]
def bInvalidWord (K : PySem.W.Frag) : Bool := clB K PySem.Challenge.pw_namechains_k10_errors_and_limits "InvalidWord" (He.ga K "InvalidWord") (He.ma K (He.ga K "InvalidWord") "__init__") "ValueError" "ValueError.__new__" "ValueError.__init__" [.type "ValueError", .type "Exception", .type "BaseException", .type "object"] ["value"] (shape1 "value")
def bInvalidChain (K : PySem.W.Frag) : Bool := clB K PySem.Challenge.pw_namechains_k10_errors_and_limits "InvalidChain" (He.ga K "InvalidChain") (He.ma K (He.ga K "InvalidChain") "__init__") "ValueError" "ValueError.__new__" "ValueError.__init__" [.type "ValueError", .type "Exception", .type "BaseException", .type "object"] ["value"] (shape1 "value")
def bInvalidStretch (K : PySem.W.Frag) : Bool := clB K PySem.Challenge.pw_namechains_k10_errors_and_limits "InvalidStretch" (He.ga K "InvalidStretch") (He.ma K (He.ga K "InvalidStretch") "__init__") "ValueError" "ValueError.__new__" "ValueError.__init__" [.type "ValueError", .type "Exception", .type "BaseException", .type "object"] ["value"] (shape1 "value")
def bInvalidSubject (K : PySem.W.Frag) : Bool := clB K PySem.Challenge.pw_namechains_k10_errors_and_limits "InvalidSubject" (He.ga K "InvalidSubject") (He.ma K (He.ga K "InvalidSubject") "__init__") "ValueError" "ValueError.__new__" "ValueError.__init__" [.type "ValueError", .type "Exception", .type "BaseException", .type "object"] ["value"] (shape1 "value")
def bInvalidTimes (K : PySem.W.Frag) : Bool := clB K PySem.Challenge.pw_namechains_k10_errors_and_limits "InvalidTimes" (He.ga K "InvalidTimes") (He.ma K (He.ga K "InvalidTimes") "__init__") "ValueError" "ValueError.__new__" "ValueError.__init__" [.type "ValueError", .type "Exception", .type "BaseException", .type "object"] ["value"] (shape1 "value")
def bInvalidDay (K : PySem.W.Frag) : Bool := clB K PySem.Challenge.pw_namechains_k10_errors_and_limits "InvalidDay" (He.ga K "InvalidDay") (He.ma K (He.ga K "InvalidDay") "__init__") "ValueError" "ValueError.__new__" "ValueError.__init__" [.type "ValueError", .type "Exception", .type "BaseException", .type "object"] ["value"] (shape1 "value")
def bInvalidTable (K : PySem.W.Frag) : Bool := clB K PySem.Challenge.pw_namechains_k10_errors_and_limits "InvalidTable" (He.ga K "InvalidTable") (He.ma K (He.ga K "InvalidTable") "__init__") "ValueError" "ValueError.__new__" "ValueError.__init__" [.type "ValueError", .type "Exception", .type "BaseException", .type "object"] ["value"] (shape1 "value")
def bInvalidCount (K : PySem.W.Frag) : Bool := clB K PySem.Challenge.pw_namechains_k10_errors_and_limits "InvalidCount" (He.ga K "InvalidCount") (He.ma K (He.ga K "InvalidCount") "__init__") "ValueError" "ValueError.__new__" "ValueError.__init__" [.type "ValueError", .type "Exception", .type "BaseException", .type "object"] ["value"] (shape1 "value")
def bInvalidLogs (K : PySem.W.Frag) : Bool := clB K PySem.Challenge.pw_namechains_k10_errors_and_limits "InvalidLogs" (He.ga K "InvalidLogs") (He.ma K (He.ga K "InvalidLogs") "__init__") "ValueError" "ValueError.__new__" "ValueError.__init__" [.type "ValueError", .type "Exception", .type "BaseException", .type "object"] ["value"] (shape1 "value")
def bInvalidStatement (K : PySem.W.Frag) : Bool := clB K PySem.Challenge.pw_namechains_k10_errors_and_limits "InvalidStatement" (He.ga K "InvalidStatement") (He.ma K (He.ga K "InvalidStatement") "__init__") "ValueError" "ValueError.__new__" "ValueError.__init__" [.type "ValueError", .type "Exception", .type "BaseException", .type "object"] ["index"] (shape1 "index")
def bInvalidPart (K : PySem.W.Frag) : Bool := clB K PySem.Challenge.pw_namechains_k10_errors_and_limits "InvalidPart" (He.ga K "InvalidPart") (He.ma K (He.ga K "InvalidPart") "__init__") "ValueError" "ValueError.__new__" "ValueError.__init__" [.type "ValueError", .type "Exception", .type "BaseException", .type "object"] ["index"] (shape1 "index")
def bInvalidGuard (K : PySem.W.Frag) : Bool := clB K PySem.Challenge.pw_namechains_k10_errors_and_limits "InvalidGuard" (He.ga K "InvalidGuard") (He.ma K (He.ga K "InvalidGuard") "__init__") "ValueError" "ValueError.__new__" "ValueError.__init__" [.type "ValueError", .type "Exception", .type "BaseException", .type "object"] ["index"] (shape1 "index")
def bInvalidText (K : PySem.W.Frag) : Bool := clB K PySem.Challenge.pw_namechains_k10_errors_and_limits "InvalidText" (He.ga K "InvalidText") (He.ma K (He.ga K "InvalidText") "__init__") "ValueError" "ValueError.__new__" "ValueError.__init__" [.type "ValueError", .type "Exception", .type "BaseException", .type "object"] ["index"] (shape1 "index")
def bInvalidLine (K : PySem.W.Frag) : Bool := clB K PySem.Challenge.pw_namechains_k10_errors_and_limits "InvalidLine" (He.ga K "InvalidLine") (He.ma K (He.ga K "InvalidLine") "__init__") "ValueError" "ValueError.__new__" "ValueError.__init__" [.type "ValueError", .type "Exception", .type "BaseException", .type "object"] ["line", "index"] (shape2 "line" "index")
def bInvalidRow (K : PySem.W.Frag) : Bool := clB K PySem.Challenge.pw_namechains_k10_errors_and_limits "InvalidRow" (He.ga K "InvalidRow") (He.ma K (He.ga K "InvalidRow") "__init__") "ValueError" "ValueError.__new__" "ValueError.__init__" [.type "ValueError", .type "Exception", .type "BaseException", .type "object"] ["row"] (shape1 "row")
def bRepeated (K : PySem.W.Frag) : Bool := clB K PySem.Challenge.pw_namechains_k10_errors_and_limits "Repeated" (He.ga K "Repeated") (He.ma K (He.ga K "Repeated") "__init__") "ValueError" "ValueError.__new__" "ValueError.__init__" [.type "ValueError", .type "Exception", .type "BaseException", .type "object"] ["index"] (shape1 "index")
def bNotDone (K : PySem.W.Frag) : Bool := clB K PySem.Challenge.pw_namechains_k10_errors_and_limits "NotDone" (He.ga K "NotDone") (He.ma K (He.ga K "NotDone") "__init__") "ValueError" "ValueError.__new__" "ValueError.__init__" [.type "ValueError", .type "Exception", .type "BaseException", .type "object"] ["index"] (shape1 "index")
def bOutOfRange (K : PySem.W.Frag) : Bool := clB K PySem.Challenge.pw_namechains_k10_errors_and_limits "OutOfRange" (He.ga K "OutOfRange") (He.ma K (He.ga K "OutOfRange") "__init__") "LookupError" "LookupError.__new__" "LookupError.__init__" [.type "LookupError", .type "Exception", .type "BaseException", .type "object"] ["value"] (shape1 "value")
def bNotMeant (K : PySem.W.Frag) : Bool := clB K PySem.Challenge.pw_namechains_k10_errors_and_limits "NotMeant" (He.ga K "NotMeant") (He.ma K (He.ga K "NotMeant") "__init__") "LookupError" "LookupError.__new__" "LookupError.__init__" [.type "LookupError", .type "Exception", .type "BaseException", .type "object"] ["word"] (shape1 "word")
def bMissing (K : PySem.W.Frag) : Bool := clB K PySem.Challenge.pw_namechains_k10_errors_and_limits "Missing" (He.ga K "Missing") (He.ma K (He.ga K "Missing") "__init__") "LookupError" "LookupError.__new__" "LookupError.__init__" [.type "LookupError", .type "Exception", .type "BaseException", .type "object"] ["index"] (shape1 "index")
def bTooMany (K : PySem.W.Frag) : Bool := clB K PySem.Challenge.pw_namechains_k10_errors_and_limits "TooMany" (He.ga K "TooMany") (He.ma K (He.ga K "TooMany") "__init__") "OverflowError" "OverflowError.__new__" "OverflowError.__init__" [.type "OverflowError", .type "ArithmeticError", .type "Exception", .type "BaseException", .type "object"] ["limit"] (shape1 "limit")
def bBroken (K : PySem.W.Frag) : Bool := clB K PySem.Challenge.pw_namechains_k10_errors_and_limits "Broken" (He.ga K "Broken") (He.ma K (He.ga K "Broken") "__init__") "RuntimeError" "RuntimeError.__new__" "RuntimeError.__init__" [.type "RuntimeError", .type "Exception", .type "BaseException", .type "object"] ["index"] (shape1 "index")
def bClosed (K : PySem.W.Frag) : Bool := clB K PySem.Challenge.pw_namechains_k10_errors_and_limits "Closed" (He.ga K "Closed") (He.ma K (He.ga K "Closed") "__init__") "RuntimeError" "RuntimeError.__new__" "RuntimeError.__init__" [.type "RuntimeError", .type "Exception", .type "BaseException", .type "object"] ["index"] (shape1 "index")
def bForked (K : PySem.W.Frag) : Bool := clB K PySem.Challenge.pw_namechains_k10_errors_and_limits "Forked" (He.ga K "Forked") (He.ma K (He.ga K "Forked") "__init__") "RuntimeError" "RuntimeError.__new__" "RuntimeError.__init__" [.type "RuntimeError", .type "Exception", .type "BaseException", .type "object"] ["word", "line"] (shape2 "word" "line")
theorem tx_index : NCX.Tx1 "index" := ⟨by decide, by decide +kernel, by decide +kernel, by decide +kernel, by decide +kernel⟩
theorem ac_index (p p' : Pos) (us : List Value) (kw : List (Str × Value)) (vs : List Value) (h : Hand ["index"] us kw vs) : NCX.Acc (NCX.a1 "index" p p') ["index"] us kw vs := by
  obtain ⟨hl, h⟩ := h
  obtain ⟨v, rfl⟩ := one_of hl
  intro y fd e1 e2 e3
  obtain ⟨n1, n2, n3, n4, n5, n6, n7, n8, n9, n10, n11, n12, n13, n14, n15⟩ := fd
  cases e1
  cases e2
  cases e3
  rcases h with ⟨rfl, rfl⟩ | ⟨rfl, rfl⟩ | ⟨rfl, rfl⟩ <;> rfl
theorem tx_limit : NCX.Tx1 "limit" := ⟨by decide, by decide +kernel, by decide +kernel, by decide +kernel, by decide +kernel⟩
theorem ac_limit (p p' : Pos) (us : List Value) (kw : List (Str × Value)) (vs : List Value) (h : Hand ["limit"] us kw vs) : NCX.Acc (NCX.a1 "limit" p p') ["limit"] us kw vs := by
  obtain ⟨hl, h⟩ := h
  obtain ⟨v, rfl⟩ := one_of hl
  intro y fd e1 e2 e3
  obtain ⟨n1, n2, n3, n4, n5, n6, n7, n8, n9, n10, n11, n12, n13, n14, n15⟩ := fd
  cases e1
  cases e2
  cases e3
  rcases h with ⟨rfl, rfl⟩ | ⟨rfl, rfl⟩ | ⟨rfl, rfl⟩ <;> rfl
theorem tx_row : NCX.Tx1 "row" := ⟨by decide, by decide +kernel, by decide +kernel, by decide +kernel, by decide +kernel⟩
theorem ac_row (p p' : Pos) (us : List Value) (kw : List (Str × Value)) (vs : List Value) (h : Hand ["row"] us kw vs) : NCX.Acc (NCX.a1 "row" p p') ["row"] us kw vs := by
  obtain ⟨hl, h⟩ := h
  obtain ⟨v, rfl⟩ := one_of hl
  intro y fd e1 e2 e3
  obtain ⟨n1, n2, n3, n4, n5, n6, n7, n8, n9, n10, n11, n12, n13, n14, n15⟩ := fd
  cases e1
  cases e2
  cases e3
  rcases h with ⟨rfl, rfl⟩ | ⟨rfl, rfl⟩ | ⟨rfl, rfl⟩ <;> rfl
theorem tx_value : NCX.Tx1 "value" := ⟨by decide, by decide +kernel, by decide +kernel, by decide +kernel, by decide +kernel⟩
theorem ac_value (p p' : Pos) (us : List Value) (kw : List (Str × Value)) (vs : List Value) (h : Hand ["value"] us kw vs) : NCX.Acc (NCX.a1 "value" p p') ["value"] us kw vs := by
  obtain ⟨hl, h⟩ := h
  obtain ⟨v, rfl⟩ := one_of hl
  intro y fd e1 e2 e3
  obtain ⟨n1, n2, n3, n4, n5, n6, n7, n8, n9, n10, n11, n12, n13, n14, n15⟩ := fd
  cases e1
  cases e2
  cases e3
  rcases h with ⟨rfl, rfl⟩ | ⟨rfl, rfl⟩ | ⟨rfl, rfl⟩ <;> rfl
theorem tx_word : NCX.Tx1 "word" := ⟨by decide, by decide +kernel, by decide +kernel, by decide +kernel, by decide +kernel⟩
theorem ac_word (p p' : Pos) (us : List Value) (kw : List (Str × Value)) (vs : List Value) (h : Hand ["word"] us kw vs) : NCX.Acc (NCX.a1 "word" p p') ["word"] us kw vs := by
  obtain ⟨hl, h⟩ := h
  obtain ⟨v, rfl⟩ := one_of hl
  intro y fd e1 e2 e3
  obtain ⟨n1, n2, n3, n4, n5, n6, n7, n8, n9, n10, n11, n12, n13, n14, n15⟩ := fd
  cases e1
  cases e2
  cases e3
  rcases h with ⟨rfl, rfl⟩ | ⟨rfl, rfl⟩ | ⟨rfl, rfl⟩ <;> rfl
theorem tx_line_index : NCX.Tx2 "line" "index" := ⟨by decide, by decide, by decide +kernel, by decide +kernel, by decide +kernel, by decide +kernel, by decide +kernel, by decide +kernel, by decide +kernel⟩
theorem ac_line_index (p p' p'' : Pos) (us : List Value) (kw : List (Str × Value)) (vs : List Value) (h : Hand ["line", "index"] us kw vs) : NCX.Acc (NCX.a2 "line" "index" p p' p'') ["line", "index"] us kw vs := by
  obtain ⟨hl, h⟩ := h
  obtain ⟨v, u, rfl⟩ := two_of hl
  intro y fd e1 e2 e3
  obtain ⟨n1, n2, n3, n4, n5, n6, n7, n8, n9, n10, n11, n12, n13, n14, n15⟩ := fd
  cases e1
  cases e2
  cases e3
  rcases h with ⟨rfl, rfl⟩ | ⟨rfl, rfl⟩ | ⟨rfl, rfl⟩ <;> rfl
theorem tx_word_line : NCX.Tx2 "word" "line" := ⟨by decide, by decide, by decide +kernel, by decide +kernel, by decide +kernel, by decide +kernel, by decide +kernel, by decide +kernel, by decide +kernel⟩
theorem ac_word_line (p p' p'' : Pos) (us : List Value) (kw : List (Str × Value)) (vs : List Value) (h : Hand ["word", "line"] us kw vs) : NCX.Acc (NCX.a2 "word" "line" p p' p'') ["word", "line"] us kw vs := by
  obtain ⟨hl, h⟩ := h
  obtain ⟨v, u, rfl⟩ := two_of hl
  intro y fd e1 e2 e3
  obtain ⟨n1, n2, n3, n4, n5, n6, n7, n8, n9, n10, n11, n12, n13, n14, n15⟩ := fd
  cases e1
  cases e2
  cases e3
  rcases h with ⟨rfl, rfl⟩ | ⟨rfl, rfl⟩ | ⟨rfl, rfl⟩ <;> rfl
def clsK (K : PySem.W.Frag) : List Addr := [He.ga K "InvalidWord", He.ga K "InvalidChain", He.ga K "InvalidStretch", He.ga K "InvalidSubject", He.ga K "InvalidTimes", He.ga K "InvalidDay", He.ga K "InvalidTable", He.ga K "InvalidCount", He.ga K "InvalidLogs", He.ga K "InvalidStatement", He.ga K "InvalidPart", He.ga K "InvalidGuard", He.ga K "InvalidText", He.ga K "InvalidLine", He.ga K "InvalidRow", He.ga K "Repeated", He.ga K "NotDone", He.ga K "NotLeast", He.ga K "OutOfRange", He.ga K "NotMeant", He.ga K "Missing", He.ga K "TooMany", He.ga K "Broken", He.ga K "Closed", He.ga K "Forked"]
def srtB (K : PySem.W.Frag) (z : Str) (C : Addr) : Bool := decide (PySem.W.kitOne K (.ref C) (.type "ValueError") = some (z == "value")) && (decide (PySem.W.kitOne K (.ref C) (.type "LookupError") = some (z == "lookup")) && (decide (PySem.W.kitOne K (.ref C) (.type "OverflowError") = some (z == "overflow"))
  && (decide (PySem.W.kitOne K (.ref C) (.type "RuntimeError") = some (z == "runtime")) && decide (PySem.W.kitAny K (.ref C) [.type "IndexError", .type "KeyError", .type "NotImplementedError"] = some false))))
theorem srtB_ok {K : PySem.W.Frag} {z : Str} {C : Addr} (h : srtB K z C = true) (hz : z = "value" ∨ z = "lookup" ∨ z = "overflow" ∨ z = "runtime") : Sorted K C z := by
  simp only [srtB, Bool.and_eq_true, decide_eq_true_eq] at h
  obtain ⟨h1, h2, h3, h4, h5⟩ := h
  exact ⟨hz, h1, h2, h3, h4, h5⟩
def oneB (K : PySem.W.Frag) (cs : List Addr) (C : Addr) : Bool := cs.all (fun c => (PySem.W.kitOne K (.ref C) (.ref c)).isSome) && decide (countIn (.bool true) ((cs.map fun c => (PySem.W.kitOne K (.ref C) (.ref c)).getD false).map PyData.bool) = 1)
theorem oneB_ok {K : PySem.W.Frag} {cs : List Addr} {C : Addr} (h : oneB K cs C = true) : ∃ q : Addr → Bool, (∀ c ∈ cs, PySem.W.kitOne K (.ref C) (.ref c) = some (q c)) ∧ countIn (.bool true) ((cs.map q).map PyData.bool) = 1 := by
  obtain ⟨h1, h2⟩ := Bool.and_eq_true_iff.mp h
  refine ⟨_, fun c hc => ?_, of_decide_eq_true h2⟩
  have z := List.all_eq_true.mp h1 c hc
  obtain ⟨b, e⟩ := Option.isSome_iff_exists.mp z
  rw [e] <;> rfl
def ex (K : PySem.W.Frag) : Bool := sysB K && (nolstB K && (bInvalidWord K && (bInvalidChain K && (bInvalidStretch K && (bInvalidSubject K && (bInvalidTimes K && (bInvalidDay K && (bInvalidTable K && (bInvalidCount K && (bInvalidLogs K && (bInvalidStatement K && (bInvalidPart K && (bInvalidGuard K && (bInvalidText K && (bInvalidLine K && (bInvalidRow K && (bRepeated K && (bNotDone K && (bOutOfRange K && (bNotMeant K && (bMissing K && (bTooMany K && (bBroken K && (bClosed K && (bForked K && (xfB K (He.ga K "NotLeast") && (eqo (PySem.W.nsIn K mainGlobals "NotLeast") (some (some (.ref (He.ga K "NotLeast")))) && (PySem.W.keepIn K (.ref (He.ga K "NotLeast")) && (PySem.W.excIn K (He.ga K "NotLeast") [.type "ValueError", .type "Exception", .type "BaseException", .type "object"] "ValueError.__new__" && ((clsK K).all (fun C => xfB K C && oneB K (clsK K) C) && ([He.ga K "InvalidWord", He.ga K "InvalidChain", He.ga K "InvalidStretch", He.ga K "InvalidSubject", He.ga K "InvalidTimes", He.ga K "InvalidDay", He.ga K "InvalidTable", He.ga K "InvalidCount", He.ga K "InvalidLogs", He.ga K "InvalidStatement", He.ga K "InvalidPart", He.ga K "InvalidGuard", He.ga K "InvalidText", He.ga K "InvalidLine", He.ga K "InvalidRow", He.ga K "Repeated", He.ga K "NotDone", He.ga K "NotLeast"].all (srtB K "value") && ([He.ga K "OutOfRange", He.ga K "NotMeant", He.ga K "Missing"].all (srtB K "lookup") && ([He.ga K "TooMany"].all (srtB K "overflow") && [He.ga K "Broken", He.ga K "Closed", He.ga K "Forked"].all (srtB K "runtime"))))))))))))))))))))))))))))))))))
abbrev hk : PySem.W.Hook := hookN 5 fa fn [] ex
def ob (s : PySem.W.SharedT) : AlN := obsN 5 fa fn [] ex (HandSHeadRun.getT s)
theorem ob_eq (s : PySem.W.SharedT) : ob s = hk.obs s.abs := obsN_eq s
def names : List PySem.Str := (["InvalidWord", "InvalidChain", "InvalidStretch", "InvalidSubject", "InvalidTimes", "InvalidDay", "InvalidTable", "InvalidCount", "InvalidLogs", "InvalidStatement"] : List PySem.Str) ++ (["InvalidPart", "InvalidGuard", "InvalidText", "InvalidLine", "InvalidRow", "Repeated", "NotDone", "NotLeast", "OutOfRange", "NotMeant"] : List PySem.Str) ++ (["Missing", "TooMany", "Broken", "Closed", "Forked", "LIMIT", "MAX_LETTERS", "MAX_NAMES", "MAX_ASKED", "MAX_STATEMENTS"] : List PySem.Str) ++ (["MAX_CHAINS", "MAX_TIMES", "_law_pen", "_law_draw", "_law_pick", "_law_any_value", "_law_some_errors", "_law_other_errors", "_law_classes", "_law_sorts"] : List PySem.Str)
theorem run (w : World) : HandSHeadRun.RunEq R (PySem.W.view R.prog [42]) hk ob 20000 names w := by
  intro os
  kernel_rfl
theorem facts {P : Program} (hP : P = PySem.Challenge.pw_namechains_k10_errors_and_limits) {h : Heap} {K : PySem.W.Frag} {mg : Str → Option Value} (X : K.In h) (G : h.Ns mainGlobals mg) (c : SaysN fa fn [] ex h K) : ∃ V : V10 P K mg, V.aLaw = He.ga K "law" ∧ L10 V := by
  subst hP
  have e := c.more
  unfold ex at e
  simp only [Bool.and_eq_true] at e
  obtain ⟨eSys, _, zInvalidWord, zInvalidChain, zInvalidStretch, zInvalidSubject, zInvalidTimes, zInvalidDay, zInvalidTable, zInvalidCount, zInvalidLogs, zInvalidStatement, zInvalidPart, zInvalidGuard, zInvalidText, zInvalidLine, zInvalidRow, zRepeated, zNotDone, zOutOfRange, zNotMeant, zMissing, zTooMany, zBroken, zClosed, zForked, nX, nG, nK, nI, eAll, sV, sL, sO, sR⟩ := e
  obtain ⟨ddPen, ffPen⟩ := c.d.def_ 0 (d := rowPen) rfl
  have mmPen := He.glo_ok X G (c.d.fact 0 (f := .glo "_law_pen") rfl)
  obtain ⟨ddDraw, ffDraw⟩ := c.d.def_ 1 (d := rowDraw) rfl
  have mmDraw := He.glo_ok X G (c.d.fact 1 (f := .glo "_law_draw") rfl)
  obtain ⟨ddPick, ffPick⟩ := c.d.def_ 2 (d := rowPick) rfl
  have mmPick := He.glo_ok X G (c.d.fact 2 (f := .glo "_law_pick") rfl)
  obtain ⟨ddAnyValue, ffAnyValue⟩ := c.d.def_ 3 (d := rowAnyValue) rfl
  have mmAnyValue := He.glo_ok X G (c.d.fact 3 (f := .glo "_law_any_value") rfl)
  obtain ⟨ddSomeErrors, ffSomeErrors⟩ := c.d.def_ 4 (d := rowSomeErrors) rfl
  have mmSomeErrors := He.glo_ok X G (c.d.fact 4 (f := .glo "_law_some_errors") rfl)
  obtain ⟨ddOtherErrors, ffOtherErrors⟩ := c.d.def_ 5 (d := rowOtherErrors) rfl
  have mmOtherErrors := He.glo_ok X G (c.d.fact 5 (f := .glo "_law_other_errors") rfl)
  obtain ⟨ddClasses, ffClasses⟩ := c.d.def_ 6 (d := rowClasses) rfl
  have mmClasses := He.glo_ok X G (c.d.fact 6 (f := .glo "_law_classes") rfl)
  obtain ⟨ddSorts, ffSorts⟩ := c.d.def_ 7 (d := rowSorts) rfl
  have mmSorts := He.glo_ok X G (c.d.fact 7 (f := .glo "_law_sorts") rfl)
  obtain ⟨ddLaw, ffLaw⟩ := c.d.def_ 8 (d := rowLaw) rfl
  have mmLaw := He.glo_ok X G (c.d.fact 8 (f := .glo "law") rfl)
  obtain ⟨tLIMIT, iLIMIT⟩ := He.int_ok X G (c.d.fact 26 (f := .int "LIMIT" 1000000000000000000000000000000) rfl)
  obtain ⟨tMAX_LETTERS, iMAX_LETTERS⟩ := He.int_ok X G (c.d.fact 27 (f := .int "MAX_LETTERS" 8) rfl)
  obtain ⟨tMAX_NAMES, iMAX_NAMES⟩ := He.int_ok X G (c.d.fact 28 (f := .int "MAX_NAMES" 4) rfl)
  obtain ⟨tMAX_ASKED, iMAX_ASKED⟩ := He.int_ok X G (c.d.fact 29 (f := .int "MAX_ASKED" 8) rfl)
  obtain ⟨tMAX_STATEMENTS, iMAX_STATEMENTS⟩ := He.int_ok X G (c.d.fact 30 (f := .int "MAX_STATEMENTS" 24) rfl)
  obtain ⟨tMAX_CHAINS, iMAX_CHAINS⟩ := He.int_ok X G (c.d.fact 31 (f := .int "MAX_CHAINS" 4) rfl)
  obtain ⟨tMAX_TIMES, iMAX_TIMES⟩ := He.int_ok X G (c.d.fact 32 (f := .int "MAX_TIMES" 9) rfl)
  have fr : ∀ x ∈ free, mg x = none := by
    intro x hx
    simp only [free, List.mem_cons, List.not_mem_nil, or_false] at hx
    rcases hx with rfl | rfl | rfl | rfl | rfl | rfl | rfl | rfl | rfl | rfl | rfl | rfl | rfl | rfl | rfl | rfl | rfl
    · exact He.free_ok X G (c.d.fact 9 (f := .free "len") rfl)
    · exact He.free_ok X G (c.d.fact 10 (f := .free "int") rfl)
    · exact He.free_ok X G (c.d.fact 11 (f := .free "abs") rfl)
    · exact He.free_ok X G (c.d.fact 12 (f := .free "range") rfl)
    · exact He.free_ok X G (c.d.fact 13 (f := .free "repr") rfl)
    · exact He.free_ok X G (c.d.fact 14 (f := .free "min") rfl)
    · exact He.free_ok X G (c.d.fact 15 (f := .free "list") rfl)
    · exact He.free_ok X G (c.d.fact 16 (f := .free "isinstance") rfl)
    · exact He.free_ok X G (c.d.fact 17 (f := .free "zip") rfl)
    · exact He.free_ok X G (c.d.fact 18 (f := .free "super") rfl)
    · exact He.free_ok X G (c.d.fact 19 (f := .free "ValueError") rfl)
    · exact He.free_ok X G (c.d.fact 20 (f := .free "LookupError") rfl)
    · exact He.free_ok X G (c.d.fact 21 (f := .free "OverflowError") rfl)
    · exact He.free_ok X G (c.d.fact 22 (f := .free "RuntimeError") rfl)
    · exact He.free_ok X G (c.d.fact 23 (f := .free "IndexError") rfl)
    · exact He.free_ok X G (c.d.fact 24 (f := .free "KeyError") rfl)
    · exact He.free_ok X G (c.d.fact 25 (f := .free "NotImplementedError") rfl)
  refine ⟨{ cInvalidWord := He.ga K "InvalidWord", xInvalidWord := xcl1 bsV tx_value ac_value X G (clB_ok zInvalidWord), cInvalidChain := He.ga K "InvalidChain", xInvalidChain := xcl1 bsV tx_value ac_value X G (clB_ok zInvalidChain), cInvalidStretch := He.ga K "InvalidStretch", xInvalidStretch := xcl1 bsV tx_value ac_value X G (clB_ok zInvalidStretch), cInvalidSubject := He.ga K "InvalidSubject", xInvalidSubject := xcl1 bsV tx_value ac_value X G (clB_ok zInvalidSubject), cInvalidTimes := He.ga K "InvalidTimes", xInvalidTimes := xcl1 bsV tx_value ac_value X G (clB_ok zInvalidTimes), cInvalidDay := He.ga K "InvalidDay", xInvalidDay := xcl1 bsV tx_value ac_value X G (clB_ok zInvalidDay), cInvalidTable := He.ga K "InvalidTable", xInvalidTable := xcl1 bsV tx_value ac_value X G (clB_ok zInvalidTable), cInvalidCount := He.ga K "InvalidCount", xInvalidCount := xcl1 bsV tx_value ac_value X G (clB_ok zInvalidCount), cInvalidLogs := He.ga K "InvalidLogs", xInvalidLogs := xcl1 bsV tx_value ac_value X G (clB_ok zInvalidLogs), cInvalidStatement := He.ga K "InvalidStatement", xInvalidStatement := xcl1 bsV tx_index ac_index X G (clB_ok zInvalidStatement), cInvalidPart := He.ga K "InvalidPart", xInvalidPart := xcl1 bsV tx_index ac_index X G (clB_ok zInvalidPart), cInvalidGuard := He.ga K "InvalidGuard", xInvalidGuard := xcl1 bsV tx_index ac_index X G (clB_ok zInvalidGuard), cInvalidText := He.ga K "InvalidText", xInvalidText := xcl1 bsV tx_index ac_index X G (clB_ok zInvalidText), cInvalidLine := He.ga K "InvalidLine", xInvalidLine := xcl2 bsV tx_line_index ac_line_index X G (clB_ok zInvalidLine), cInvalidRow := He.ga K "InvalidRow", xInvalidRow := xcl1 bsV tx_row ac_row X G (clB_ok zInvalidRow), cRepeated := He.ga K "Repeated", xRepeated := xcl1 bsV tx_index ac_index X G (clB_ok zRepeated), cNotDone := He.ga K "NotDone", xNotDone := xcl1 bsV tx_index ac_index X G (clB_ok zNotDone), cNotLeast := He.ga K "NotLeast", xNotLeast := xfB_ok nX, gNotLeast := PySem.W.mg_of X G (of_decide_eq_true nG), kNotLeast := nK, iniNotLeast := nI, cOutOfRange := He.ga K "OutOfRange", xOutOfRange := xcl1 bsL tx_value ac_value X G (clB_ok zOutOfRange), cNotMeant := He.ga K "NotMeant", xNotMeant := xcl1 bsL tx_word ac_word X G (clB_ok zNotMeant), cMissing := He.ga K "Missing", xMissing := xcl1 bsL tx_index ac_index X G (clB_ok zMissing), cTooMany := He.ga K "TooMany", xTooMany := xcl1 bsO tx_limit ac_limit X G (clB_ok zTooMany), cBroken := He.ga K "Broken", xBroken := xcl1 bsR tx_index ac_index X G (clB_ok zBroken), cClosed := He.ga K "Closed", xClosed := xcl1 bsR tx_index ac_index X G (clB_ok zClosed), cForked := He.ga K "Forked", xForked := xcl2 bsR tx_word_line ac_word_line X G (clB_ok zForked), aPen := He.ga K "_law_pen", dPen := ddPen, fPen := ffPen, mPen := mmPen, aDraw := He.ga K "_law_draw", dDraw := ddDraw, fDraw := ffDraw, mDraw := mmDraw, aPick := He.ga K "_law_pick", dPick := ddPick, fPick := ffPick, mPick := mmPick, aAnyValue := He.ga K "_law_any_value", dAnyValue := ddAnyValue, fAnyValue := ffAnyValue, mAnyValue := mmAnyValue, aSomeErrors := He.ga K "_law_some_errors", dSomeErrors := ddSomeErrors, fSomeErrors := ffSomeErrors, mSomeErrors := mmSomeErrors, aOtherErrors := He.ga K "_law_other_errors", dOtherErrors := ddOtherErrors, fOtherErrors := ffOtherErrors, mOtherErrors := mmOtherErrors, aClasses := He.ga K "_law_classes", dClasses := ddClasses, fClasses := ffClasses, mClasses := mmClasses, aSorts := He.ga K "_law_sorts", dSorts := ddSorts, fSorts := ffSorts, mSorts := mmSorts, aLaw := He.ga K "law", dLaw := ddLaw, fLaw := ffLaw, mLaw := mmLaw, tLIMIT := tLIMIT, iLIMIT := iLIMIT, tMAX_LETTERS := tMAX_LETTERS, iMAX_LETTERS := iMAX_LETTERS, tMAX_NAMES := tMAX_NAMES, iMAX_NAMES := iMAX_NAMES, tMAX_ASKED := tMAX_ASKED, iMAX_ASKED := iMAX_ASKED, tMAX_STATEMENTS := tMAX_STATEMENTS, iMAX_STATEMENTS := iMAX_STATEMENTS, tMAX_CHAINS := tMAX_CHAINS, iMAX_CHAINS := iMAX_CHAINS, tMAX_TIMES := tMAX_TIMES, iMAX_TIMES := iMAX_TIMES, bl := fr, sys := sysB_ok eSys }, rfl, ?_⟩
  have ea : ∀ C ∈ clsK K, xfB K C = true ∧ oneB K (clsK K) C = true := fun C hC => Bool.and_eq_true_iff.mp (List.all_eq_true.mp eAll C hC)
  exact ⟨fun C hC => xfB_ok (ea C hC).1, fun C hC => oneB_ok (ea C hC).2, fun C hC => srtB_ok (List.all_eq_true.mp sV C hC) (.inl rfl), fun C hC => srtB_ok (List.all_eq_true.mp sL C hC) (.inr (.inl rfl)), fun C hC => srtB_ok (List.all_eq_true.mp sO C hC) (.inr (.inr (.inl rfl))), fun C hC => srtB_ok (List.all_eq_true.mp sR C hC) (.inr (.inr (.inr rfl)))⟩
end NC
open PySem PySem.W PySem.Calls PyProof.Rows
theorem PySem.Challenge.cw_namechains_k10_errors_and_limits_holds : PySem.Challenge.rw_namechains_k10_errors_and_limits.Holds := by
  w_on; o_law
  refine HandSHeadRun.head_any (r := NC.R) (q := view NC.R.prog [42]) (H := NC.hk) (ob := NC.ob) (M := 20000) (loose := NC.names) (d := HandSHeadRun.topDef NC.R.prog 42) (kwd := []) NC.ob_eq
    (by kernel_rfl) (fun s => by kernel_rfl) NC.run (by kernel_rfl) (by kernel_rfl) (by kernel_rfl) (by rfl) (by first | assumption | decide +kernel) (by decide +kernel) ⟨rfl, rfl, rfl, rfl, rfl, by decide +kernel⟩ ?hw ?hc
  case hw => w_witness2
  case hc =>
    refine NC.walk_ofG (l := PySem.Challenge.rw_namechains_k10_errors_and_limits) (n := 63) (k := 5) (x := "_law_script") rfl (by decide) (by kernel_rfl) ⟨rfl, by decide, by decide⟩ ?F
    intro w mg fa h Y G hmg0
    obtain ⟨K, KX, c⟩ := Y
    have hmg : mg ("law" : PySem.Str) = some (.ref fa) := by
      have e : (HandSHeadRun.topDef NC.R.prog 42).name = ("law" : PySem.Str) := by kernel_rfl
      rw [← e]
      exact hmg0
    obtain ⟨V, eV, L⟩ := NC.facts (P := PySem.Challenge.rw_namechains_k10_errors_and_limits.prog) rfl KX G c
    have ef := hmg.symm.trans V.mLaw
    cases ef
    have e := c.more
    unfold NC.ex at e
    have e2 := (Bool.and_eq_true_iff.mp (Bool.and_eq_true_iff.mp e).2).1
    have b := L2.FunD.bindsA (ps := ["_law_script"]) V.fLaw fun _ _ _ _ _ _ us hl => match us, hl with | [_], _ => rfl
    exact ⟨K, V.dLaw, NC.spLaw, KX, NC.nolstB_ok e2, fun s u => b s [u] rfl, fun H a ns hl _ _ hS => ⟨a, ns, rfl, hS, hl, fun _ => rfl⟩, fun base _ _ => NC.okLaw V L⟩
