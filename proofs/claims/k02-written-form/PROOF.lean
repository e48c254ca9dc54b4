import PyProof.Rows.All
import Wide.All
import OpenK.AllK
import Wide.FinOn
import HandS.ForMost
import HandS.Exc
import HandS.TryOnly
import HandS.ExcOwn
import HandS.WordsExc
import HandS.Wide
import HandS.WideBits
import HandS.StrMore
import HandS.Style
import HandS.Gcd
import HandS.Codes
import HandS.IsInst
import HandS.ExcInit
import HandS.ExcField
import HandS.SlotsOwn
import HandS.RaiseMore
import KE.KCallOwn
import KE.KOpsOwn
import KE.KExcSuper
import PySem.Challenge.RW_indicial_k02_written_form
import HandS.Defaults
import KE.RegKSuper
import KE.RegKIsAll
set_option Elab.async false
set_option linter.all false
set_option maxRecDepth 100000
set_option maxHeartbeats 4000000
namespace OW
open PySem PySem.Spec PyProof.Rows L2

/-! values -/
theorem RelV_ty (n : String) : RelV (.ty n) (.type n) := rfl

/-! ints of any size -/
def CFd (_ j : Int) : Prop := j ≠ 0 ∧ j.natAbs.log2 < 9000
section
variable {X : Cx}
theorem op_fdG : OpR X (binaryOp .FloorDiv) (rI CFd fun i j => .int (i.fdiv j)) := opI fun i j _ _ _ _ _ hc q => floordiv_int hc.1 q (.inl (PyProof.noPylong_of_log2 hc.2))
theorem op_mdG : OpR X (binaryOp .Mod) (rI (fun _ j => j ≠ 0) fun i j => .int (i.fmod j)) := op_modN

/-! instances of own classes -/
theorem ins_inst {pins : List (Addr × Obj)} {σ : L2.St} {H : Hp} {s : Shared} {a C dx : Addr} {fs : List (Str × V)} (I : Inv X pins σ H s) (h : H a = some (.ins C dx fs)) :
    ∃ od, PySem.W.InstAt s.heap a (PySem.W.instObj C dx) C (some od) := by
  obtain ⟨mA, O, _⟩ := ins_get I.hok h
  obtain ⟨od, J, _⟩ := O.look
  exact ⟨od, J⟩
/-- v is an instance of the class at C -/
def IsIn (C : Addr) (H : Hp) (v : V) : Prop := ∃ a dx fs, v = .ref a ∧ H a = some (.ins C dx fs)
variable {k j : Nat} {C : Addr} {m : Str} {sp : Sp}
def rOwn2 (C : Addr) (sp : Sp) : R2 := fun x y H Q => IsIn C H x ∧ IsIn C H y ∧ sp [x, y] H Q C8.E0
theorem op_own {op : Operator} (sf : PySem.W.selfFirst X.K C = true) (c : C8.Met X.prog X.w X.K X.mg X.base k C m sp []) (hr : Room j X.A) (hk : k ≤ j) (hm : PySem.dunder op.info.2 = m := by rfl) : OpR X (binaryOp op) (rOwn2 C sp) := by
  intro pins s σ H x y v u Q I rx ry h
  obtain ⟨⟨a, dx, fs, rfl, ha⟩, ⟨b, dy, gs, rfl, hb⟩, q⟩ := h
  obtain ⟨f, fd, ps, ds, hc, me, F, bi, d⟩ := c.ex
  cases (show v = Value.ref a from rx)
  cases (show u = Value.ref b from ry)
  obtain ⟨od, J⟩ := ins_inst I ha
  obtain ⟨od', J'⟩ := ins_inst I hb
  obtain ⟨mm, hF⟩ := I.fr
  subst hm
  refine PySem.W.binop_K (op := op) hF I.ok.mod.kin J J'.type sf me.at_ me.fn ?_
  refine wpAny_mono (run_fn (us := [.ref a, .ref b]) (vs := [.ref a, .ref b]) F (hr.mono hk) bi d C8.pass0 I (.cons rfl (.cons rfl .nil)) q) (fun w s' z => ?_) fun _ _ x => x
  obtain ⟨z', H', I', rz, qz⟩ := z
  exact SlX.cmpback rz ⟨z', H', I', rz, qz⟩
def rOwn1 (C : Addr) (sp : Sp) : V → Hp → VK → Prop := fun x H Q => IsIn C H x ∧ sp [x] H Q C8.E0
theorem un_own (c : C8.Met X.prog X.w X.K X.mg X.base k C "__neg__" sp []) (hr : Room j X.A) (hk : k ≤ j) : UnR X (unaryOp .USub) (rOwn1 C sp) := by
  intro pins s σ H x v Q I rx h
  obtain ⟨⟨a, dx, fs, rfl, ha⟩, q⟩ := h
  obtain ⟨f, fd, ps, ds, hc, me, F, bi, d⟩ := c.ex
  cases (show v = Value.ref a from rx)
  obtain ⟨od, J⟩ := ins_inst I ha
  obtain ⟨mm, hF⟩ := I.fr
  exact PySem.W.ksp_neg hF I.ok.mod.kin J me.at_ me.fn (run_fn (us := [.ref a]) (vs := [.ref a]) F (hr.mono hk) bi d C8.pass0 I (.cons rfl .nil) q)
theorem op_eqO (nf : PySem.W.notFirst X.K C (.ref C) = true) (c : C8.Met X.prog X.w X.K X.mg X.base k C "__eq__" sp []) (hr : Room j X.A) (hk : k ≤ j) : OpR X (compareOp .Eq) (rOwn2 C sp) := by
  intro pins s σ H x y v u Q I rx ry h
  obtain ⟨⟨a, dx, fs, rfl, ha⟩, ⟨b, dy, gs, rfl, hb⟩, q⟩ := h
  obtain ⟨f, fd, ps, ds, hc, me, F, bi, d⟩ := c.ex
  cases (show v = Value.ref a from rx)
  cases (show u = Value.ref b from ry)
  obtain ⟨od, J⟩ := ins_inst I ha
  obtain ⟨od', J'⟩ := ins_inst I hb
  obtain ⟨mm, hF⟩ := I.fr
  refine PySem.W.cmp_K (op := .Eq) (tb := .ref C) hr.units0 hF I.ok.mod.kin J J'.type nf me.at_ me.fn ?_
  refine wpAny_mono (run_fn (us := [.ref a, .ref b]) (vs := [.ref a, .ref b]) F (hr.mono hk) bi d C8.pass0 I (.cons rfl (.cons rfl .nil)) q) (fun w s' z => ?_) fun _ _ x => x
  obtain ⟨z', H', I', rz, qz⟩ := z
  exact SlX.cmpback rz ⟨z', H', I', rz, qz⟩
/-- str(x), x an instance with its own __str__ -/
theorem call_strO (c : C8.Met X.prog X.w X.K X.mg X.base k C "__str__" sp []) (hr : Room j X.A) (hk : k + 2 ≤ j) :
    CallR X (.type "str") (fun xs H Q => ∃ x, xs = [x] ∧ IsIn C H x ∧ sp [x] H (fun v H' => (∃ z, v = .str z) ∧ Q v H') C8.E0) := by
  intro pins s σ H xs us Q I r h
  obtain ⟨x, rfl, ⟨a, dx, fs, rfl, ha⟩, q⟩ := h
  obtain ⟨f, fd, ps, ds, hc, me, F, bi, d⟩ := c.ex
  obtain ⟨u, rfl, ru⟩ := r.one
  cases (show u = Value.ref a from ru)
  obtain ⟨od, J⟩ := ins_inst I ha
  have hr2 : Room k X.A.in1.in1 := (show Room (k + 1) X.A.in1 from Room.in1 (hr.mono hk)).in1
  refine PySem.W.kso_call hr2.units0 I.kIn J me.at_ me.fn ?_
  have r2 : Vals ([.ref a] ++ _) ([.ref a] ++ ds) := Paired.cons (show RelV (.ref a) (.ref a) from rfl) d
  have hl : ([Value.ref a] ++ ds).length = ps.length := by rw [← r2.length]; exact F.len _ _ _ _ q
  refine wpAny_call (codeAny_mono (F.run X.A.in1.in1 X.stack s H ⟨[.ref a], []⟩ ([.ref a] ++ ds) ([.ref a] ++ []) _ C8.E0 hr2 I.env0.in1.in1 (bi s [.ref a] I.kIn hl) r2 q) fun r s' hq => ?_)
  cases r with
  | error e => exact hq.elim
  | ok fl =>
    cases fl with
    | ret u =>
      obtain ⟨v, H', I', rv, ⟨z, rfl⟩, qq⟩ := I.after hq
      obtain ⟨t, rfl⟩ := (show ∃ t, u = Value.str z t from rv)
      exact ⟨.str z, H', I', ⟨t, rfl⟩, qq⟩
    | next => exact False.elim hq
    | brk => exact False.elim hq
    | cont => exact False.elim hq
end
end OW
/-! an own exception over an own class over ValueError, whose __init__ says super().__init__(arg); self.f = f -/
namespace PySem
namespace SupX
open PySem.W PySem.Calls PyProof.Rows PySem.HandSPX
def iA (fld : Str) (p1 p2 : Pos) : Arguments := { posonlyargs := [], args := [{ arg := "self", annotation := none, pos := p1 }, { arg := fld, annotation := none, pos := p2 }], vararg := none, kwonlyargs := [], kw_defaults := [], kwarg := none, defaults := [] }
def iB (fld : Str) (arg : Expr) (p0 p1 p2 p3 p4 q1 q2 q3 q4 : Pos) : List Stmt :=
  [.Expr (.Call (.Attribute (.Call (.Name "super" p0) [] [] p1) "__init__" p2) [arg] [] p3) p4, .Assign [.Attribute (.Name "self" q1) fld q2] (.Name fld q3) q4]
/-- where the parts stand -/
structure SPos where
  (p1 p2 p0 r1 r2 r3 r4 q1 q2 q3 q4 : Pos)
def iAp (fld : Str) (π : SPos) : Arguments := iA fld π.p1 π.p2
def iBp (fld : Str) (arg : Expr) (π : SPos) : List Stmt := iB fld arg π.p0 π.r1 π.r2 π.r3 π.r4 π.q1 π.q2 π.q3 π.q4
/-- what evaluating the argument of super().__init__ comes to: some value, the heap as it was -/
def ArgOk (prog : Program) (w : World) (mg : Str → Option Value) (sc : Scope) (fld : Str) (v : Value) (arg : Expr) : Prop :=
  ∀ (A : Around) (E : Value → Shared → Prop) (s : Shared) (env : Env) (m : Str → Option Value) (mb : Str → Option Value) (Q : Value → Shared → Prop),
    env.scope = sc → env.globals = mainGlobals → env.builtins = builtinsNs → s.heap.Ns env.locals m → m fld = some v → s.heap.Ns mainGlobals mg → s.heap.Ns builtinsNs mb → (∀ x : Str, x ≠ "__name__" → mb x = bootBuiltins x) →
    (∀ u tk, Q u { s with toks := tk }) → wpAny (model prog w) A (eval arg env) Q E s
structure SupTxt (prog : Program) (K : Frag) (mg : Str → Option Value) (nm : Str) (fld : Str) (sc : Scope) (arg : Expr) (π : SPos) (C fI cc cda : Addr) : Prop where
  gC : mg nm = some (.ref C)
  cls : ∃ nm q N bs bm sn sub ab col dd k0 k1 k2 k3 k5, K.lookup C = some (excClassObj nm q C N bs bm true sn sub ab col dd k0 k1 k2 k3 k5 "ValueError.__new__") ∧ refsVE bm = true
  sa : findIn K (.ref C) "__setattr__" = some (some (.builtin "object.__setattr__"))
  noN : findIn K (.ref C) fld = some none
  iC : findIn K (.ref C) "__init__" = some (some (.ref fI))
  tC : typeIn K (.ref fI) = some (.type "function")
  kC : keepIn K (.ref C) = true
  exC : subIn K (.ref C) (.type "BaseException") = some true
  tyC : typeIn K (.ref C) = some (.type "type")
  hdC : hasDictIn K C = true
  ga : findIn K (.ref C) "__getattribute__" = some (some (.builtin "BaseException.__getattribute__"))
  gg : findIn K (.ref C) "__getattr__" = some none
  te : exmOne K (.ref C) (.ref C) = some true
  fn : ∃ (qual : Str) (oc : Value) (od : Option Addr) (doc pm : Value) (an : Option Addr) (ct : Value) (osl : Array (Option Value)),
    K.lookup fI = some ⟨oc, od, .func (ksFn "__init__" qual (iA fld π.p1 π.p2) (iB fld arg π.p0 π.r1 π.r2 π.r3 π.r4 π.q1 π.q2 π.q3 π.q4) sc .none .none doc pm an (.ref cda) ct cc), osl⟩ ∧ codeIn K (.ref cda) qual = true
  cd : ∃ ccl cdd vs ccs file tf, K.lookup cda = some ⟨ccl, cdd, .fields vs, ccs⟩ ∧ vs[2]? = some (.str file tf) ∧ ((prog.main.file : Str) == file) = true
  cell : ∃ cl cld csl, K.lookup cc = some ⟨cl, cld, .cell (some (.ref C)), csl⟩
  sup : ks_superIn K C C "__init__" = some (some (.builtin "ValueError.__init__"))
  isV : subIn K (.ref C) (.type "ValueError") = some true
  isC : mroIn K C (.ref C) = some true
  op : nsIn K cStatics "thirdparty.any" = some none
  ms : mg "super" = none
  ps : (prog.main.scope.names.lookup ("super" : Str)).isSome = false
  k1 : sc.kind = .function
  k2 : sc.isCoroutine = false
  k3 : sc.isGenerator = false
  n1 : sc.names.lookup ("super" : Str) = some .globalImplicit
  n2 : sc.names.lookup ("__class__" : Str) = some .free
  n3 : sc.names.lookup ("self" : Str) = some .local
  n4 : sc.names.lookup fld = some .local
  n5 : ∀ x ∈ sc.names, x.2 ≠ .cell
  fs : (("self" : Str) == fld) = false
  fd : (fld == ("__debug__" : Str)) = false
/-- what __init__ leaves of a fresh exception at x -/
structure InitEnd (h h' : Heap) (x C dx : Addr) (f : Str) (v : Value) : Prop where
  keep : ∀ b o, b ≠ x → h.get? b = some o → h'.get? b = some o
  obj : ∃ t1 : Addr, h'.get? x = some { cls := .ref C, dict := some dx, data := .fields #[.ref t1, .none, .none, .none, .bool false, .none] }
  dbig : h.objs.size ≤ dx
  dne : dx ≠ x
  ns : h'.Ns1 dx (fun y => if y = f then some v else none)
/-- a made one -/
structure OwnMade (h h' : Heap) (e C d : Addr) (f : Str) (v : Value) : Prop where
  keep : ∀ b o, h.get? b = some o → h'.get? b = some o
  new : h.objs.size ≤ e
  obj : ∃ oe vs, h'.get? e = some oe ∧ oe.cls = .ref C ∧ oe.dict = some d ∧ oe.data = .fields vs ∧ vs[1]? = some .none
  dbig : h.objs.size ≤ d
  dne : d ≠ e
  ns : h'.Ns1 d (fun y => if y = f then some v else none)
theorem one_size (v : Value) : [v].length ≤ sizeLine := by
  rw [sizeLine_eq]
  exact (by decide : 1 ≤ 16777216)
section
variable {prog : Program} {w : World} {A : Around} {E : Value → Shared → Prop} {h : Heap} {g : Array GenState} {d : Drawn} {t : Nat} {os : OsState}
variable {nm q : Str} {C N : Addr} {bs bm : List Value} {hdct : Bool} {sn : List Str} {sub : List Value} {ab : Bool} {col : Option Bool} {dd : Option Addr} {k0 k1 k2 k3 k5 : Option Value}
theorem call_bwV {u e t0 : Addr} {rest : List Value} {Q : Value → Shared → Prop}
    (hC : h.get? C = some (excClassObj nm q C N bs bm hdct sn sub ab col dd k0 k1 k2 k3 k5 "ValueError.__new__")) (he : h.get? e = some (HandSPX.excO C t0)) (hu : h.get? u = some (kxs_mw "ValueError.__init__" e)) (hrest : rest.length ≤ sizeLine)
    (hq : ∀ h' t1, (∀ b o, b ≠ e → h.get? b = some o → h'.get? b = some o) → h'.get? e = some (HandSPX.excO C t1) → Q .none ⟨h', g, d, t, os⟩) :
    wpAny (model prog w) A (call (.ref u) rest) Q E ⟨h, g, d, t, os⟩ := by
  refine wpAny_call (codeAny_of_tree ?_)
  show wpAny _ A.in1 (callAny (.ref u) ⟨rest, []⟩) _ _ _
  simp only [callAny]
  refine wpAny_bind (wpAny_load hu ?_)
  simp only [kxs_mw, show (Value.type "method-wrapper" == Value.type "method" || Value.type "method-wrapper" == Value.type "builtin_function_or_method" || Value.type "method-wrapper" == Value.type "method-wrapper") = true by decide, if_true]
  refine KFB.if_so (by decide) ?_
  refine wpAny_bind (check_bound_init F.excBase_ValueError.toExcCallFacts hC he rfl ?_)
  refine wpAny_bind (wpAny_pure (wpAny_pure ?_))
  refine ⟨Code.quiet_builtin _ (by decide +kernel), codeAny_builtin F.excBase_ValueError.initEntry ?_⟩
  rw [Around.under_plainId F.excBase_ValueError.init.plain _]
  wp_walk
  refine hq _ h.objs.size (fun b o hb ho => ?_) ?_
  · rw [Heap.get?_update_other _ _ (Ne.symm hb)]
    exact Heap.get?_push_of_some _ ho
  · rw [Heap.get?_update_self _ (Heap.get?_push_of_some _ he) rfl]
    rfl
end
section
variable {prog : Program} {w : World} {A : Around} {E : Value → Shared → Prop} {R : Result → Shared → Prop} {s : Shared} {K : Frag} {mg mb : Str → Option Value} {C fI cc cda : Addr} {nm fld : Str} {sc : Scope} {arg : Expr} {π : SPos}
/-- what holds of the very text: how it binds, that it is no interactive one, how the call is read -/
structure SupGen (fld : Str) (sc : Scope) (arg : Expr) (π : SPos) : Prop where
  bd : ∀ (qual : Str) (doc pm : Value) (an : Option Addr) (ct : Value) (cda cc : Addr) (a b : Value),
    bindArgs (ksFn "__init__" qual (iA fld π.p1 π.p2) (iB fld arg π.p0 π.r1 π.r2 π.r3 π.r4 π.q1 π.q2 π.q3 π.q4) sc .none .none doc pm an (.ref cda) ct cc) ⟨[a, b], []⟩ = (pure ([("self", a), (fld, b)] : List (Str × Value)) : Sem (List (Str × Value)))
  it : ∀ (q : Str) (L fI cc : Addr) (cd : Value), interactive (ksEnv q sc L fI cd cc) = false
  sw : ∀ (q : Str) (L fI cc : Addr) (cd : Value), swapsWith (.Call (.Attribute (.Call (.Name "super" π.p0) [] [] π.r1) "__init__" π.r2) [arg] [] π.r3) none π.r4.line (ksEnv q sc L fI cd cc) = pure false
  ev : ∀ (q : Str) (L fI cc : Addr) (cd : Value), ∃ pl : Sem Bool, eval (.Call (.Attribute (.Call (.Name "super" π.p0) [] [] π.r1) "__init__" π.r2) [arg] [] π.r3) (ksEnv q sc L fI cd cc) = (do
      let ov ← attributeBase (.Call (.Name "super" π.p0) [] [] π.r1) "__init__" (ksEnv q sc L fI cd cc) (eval (.Call (.Name "super" π.p0) [] [] π.r1) (ksEnv q sc L fI cd cc))
      standAt π.r2.atName
      let (f, first) ← holding [ov] (getMethod ov "__init__" pl)
      callWith π.r3 f first (backTo π.r3 (starEach [arg] (ksEnv q sc L fI cd cc))) [])
  st : ∀ env, starEach [arg] env = [(false, eval arg env)]
theorem sup_init (S : SupGen fld sc arg π) (T : SupTxt prog K mg nm fld sc arg π C fI cc cda) {x t0 : Addr} {v : Value} (ha : ArgOk prog w mg sc fld v arg) (X : K.In s.heap) (hlim : s.heap.NoLimit)
    (G : s.heap.Ns mainGlobals mg) (B : s.heap.Ns builtinsNs mb) (hB : ∀ x : Str, x ≠ "__name__" → mb x = bootBuiltins x) (hx : s.heap.get? x = some (excO C t0)) (hnx : K.lookup x = none) (hroom : A.depth < recursionLimit)
    (hq : ∀ h' tk dx, InitEnd s.heap h' x C dx fld v → R (.ok (.ret .none)) { s with heap := h', toks := tk }) :
    codeAny (model prog w) A (.call (.ref fI) ⟨[.ref x, v], []⟩) R s := by
  obtain ⟨qual, oc, od, doc, pm, an, ct, osl, ho, hcd⟩ := T.fn
  obtain ⟨p1, p2, p0, r1, r2, r3, r4, q1, q2, q3, q4⟩ := π
  obtain ⟨nmC, qC, N, bs, bm, sn, sub, ab, col, dd, k0, k1, k2, k3, k5, hC, hbm⟩ := T.cls
  obtain ⟨ccl, cdd, vs, ccs, file, tf, hcda, hvs, hfile⟩ := T.cd
  obtain ⟨cl, cld, csl, hcell⟩ := T.cell
  have hcl : clsIn K C = some { name := nmC, bases := bs, mro := .ref C :: bm, ns := N, qualname := qC, hasDict := true, slotNames := sn, subclasses := sub, abstract := ab, collection := col, hasDel := false } := by unfold clsIn; rw [hC] <;> rfl
  have hm := T.sup
  unfold ks_superIn at hm
  rw [hcl] at hm
  have hb : BindsTo s (ksFn "__init__" qual (iA fld p1 p2) (iB fld arg p0 r1 r2 r3 r4 q1 q2 q3 q4) sc .none .none doc pm an (.ref cda) ct cc) ⟨[.ref x, v], []⟩ [("self", .ref x), (fld, v)] := BindsTo.of_eq (S.bd ..)
  refine ks_codeAny_call_defAt (fd := ksFn "__init__" qual (iA fld p1 p2) (iB fld arg p0 r1 r2 r3 r4 q1 q2 q3 q4) sc .none .none doc pm an (.ref cda) ct cc) (body := iB fld arg p0 r1 r2 r3 r4 q1 q2 q3 q4) (binds := [("self", .ref x), (fld, v)]) hroom (X _ _ ho) rfl hlim (codeRec_of X hcd) rfl hb T.n5 ?_ (fun h₁ hns hk₁ => ?_) T.k2 T.k3 T.k1
  · intro y hy
    rcases List.mem_cons.mp hy with rfl | hy
    · exact T.n3
    · rcases List.mem_cons.mp hy with rfl | hy
      · exact T.n4
      · exact absurd hy (by simp)
  obtain ⟨hp, g, dr, tk, os⟩ := s
  have mS : (fun y => List.lookup y ([("self", Value.ref x), (fld, v)] : List (Str × Value)).reverse) "self" = some (Value.ref x) := by
    show List.lookup ("self" : Str) [(fld, v), ("self", Value.ref x)] = some (Value.ref x)
    simp only [List.lookup, T.fs, beq_self_eq_true]
  have mF : (fun y => List.lookup y ([("self", Value.ref x), (fld, v)] : List (Str × Value)).reverse) fld = some v := by
    show List.lookup fld [(fld, v), ("self", Value.ref x)] = some v
    simp only [List.lookup, beq_self_eq_true]
  generalize hm' : (fun y => List.lookup y ([("self", Value.ref x), (fld, v)] : List (Str × Value)).reverse) = m at mS mF hns
  have X₁ : K.In h₁ := X.keeps hk₁
  have hx₁ := hk₁ _ _ hx
  show _root_.PySem.wpAt _ _ (.func (iB fld arg p0 r1 r2 r3 r4 q1 q2 q3 q4) (ksEnv qual sc hp.objs.size fI (.ref cda) cc)) (execs (iB fld arg p0 r1 r2 r3 r4 q1 q2 q3 q4) (ksEnv qual sc hp.objs.size fI (.ref cda) cc)) _ _ _
  obtain ⟨pl, hev⟩ := S.ev qual hp.objs.size fI cc (.ref cda)
  refine ks_wpAt_execs_cons (ks_wpAt_Expr_any (ks_wpAt_MethodCall (pl := pl) ?_ hev) (hi := S.it ..) (hs := S.sw ..))
  have hCo := X₁ _ _ hC
  refine ks_wpAt_super_base (env := ksEnv qual sc hp.objs.size fI (.ref cda) cc) T.n1 T.n2 (by decide) rfl (X₁ _ _ ho) rfl rfl rfl (X₁ _ _ hcda) rfl hvs hfile T.ps ?_
  refine ks_loadName_global T.k1 T.n1 (loadGlobal_builtin (env := ksEnv qual sc hp.objs.size fI (.ref cda) cc) (G.keeps hk₁) T.ms (B.keeps hk₁) ((hB _ (by decide +kernel)).trans (by first | rfl | decide +kernel)) ⟨rfl, ?_⟩)
  refine wpAny_loadName_free T.k1 T.n2 rfl ⟨_, X₁ _ _ hcell, rfl⟩ ?_
  refine wpAny_loadName_local T.k1 T.n3 hns mS ?_
  refine ks_wpAny_isType_cls hCo rfl ⟨rfl, ?_⟩
  refine ks_wpAny_call_super hCo rfl hx₁ rfl (fun c e => nomatch e) (looks_mroIn X₁ T.isC) (fun h₂ hso hk₂ => ?_)
  have X₂ : K.In h₂ := X₁.keeps hk₂
  refine kxs_getMethod kxs_ValueError hso (looks_opaque X₂ T.op) (l₀ := .ref C :: bm) ?_ rfl X₂ hm ?_ (fun z => ?_) (by decide) ?_
  · exact fun A Q E s k q => wpAny_bind ((looks_clsIn X₂ hcl) A _ E s k (wpAny_pure q))
  · have I2 : InstAt h₂ x (excO C t0) C none := ⟨hk₂ _ _ hx₁, rfl, rfl, trivial⟩
    exact I2.type.andThen (looks_subIn X₂ T.isV)
  · rw [z] at hnx
    rw [hnx] at hC
    cases hC
  have hmw : (h₂.push (kxs_mw "ValueError.__init__" x)).get? h₂.objs.size = some (kxs_mw "ValueError.__init__" x) := Heap.get?_push_at rfl rfl
  have hk₃ : ∀ b o, h₂.get? b = some o → (h₂.push (kxs_mw "ValueError.__init__" x)).get? b = some o := fun b o e => Heap.get?_push_of_some _ e
  have hk12 : ∀ b o, h₁.get? b = some o → (h₂.push (kxs_mw "ValueError.__init__" x)).get? b = some o := fun b o e => hk₃ _ _ (hk₂ _ _ e)
  have hk03 : ∀ b o, hp.get? b = some o → (h₂.push (kxs_mw "ValueError.__init__" x)).get? b = some o := fun b o e => hk12 _ _ (hk₁ _ _ e)
  refine kxs_callWith (i := "ValueError.__init__") (x := x) (by rw [S.st]; rfl) ?_
  rw [S.st]
  refine evalArgs_plain (h := ?_)
  refine Calls.spliced_cons (ha _ _ _ _ m mb _ rfl rfl rfl (hns.keeps hk12) mF (G.keeps hk03) (B.keeps hk03) hB fun u tk3 => Calls.spliced_nil ⟨hmw, ?_⟩)
  refine call_bwV (hk12 _ _ hCo) (hk12 _ _ hx₁) hmw (one_size _) (fun h₄ t1 hk₄ hx₄ => ?_)
  -- self.f = f
  have xL : hp.objs.size ≠ x := Nat.ne_of_gt (Heap.lt_size hx)
  have hns4 : h₄.Ns hp.objs.size m := by
    obtain ⟨oL, es, ep, hL, r⟩ := hns.keeps hk12
    exact ⟨oL, es, ep, hk₄ _ _ xL hL, r⟩
  have X₄ : K.In h₄ := fun b o e => hk₄ b o (fun z => by rw [z, hnx] at e; cases e) ((X₁.keeps hk12) b o e)
  refine wpAt_of_wpAny ?_
  refine wpAny_execs_cons (plainObj_wpAny_Assign_Attribute ?_)
  refine wpAny_Name (wpAny_loadName_local T.k1 T.n4 hns4 mF ?_) T.fd
  refine wpAny_Name (wpAny_loadName_local T.k1 T.n3 hns4 mS ?_) (by decide)
  refine set_plain X₄ (ox := excO C t1) (od := none) ⟨hx₄, rfl, rfl, trivial⟩ T.sa ?_
  refine exc_osa X₄ hx₄ hcl (show refsVE (.ref C :: bm) = true from hbm) rfl T.noN (fun h₅ tk₅ dx k₅ dn dne hx₅ hn₅ => ?_)
  have z : hp.objs.size < h₄.objs.size := hns4.lt
  refine wpAny_execs_nil (hq h₅ tk₅ dx ⟨fun b o hb e => k₅ b o hb (hk₄ b o hb (hk03 b o e)), ⟨t1, hx₅⟩, Nat.le_of_lt (Nat.lt_of_lt_of_le z dn), dne, hn₅⟩)
theorem sup_made (S : SupGen fld sc arg π) (T : SupTxt prog K mg nm fld sc arg π C fI cc cda) {v : Value} (ha : ArgOk prog w mg sc fld v arg) (X : K.In s.heap) (hlim : s.heap.NoLimit)
    (G : s.heap.Ns mainGlobals mg) (B : s.heap.Ns builtinsNs mb) (hB : ∀ x : Str, x ≠ "__name__" → mb x = bootBuiltins x) (hroom : A.depth + 1 < recursionLimit)
    (hq : ∀ h' tk e d, OwnMade s.heap h' e C d fld v → R (.ok (.ret (.ref e))) { s with heap := h', toks := tk }) :
    codeAny (model prog w) A (.call (.ref C) ⟨[v], []⟩) R s := by
  obtain ⟨nm, q, N, bs, bm, sn, sub, ab, col, dd, k0, k1, k2, k3, k5, hC, hbm⟩ := T.cls
  obtain ⟨hp, g, dr, tk, os⟩ := s
  have k : ∀ b o, hp.get? b = some o → ((hp.push (kdv_tup [v])).push (excO C hp.objs.size)).get? b = some o := fun b o e => Heap.get?_push_of_some _ (Heap.get?_push_of_some _ e)
  have hget : ((hp.push (kdv_tup [v])).push (excO C hp.objs.size)).get? (hp.objs.size + 1) = some (excO C hp.objs.size) := by heap_get
  have hnx : K.lookup (hp.objs.size + 1) = none := by
    cases e : K.lookup (hp.objs.size + 1) with
    | none => rfl
    | some o =>
      have z : hp.get? (hp.objs.size + 1) = some o := X _ _ e
      exact absurd (Nat.lt_of_succ_lt (Heap.lt_size z)) (Nat.lt_irrefl _)
  refine call_own F.excBase_ValueError (fun X => refsVE_contains X bm hbm) (X _ _ hC) (looks_findIn X T.iC) (fun self => bind_fn X self T.tC) (one_size v) ?_
  refine sup_init (s := ⟨(hp.push (kdv_tup [v])).push (excO C hp.objs.size), g, dr, tk, os⟩) S T ha (X.keeps k) (hlim.keeps k) (G.keeps k) (B.keeps k) hB hget hnx ?_ fun h' tk' dx ⟨k', ⟨t1, hx⟩, dn, dne, hns⟩ => ?_
  · show A.depth + 1 < recursionLimit
    exact hroom
  · have old : ∀ b o, hp.get? b = some o → h'.get? b = some o := fun b o e => k' b o (Nat.ne_of_lt (Nat.lt_succ_of_lt (Heap.lt_size e))) (k b o e)
    have z : hp.objs.size + 1 + 1 ≤ dx := by
      first
        | (simpa only [Heap.size_push] using dn)
        | exact dn
        | (have q := dn; rw [Heap.size_push, Heap.size_push] at q; exact q)
    exact ⟨rfl, hq h' tk' (hp.objs.size + 1) dx ⟨old, Nat.le_succ _, ⟨_, _, hx, rfl, rfl, rfl, rfl⟩, Nat.le_trans (Nat.le_trans (Nat.le_succ _) (Nat.le_succ _)) z, dne, hns⟩⟩
end
end SupX
end PySem
namespace OW
open PySem PySem.Spec PyProof.Rows L2
theorem relO_one {v : V} {v' : Value} (r : RelV v v') (fld f : Str) : RelO (List.lookup f [(fld, v)]) (if f = fld then some v' else none) := by
  by_cases hw : f = fld
  · subst hw
    rw [if_pos rfl]
    have q : List.lookup f [(f, v)] = some v := by simp [List.lookup]
    rw [q]
    exact r
  · rw [if_neg hw]
    have qw : (f == fld) = false := by simpa using hw
    have q2 : List.lookup f [(fld, v)] = none := by simp [List.lookup, qw]
    rw [q2]
    trivial
section
variable {X : Cx} {C fI cc cda : Addr} {nm fld : Str} {sc : Scope} {arg : Expr} {π : PySem.SupX.SPos} {PV : V → Prop}
/-- C(e), C's __init__ of that form -/
def tMkSup (C : Addr) (fld : Str) (PV : V → Prop) (ta : TA) : L2.St → Hp → XK → Prop := fun σ H Q => ta σ H fun vs H1 => ∃ v, vs = [v] ∧ PV v ∧ ∀ d, H1 d = none → Q (.ref C) (some d) (upd H1 d (.xd [(fld, v)]))
theorem pmk_sup {a : Expr} {ta : TA} {p pos : Pos} {k : Nat} (S : PySem.SupX.SupGen fld sc arg π) (T : PySem.SupX.SupTxt X.prog X.K X.mg nm fld sc arg π C fI cc cda) (hA : ∀ v v', PV v → RelV v v' → PySem.SupX.ArgOk X.prog X.w X.mg sc fld v' arg)
    (hr : Room k X.A) (hg : Gl X nm) (ha : PA X [a] ta) (hdb : (nm == ("__debug__" : Str)) = false := by decide)
    (he : starEach (a :: []) X.env = (false, eval a X.env) :: starEach [] X.env := by rfl) (hpl : (backTo pos (starEach [] X.env)).any (·.1) = false := by rfl) :
    PMk X (.Call (.Name nm p) [a] [] pos) (tMkSup C fld PV ta) := by
  intro pins s σ H Q I h
  refine wpAny_Call_Name_kw (ld_glob I hg T.gC ?_ hdb)
  refine PySem.W.callWith_K (h₀ := X.base) I.ok.mod.kin T.kC (thn (ha.run pos pins s σ H _ I h) fun us s1 hh => ?_) he hpl
  obtain ⟨vs, H1, I1, r1, v, ev, pv, q1⟩ := hh
  subst ev
  refine ⟨I1.kIn, ?_⟩
  cases r1 with
  | cons rv rn =>
    rename_i v' us'
    cases rn
    show wpAny _ _ (call (.ref C) [v']) _ _ _
    have hlim := I1.nolimit
    obtain ⟨mb, b1, b2⟩ := I1.mod.blt
    have G1 := I1.mod.glob.keeps I1.bk
    have B1 := b1.keeps I1.bk
    have kI := I1.kIn
    obtain ⟨hp, g, dr, tk, os⟩ := s1
    refine wpAny_call (PySem.SupX.sup_made S T (hA v v' pv rv) kI hlim G1 B1 b2 (by have := hr.dp; omega) fun h' tk' e d M => ?_)
    show MkP X pins σ Q (.ref e) ⟨h', g, dr, tk', os⟩
    obtain ⟨oe, fv, hoe, hc, hd, hdat, h1⟩ := M.obj
    have hns := M.ns
    obtain ⟨G', g1, g2⟩ := restrict h' fun b => decide (b ≠ e)
    have gk : ∀ b, b ≠ e → G'.get? b = h'.get? b := fun b hb => g1 b (decide_eq_true hb)
    have ge : G'.get? e = none := g2 e (by simp)
    have old : ∀ b o, hp.get? b = some o → G'.get? b = some o := fun b o q => (gk b (Nat.ne_of_lt (Nat.lt_of_lt_of_le (Heap.lt_size q) M.new))).trans (M.keep b o q)
    have ob : ObjOk X.prog X.w (upd H1 d (.xd [(fld, v)])) G' d (.xd [(fld, v)]) :=
      ⟨_, hns.at (fun o q => (gk d M.dne).trans q), fun f => relO_one rv fld f⟩
    have J : Inv X pins σ (upd H1 d (.xd [(fld, v)])) ⟨G', g, dr, tk', os⟩ := I1.laid (t' := tk') old M.dbig ob
    refine ⟨e, oe, fv, ⟨G', g, dr, tk', os⟩, _, .ref C, some d, rfl, J, fun b o q => ?_, ge, hoe, ⟨hc, hd⟩, hdat, h1, ?_, rfl, I1.bare, raises_own T.exC T.tyC, q1 d (I1.hok.fresh M.dbig)⟩
    · by_cases hb : b = e
      · have q' : G'.get? b = some o := q
        rw [hb, ge] at q'; cases q'
      · exact (gk b hb).symm.trans q
    · rw [upd_ne (Ne.symm M.dne)]
      exact I1.hok.fresh M.new
/-- n.f, n the exception that the suite holds (at a; its class cls, its dict d) -/
def tByF (C : Addr) (fld : Str) (a : Addr) (cls : Value) (d : Option Addr) (te : TE) : TE := fun σ H Q => te σ H fun x H1 => x = .ref a ∧ cls = .ref C ∧ ∃ (dd : Addr) (v : V), d = some dd ∧ H1 dd = some (.xd [(fld, v)]) ∧ Q v H1
theorem pe_byF {prog : Program} {a : Addr} {oe : Obj} {cls : Value} {d : Option Addr} {pn : List (Addr × Obj)} {e : Expr} {te : TE} {pos : Pos} (T : PySem.SupX.SupTxt prog X.K X.mg nm fld sc arg π C fI cc cda) (hz : Zc cls d oe) (hf : ∃ vs, oe.data = .fields vs) (he : PE (X.suite a ((a, oe) :: pn)) e te)
    (hb : attributeBase e fld X.env (eval e X.env) = eval e X.env := by rfl) :
    PE (X.suite a ((a, oe) :: pn)) (.Attribute e fld pos) (tByF C fld a cls d te) := by
  refine ⟨fun pins s σ H Q I h => ?_⟩
  refine attr_of hb (thn (he.run pins s σ H _ I h) fun u s1 hh => ?_)
  obtain ⟨x, H1, I1, rx, ex, ec, dd, v, ed, ea, q⟩ := hh
  subst ex
  obtain rfl : u = Value.ref a := rx
  subst ec
  subst ed
  obtain ⟨ha, _⟩ := I1.pin (a, oe) (List.mem_append_left _ List.mem_cons_self)
  obtain ⟨vs, hd⟩ := hf
  have hx : ObjOk X.prog X.w H1 s1.heap dd (.xd [(fld, v)]) := I1.hok dd _ ea
  obtain ⟨mA, hns, hr⟩ := hx
  obtain ⟨od, ho, hl⟩ := lookIn_ns hns
  have l : List.lookup fld [(fld, v)] = some v := by simp [List.lookup]
  obtain ⟨u, hu, ru⟩ := RelO.some_of (v := v) (o := mA fld) (by rw [← l]; exact hr fld)
  have J : PySem.W.InstAt s1.heap a oe C (some od) := ⟨ha, hz.1, by unfold PySem.W.notCls; rw [hd] <;> rfl, by rw [hz.2]; exact ho⟩
  exact HandSPX.exc_get I1.kIn J T.ga T.gg T.exC (PySem.W.findObj_own T.hdC T.noN rfl (by rw [hl, hu])) (handed_of ru) ⟨v, H1, I1.tok _, ru, q⟩
end
end OW
namespace OW
open PySem PySem.Spec PyProof.Rows L2
/-! ### what stands in the text, by names -/
section
variable (K : PySem.W.Frag) (mg : Str → Option Value)
/-- the def st stands under the name x -/
def DefT (x : Str) (st : Stmt) (ps : List Str) : Prop := ∃ f fd, C8.Def K mg x st f fd ∧ Binds K fd ps []
/-- .. as the method m of the class at C -/
def MetT (C : Addr) (m qual : Str) (st : Stmt) (ps : List Str) : Prop := ∃ f fd, Cls K C ∧ Meth K C m f ∧ C8.Fun K m qual st f fd ∧ Binds K fd ps []
/-- .. as the __init__ of the class x at C, with these defaults -/
def MakT (x : Str) (C : Addr) (qual : Str) (st : Stmt) (ps : List Str) (dvs : List V) : Prop := ∃ f fd ds, Mk K C f ∧ mg x = some (.ref C) ∧ C8.Fun K "__init__" qual st f fd ∧ Binds K fd ps ds ∧ Vals dvs ds
end
section
variable {P : Program} {w : World} {K : PySem.W.Frag} {mg : Str → Option Value} {base : Heap} {k : Nat} {x m qual : Str} {st : Stmt} {N ps : List Str} {sp : Sp} {C : Addr} {dvs : List V}
abbrev Body (P : Program) (w : World) (K : PySem.W.Frag) (mg : Str → Option Value) (base : Heap) (k : Nat) (qual : Str) (st : Stmt) (N : List Str) (sp : Sp) : Prop :=
  ∀ (f : Addr) (cdv : Value) (A : Around) (outer : List Env) (s : Shared) (H : Hp) (vs : List V) (Q : VK) (E : XK), Room k (A.deeper (envOfC qual (C8.fnScope st) s.heap.objs.size f cdv)) → sp vs H Q E →
      ∃ t, PSs (cxOf C8.CX0 P w K mg base N qual (C8.fnScope st) f cdv A outer s H E).nox (C8.fnBody st) t ∧ t { nx := fun _ H' => Q .non H', rt := Q } (start N vs) H
abbrev BodyX (P : Program) (w : World) (K : PySem.W.Frag) (mg : Str → Option Value) (base : Heap) (k : Nat) (qual : Str) (st : Stmt) (N : List Str) (sp : Sp) : Prop :=
  ∀ (f : Addr) (cdv : Value) (A : Around) (outer : List Env) (s : Shared) (H : Hp) (vs : List V) (Q : VK) (E : XK), Room k (A.deeper (envOfC qual (C8.fnScope st) s.heap.objs.size f cdv)) → sp vs H Q E →
      ∃ t, PSs (cxOf (L2.CX P w) P w K mg base N qual (C8.fnScope st) f cdv A outer s H E) (C8.fnBody st) t ∧ t { nx := fun _ H' => Q .non H', rt := Q } (start N vs) H
theorem cal_of (D : DefT K mg x st ps) (S : FnScope N ps (C8.fnScope st)) (len : ∀ vs H Q E, sp vs H Q E → vs.length = ps.length) (hb : Body P w K mg base k x st N sp) : C8.Cal P w K mg base (k + 1) x sp [] := by
  obtain ⟨f, fd, F, b⟩ := D
  exact C8.cal0 F b .nil S len (hb f)
theorem met_of (D : MetT K C m qual st ps) (S : FnScope N ps (C8.fnScope st)) (len : ∀ vs H Q E, sp vs H Q E → vs.length = ps.length) (hb : Body P w K mg base k qual st N sp) : C8.Met P w K mg base (k + 1) C m sp [] := by
  obtain ⟨f, fd, c, me, F, b⟩ := D
  exact C8.met0 c me F b S len (hb f)
theorem mak_of (D : MakT K mg x C qual st ps dvs) (S : FnScope N ps (C8.fnScope st)) (len : ∀ vs H Q E, sp vs H Q E → vs.length = ps.length) (hb : Body P w K mg base k qual st N sp) : C8.Mak P w K mg base (k + 1) x C sp dvs := by
  obtain ⟨f, fd, ds, M, hm, F, b, d⟩ := D
  exact C8.mak0 M hm F b d S len (hb f)
/-- a def that may raise -/
structure CalX (P : Program) (w : World) (K : PySem.W.Frag) (mg : Str → Option Value) (base : Heap) (k : Nat) (x : Str) (sp : Sp) : Prop where
  ex : ∃ (f : Addr) (fd : FuncData) (ps : List Str), FnOk P w K mg base (L2.CX P w) k f fd ps sp ∧ mg x = some (.ref f) ∧ PySem.W.keepIn K (.ref f) = true ∧ Binds K fd ps []
theorem calX_of (D : DefT K mg x st ps) (S : FnScope N ps (C8.fnScope st)) (len : ∀ vs H Q E, sp vs H Q E → vs.length = ps.length) (hb : BodyX P w K mg base k x st N sp) : CalX P w K mg base (k + 1) x sp := by
  obtain ⟨f, fd, F, b⟩ := D
  obtain ⟨oc, od, dV, kV, doc, pm, an, cdv, ct, osl, rfl, lk, hcd⟩ := F.fn.ex
  exact ⟨f, _, ps, fn_of lk hcd S len fun A outer s H vs Q E hr h => hb f cdv A outer s H vs Q E hr h, F.mgf, F.kp, b⟩
/-- a def that may raise, where it does not -/
theorem cal_noX (c : CalX P w K mg base k x sp) : C8.Cal P w K mg base k x (fun vs H Q _ => sp vs H Q C8.E0) [] := by
  obtain ⟨f, fd, ps, F, a, b, d⟩ := c.ex
  refine ⟨f, fd, ps, [], ⟨fun vs H Q E h => F.len vs H Q C8.E0 h, fun A outer s H args us vs Q E hr e hb hv h => ?_⟩, a, b, d, .nil⟩
  refine codeAny_mono (F.run A outer s H args us vs Q C8.E0 hr e hb hv h) fun r s' hq => ?_
  cases r with
  | error er =>
    obtain ⟨_, _, _, _, _, _, _, _, _, _, _, _, z⟩ := hq
    exact z.elim
  | ok fl => cases fl <;> exact hq
/-- two promises of one def -/
theorem fn_or {CX : CXT} {f : Addr} {fd : FuncData} {s1 s2 : Sp} (a : FnOk P w K mg base CX k f fd ps s1) (b : FnOk P w K mg base CX k f fd ps s2) : FnOk P w K mg base CX k f fd ps (fun vs H Q E => s1 vs H Q E ∨ s2 vs H Q E) :=
  ⟨fun vs H Q E h => h.elim (a.len vs H Q E) (b.len vs H Q E), fun A outer s H args us vs Q E hr e hb hv h => h.elim (a.run A outer s H args us vs Q E hr e hb hv) (b.run A outer s H args us vs Q E hr e hb hv)⟩
/-- the same promise, weaker -/
theorem cal_imp {sp' : Sp} (c : C8.Cal P w K mg base k x sp dvs) (h : ∀ vs H Q E, sp' vs H Q E → sp vs H Q E) : C8.Cal P w K mg base k x sp' dvs := by
  obtain ⟨f, fd, ps, ds, F, a, b, c, d⟩ := c.ex
  exact ⟨f, fd, ps, ds, F.imp h, a, b, c, d⟩
theorem met_imp {sp' : Sp} (c : C8.Met P w K mg base k C m sp dvs) (h : ∀ vs H Q E, sp' vs H Q E → sp vs H Q E) : C8.Met P w K mg base k C m sp' dvs := by
  obtain ⟨f, fd, ps, ds, a, b, F, c, d⟩ := c.ex
  exact ⟨f, fd, ps, ds, a, b, F.imp h, c, d⟩
end
section
variable {X : Cx} {k j : Nat} {x : Str} {sp : Sp} {p pos : Pos} {e : Expr} {es : List Expr} {t : TA}
theorem pe_cX {W : WX} (c : CalX X.prog X.w X.K X.mg X.base k x sp) (hr : Room j X.A) (hk : k ≤ j) (tk : Takes X W) (hg : Gl X x) (ha : PA X (e :: es) t)
    (hdb : (x == ("__debug__" : Str)) = false := by decide) (he : starEach (e :: es) X.env = (false, eval e X.env) :: starEach es X.env := by rfl) (hpl : (backTo pos (starEach es X.env)).any (·.1) = false := by rfl) :
    PE X (.Call (.Name x p) (e :: es) [] pos) (tCallS sp (WE W) t) := by
  obtain ⟨f, fd, ps, F, hm, kp, b⟩ := c.ex
  exact pe_callS F (hr.mono hk) hg hm kp b (fun σ => passAt tk σ) ha hdb he hpl
theorem pe_c0 {dvs : List V} (c : C8.Cal X.prog X.w X.K X.mg X.base k x sp dvs) (hr : Room j X.A) (hk : k ≤ j) (hg : Gl X x) (hdb : (x == ("__debug__" : Str)) = false := by decide) : PE X (.Call (.Name x p) [] [] pos) (tCall sp dvs C8.E0 tNil) := by
  obtain ⟨f, fd, ps, ds, F, hm, kp, b, d⟩ := c.ex
  exact pe_call0 F (hr.mono hk) hg hm kp b d C8.pass0 hdb
end
/-! ### tests -/
theorem iY {b : Bool} {A B : Prop} (h : b = true) (a : A) : if b = true then A else B := by rw [if_pos h]; exact a
theorem iN {b : Bool} {A B : Prop} (h : b = false) (a : B) : if b = true then A else B := by rw [if_neg (by rw [h]; exact Bool.false_ne_true)]; exact a
theorem dY {c : Prop} [Decidable c] (h : c) : decide c = true := decide_eq_true h
theorem dN {c : Prop} [Decidable c] (h : ¬ c) : decide c = false := decide_eq_false h
theorem nY {c : Prop} [Decidable c] (h : ¬ c) : (!decide c) = true := by rw [decide_eq_false h]; rfl
theorem nN {c : Prop} [Decidable c] (h : c) : (!decide c) = false := by rw [decide_eq_true h]; rfl
theorem vint {i j : Int} (h : i ≠ j) : ¬ (V.int i = V.int j) := fun e => h (V.int.inj e)
theorem vstr {i j : Str} (h : i ≠ j) : ¬ (V.str i = V.str j) := fun e => h (V.str.inj e)
/-! ### heaps that only grew -/
theorem Same.new {H : Hp} {p : Addr} {o : HO} (h : H p = none) : Same H (upd H p o) := fun b u e => by rw [upd_ne (ne_of_none e h)]; exact e
theorem Same.new' {H H' : Hp} {p : Addr} {o : HO} (s : Same H H') (h : H' p = none) : Same H (upd H' p o) := s.trans (Same.new h)
/-- a write to an object that was not there at first -/
theorem Same.upd {H H' : Hp} {p : Addr} {o : HO} (s : Same H H') (h : H p = none) : Same H (L2.upd H' p o) := fun b u e => by rw [upd_ne (ne_of_none e h)]; exact s b u e
theorem Same.fresh {H H' : Hp} {p : Addr} (s : Same H H') (h : H' p = none) : H p = none := s.free h
/-! ### rationals as objects -/
def rf (q : Rat) : List (Str × V) := putF "d" (.int (q.den : Int)) (putF "n" (.int q.num) [])
theorem rf_n (q : Rat) : (rf q).lookup ("n" : Str) = some (.int q.num) := by
  unfold rf
  rw [lookup_putF, if_neg (by decide), lookup_putF, if_pos rfl]
theorem rf_d (q : Rat) : (rf q).lookup ("d" : Str) = some (.int (q.den : Int)) := by
  unfold rf
  rw [lookup_putF, if_pos rfl]
/-- no further name -/
theorem rf_no (q : Rat) {m : Str} (h1 : ¬ m = "d") (h2 : ¬ m = "n") : (rf q).lookup m = none := by
  unfold rf
  rw [lookup_putF, if_neg h1, lookup_putF, if_neg h2]
  all_goals rfl
/-- v is the Ratio of the value q -/
def RatAt (C : Addr) (H : Hp) (v : V) (q : Rat) : Prop := ∃ a dx, v = .ref a ∧ H a = some (.ins C dx (rf q))
theorem RatAt.keep {C : Addr} {H H' : Hp} {v : V} {q : Rat} (h : RatAt C H v q) (s : Same H H') : RatAt C H' v q := by
  obtain ⟨a, dx, e, h⟩ := h
  exact ⟨a, dx, e, s _ _ h⟩
theorem RatAt.isIn {C : Addr} {H : Hp} {v : V} {q : Rat} (h : RatAt C H v q) : IsIn C H v := by
  obtain ⟨a, dx, e, h⟩ := h
  exact ⟨a, dx, _, e, h⟩
/-! ### sizes -/
theorem mulX {i j : Int} {a b : Nat} (ha : i.natAbs < 2 ^ a) (hb : j.natAbs < 2 ^ b) (h : a + b ≤ 134217728 := by decide) : CMulX i j := mulx_ok ha hb h
theorem fdG {i j : Int} {b : Nat} (h0 : j ≠ 0) (hb : j.natAbs < 2 ^ b) (hp : 0 < b := by decide) (h : b ≤ 9000 := by decide) : CFd i j := ⟨h0, Nat.lt_of_lt_of_le (PySem.Flt.log2_lt_of hp hb) h⟩
/-! ### what divides out -/
theorem divInt_pos {n d : Int} (hd : 0 < d) : (Rat.divInt n d).num = n / (Nat.gcd n.natAbs d.natAbs : Int) ∧ ((Rat.divInt n d).den : Int) = d / (Nat.gcd n.natAbs d.natAbs : Int) := by
  rw [Rat.num_divInt, Rat.den_divInt, if_neg (by omega)]
  have e : d.gcd n = Nat.gcd n.natAbs d.natAbs := by rw [Int.gcd_comm]; rfl
  rw [e, Int.sign_eq_one_of_pos hd, Int.one_mul]
  refine ⟨rfl, ?_⟩
  rw [Int.natCast_ediv, Int.natAbs_of_nonneg (by omega)]
theorem divInt_neg {n d : Int} (hd : d < 0) : (Rat.divInt n d).num = n.fdiv (-(Nat.gcd n.natAbs d.natAbs : Int)) ∧ ((Rat.divInt n d).den : Int) = d.fdiv (-(Nat.gcd n.natAbs d.natAbs : Int)) := by
  have e : Rat.divInt n d = Rat.divInt (-n) (-d) := by rw [Rat.neg_divInt_neg]
  have h := divInt_pos (n := -n) (d := -d) (by omega)
  rw [← e, Int.natAbs_neg, Int.natAbs_neg] at h
  rw [h.1, h.2]
  have hg : (0 : Int) < (Nat.gcd n.natAbs d.natAbs : Int) := by
    have : 0 < Nat.gcd n.natAbs d.natAbs := Nat.gcd_pos_of_pos_right _ (by omega)
    omega
  have key : ∀ z : Int, (Nat.gcd n.natAbs d.natAbs : Int) ∣ z → -z / (Nat.gcd n.natAbs d.natAbs : Int) = z.fdiv (-(Nat.gcd n.natAbs d.natAbs : Int)) := fun z hz => by
    rw [Int.fdiv_eq_ediv_of_dvd (Int.neg_dvd.mpr hz), Int.ediv_neg, Int.neg_ediv_of_dvd hz]
  exact ⟨key n (Int.ofNat_dvd_left.mpr (Nat.gcd_dvd_left _ _)), key d (Int.ofNat_dvd_left.mpr (Nat.gcd_dvd_right _ _))⟩
theorem fd_pos {n d : Int} (hd : 0 < d) : n.fdiv (Nat.gcd n.natAbs d.natAbs : Int) = (Rat.divInt n d).num ∧ d.fdiv (Nat.gcd n.natAbs d.natAbs : Int) = ((Rat.divInt n d).den : Int) := by
  have e := divInt_pos (n := n) hd
  rw [Int.fdiv_eq_ediv_of_nonneg _ (Int.natCast_nonneg _), Int.fdiv_eq_ediv_of_nonneg _ (Int.natCast_nonneg _)]
  exact ⟨e.1.symm, e.2.symm⟩
theorem gcd_small {n d : Int} {k : Nat} (hd : d ≠ 0) (h : d.natAbs < 2 ^ k) : ((Nat.gcd n.natAbs d.natAbs : Nat) : Int) ≠ 0 ∧ ((Nat.gcd n.natAbs d.natAbs : Nat) : Int).natAbs < 2 ^ k := by
  have h1 : 0 < Nat.gcd n.natAbs d.natAbs := Nat.gcd_pos_of_pos_right _ (by omega)
  have h2 : Nat.gcd n.natAbs d.natAbs ≤ d.natAbs := Nat.le_of_dvd (by omega) (Nat.gcd_dvd_right _ _)
  exact ⟨by omega, Nat.lt_of_le_of_lt h2 h⟩
/-- what a made Ratio leaves -/
theorem make_heap {C : Addr} {H : Hp} {x dx : Addr} {q : Rat} {n : V} (hx : H x = none) (hdx : H dx = none) (ne : dx ≠ x) :
    Same H (L2.upd (L2.upd (L2.upd (L2.upd H dx (.own x)) x (.ins C dx [])) x (.ins C dx (putF "n" n []))) x (.ins C dx (rf q))) ∧ RatAt C (L2.upd (L2.upd (L2.upd (L2.upd H dx (.own x)) x (.ins C dx [])) x (.ins C dx (putF "n" n []))) x (.ins C dx (rf q))) (.ref x) q := by
  refine ⟨fun b o e => ?_, x, dx, rfl, upd_same⟩
  rw [upd_ne (ne_of_none e hx), upd_ne (ne_of_none e hx), upd_ne (ne_of_none e hx), upd_ne (ne_of_none e hdx)]
  exact e
theorem exm_self {K : PySem.W.Frag} {S : Addr} (h1 : PySem.W.subIn K (.ref S) (.type "BaseException") = some true) (h2 : PySem.W.isClsIn K S = true) (h3 : PySem.W.typeIn K (.ref S) = some (.type "type")) (h4 : PySem.W.subIn K (.ref S) (.ref S) = some true) :
    PySem.W.exmOne K (.ref S) (.ref S) = some true := by
  have e1 : (PySem.W.subIn K (.ref S) (.type "BaseException") == some true) = true := by rw [h1] <;> rfl
  have e2 : ((PySem.W.clsIn K S).isSome && PySem.W.typeIn K (.ref S) == some (.type "type")) = true := by
    have h2' : (PySem.W.clsIn K S).isSome = true := h2
    rw [h2', h3] <;> rfl
  show (if (PySem.W.subIn K (.ref S) (.type "BaseException") == some true) = true then (if ((PySem.W.clsIn K S).isSome && PySem.W.typeIn K (.ref S) == some (.type "type")) = true then PySem.W.subIn K (.ref S) (.ref S) else none) else none) = some true
  rw [if_pos e1, if_pos e2]
  exact h4
end OW
namespace TM
open PySem SX
open TL (numL)
/-- k digits -/
def fw : Nat → Nat → List Nat
  | 0, _ => []
  | k + 1, r => fw k (r / 10) ++ [48 + r % 10]
theorem fw_len : ∀ (k r : Nat), (fw k r).length = k
  | 0, _ => rfl
  | k + 1, r => by simp [fw, fw_len k]
theorem numL_fw {a : Nat} (ha : 0 < a) : ∀ (k r : Nat), r < 10 ^ k → numL (a * 10 ^ k + r) = numL a ++ fw k r
  | 0, r, h => by
    have e : r = 0 := by simpa using h
    subst e
    simp [fw]
  | k + 1, r, h => by
    have hp : 0 < 10 ^ k := Nat.pow_pos (by decide)
    have e1 : a * 10 ^ (k + 1) = 10 * (a * 10 ^ k) := by rw [Nat.pow_succ]; ac_rfl
    have h1 : 1 ≤ a * 10 ^ k := Nat.mul_pos ha hp
    have e2 : (a * 10 ^ (k + 1) + r) / 10 = a * 10 ^ k + r / 10 := by omega
    have e3 : (a * 10 ^ (k + 1) + r) % 10 = r % 10 := by omega
    have h2 : r / 10 < 10 ^ k := by rw [Nat.pow_succ] at h; omega
    rw [show numL (a * 10 ^ (k + 1) + r) = _ from TL.numL_step (by omega), e2, e3, numL_fw ha k _ h2]
    simp [fw]
theorem fw_zero : ∀ k, fw k 0 = List.replicate k 48
  | 0 => rfl
  | k + 1 => by
    show fw k (0 / 10) ++ [48 + 0 % 10] = _
    rw [show 0 / 10 = 0 from rfl, fw_zero k, List.replicate_succ']
theorem zpad : ∀ (k r : Nat), 0 < k → r < 10 ^ k → List.replicate (k - (numL r).length) 48 ++ numL r = fw k r
  | 0, r, h, _ => absurd h (by decide)
  | k + 1, r, _, h => by
    by_cases h10 : r < 10
    · rw [show numL r = _ from TL.numL_lt h10]
      show _ = fw k (r / 10) ++ [48 + r % 10]
      rw [show r / 10 = 0 by omega, fw_zero, show r % 10 = r by omega]
      simp
    · have hs : numL r = numL (r / 10) ++ [48 + r % 10] := TL.numL_step (by omega)
      have hk : 0 < k := by
        rcases Nat.eq_zero_or_pos k with e | e
        · subst e; simp at h; omega
        · exact e
      have ih := zpad k (r / 10) hk (by rw [Nat.pow_succ] at h; omega)
      rw [hs]
      show _ = fw k (r / 10) ++ [48 + r % 10]
      rw [← ih]
      simp
theorem zfill_num {k r : Nat} (hk : 0 < k) (h : r < 10 ^ k) : Txt.zfill (S (numL r)) (k : Int) = S (fw k r) := by
  have hl : (numL r).length ≤ k := TL.numL_len hk h
  unfold Txt.zfill
  rw [S_len]
  split
  · rename_i hle
    have e : (numL r).length = k := by omega
    have z := zpad k r hk h
    rw [e, Nat.sub_self] at z
    rw [← z]
    rfl
  · have hd : ∀ c, (S (numL r)).cps[0]? = some c → 48 ≤ c ∧ c ≤ 57 := fun c hc => by
      have hm : c ∈ numL r := by
        have : (numL r)[0]? = some c := by simpa [S] using hc
        exact List.mem_of_getElem? this
      exact TL.numL_digits r c hm
    have e : zfilled (S (numL r)) ((k : Int).toNat - (numL r).length) = Builtin.Str.padded (S (numL r)) ((k : Int).toNat - (numL r).length) 0 48 := by
      unfold zfilled
      split
      · rename_i hc; exact absurd (hd _ hc) (by omega)
      · rename_i hc; exact absurd (hd _ hc) (by omega)
      · rfl
    rw [e, ← zpad k r hk h]
    refine TL.ext_tl ?_
    unfold Builtin.Str.padded
    simp [S]
/-- the decimal text of an integer -/
def intL (n : Int) : List Nat := if n < 0 then 45 :: numL n.natAbs else numL n.natAbs
/-! ### reading -/
def isDig (l : List Nat) : Bool := !(l.isEmpty || (decide (1 < l.length) && l.head? == some 48)) && l.all fun c => decide (48 ≤ c) && decide (c ≤ 57)
def val (l : List Nat) : Nat := NumText.digitsVal l
def fin (neg : Bool) (n d : Nat) (sl : Bool) : Option (Int × Nat) :=
  if (sl && decide (d < 2)) || decide (Nat.gcd n d ≠ 1) || (neg && decide (n = 0)) then none else some (if neg then -(n : Int) else n, d)
def readL (l : List Nat) : Option (Int × Nat) :=
  let neg := l.head? == some 45
  let r := if neg then l.drop 1 else l
  match TL.par [47] [] r with
  | none => if isDig r then fin neg (val r) 1 false else none
  | some (p, q) => if isDig p && isDig q then fin neg (val p) (val q) true else none
theorem val_append (l m : List Nat) : val (l ++ m) = val l * 10 ^ m.length + val m := by
  have key : ∀ (m : List Nat) (a : Nat), m.foldl (fun acc c => acc * 10 + (c - 48)) a = a * 10 ^ m.length + m.foldl (fun acc c => acc * 10 + (c - 48)) 0 := by
    intro m
    induction m with
    | nil => intro a; simp
    | cons c r ih =>
      intro a
      rw [List.foldl_cons, List.foldl_cons, ih, ih (0 * 10 + (c - 48)), List.length_cons, Nat.pow_succ, Nat.add_mul]
      simp only [Nat.zero_mul, Nat.zero_add, Nat.mul_assoc]
      rw [Nat.mul_comm (10 ^ r.length) 10, Nat.add_assoc]
  show (l ++ m).foldl _ 0 = _
  rw [List.foldl_append, key]
  rfl
theorem isDig_num (n : Nat) : isDig (numL n) = true := by
  have h1 := TL.numL_ne n
  have h2 := TL.numL_digits n
  unfold isDig
  rw [Bool.and_eq_true]
  constructor
  · by_cases h : n < 10
    · rw [show numL n = _ from TL.numL_lt h]; rfl
    · -- the first digit is not 0
      have key : ∀ m : Nat, 0 < m → ∃ c r, numL m = c :: r ∧ c ≠ 48 := by
        intro m
        induction m using Nat.strongRecOn with
        | _ m ih =>
          intro hm
          by_cases h10 : m < 10
          · exact ⟨48 + m, [], TL.numL_lt h10, by omega⟩
          · obtain ⟨c, r, e, hc⟩ := ih (m / 10) (by omega) (by omega)
            exact ⟨c, r ++ [48 + m % 10], by rw [show numL m = _ from TL.numL_step (by omega)]; rw [show TL.numL (m / 10) = c :: r from e]; rfl, hc⟩
      obtain ⟨c, r, e, hc⟩ := key n (by omega)
      rw [e]
      simp [hc]
  · rw [List.all_eq_true]
    intro c hc
    have := h2 c hc
    simp [this.1, this.2]
theorem val_num (n : Nat) : val (numL n) = n := TL.numL_val n
theorem no47 (n : Nat) : 47 ∉ numL n := TL.numL_free (by omega)
theorem no45 (n : Nat) : 45 ∉ numL n := TL.numL_free (by omega)
theorem head_num (n : Nat) (t : List Nat) : ((numL n ++ t).head? == some 45) = false := by
  cases e : numL n with
  | nil => exact absurd e (TL.numL_ne n)
  | cons c r =>
    have : c ≠ 45 := fun z => no45 n (by rw [e, z]; simp)
    simp [this]
theorem par_num (n : Nat) (q : List Nat) : TL.par [47] [] (numL n ++ (47 :: q)) = some (numL n, q) := par_head (sep := []) q (no47 n)
theorem par_num0 (n : Nat) : TL.par [47] [] (numL n) = none := par_head_none (no47 n)
/-- the written form -/
def writ (n : Int) (d : Nat) : List Nat := intL n ++ (if d = 1 then [] else 47 :: numL d)
theorem sg (n : Int) : (n < 0 ∧ intL n = 45 :: numL n.natAbs) ∨ (0 ≤ n ∧ intL n = numL n.natAbs) := by
  unfold intL
  by_cases h : n < 0
  · exact .inl ⟨h, if_pos h⟩
  · exact .inr ⟨by omega, if_neg h⟩
theorem readL_neg (l : List Nat) : readL (45 :: l) = match TL.par [47] [] l with
  | none => if isDig l then fin true (val l) 1 false else none
  | some (p, q) => if isDig p && isDig q then fin true (val p) (val q) true else none := rfl
theorem readL_pos {l : List Nat} (h : (l.head? == some 45) = false) : readL l = match TL.par [47] [] l with
  | none => if isDig l then fin false (val l) 1 false else none
  | some (p, q) => if isDig p && isDig q then fin false (val p) (val q) true else none := by
  unfold readL
  simp only [h, Bool.false_eq_true, if_false]
theorem read_writ {n : Int} {d : Nat} (hd : 0 < d) (hg : Nat.gcd n.natAbs d = 1) : readL (writ n d) = some (n, d) := by
  unfold writ
  rcases sg n with ⟨h, e⟩ | ⟨h, e⟩
  · rw [e]
    by_cases h1 : d = 1
    · subst h1
      rw [if_pos rfl, List.append_nil, readL_neg, par_num0]
      simp only [isDig_num, if_true, val_num]
      unfold fin
      have e0 : n.natAbs ≠ 0 := by omega
      simp [hg, e0]
      omega
    · rw [if_neg h1, List.cons_append, readL_neg, par_num]
      simp only [isDig_num, Bool.and_self, if_true, val_num]
      unfold fin
      have e0 : n.natAbs ≠ 0 := by omega
      have e1 : ¬ d < 2 := by omega
      simp [hg, e0, e1]
      omega
  · rw [e]
    by_cases h1 : d = 1
    · subst h1
      rw [if_pos rfl, List.append_nil, readL_pos (by have := head_num n.natAbs []; rwa [List.append_nil] at this), par_num0]
      simp only [isDig_num, if_true, val_num]
      unfold fin
      simp [hg]
      omega
    · rw [if_neg h1, readL_pos (head_num _ _), par_num]
      simp only [isDig_num, Bool.and_self, if_true, val_num]
      unfold fin
      have e1 : ¬ d < 2 := by omega
      simp [hg, e1]
      omega
/-! ### bad texts -/
theorem par_cons {c : Nat} (h : c ≠ 47) (r : List Nat) : ∀ acc, TL.par [47] acc (c :: r) = TL.par [47] (acc ++ [c]) r := fun acc => TL.par_miss (TL.pre_of_head [] r h)
theorem par_acc : ∀ (r acc : List Nat), TL.par [47] acc r = (TL.par [47] [] r).map fun x => (acc ++ x.1, x.2)
  | [], acc => rfl
  | c :: r, acc => by
    by_cases h : c = 47
    · subst h
      have e : TL.pre [47] (47 :: r) = true := rfl
      rw [TL.par_hit e, TL.par_hit e]
      simp
    · rw [par_cons h, par_cons h, par_acc r (acc ++ [c]), par_acc r ([] ++ [c])]
      cases TL.par [47] [] r <;> simp
theorem notDig {l : List Nat} {c : Nat} (hm : c ∈ l) (hc : c < 48 ∨ 57 < c) : isDig l = false := by
  unfold isDig
  rw [Bool.and_eq_false_iff]
  right
  rw [List.all_eq_false]
  exact ⟨c, hm, by simp; omega⟩
theorem badHead {c : Nat} (r : List Nat) (h1 : c ≠ 45) (h2 : c ≠ 47) (hc : c < 48 ∨ 57 < c) : readL (c :: r) = none := by
  rw [readL_pos (by simp [h1]), par_cons h2, par_acc]
  cases TL.par [47] [] r with
  | none => simp [notDig (l := c :: r) (c := c) (by simp) hc]
  | some x => simp [notDig (l := c :: x.1) (c := c) (by simp) hc]
theorem badFix {n : Int} {d : Nat} {s : List Nat} {c : Nat} (hm : c ∈ s) (hc : c < 48 ∨ 57 < c) (h : 47 ∉ s ∨ ∃ s', s = 47 :: s' ∧ (isDig s' = false ∨ val s' < 2)) : readL (writ n d ++ s) = none := by
  have core : ∀ (ng : Bool), (match TL.par [47] [] (numL n.natAbs ++ ((if d = 1 then [] else 47 :: numL d) ++ s)) with
      | none => if isDig (numL n.natAbs ++ ((if d = 1 then [] else 47 :: numL d) ++ s)) then fin ng (val (numL n.natAbs ++ ((if d = 1 then [] else 47 :: numL d) ++ s))) 1 false else none
      | some (p, q) => if isDig p && isDig q then fin ng (val p) (val q) true else none) = none := by
    intro ng
    by_cases h1 : d = 1
    · rw [if_pos h1, List.nil_append]
      rcases h with h | ⟨s', e, h⟩
      · have e0 : TL.par [47] [] (numL n.natAbs ++ s) = none := par_head_none (by simp [no47, h])
        rw [e0]
        simp [notDig (l := numL n.natAbs ++ s) (c := c) (by simp [hm]) hc]
      · rw [e, par_num]
        rcases h with h | h
        · simp [h]
        · simp only [isDig_num, Bool.true_and]
          split
          · unfold fin; simp [h]
          · rfl
    · rw [if_neg h1, List.cons_append, par_num]
      simp [notDig (l := numL d ++ s) (c := c) (by simp [hm]) hc]
  unfold writ
  rcases sg n with ⟨_, e⟩ | ⟨_, e⟩
  · rw [e, List.append_assoc, List.cons_append, readL_neg]
    exact core true
  · rw [e, List.append_assoc, readL_pos (head_num _ _)]
    exact core false
def badTexts (t p : List Nat) : List (List Nat) :=
  [[], 43 :: t, 32 :: t, t ++ [32], 48 :: p, [45, 48], 45 :: 45 :: p, t ++ [47], 47 :: p, t ++ [47, 48],
   t ++ [47, 49], [50, 47, 52], [54, 47, 51], p ++ 47 :: p, t ++ [46, 48], [120], p ++ [47, 47, 55], [48, 47, 53], 45 :: (p ++ [45])]
theorem bad_none {n : Int} {d : Nat} (hd : 0 < d) : ∀ l ∈ badTexts (writ n d) (numL d), readL l = none := by
  intro l hl
  simp only [badTexts, List.mem_cons, List.not_mem_nil, or_false] at hl
  rcases hl with rfl | rfl | rfl | rfl | rfl | rfl | rfl | rfl | rfl | rfl | rfl | rfl | rfl | rfl | rfl | rfl | rfl | rfl | rfl
  · decide +kernel
  · exact badHead _ (by decide) (by decide) (by decide)
  · exact badHead _ (by decide) (by decide) (by decide)
  · exact badFix (c := 32) (by decide) (by decide) (.inl (by decide))
  · rw [readL_pos (by rfl), par_head_none (by simp [no47])]
    have e : isDig (48 :: numL d) = false := by
      have : 1 < (48 :: numL d).length := by
        have := List.length_pos_iff.mpr (TL.numL_ne d)
        simp; omega
      unfold isDig
      simp only [List.length_cons, List.head?_cons] at this ⊢
      simp [this]
    simp [e]
  · decide +kernel
  · rw [readL_neg, par_head_none (by simp [no47])]
    simp [notDig (l := 45 :: numL d) (c := 45) (by simp) (by decide)]
  · exact badFix (c := 47) (by decide) (by decide) (.inr ⟨[], rfl, .inl (by decide)⟩)
  · rw [readL_pos (by rfl)]
    have e : TL.par [47] [] (47 :: numL d) = some ([], numL d) := TL.par_hit rfl
    rw [e]
    simp [show isDig [] = false from rfl]
  · exact badFix (c := 47) (by decide) (by decide) (.inr ⟨[48], rfl, .inr (by decide)⟩)
  · exact badFix (c := 47) (by decide) (by decide) (.inr ⟨[49], rfl, .inr (by decide)⟩)
  · decide +kernel
  · decide +kernel
  · rw [readL_pos (head_num _ _), par_num]
    simp only [isDig_num, Bool.and_self, if_true, val_num]
    unfold fin
    by_cases h1 : d < 2
    · simp [h1]
    · have e : Nat.gcd d d ≠ 1 := by rw [Nat.gcd_self]; omega
      simp only [e, ne_eq, not_false_eq_true, decide_true, Bool.or_true, Bool.true_or, if_true]
  · exact badFix (c := 46) (by decide) (by decide) (.inl (by decide))
  · decide +kernel
  · rw [readL_pos (head_num _ _), par_num]
    simp [notDig (l := [47, 55]) (c := 47) (by decide) (by decide)]
  · decide +kernel
  · rw [readL_neg, par_head_none (by simp [no47])]
    simp [notDig (l := numL d ++ [45]) (c := 45) (by simp) (by decide)]
end TM
namespace K2
open PySem PySem.Spec PyProof.Rows L2 OW SX
def top (i : Nat) : Stmt := PySem.Challenge.pw_indicial_k02_written_form.main.body.getD i (.Pass ⟨0, 0, 0, 0⟩)
abbrev s_written_integer : Stmt := (top 9)
abbrev N_written_integer : List Str := ["n", "pieces", "low"]
theorem sc_written_integer : FnScope N_written_integer ["n"] (C8.fnScope s_written_integer) := ⟨rfl, rfl, rfl, by decide +kernel, rfl, by decide +kernel, by decide +kernel⟩
abbrev s_RatioU_initU : Stmt := (inClass (top 10) 0)
abbrev N_RatioU_initU : List Str := ["self", "n", "d", "common"]
theorem sc_RatioU_initU : FnScope N_RatioU_initU ["self", "n", "d"] (C8.fnScope s_RatioU_initU) := ⟨rfl, rfl, rfl, by decide +kernel, rfl, by decide +kernel, by decide +kernel⟩
abbrev s_RatioU_strU : Stmt := (inClass (top 10) 6)
abbrev N_RatioU_strU : List Str := ["self"]
theorem sc_RatioU_strU : FnScope N_RatioU_strU ["self"] (C8.fnScope s_RatioU_strU) := ⟨rfl, rfl, rfl, by decide +kernel, rfl, by decide +kernel, by decide +kernel⟩
abbrev s_uis_digits : Stmt := (top 11)
abbrev N_uis_digits : List Str := ["text", "sign"]
theorem sc_uis_digits : FnScope N_uis_digits ["text"] (C8.fnScope s_uis_digits) := ⟨rfl, rfl, rfl, by decide +kernel, rfl, by decide +kernel, by decide +kernel⟩
abbrev s_unumber : Stmt := (top 12)
abbrev N_unumber : List Str := ["text", "out", "at", "piece", "_"]
theorem sc_unumber : FnScope N_unumber ["text"] (C8.fnScope s_unumber) := ⟨rfl, rfl, rfl, by decide +kernel, rfl, by decide +kernel, by decide +kernel⟩
abbrev s_read_ratio : Stmt := (top 13)
abbrev N_read_ratio : List Str := ["text", "negative", "top", "slash", "bottom", "n", "d"]
theorem sc_read_ratio : FnScope N_read_ratio ["text"] (C8.fnScope s_read_ratio) := ⟨rfl, rfl, rfl, by decide +kernel, rfl, by decide +kernel, by decide +kernel⟩
abbrev s_ulaw_cell : Stmt := (top 15)
abbrev N_ulaw_cell : List Str := ["_law_script", "_law_k"]
theorem sc_ulaw_cell : FnScope N_ulaw_cell ["_law_script", "_law_k"] (C8.fnScope s_ulaw_cell) := ⟨rfl, rfl, rfl, by decide +kernel, rfl, by decide +kernel, by decide +kernel⟩
abbrev s_ulaw_draws : Stmt := (top 16)
abbrev N_ulaw_draws : List Str := ["_law_script", "_law_at", "_law_count", "_law_bound", "_law_cell_here", "_law_out", "_law_k", "_law_number", "_law_mixed"]
theorem sc_ulaw_draws : FnScope N_ulaw_draws ["_law_script", "_law_at", "_law_count", "_law_bound"] (C8.fnScope s_ulaw_draws) := ⟨rfl, rfl, rfl, by decide +kernel, rfl, by decide +kernel, by decide +kernel⟩
abbrev s_ulaw_gcd : Stmt := (top 17)
abbrev N_ulaw_gcd : List Str := ["_law_a", "_law_b", "_law_one", "_law_two", "_law_rest"]
theorem sc_ulaw_gcd : FnScope N_ulaw_gcd ["_law_a", "_law_b"] (C8.fnScope s_ulaw_gcd) := ⟨rfl, rfl, rfl, by decide +kernel, rfl, by decide +kernel, by decide +kernel⟩
abbrev s_ulaw_rat : Stmt := (top 18)
abbrev N_ulaw_rat : List Str := ["_law_n", "_law_d", "_law_common"]
theorem sc_ulaw_rat : FnScope N_ulaw_rat ["_law_n", "_law_d"] (C8.fnScope s_ulaw_rat) := ⟨rfl, rfl, rfl, by decide +kernel, rfl, by decide +kernel, by decide +kernel⟩
abbrev s_ulaw_is_integer : Stmt := (top 19)
abbrev N_ulaw_is_integer : List Str := ["_law_value"]
theorem sc_ulaw_is_integer : FnScope N_ulaw_is_integer ["_law_value"] (C8.fnScope s_ulaw_is_integer) := ⟨rfl, rfl, rfl, by decide +kernel, rfl, by decide +kernel, by decide +kernel⟩
abbrev s_ulaw_pair : Stmt := (top 20)
abbrev N_ulaw_pair : List Str := ["_law_value"]
theorem sc_ulaw_pair : FnScope N_ulaw_pair ["_law_value"] (C8.fnScope s_ulaw_pair) := ⟨rfl, rfl, rfl, by decide +kernel, rfl, by decide +kernel, by decide +kernel⟩
abbrev s_ulaw_digits : Stmt := (top 21)
abbrev N_ulaw_digits : List Str := ["_law_script", "_law_at", "_law_row", "_law_size", "_law_digits_here"]
theorem sc_ulaw_digits : FnScope N_ulaw_digits ["_law_script", "_law_at"] (C8.fnScope s_ulaw_digits) := ⟨rfl, rfl, rfl, by decide +kernel, rfl, by decide +kernel, by decide +kernel⟩
abbrev s_ulaw_whole : Stmt := (top 22)
abbrev N_ulaw_whole : List Str := ["_law_digits_here", "_law_out", "_law_d"]
theorem sc_ulaw_whole : FnScope N_ulaw_whole ["_law_digits_here"] (C8.fnScope s_ulaw_whole) := ⟨rfl, rfl, rfl, by decide +kernel, rfl, by decide +kernel, by decide +kernel⟩
abbrev s_ulaw_text : Stmt := (top 23)
abbrev N_ulaw_text : List Str := ["_law_n", "_law_out", "_law_rest", "_law_sign"]
theorem sc_ulaw_text : FnScope N_ulaw_text ["_law_n"] (C8.fnScope s_ulaw_text) := ⟨rfl, rfl, rfl, by decide +kernel, rfl, by decide +kernel, by decide +kernel⟩
abbrev s_ulaw_bad : Stmt := (top 24)
abbrev N_ulaw_bad : List Str := ["_law_text_here", "_law_plain", "_law_k", "_law_rows"]
theorem sc_ulaw_bad : FnScope N_ulaw_bad ["_law_text_here", "_law_plain", "_law_k"] (C8.fnScope s_ulaw_bad) := ⟨rfl, rfl, rfl, by decide +kernel, rfl, by decide +kernel, by decide +kernel⟩
abbrev s_law : Stmt := (top 25)
abbrev N_law : List Str := ["_law_script", "_law_n", "_law_d", "_law_row", "_law_a", "_law_text_here", "_law_where", "e"]
theorem sc_law : FnScope N_law ["_law_script"] (C8.fnScope s_law) := ⟨rfl, rfl, rfl, by decide +kernel, rfl, by decide +kernel, by decide +kernel⟩
/-! what the walk asks of the top -/
structure Txt (K : PySem.W.Frag) (mg : Str → Option Value) (C : Addr) : Prop where
  cl : Cls K C
  nN : NoAttr K C "n"
  nD : NoAttr K C "d"
  mgC : mg "Ratio" = some (.ref C)
  kit : PySem.W.findIn K (.ref C) "__class__" = some (some (.builtin "object.__class__")) ∧ PySem.W.specialIn K (.builtin "object.__class__") "__get__" = some (some (.builtin "getset_descriptor.__get__")) ∧ PySem.W.takesIn K (.builtin "object.__class__") = some true ∧ PySem.W.mroIn K C (.type "object") = some true ∧ PySem.W.kitOne K (.ref C) (.ref C) = some true
  ii : PySem.W.kitOne K (.type "int") (.type "int") = some true
  ib : PySem.W.kitOne K (.type "int") (.type "bool") = some false
  ss : PySem.W.kitOne K (.type "str") (.type "str") = some true
  ns : PySem.W.kitOne K (.type "NoneType") (.type "str") = some false
  is : PySem.W.kitOne K (.type "int") (.type "str") = some false
  ts : PySem.W.kitOne K (.type "tuple") (.type "str") = some false
  g_gcd : mg "gcd" = some (.builtin "math.gcd")
  c_PIECE : ∃ u, mg "PIECE" = some u ∧ RelV (.int 50) u
  c_DIGITS : ∃ u, mg "DIGITS" = some u ∧ RelV (.str "0123456789") u
  n_len : mg "len" = none
  n_abs : mg "abs" = none
  n_int : mg "int" = none
  n_str : mg "str" = none
  n_bool : mg "bool" = none
  n_range : mg "range" = none
  n_divmod : mg "divmod" = none
  n_isinstance : mg "isinstance" = none
  d_written_integer : DefT K mg "written_integer" s_written_integer ["n"]
  d_RatioU_initU : MakT K mg "Ratio" C "Ratio.__init__" s_RatioU_initU ["self", "n", "d"] []
  d_RatioU_strU : MetT K C "__str__" "Ratio.__str__" s_RatioU_strU ["self"]
  d_uis_digits : DefT K mg "_is_digits" s_uis_digits ["text"]
  d_unumber : DefT K mg "_number" s_unumber ["text"]
  d_read_ratio : DefT K mg "read_ratio" s_read_ratio ["text"]
  d_ulaw_cell : DefT K mg "_law_cell" s_ulaw_cell ["_law_script", "_law_k"]
  d_ulaw_draws : DefT K mg "_law_draws" s_ulaw_draws ["_law_script", "_law_at", "_law_count", "_law_bound"]
  d_ulaw_gcd : DefT K mg "_law_gcd" s_ulaw_gcd ["_law_a", "_law_b"]
  d_ulaw_rat : DefT K mg "_law_rat" s_ulaw_rat ["_law_n", "_law_d"]
  d_ulaw_is_integer : DefT K mg "_law_is_integer" s_ulaw_is_integer ["_law_value"]
  d_ulaw_pair : DefT K mg "_law_pair" s_ulaw_pair ["_law_value"]
  d_ulaw_digits : DefT K mg "_law_digits" s_ulaw_digits ["_law_script", "_law_at"]
  d_ulaw_whole : DefT K mg "_law_whole" s_ulaw_whole ["_law_digits_here"]
  d_ulaw_text : DefT K mg "_law_text" s_ulaw_text ["_law_n"]
  d_ulaw_bad : DefT K mg "_law_bad" s_ulaw_bad ["_law_text_here", "_law_plain", "_law_k"]
  d_law : DefT K mg "law" s_law ["_law_script"]
theorem Txt.c_Ratio {K : PySem.W.Frag} {mg : Str → Option Value} {C : Addr} (T : Txt K mg C) : ∃ u, mg "Ratio" = some u ∧ RelV (.ref C) u := ⟨_, T.mgC, rfl⟩
theorem Txt.tyR {K : PySem.W.Frag} {mg : Str → Option Value} {C : Addr} (T : Txt K mg C) {H : Hp} {v : V} {q : Rat} (h : RatAt C H v q) : TyX K H v (.ref C) := by
  obtain ⟨a, dx, rfl, h⟩ := h
  exact .base (.ins h T.cl T.kit.1 T.kit.2.1 T.kit.2.2.1 T.kit.2.2.2.1)
end K2
namespace K2
open PySem PySem.Spec PyProof.Rows L2 OW SX TM
section
variable {P : Program} {w : World} {K : PySem.W.Frag} {mg : Str → Option Value} {base : Heap} {C : Addr}
/-! ### _law_gcd -/
def spGcd : Sp := fun vs H Q _ => ∃ a b : Int, vs = [.int a, .int b] ∧ Q (.int (Nat.gcd a.natAbs b.natAbs : Nat)) H
theorem ok_gcd (T : Txt K mg C) : C8.Cal P w K mg base 1 "_law_gcd" spGcd [] := by
  refine cal_of T.d_ulaw_gcd sc_ulaw_gcd (fun vs H Q E h => ?_) (fun f cdv A outer s H vs Q E hr h => ?_)
  · obtain ⟨a, b, rfl, _⟩ := h
    rfl
  · obtain ⟨a, b, rfl, k⟩ := h
    refine ⟨_, (pss_cons (ps_set (i := 2) sc_ulaw_gcd.nd rfl (by first | exact Or.inl rfl | exact Or.inr rfl) (pe_callB call_abs (by rfl) T.n_abs (by decide +kernel) (pa_cons (pv 0) pa_nil)))
  (pss_cons (ps_set (i := 3) sc_ulaw_gcd.nd rfl (by first | exact Or.inl rfl | exact Or.inr rfl) (pe_callB call_abs (by rfl) T.n_abs (by decide +kernel) (pa_cons (pv 1) pa_nil)))
  (pss_cons (ps_while PassesOwn.never (pt_cmpR op_ne (pv 3) pe_int (nomark _))
  (pss_cons (ps_set (i := 4) sc_ulaw_gcd.nd rfl (by first | exact Or.inl rfl | exact Or.inr rfl) (pe_op op_mdG (pe_callTy call_int1 (by rfl) T.n_int (by decide +kernel) (pa_cons (pv 2) pa_nil)) (pv 3)))
  (pss_cons (ps_set (i := 2) sc_ulaw_gcd.nd rfl (by first | exact Or.inl rfl | exact Or.inr rfl) (pv 3))
  (pss_one (ps_set (i := 3) sc_ulaw_gcd.nd rfl (by first | exact Or.inl rfl | exact Or.inr rfl) (pv 4))))))
  (pss_one (ps_ret (pv 2)))))), ?_⟩
    refine ⟨_, rfl, a, rfl, _, rfl, b, rfl, ?_⟩
    refine while_by (fun σ H' => H' = H ∧ ∃ (x y : Int) (v : Option V), σ = [some (.int a), some (.int b), some (.int x), some (.int y), v] ∧ 0 ≤ x ∧ 0 ≤ y ∧ Nat.gcd x.natAbs y.natAbs = Nat.gcd a.natAbs b.natAbs)
      (fun σ _ => match σ with | [_, _, _, some (.int y), _] => y.natAbs | _ => 0) ⟨rfl, _, _, none, rfl, ?_, ?_, ?_⟩ ?_ ?_
    · split <;> omega
    · split <;> omega
    · congr 1
      · split <;> omega
      · split <;> omega
    · rintro σ H' ⟨rfl, x, y, v, rfl, hx, hy, hg⟩
      refine ⟨_, rfl, rfl, _, rfl, ?_⟩
      by_cases h0 : y = 0
      · subst h0
        refine iN (nN rfl) ?_
        refine ⟨_, rfl, ?_⟩
        have e : ((Nat.gcd a.natAbs b.natAbs : Nat) : Int) = x := by
          rw [← hg]
          show ((Nat.gcd x.natAbs 0 : Nat) : Int) = x
          rw [Nat.gcd_zero_right]
          omega
        show Q (.int x) H'
        rw [← e]
        exact k
      · refine iY (nY (vint h0)) ?_
        refine ⟨_, rfl, .inl ⟨x, rfl, _, rfl, x, y, rfl, rfl, h0, _, rfl, _, rfl, ?_⟩⟩
        have hm : x.fmod y = x % y := Int.fmod_eq_emod_of_nonneg x hy
        have h1 : 0 ≤ x % y := Int.emod_nonneg x h0
        have h2 : x % y < y := Int.emod_lt_of_pos x (by omega)
        refine ⟨⟨rfl, y, x.fmod y, _, rfl, hy, by omega, ?_⟩, ?_⟩
        · have e : (x % y).natAbs = x.natAbs % y.natAbs := Int.natAbs_emod_of_nonneg hx y
          rw [hm, ← hg, e, Nat.gcd_comm y.natAbs, Nat.gcd_comm x.natAbs, ← Nat.gcd_rec]
        · show (x.fmod y).natAbs < y.natAbs
          omega
    · rintro σ H' Q1 Q2 hq ⟨v, e, sc, c, ec, q⟩
      exact ⟨v, e, sc, c, ec, hq _ _ q⟩
/-! ### _law_rat -/
/-- for a positive denominator: the tuple of the lowest terms -/
def spRat : Sp := fun vs H Q _ => ∃ n d : Int, vs = [.int n, .int d] ∧ 0 < d ∧ d.natAbs < 2 ^ 8000 ∧ ∀ p, H p = none → Q (.ref p) (upd H p (.tup [.int (Rat.divInt n d).num, .int ((Rat.divInt n d).den : Int)]))
theorem ok_rat (T : Txt K mg C) : C8.Cal P w K mg base 2 "_law_rat" spRat [] := by
  have c_ulaw_gcd : C8.Cal P w K mg base 1 "_law_gcd" spGcd [] := ok_gcd T
  refine cal_of T.d_ulaw_rat sc_ulaw_rat (fun vs H Q E h => ?_) (fun f cdv A outer s H vs Q E hr h => ?_)
  · obtain ⟨a, b, rfl, _⟩ := h
    rfl
  · obtain ⟨n, d, rfl, hd, hz, k⟩ := h
    refine ⟨_, (pss_cons (ps_set (i := 2) sc_ulaw_rat.nd rfl (by first | exact Or.inl rfl | exact Or.inr rfl) (C8.pe_c c_ulaw_gcd hr (by decide) rfl (pa_cons (pv 0) (pa_cons (pv 1) pa_nil))))
  (pss_cons (ps_if (pt_cmpR op_lt (pv 1) pe_int (nomark _))
  (pss_one (ps_set (i := 2) sc_ulaw_rat.nd rfl (by first | exact Or.inl rfl | exact Or.inr rfl) (pe_un un_neg (pv 2))))
  pss_nil)
  (pss_one (ps_ret (pe_tup (pa_cons (pe_op op_fdG (pv 0) (pv 2)) (pa_cons (pe_op op_fdG (pv 1) (pv 2)) pa_nil))))))), ?_⟩
    obtain ⟨hg, hl⟩ := gcd_small (n := n) (Int.ne_of_gt hd) hz
    refine ⟨_, rfl, _, rfl, n, d, rfl, ?_⟩
    refine ⟨_, rfl, _, _, rfl, rfl, _, rfl, ?_⟩
    refine iN (dN (by omega)) ?_
    refine ⟨_, rfl, _, rfl, _, _, rfl, rfl, fdG (b := 8000) hg hl, _, rfl, _, rfl, _, _, rfl, rfl, fdG (b := 8000) hg hl, (by show 2 ≤ sizeLine; decide), fun p hp => ?_⟩
    have e := fd_pos (n := n) hd
    have z := k p hp
    rw [← e.1, ← e.2] at z
    exact z
/-! ### Ratio.__init__ -/
def spInit (C : Addr) : Sp := fun vs H Q _ => ∃ (p dx : Addr) (n d : Int), vs = [.ref p, .int n, .int d] ∧ H p = some (.ins C dx []) ∧ d ≠ 0 ∧ d.natAbs < 2 ^ 8000 ∧
  Q .non (upd (upd H p (.ins C dx (putF "n" (.int (Rat.divInt n d).num) []))) p (.ins C dx (rf (Rat.divInt n d))))
theorem ok_init (T : Txt K mg C) : C8.Mak P w K mg base 1 "Ratio" C (spInit C) [] := by
  refine mak_of T.d_RatioU_initU sc_RatioU_initU (fun vs H Q E h => ?_) (fun f cdv A outer s H vs Q E hr h => ?_)
  · obtain ⟨p, dx, a, b, rfl, _⟩ := h
    rfl
  · obtain ⟨p, dx, n, d, rfl, hp, hd, hz, k⟩ := h
    refine ⟨_, (pss_cons (ps_if (pt_cmpR op_eq (pv 2) pe_int (nomark _))
  (pss_one ps_never)
  pss_nil)
  (pss_cons (ps_set (i := 3) sc_RatioU_initU.nd rfl (by first | exact Or.inl rfl | exact Or.inr rfl) (pe_ifExp (pt_cmpR op_gt (pv 2) pe_int (nomark _)) (pe_callBfun cr_gcd (by rfl) T.g_gcd (pa_cons (pv 1) (pa_cons (pv 2) pa_nil))) (pe_un un_neg (pe_callBfun cr_gcd (by rfl) T.g_gcd (pa_cons (pv 1) (pa_cons (pv 2) pa_nil))))))
  (pss_cons (ps_fld (pv 0) (pe_op op_fdG (pv 1) (pv 3)) rfl)
  (pss_one (ps_fld (pv 0) (pe_op op_fdG (pv 2) (pv 3)) rfl))))), ?_⟩
    refine ⟨_, rfl, rfl, _, rfl, ?_⟩
    refine iN (dN (vint hd)) ?_
    refine ⟨_, rfl, _, _, rfl, rfl, _, rfl, ?_⟩
    by_cases h0 : 0 < d
    · refine iY (dY h0) ?_
      obtain ⟨hg, hl⟩ := gcd_small (n := n) hd hz
      have e := fd_pos (n := n) h0
      refine ⟨_, rfl, _, rfl, n, d, rfl, _, rfl, _, rfl, _, _, rfl, rfl, fdG (b := 8000) hg hl, _, rfl, p, C, dx, [], rfl, hp, T.cl, T.nN, (by show 0 < 1000; decide), ?_⟩
      refine ⟨_, rfl, _, rfl, _, _, rfl, rfl, fdG (b := 8000) hg hl, _, rfl, p, C, dx, _, rfl, upd_same, T.cl, T.nD, (by show 1 < 1000; decide), ?_⟩
      unfold rf at k
      rw [← e.1, ← e.2] at k
      exact k
    · refine iN (dN h0) ?_
      have h1 : d < 0 := Int.lt_iff_le_and_ne.mpr ⟨Int.not_lt.mp h0, hd⟩
      obtain ⟨hg, hl⟩ := gcd_small (n := n) hd hz
      have e := divInt_neg (n := n) h1
      have hl2 : (-((Nat.gcd n.natAbs d.natAbs : Nat) : Int)).natAbs < 2 ^ 8000 := by rw [Int.natAbs_neg]; exact hl
      have hg2 : (-((Nat.gcd n.natAbs d.natAbs : Nat) : Int)) ≠ 0 := Int.neg_ne_zero.mpr hg
      refine ⟨_, rfl, _, rfl, n, d, rfl, _, rfl, _, rfl, _, rfl, _, _, rfl, rfl, fdG (b := 8000) hg2 hl2, _, rfl, p, C, dx, [], rfl, hp, T.cl, T.nN, (by show 0 < 1000; decide), ?_⟩
      refine ⟨_, rfl, _, rfl, _, _, rfl, rfl, fdG (b := 8000) hg2 hl2, _, rfl, p, C, dx, _, rfl, upd_same, T.cl, T.nD, (by show 1 < 1000; decide), ?_⟩
      unfold rf at k
      rw [e.1, e.2] at k
      exact k
end
end K2
namespace K2
open PySem PySem.Spec PyProof.Rows L2 OW SX TM
section
variable {P : Program} {w : World} {K : PySem.W.Frag} {mg : Str → Option Value} {base : Heap} {C : Addr}
/-! ### _law_cell: some number -/
def spCell (K : PySem.W.Frag) : Sp := fun vs H Q _ => ∃ (a : Addr) (ns : List Int) (k : Nat), vs = [.ref a, .int (k : Int)] ∧ SqL K H a (ns.map V.int) ∧ ∀ z : Int, Q (.int z) H
theorem ok_cell (T : Txt K mg C) : C8.Cal P w K mg base 1 "_law_cell" (spCell K) [] := by
  refine cal_of T.d_ulaw_cell sc_ulaw_cell (fun vs H Q E h => ?_) (fun f cdv A outer s H vs Q E hr h => ?_)
  · obtain ⟨a, ns, k, rfl, _⟩ := h
    rfl
  · obtain ⟨a, ns, k, rfl, hS, q⟩ := h
    refine ⟨_, (pss_cons (ps_if (pt_cmpR op_lt (pv 1) (pe_callB call_len (by rfl) T.n_len PySem.boot_len (pa_cons (pv 0) pa_nil)) (nomark _))
  (pss_one (ps_ret (pe_ix ix_list (pv 0) (pv 1) (fun _ _ => rfl))))
  pss_nil)
  (pss_one (ps_ret pe_int))), ?_⟩
    refine ⟨_, rfl, _, rfl, _, _, rfl, .inl ⟨_, hS, rfl⟩, _, _, rfl, rfl, _, rfl, ?_⟩
    by_cases hk : (k : Int) < ((ns.map V.int).length : Nat)
    · refine iY (dY hk) ?_
      have hk' : k < ns.length := by rw [List.length_map] at hk; omega
      have e : (ns.map V.int)[k]? = some (V.int ns[k]) := by rw [List.getElem?_map, List.getElem?_eq_getElem hk']; rfl
      exact ⟨_, rfl, _, rfl, a, _, _, _, rfl, rfl, hS, atI_nat e, q _⟩
    · exact iN (dN hk) (q 0)
/-! ### _law_draws: so many numbers below the bound -/
def spDraws (K : PySem.W.Frag) : Sp := fun vs H Q _ => ∃ (a : Addr) (ns : List Int) (at_ count : Nat) (bound : Int), vs = [.ref a, .int (at_ : Int), .int (count : Int), .int bound] ∧ SqL K H a (ns.map V.int) ∧ at_ ≤ 100 ∧ count ≤ 1000 ∧ 0 < bound ∧ bound < 1000000 ∧
  ∀ (H' : Hp) (p : Addr) (zs : List Int), Same H H' → H p = none → H' p = some (.lst (zs.map V.int)) → zs.length = count → (∀ z ∈ zs, 0 ≤ z ∧ z < bound) → Q (.ref p) H'
theorem ok_draws (T : Txt K mg C) : C8.Cal P w K mg base 2 "_law_draws" (spDraws K) [] := by
  have c_ulaw_cell : C8.Cal P w K mg base 1 "_law_cell" (spCell K) [] := ok_cell T
  refine cal_of T.d_ulaw_draws sc_ulaw_draws (fun vs H Q E h => ?_) (fun f cdv A outer s H vs Q E hr h => ?_)
  · obtain ⟨a, ns, k, c, b, rfl, _⟩ := h
    rfl
  · obtain ⟨a, ns, at_, count, bound, rfl, hS, hat, hco, hb0, hb1, q⟩ := h
    refine ⟨_, (pss_cons (ps_set (i := 4) sc_ulaw_draws.nd rfl (by first | exact Or.inl rfl | exact Or.inr rfl) (C8.pe_c c_ulaw_cell hr (by decide) rfl (pa_cons (pv 0) (pa_cons (pv 1) pa_nil))))
  (pss_cons (ps_set (i := 5) sc_ulaw_draws.nd rfl (by first | exact Or.inl rfl | exact Or.inr rfl) (pe_lst pa_nil))
  (pss_cons (ps_if (pt_cmpR op_ge (pv 4) (pe_op op_pow pe_int pe_int) (nomark _))
  (pss_cons (ps_for PassesOwn.never rfl (pi_range1 (by rfl) T.n_range (pa_cons (pv 2) pa_nil)) (pg_name (i := 6) sc_ulaw_draws.nd rfl (by first | exact Or.inl rfl | exact Or.inr rfl))
  (pss_cons (ps_expr (pe_bm PySem.F.plainAttrs_list PySem.F.slot_list_append PySem.F.type_list_append mt_append (pv 5) (pa_cons (pe_op op_mdG (pe_callTy call_int1 (by rfl) T.n_int (by decide +kernel) (pa_cons (pv 4) pa_nil)) (pv 3)) pa_nil)))
  (pss_one (ps_set (i := 4) sc_ulaw_draws.nd rfl (by first | exact Or.inl rfl | exact Or.inr rfl) (pe_op op_fdG (pe_callTy call_int1 (by rfl) T.n_int (by decide +kernel) (pa_cons (pv 4) pa_nil)) (pv 3))))))
  (pss_one (ps_ret (pv 5))))
  pss_nil)
  (pss_cons (ps_set (i := 7) sc_ulaw_draws.nd rfl (by first | exact Or.inl rfl | exact Or.inr rfl) (pe_op op_add (pe_op op_add (pe_op op_mdG (pe_callTy call_int1 (by rfl) T.n_int (by decide +kernel) (pa_cons (pv 4) pa_nil)) pe_int) (pe_op op_mulX pe_int (pv 1))) pe_int))
  (pss_cons (ps_for PassesOwn.never rfl (pi_range1 (by rfl) T.n_range (pa_cons (pv 2) pa_nil)) (pg_name (i := 6) sc_ulaw_draws.nd rfl (by first | exact Or.inl rfl | exact Or.inr rfl))
  (pss_cons (ps_set (i := 7) sc_ulaw_draws.nd rfl (by first | exact Or.inl rfl | exact Or.inr rfl) (pe_op op_mdG (pe_callTy call_int1 (by rfl) T.n_int (by decide +kernel) (pa_cons (pe_op op_add (pe_op op_add (pe_op op_mulX (pv 7) pe_int) (pe_op op_mulX pe_int (pv 6))) (pv 1)) pa_nil)) pe_int))
  (pss_cons (ps_set (i := 8) sc_ulaw_draws.nd rfl (by first | exact Or.inl rfl | exact Or.inr rfl) (pe_op op_mdG (pe_callTy call_int1 (by rfl) T.n_int (by decide +kernel) (pa_cons (pe_op op_add (pe_op op_add (pe_op op_mulX (pv 7) pe_int) (pe_op op_mulX pe_int (pv 6))) pe_int) pa_nil)) pe_int))
  (pss_one (ps_expr (pe_bm PySem.F.plainAttrs_list PySem.F.slot_list_append PySem.F.type_list_append mt_append (pv 5) (pa_cons (pe_op op_mdG (pe_callTy call_int1 (by rfl) T.n_int (by decide +kernel) (pa_cons (pv 8) pa_nil)) (pv 3)) pa_nil)))))))
  (pss_one (ps_ret (pv 5)))))))), ?_⟩
    refine ⟨_, rfl, _, rfl, a, ns, at_, rfl, hS, fun cell => ?_⟩
    refine ⟨(by show 0 ≤ sizeLine; decide), fun p hp => ?_⟩
    have hbn : bound ≠ 0 := by omega
    have hcf : CFd cell bound := fdG (b := 30) hbn (by omega)
    refine ⟨_, rfl, _, _, rfl, rfl, ⟨by decide, by decide, by decide⟩, _, _, rfl, rfl, _, rfl, ?_⟩
    have S0 : Same H (upd H p (.lst [])) := Same.new hp
    by_cases hbig : (10 : Int) ^ (18 : Int).toNat ≤ cell
    · refine iY (dY hbig) ?_
      refine ⟨_, rfl, (count : Int), rfl, by omega, by omega, for_range (lo := 0) (n := (count : Int).toNat) (fun i σ H' => ∃ (zs : List Int) (c : Int) (kk : Option V), σ = [some (.ref a), some (.int at_), some (.int count), some (.int bound), some (.int c), some (.ref p), kk, none, none] ∧
          Same H H' ∧ H' p = some (.lst (zs.map V.int)) ∧ zs.length = i ∧ ∀ z ∈ zs, 0 ≤ z ∧ z < bound) ⟨[], cell, none, rfl, S0, upd_same, rfl, fun _ h => nomatch h⟩ ?_ ?_⟩
      · rintro i σ H' hi ⟨zs, c, kk, rfl, S, hz, hl, hz2⟩
        have hm : c.fmod bound = c % bound := Int.fmod_eq_emod_of_nonneg c (by omega)
        have h1 := Int.emod_nonneg c hbn
        have h2 := Int.emod_lt_of_pos c hb0
        refine ⟨_, rfl, .inl ⟨rfl, _, SqL.of hz⟩, _, rfl, .inl ⟨c, rfl, _, rfl, c, bound, rfl, rfl, hbn, p, _, _, rfl, rfl, hz, ?_, ?_⟩⟩
        · rw [List.length_map]
          exact small1000 (by omega)
        · refine ⟨_, rfl, .inl ⟨c, rfl, _, rfl, c, bound, rfl, rfl, fdG (b := 30) hbn (by omega), ?_⟩⟩
          refine ⟨zs ++ [c.fmod bound], _, _, rfl, Same.upd S hp, ?_, by simp [hl], fun z hz' => ?_⟩
          · rw [upd_same, List.map_append]; rfl
          · rcases List.mem_append.mp hz' with h | h
            · exact hz2 z h
            · have e : z = c.fmod bound := by simpa using h
              rw [e, hm]
              exact ⟨h1, h2⟩
      · rintro σ H' ⟨zs, c, kk, rfl, S, hz, hl, hz2⟩
        exact ⟨_, rfl, q H' p zs S hp hz (by omega) hz2⟩
    · refine iN (dN hbig) ?_
      have hm0 : cell.fmod 2147483647 = cell % 2147483647 := Int.fmod_eq_emod_of_nonneg cell (by omega)
      refine ⟨_, rfl, .inl ⟨cell, rfl, cell, 2147483647, rfl, rfl, (by show (2147483647 : Int) ≠ 0; decide), _, rfl, _, _, rfl, rfl, mulX (a := 8) (b := 8) (by decide) (by omega), _, _, rfl, rfl, _, _, rfl, rfl, ?_⟩⟩
      refine ⟨_, rfl, (count : Int), rfl, by omega, by omega, for_range (lo := 0) (n := (count : Int).toNat) (fun i σ H' => ∃ (zs : List Int) (c nn : Int) (kk mm : Option V), σ = [some (.ref a), some (.int at_), some (.int count), some (.int bound), some (.int c), some (.ref p), kk, some (.int nn), mm] ∧
          0 ≤ nn ∧ nn < 2147484000 ∧ Same H H' ∧ H' p = some (.lst (zs.map V.int)) ∧ zs.length = i ∧ ∀ z ∈ zs, 0 ≤ z ∧ z < bound) ⟨[], cell, _, none, none, rfl, by omega, by omega, S0, upd_same, rfl, fun _ h => nomatch h⟩ ?_ ?_⟩
      · rintro i σ H' hi ⟨zs, c, nn, kk, mm, rfl, n0, n1, S, hz, hl, hz2⟩
        refine ⟨_, rfl, _, _, rfl, rfl, mulX (a := 32) (b := 17) (by omega) (by decide), _, rfl, _, _, rfl, rfl, mulX (a := 5) (b := 30) (by decide) (by omega), _, _, rfl, rfl, _, rfl, _, _, rfl, rfl, .inl ⟨_, rfl, _, _, rfl, rfl, (by show (_ : Int) ≠ 0; decide), ?_⟩⟩
        have hn3 : 0 ≤ (nn * 48271 + 11 * (0 + (i : Int)) + (at_ : Int)).fmod 2147483647 ∧ (nn * 48271 + 11 * (0 + (i : Int)) + (at_ : Int)).fmod 2147483647 < 2147483647 := by
          rw [Int.fmod_eq_emod_of_nonneg _ (by omega)]
          exact ⟨Int.emod_nonneg _ (by decide), Int.emod_lt_of_pos _ (by decide)⟩
        refine ⟨_, rfl, _, _, rfl, rfl, mulX (a := 32) (b := 17) (by omega) (by decide), _, rfl, _, _, rfl, rfl, mulX (a := 5) (b := 30) (by decide) (by omega), _, _, rfl, rfl, _, _, rfl, rfl, .inl ⟨_, rfl, _, _, rfl, rfl, (by show (_ : Int) ≠ 0; decide), ?_⟩⟩
        obtain ⟨m2, hm2⟩ : ∃ m2, m2 = ((nn * 48271 + 11 * (0 + (i : Int)) + (at_ : Int)).fmod 2147483647 * 69621 + 5 * (0 + (i : Int)) + 7).fmod 2147483629 := ⟨_, rfl⟩
        have hm : m2.fmod bound = m2 % bound := Int.fmod_eq_emod_of_nonneg m2 (by omega)
        have h1 := Int.emod_nonneg m2 hbn
        have h2 := Int.emod_lt_of_pos m2 hb0
        refine ⟨_, rfl, .inl ⟨rfl, _, SqL.of hz⟩, _, rfl, .inl ⟨m2, by rw [hm2], _, rfl, m2, bound, rfl, rfl, hbn, p, _, _, rfl, rfl, hz, ?_, ?_⟩⟩
        · rw [List.length_map]
          exact small1000 (by omega)
        · refine ⟨zs ++ [m2.fmod bound], _, _, _, _, rfl, hn3.1, by omega, Same.upd S hp, ?_, by simp [hl], fun z hz' => ?_⟩
          · rw [upd_same, List.map_append]; rfl
          · rcases List.mem_append.mp hz' with h | h
            · exact hz2 z h
            · have e : z = m2.fmod bound := by simpa using h
              rw [e, hm]
              exact ⟨h1, h2⟩
      · rintro σ H' ⟨zs, c, nn, kk, mm, rfl, n0, n1, S, hz, hl, hz2⟩
        exact ⟨_, rfl, q H' p zs S hp hz (by omega) hz2⟩
end
end K2
namespace K2
open PySem PySem.Spec PyProof.Rows L2 OW SX TM
/-! ### small facts -/
theorem cut_ints (zs : List Int) (a b : Nat) : cutV (zs.map V.int) (some (a : Int)) (some (b : Int)) = (((zs.drop (min a zs.length)).take (min b zs.length - min a zs.length)).map V.int) := by
  unfold cutV
  rw [HT.sIx_nat, HT.sIx_nat, List.length_map, List.map_take, List.map_drop]
theorem get_int {zs : List Int} {i : Nat} (h : i < zs.length) : (zs.map V.int)[i]? = some (V.int zs[i]) := by rw [List.getElem?_map, List.getElem?_eq_getElem h]; rfl
def whole (zs : List Int) : Int := zs.foldl (fun o d => 10 * o + d) 0
theorem whole_snoc (zs : List Int) (d : Int) : whole (zs ++ [d]) = 10 * whole zs + d := by unfold whole; rw [List.foldl_append]; rfl
theorem whole_take {zs : List Int} {i : Nat} {d : Int} (h : zs[i]? = some d) : whole (zs.take (i + 1)) = 10 * whole (zs.take i) + d := by
  obtain ⟨h1, h2⟩ := List.getElem?_eq_some_iff.mp h
  rw [List.take_succ_eq_append_getElem h1, h2, whole_snoc]
theorem whole_lt (zs : List Int) (hz : ∀ z ∈ zs, 0 ≤ z ∧ z ≤ 9) : ∀ i, 0 ≤ whole (zs.take i) ∧ whole (zs.take i) < ((10 ^ i : Nat) : Int)
  | 0 => by simp [whole]
  | i + 1 => by
    have ih := whole_lt zs hz i
    have hs : 10 ^ (i + 1) = 10 ^ i * 10 := Nat.pow_succ ..
    have hp : 0 < 10 ^ i := Nat.pow_pos (by decide)
    by_cases h : i < zs.length
    · have e := List.getElem?_eq_getElem h
      have b := hz _ (List.getElem_mem h)
      rw [whole_take e]
      omega
    · have e1 : zs.take (i + 1) = zs.take i := by rw [List.take_of_length_le (by omega), List.take_of_length_le (by omega)]
      rw [e1]
      omega
theorem whole_pos {z : Int} {r : List Int} (hz : ∀ y ∈ r, 0 ≤ y ∧ y ≤ 9) (h : 1 ≤ z) : 1 ≤ whole (z :: r) := by
  have key : ∀ (r : List Int) (o : Int), (∀ y ∈ r, 0 ≤ y ∧ y ≤ 9) → 1 ≤ o → 1 ≤ r.foldl (fun o d => 10 * o + d) o := by
    intro r
    induction r with
    | nil => intro o _ h; exact h
    | cons y r ih =>
      intro o hz h
      rw [List.foldl_cons]
      have := hz y (by simp)
      exact ih _ (fun w hw => hz w (List.mem_cons_of_mem _ hw)) (by omega)
  exact key r (10 * 0 + z) hz (by omega)
theorem join_ones (l : List Nat) : TL.joinL [] (l.map fun c => [c]) = l := by
  have key : ∀ (c : Nat) (l : List Nat), TL.joinL [] (([c] :: l.map fun c => [c])) = c :: l := by
    intro c l
    induction l generalizing c with
    | nil => rfl
    | cons d r ih =>
      have := ih d
      rw [List.map_cons]
      show [c] ++ ([] ++ TL.joinL [] ([d] :: r.map fun c => [c])) = _
      rw [this]; rfl
  cases l with
  | nil => rfl
  | cons c r => rw [List.map_cons]; exact key c r
theorem pow_lt {n : Nat} {k b : Nat} (h : n < 10 ^ k) (hb : 10 ^ k ≤ 2 ^ b) : n < 2 ^ b := Nat.lt_of_lt_of_le h hb
section
variable {P : Program} {w : World} {K : PySem.W.Frag} {mg : Str → Option Value} {base : Heap} {C : Addr}
/-! ### _law_is_integer of an int -/
def spIsInt : Sp := fun vs H Q _ => ∃ n : Int, vs = [.int n] ∧ Q (.bl true) H
theorem ok_isInt (T : Txt K mg C) : C8.Cal P w K mg base 1 "_law_is_integer" spIsInt [] := by
  refine cal_of T.d_ulaw_is_integer sc_ulaw_is_integer (fun vs H Q E h => ?_) (fun f cdv A outer s H vs Q E hr h => ?_)
  · obtain ⟨n, rfl, _⟩ := h
    rfl
  · obtain ⟨n, rfl, q⟩ := h
    refine ⟨_, (pss_one (ps_ret (pe_and (pe_callB call_isi (by rfl) T.n_isinstance (by decide +kernel) (pa_cons (pv 0) (pa_cons (pe_bltn (v := .ty "int") (u := .type "int") (by rfl) T.n_int (by decide +kernel) (RelV_ty _)) pa_nil))) (pe_one (pe_not (pe_callB call_isi (by rfl) T.n_isinstance (by decide +kernel) (pa_cons (pv 0) (pa_cons (pe_bltn (v := .ty "bool") (u := .type "bool") (by rfl) T.n_bool (by decide +kernel) (RelV_ty _)) pa_nil)))))))), ?_⟩
    refine ⟨_, rfl, _, _, _, _, _, rfl, .ty "int", .base (.int n), T.ii, true, rfl, ?_⟩
    refine iY rfl ?_
    exact ⟨_, rfl, _, _, _, _, _, rfl, .ty "bool", .base (.int n), T.ib, false, rfl, q⟩
/-! ### _law_pair of a Ratio -/
def spPair (C : Addr) : Sp := fun vs H Q _ => ∃ (v : V) (q : Rat), vs = [v] ∧ RatAt C H v q ∧ ∀ p, H p = none → Q (.ref p) (upd H p (.tup [.int q.num, .int (q.den : Int)]))
theorem ok_pair (T : Txt K mg C) : C8.Cal P w K mg base 2 "_law_pair" (spPair C) [] := by
  have c_ulaw_gcd : C8.Cal P w K mg base 1 "_law_gcd" spGcd [] := ok_gcd T
  have c_ulaw_is_integer : C8.Cal P w K mg base 1 "_law_is_integer" spIsInt [] := ok_isInt T
  refine cal_of T.d_ulaw_pair sc_ulaw_pair (fun vs H Q E h => ?_) (fun f cdv A outer s H vs Q E hr h => ?_)
  · obtain ⟨v, q, rfl, _⟩ := h
    rfl
  · obtain ⟨v, z, rfl, hv, q⟩ := h
    refine ⟨_, (pss_cons (ps_if (PW.pt (pw_or (pt_not (pt_val (pe_callB call_isi (by rfl) T.n_isinstance (by decide +kernel) (pa_cons (pv 0) (pa_cons (C8.pe_gc rfl T.c_Ratio) pa_nil))))) (pw_or (pt_not (pt_val (C8.pe_c c_ulaw_is_integer hr (by decide) rfl (pa_cons (pe_fld (pv 0) rfl) pa_nil)))) (pw_or1 (pt_not (pt_val (C8.pe_c c_ulaw_is_integer hr (by decide) rfl (pa_cons (pe_fld (pv 0) rfl) pa_nil))))))))
  (pss_one (ps_ret pe_non))
  pss_nil)
  (pss_cons (ps_if (PW.pt (pw_or (pt_cmpR op_lt (pe_fld (pv 0) rfl) pe_int (nomark _)) (pw_or1 (pt_cmpR op_ne (C8.pe_c c_ulaw_gcd hr (by decide) rfl (pa_cons (pe_fld (pv 0) rfl) (pa_cons (pe_fld (pv 0) rfl) pa_nil))) pe_int (nomark _)))))
  (pss_one (ps_ret pe_non))
  pss_nil)
  (pss_one (ps_ret (pe_tup (pa_cons (pe_fld (pv 0) rfl) (pa_cons (pe_fld (pv 0) rfl) pa_nil))))))), ?_⟩
    obtain ⟨a, dx, rfl, hh⟩ := id hv
    refine ⟨_, rfl, _, _, _, _, _, rfl, .own C, T.tyR hv, T.kit.2.2.2.2, true, rfl, ?_⟩
    refine iN rfl ?_
    refine ⟨_, rfl, a, C, dx, _, _, rfl, hh, T.cl, T.nN, rf_n z, _, rfl, true, rfl, iN rfl ?_⟩
    refine ⟨_, rfl, a, C, dx, _, _, rfl, hh, T.cl, T.nD, rf_d z, _, rfl, true, rfl, iN rfl ?_⟩
    have hd : (0 : Int) < (z.den : Int) := by have := z.den_pos; omega
    refine ⟨_, rfl, a, C, dx, _, _, rfl, hh, T.cl, T.nD, rf_d z, _, _, rfl, rfl, _, rfl, iN (dN (by omega)) ?_⟩
    refine ⟨_, rfl, a, C, dx, _, _, rfl, hh, T.cl, T.nN, rf_n z, _, rfl, a, C, dx, _, _, rfl, hh, T.cl, T.nD, rf_d z, _, _, rfl, rfl, _, rfl, iN ?_ ?_⟩
    · have e : Nat.gcd z.num.natAbs ((z.den : Int)).natAbs = 1 := by rw [Int.natAbs_natCast]; exact z.reduced
      rw [e]
      exact nN rfl
    · exact ⟨_, rfl, a, C, dx, _, _, rfl, hh, T.cl, T.nN, rf_n z, _, rfl, a, C, dx, _, _, rfl, hh, T.cl, T.nD, rf_d z, (by show 2 ≤ sizeLine; decide), q⟩
/-! ### _law_digits -/
def spDigits (K : PySem.W.Frag) : Sp := fun vs H Q _ => ∃ (a : Addr) (ns : List Int) (at_ : Nat), vs = [.ref a, .int (at_ : Int)] ∧ SqL K H a (ns.map V.int) ∧ at_ ≤ 100 ∧
  ∀ (H' : Hp) (p : Addr) (z : Int) (zs : List Int), Same H H' → H' p = some (.lst ((z :: zs).map V.int)) → 1 ≤ z → (z :: zs).length ≤ 130 → (∀ y ∈ z :: zs, 0 ≤ y ∧ y ≤ 9) → Q (.ref p) H'
theorem ok_digits (T : Txt K mg C) : C8.Cal P w K mg base 3 "_law_digits" (spDigits K) [] := by
  have c_ulaw_draws : C8.Cal P w K mg base 2 "_law_draws" (spDraws K) [] := ok_draws T
  refine cal_of T.d_ulaw_digits sc_ulaw_digits (fun vs H Q E h => ?_) (fun f cdv A outer s H vs Q E hr h => ?_)
  · obtain ⟨a, ns, k, rfl, _⟩ := h
    rfl
  · obtain ⟨a, ns, at_, rfl, hS, hat, q⟩ := h
    refine ⟨_, (pss_cons (ps_set (i := 2) sc_ulaw_digits.nd rfl (by first | exact Or.inl rfl | exact Or.inr rfl) (C8.pe_c c_ulaw_draws hr (by decide) rfl (pa_cons (pv 0) (pa_cons (pv 1) (pa_cons pe_int (pa_cons pe_int pa_nil))))))
  (pss_cons (ps_set (i := 3) sc_ulaw_digits.nd rfl (by first | exact Or.inl rfl | exact Or.inr rfl) (pe_op op_add (pe_op op_mdG (pe_op op_add (pe_op op_mulX (pe_ix ix_list (pv 2) pe_int (fun _ _ => rfl)) pe_int) (pe_ix ix_list (pv 2) pe_int (fun _ _ => rfl))) pe_int) pe_int))
  (C8.pss_cut (ps_if (pt_cmpR op_lt (pe_ix ix_list (pv 2) pe_int (fun _ _ => rfl)) pe_int (nomark _))
  (pss_one (ps_set (i := 3) sc_ulaw_digits.nd rfl (by first | exact Or.inl rfl | exact Or.inr rfl) (pe_op op_add (pe_op op_mdG (pe_ix ix_list (pv 2) pe_int (fun _ _ => rfl)) pe_int) pe_int)))
  pss_nil)
  (pss_cons (ps_set (i := 4) sc_ulaw_digits.nd rfl (by first | exact Or.inl rfl | exact Or.inr rfl) (pe_slice sl_list (pv 2) (po_some pe_int) (po_some (pe_op op_add pe_int (pv 3)))))
  (C8.pss_cut (ps_if (pt_cmpR op_eq (pe_ix ix_list (pv 4) pe_int (fun _ _ => rfl)) pe_int (nomark _))
  (pss_one (ps_asg (pe_op op_add pe_int (pe_op op_mdG (pe_ix ix_list (pv 2) pe_int (fun _ _ => rfl)) pe_int)) (pg_sub (pv 4) pe_int set_list)))
  pss_nil)
  (pss_one (ps_ret (pv 4)))))))), ?_⟩
    refine ⟨_, rfl, _, rfl, a, ns, at_, 132, 10, rfl, hS, hat, by decide, by decide, by decide, fun H1 p row S1 hp1 hp2 hl hb => ?_⟩
    obtain ⟨r0, r1, tl, rfl⟩ : ∃ r0 r1 tl, row = r0 :: r1 :: tl := by
      match row, hl with
      | r0 :: r1 :: tl, _ => exact ⟨r0, r1, tl, rfl⟩
    have htl : tl.length = 130 := by simpa using hl
    have b0 := hb r0 (by simp)
    have b1 := hb r1 (by simp)
    have g0 : atI ((r0 :: r1 :: tl).map V.int) 0 = some (V.int r0) := atI_nat (j := 0) rfl
    have g1 : atI ((r0 :: r1 :: tl).map V.int) 1 = some (V.int r1) := atI_nat (j := 1) rfl
    refine ⟨_, rfl, p, _, _, _, rfl, rfl, SqL.of hp2, g0, _, _, rfl, rfl, mulX (a := 8) (b := 8) (by omega) (by decide), _, rfl, p, _, _, _, rfl, rfl, SqL.of hp2, g1, _, _, rfl, rfl, _, _, rfl, rfl, (by show (_ : Int) ≠ 0; decide), _, _, rfl, rfl, ?_⟩
    have hsz : 1 ≤ (r0 * 13 + r1).fmod 130 + 1 ∧ (r0 * 13 + r1).fmod 130 + 1 ≤ 130 := by
      rw [Int.fmod_eq_emod_of_nonneg _ (by decide)]
      have := Int.emod_nonneg (r0 * 13 + r1) (show (130 : Int) ≠ 0 by decide)
      have := Int.emod_lt_of_pos (r0 * 13 + r1) (show (0 : Int) < 130 by decide)
      omega
    refine ⟨fun σ H' => H' = H1 ∧ ∃ n : Nat, σ = [some (.ref a), some (.int (at_ : Int)), some (.ref p), some (.int (n : Int)), none] ∧ 1 ≤ n ∧ n ≤ 130, ?_, ?_⟩
    · refine ⟨_, rfl, p, _, _, _, rfl, rfl, SqL.of hp2, g1, _, _, rfl, rfl, _, rfl, ?_⟩
      by_cases h5 : r1 < 5
      · refine iY (dY h5) ?_
        have h3 : 1 ≤ r0.fmod 3 + 1 ∧ r0.fmod 3 + 1 ≤ 130 := by
          rw [Int.fmod_eq_emod_of_nonneg _ (by decide)]
          have := Int.emod_nonneg r0 (show (3 : Int) ≠ 0 by decide)
          have := Int.emod_lt_of_pos r0 (show (0 : Int) < 3 by decide)
          omega
        refine ⟨_, rfl, p, _, _, _, rfl, rfl, SqL.of hp2, g0, _, _, rfl, rfl, (by show (_ : Int) ≠ 0; decide), _, _, rfl, rfl, rfl, (r0.fmod 3 + 1).toNat, ?_, by omega, by omega⟩
        rw [Int.toNat_of_nonneg (by omega)]
        rfl
      · refine iN (dN h5) ⟨rfl, ((r0 * 13 + r1).fmod 130 + 1).toNat, ?_, by omega, by omega⟩
        rw [Int.toNat_of_nonneg (by omega)]
        rfl
    · rintro σ H2 ⟨rfl, n, rfl, hn1, hn2⟩
      refine ⟨_, rfl, 2, rfl, _, rfl, _, _, rfl, rfl, _, rfl, p, _, rfl, SqL.of hp2, fun d hd => ?_⟩
      have ec : cutV ((r0 :: r1 :: tl).map V.int) (some 2) (some (2 + (n : Int))) = (tl.take n).map V.int := by
        have := cut_ints (r0 :: r1 :: tl) 2 (2 + n)
        rw [show ((2 : Nat) : Int) = 2 from rfl, show ((2 + n : Nat) : Int) = 2 + (n : Int) by omega] at this
        rw [this]
        have e1 : min 2 (r0 :: r1 :: tl).length = 2 := by rw [List.length_cons, List.length_cons, htl]; omega
        have e2 : min (2 + n) (r0 :: r1 :: tl).length = 2 + n := by rw [List.length_cons, List.length_cons, htl]; omega
        rw [e1, e2]
        simp
      obtain ⟨z, zs, ez⟩ : ∃ z zs, tl.take n = z :: zs := by
        cases e : tl.take n with
        | nil =>
          have : (tl.take n).length = 0 := by rw [e]; rfl
          rw [List.length_take, htl] at this
          omega
        | cons z zs => exact ⟨z, zs, rfl⟩
      have hlen : (z :: zs).length ≤ 130 := by rw [← ez, List.length_take, htl]; omega
      have hbz : ∀ y ∈ z :: zs, 0 ≤ y ∧ y ≤ 9 := fun y hy => by
        rw [← ez] at hy
        have := hb y (by simp [List.mem_of_mem_take hy])
        omega
      have hd2 : (upd H2 d (.lst (cutV ((r0 :: r1 :: tl).map V.int) (some 2) (some (2 + (n : Int)))))) d = some (.lst ((z :: zs).map V.int)) := by rw [upd_same, ec, ez]
      have S2 : Same H (upd H2 d (.lst (cutV ((r0 :: r1 :: tl).map V.int) (some 2) (some (2 + (n : Int)))))) := Same.new' S1 hd
      have hp3 : (upd H2 d (.lst (cutV ((r0 :: r1 :: tl).map V.int) (some 2) (some (2 + (n : Int)))))) p = some (.lst ((r0 :: r1 :: tl).map V.int)) := by rw [upd_ne (ne_of_none hp2 hd)]; exact hp2
      have gz : atI ((z :: zs).map V.int) 0 = some (V.int z) := atI_nat (j := 0) rfl
      generalize hH3 : upd H2 d (.lst (cutV ((r0 :: r1 :: tl).map V.int) (some 2) (some (2 + (n : Int))))) = H3 at hd2 S2 hp3
      refine ⟨fun σ H' => (∃ s3 : Option V, σ = [some (.ref a), some (.int (at_ : Int)), some (.ref p), s3, some (.ref d)]) ∧ ∃ (y : Int) (ys : List Int), Same H H' ∧ H' d = some (.lst ((y :: ys).map V.int)) ∧ 1 ≤ y ∧ (y :: ys).length ≤ 130 ∧ ∀ x ∈ y :: ys, 0 ≤ x ∧ x ≤ 9, ?_, ?_⟩
      · refine ⟨_, rfl, d, _, _, _, rfl, rfl, SqL.of hd2, gz, rfl, _, rfl, ?_⟩
        have bz := hbz z (by simp)
        by_cases h0 : z = 0
        · refine iY (dY (by rw [h0])) ?_
          have h9 : 0 ≤ r1.fmod 9 ∧ r1.fmod 9 < 9 := by
            rw [Int.fmod_eq_emod_of_nonneg _ (by decide)]
            exact ⟨Int.emod_nonneg _ (by decide), Int.emod_lt_of_pos _ (by decide)⟩
          refine ⟨_, rfl, p, _, _, _, rfl, rfl, SqL.of hp3, g1, _, _, rfl, rfl, (by show (_ : Int) ≠ 0; decide), _, _, rfl, rfl, _, rfl, d, _, _, 0, rfl, rfl, hd2, (by unfold ixN; rw [if_pos (by decide), if_pos (by simp)]; rfl), ⟨_, rfl⟩, 1 + r1.fmod 9, zs, Same.upd S2 (S1.free hd), ?_, by omega, hlen, fun x hx => ?_⟩
          · rw [upd_same]; rfl
          · rcases List.mem_cons.mp hx with rfl | hx
            · omega
            · exact hbz x (List.mem_cons_of_mem _ hx)
        · exact iN (dN (vint h0)) ⟨⟨_, rfl⟩, z, zs, S2, hd2, by omega, hlen, hbz⟩
      · rintro σ H4 ⟨⟨s3, rfl⟩, y, ys, S4, hd4, hy, hl4, hb4⟩
        exact ⟨_, rfl, q H4 d y ys S4 hd4 hy hl4 hb4⟩
/-! ### _law_whole -/
def spWhole : Sp := fun vs H Q _ => ∃ (p : Addr) (zs : List Int), vs = [.ref p] ∧ H p = some (.lst (zs.map V.int)) ∧ zs.length ≤ 130 ∧ (∀ y ∈ zs, 0 ≤ y ∧ y ≤ 9) ∧ Q (.int (whole zs)) H
theorem ok_whole (T : Txt K mg C) : C8.Cal P w K mg base 1 "_law_whole" spWhole [] := by
  refine cal_of T.d_ulaw_whole sc_ulaw_whole (fun vs H Q E h => ?_) (fun f cdv A outer s H vs Q E hr h => ?_)
  · obtain ⟨p, zs, rfl, _⟩ := h
    rfl
  · obtain ⟨p, zs, rfl, hp, hl, hb, q⟩ := h
    refine ⟨_, (pss_cons (ps_set (i := 1) sc_ulaw_whole.nd rfl (by first | exact Or.inl rfl | exact Or.inr rfl) pe_int)
  (pss_cons (ps_for PassesOwn.never rfl (pi_list (pv 0)) (pg_name (i := 2) sc_ulaw_whole.nd rfl (by first | exact Or.inl rfl | exact Or.inr rfl))
  (pss_one (ps_set (i := 1) sc_ulaw_whole.nd rfl (by first | exact Or.inl rfl | exact Or.inr rfl) (pe_op op_add (pe_op op_mulX pe_int (pv 1)) (pv 2)))))
  (pss_one (ps_ret (pv 1))))), ?_⟩
    refine ⟨_, rfl, p, rfl, ⟨_, SqL.of hp⟩, for_list (K := K) (a := p) (xs := zs.map V.int) (fun i σ H' => H' = H ∧ ∃ v : Option V, σ = [some (.ref p), some (.int (whole (zs.take i))), v]) ⟨rfl, none, rfl⟩ (fun i σ H' _ ⟨e, _⟩ => by rw [e]; exact SqL.of hp) ?_ ?_⟩
    · rintro i x σ H' hi ⟨rfl, v, rfl⟩
      rw [List.getElem?_map] at hi
      obtain ⟨d, hd, rfl⟩ := Option.map_eq_some_iff.mp hi
      have b := whole_lt zs hb i
      have b2 : (whole (zs.take i)).natAbs < 2 ^ 500 := by
        have hi' : i ≤ 130 := by
          have := (List.getElem?_eq_some_iff.mp hd).1
          omega
        have h1 : 10 ^ i ≤ 10 ^ 130 := Nat.pow_le_pow_right (by decide) hi'
        have h2 : 10 ^ 130 ≤ 2 ^ 500 := by decide +kernel
        have h3 : (whole (zs.take i)).natAbs < 10 ^ i := by omega
        exact Nat.lt_of_lt_of_le h3 (Nat.le_trans h1 h2)
      refine ⟨_, rfl, _, _, rfl, rfl, mulX (a := 4) (b := 500) (by decide) b2, _, rfl, _, _, rfl, rfl, rfl, some (V.int d), ?_⟩
      rw [whole_take hd]
      rfl
    · rintro σ H' ⟨rfl, v, rfl⟩
      have e : zs.take (zs.map V.int).length = zs := by rw [List.length_map, List.take_length]
      refine ⟨_, rfl, ?_⟩
      rw [e]
      exact q
end
end K2
namespace K2
open PySem PySem.Spec PyProof.Rows L2 OW SX TM
theorem toS (n : Nat) : (V.str (Str.ofString (toString ((n : Nat) : Int)))) = V.str (S (TL.numL n)) := by rw [num_S]
theorem numL_len140 {n : Nat} (h : n < 10 ^ 140) : (TL.numL n).length ≤ 140 := TL.numL_len (by decide) h
theorem intL_len {n : Int} (h : n.natAbs < 10 ^ 140) : (intL n).length ≤ 141 := by
  have := numL_len140 h
  unfold intL
  split
  · rw [List.length_cons]; omega
  · omega
section
variable {P : Program} {w : World} {K : PySem.W.Frag} {mg : Str → Option Value} {base : Heap} {C : Addr}
/-! ### _law_text -/
def spText : Sp := fun vs H Q _ => ∃ n : Int, vs = [.int n] ∧ n.natAbs < 10 ^ 140 ∧ ∀ H', Same H H' → Q (.str (S (intL n))) H'
theorem ok_text (T : Txt K mg C) : C8.Cal P w K mg base 1 "_law_text" spText [] := by
  refine cal_of T.d_ulaw_text sc_ulaw_text (fun vs H Q E h => ?_) (fun f cdv A outer s H vs Q E hr h => ?_)
  · obtain ⟨p, rfl, _⟩ := h
    rfl
  · obtain ⟨n, rfl, hn, q⟩ := h
    refine ⟨_, (pss_cons (ps_if (pt_cmpR op_eq (pv 0) pe_int (nomark _))
  (pss_one (ps_ret pe_str))
  pss_nil)
  (pss_cons (ps_set (i := 1) sc_ulaw_text.nd rfl (by first | exact Or.inl rfl | exact Or.inr rfl) (pe_lst pa_nil))
  (pss_cons (ps_set (i := 2) sc_ulaw_text.nd rfl (by first | exact Or.inl rfl | exact Or.inr rfl) (pe_callB call_abs (by rfl) T.n_abs (by decide +kernel) (pa_cons (pv 0) pa_nil)))
  (pss_cons (ps_while PassesOwn.never (pt_cmpR op_gt (pv 2) pe_int (nomark _))
  (pss_cons (ps_expr (pe_bm PySem.F.plainAttrs_list PySem.F.slot_list_append PySem.F.type_list_append mt_append (pv 1) (pa_cons (pe_ix ix_str pe_str (pe_op op_mdG (pe_callTy call_int1 (by rfl) T.n_int (by decide +kernel) (pa_cons (pv 2) pa_nil)) pe_int) (fun _ _ => rfl)) pa_nil)))
  (pss_one (ps_set (i := 2) sc_ulaw_text.nd rfl (by first | exact Or.inl rfl | exact Or.inr rfl) (pe_op op_fdG (pv 2) pe_int)))))
  (pss_cons (ps_expr (pe_bm0 PySem.F.plainAttrs_list PySem.F.slot_list_reverse PySem.F.type_list_reverse mt_reverse (pv 1)))
  (pss_cons (ps_set (i := 3) sc_ulaw_text.nd rfl (by first | exact Or.inl rfl | exact Or.inr rfl) (pe_ifExp (pt_cmpR op_lt (pv 0) pe_int (nomark _)) pe_str pe_str))
  (pss_one (ps_ret (pe_op op_add_str (pv 3) (pe_join pe_str (pv 1))))))))))), ?_⟩
    refine ⟨_, rfl, rfl, _, rfl, ?_⟩
    by_cases h0 : n = 0
    · subst h0
      exact iY (dY rfl) (q H (Same.refl H))
    refine iN (dN (vint h0)) ?_
    refine ⟨(by show 0 ≤ sizeLine; decide), fun p hp => ?_⟩
    have hlen := numL_len140 hn
    refine ⟨_, rfl, n, rfl, ?_⟩
    refine while_by (fun σ H' => ∃ (r : Nat) (ds : List Nat), σ = [some (.int n), some (.ref p), some (.int (r : Int)), none] ∧ Same H H' ∧ H' p = some (.lst ((ds.map fun c => S [c]).map V.str)) ∧ TL.numL n.natAbs = (if r = 0 then [] else TL.numL r) ++ ds.reverse)
      (fun σ _ => match σ with | [_, _, some (.int y), _] => y.natAbs | _ => 0) ⟨n.natAbs, [], ?_, Same.new hp, upd_same, ?_⟩ ?_ ?_
    · have e : (if n < 0 then -n else n) = (n.natAbs : Int) := by split <;> omega
      rw [e]
      rfl
    · rw [if_neg (by omega)]; simp
    · rintro σ H' ⟨r, ds, rfl, S1, hds, hnum⟩
      refine ⟨_, rfl, _, _, rfl, rfl, _, rfl, ?_⟩
      have hdl : ds.length ≤ 140 := by
        have := congrArg List.length hnum
        rw [List.length_append, List.length_reverse] at this
        omega
      by_cases hr0 : r = 0
      · subst hr0
        refine iN (dN (by omega)) ?_
        rw [if_pos rfl, List.nil_append] at hnum
        refine ⟨_, rfl, .inl ⟨rfl, _, SqL.of hds⟩, p, _, rfl, rfl, hds, ?_⟩
        have hrev : ((ds.map fun c => S [c]).map V.str).reverse = ((ds.reverse.map fun c => S [c]).map V.str) := by rw [List.map_reverse, List.map_reverse]
        have hj : Txt.join (S []) (ds.reverse.map fun c => S [c]) = S (TL.numL n.natAbs) := by
          have e : (ds.reverse.map fun c => S [c]) = (ds.reverse.map fun c => [c]).map S := by rw [List.map_map]; rfl
          rw [e, join_S, join_ones, hnum]
        have hsum : ((ds.reverse.map fun c => S [c]).map (·.length)).sum + (ds.reverse.map fun c => S [c]).length * (S []).length ≤ 16777216 := by
          have : ∀ l : List Nat, ((l.map fun c => S [c]).map (·.length)).sum = l.length := by
            intro l
            induction l with
            | nil => rfl
            | cons c r ih => rw [List.map_cons, List.map_cons, List.sum_cons, ih, List.length_cons, S_len]; simp; omega
          rw [this, List.length_reverse, S_len]
          simp; omega
        refine ⟨_, rfl, _, _, rfl, rfl, _, rfl, ?_⟩
        have fin : ∀ (b : Bool), intL n = (if b = true then [45] else []) ++ TL.numL n.natAbs → tRet (tOp (fun x y H Q => ∃ i j, x = .str i ∧ y = .str j ∧ i.length + j.length ≤ sizeLine ∧ Q (.str (i ++ j)) H) (tVar 3)
            (tM1 (fun x xs H Q => ∃ a p, ∃ ys : List Str, x = .str a ∧ xs = [.ref p] ∧ (SqL K H p (ys.map V.str) ∨ SqT K H p (ys.map V.str)) ∧ (ys.map (·.length)).sum + ys.length * a.length ≤ 16777216 ∧ Q (.str (Txt.join a ys)) H) (tC (.str (S []))) (tVar 1)))
            { nx := fun _ H' => Q .non H', rt := Q } [some (.int n), some (.ref p), some (.int ((0 : Nat) : Int)), some (.str (S (if b = true then [45] else [])))] (upd H' p (.lst ((ds.map fun c => S [c]).map V.str).reverse)) := fun b hb => by
          refine ⟨_, rfl, ⟨_, rfl⟩, _, rfl, S [], p, _, rfl, rfl, .inl (SqL.of (by rw [upd_same, hrev])), hsum, _, _, rfl, rfl, ?_, ?_⟩
          · rw [hj, S_len, S_len]
            have : (if b = true then [45] else ([] : List Nat)).length ≤ 1 := by cases b <;> decide
            refine Nat.le_trans (Nat.add_le_add this hlen) (by decide)
          · rw [hj, S_cat, ← hb]
            exact q _ (Same.upd S1 hp)
        by_cases hneg : n < 0
        · refine iY (dY hneg) ?_
          exact fin true (by unfold intL; rw [if_pos hneg]; rfl)
        · refine iN (dN hneg) ?_
          exact fin false (by unfold intL; rw [if_neg hneg]; rfl)
      · refine iY (dY (by omega)) ?_
        rw [if_neg hr0] at hnum
        have hm : ((r : Int)).fmod 10 = ((r % 10 : Nat) : Int) := by rw [Int.fmod_eq_emod_of_nonneg _ (by decide)]; rfl
        have hd : ((r : Int)).fdiv 10 = ((r / 10 : Nat) : Int) := by rw [Int.fdiv_eq_ediv_of_nonneg _ (by decide)]; rfl
        have hch : atI (Str.cps (Str.ofString "0123456789")).toList ((r : Int).fmod 10) = some (48 + r % 10) := by
          rw [hm]
          have hlt : r % 10 < 10 := Nat.mod_lt _ (by decide)
          refine atI_nat ?_
          generalize r % 10 = k at hlt
          have key : ∀ k : Nat, k < 10 → (Str.cps (Str.ofString "0123456789")).toList[k]? = some (48 + k) := by decide +kernel
          exact key k hlt
        refine ⟨_, rfl, .inl ⟨rfl, _, SqL.of hds⟩, _, rfl, .inl ⟨_, rfl, _, _, rfl, rfl, (by show (_ : Int) ≠ 0; decide), _, _, _, rfl, rfl, (by decide), hch, p, _, _, rfl, rfl, hds, ?_, ?_⟩⟩
        · rw [List.length_map, List.length_map]
          exact small1000 (by omega)
        · refine ⟨_, rfl, _, _, rfl, rfl, fdG (b := 5) (by decide) (by decide), ?_⟩
          refine ⟨⟨r / 10, ds ++ [48 + r % 10], ?_, Same.upd S1 hp, ?_, ?_⟩, ?_⟩
          · rw [← hd]; rfl
          · rw [upd_same, List.map_append, List.map_append]; rfl
          · rw [hnum, List.reverse_append]
            by_cases h10 : r < 10
            · rw [TL.numL_lt h10, if_pos (by omega), Nat.mod_eq_of_lt h10]; rfl
            · rw [TL.numL_step (by omega), if_neg (by omega)]; simp
          · show ((r : Int).fdiv 10).natAbs < ((r : Int)).natAbs
            rw [hd]
            omega
    · rintro σ H' Q1 Q2 hq ⟨v, e, i, j, ei, ej, c, ec, q⟩
      exact ⟨v, e, i, j, ei, ej, c, ec, hq _ _ q⟩
/-! ### written_integer -/
theorem pcs_sum (ps : List (List Nat)) (h : ∀ p ∈ ps, p.length ≤ 200) : ((ps.map S).map (·.length)).sum ≤ 200 * ps.length := by
  induction ps with
  | nil => simp
  | cons p r ih =>
    have h1 := h p (by simp)
    have h2 := ih fun q hq => h q (List.mem_cons_of_mem _ hq)
    rw [List.map_cons, List.map_cons, List.sum_cons, S_len, List.length_cons]
    omega
theorem joinL_nil : ∀ ps : List (List Nat), TL.joinL [] ps = ps.flatten
  | [] => rfl
  | [p] => by simp [TL.joinL]
  | p :: q :: r => by
    show p ++ ([] ++ TL.joinL [] (q :: r)) = _
    rw [joinL_nil (q :: r)]; rfl
def spW0 : Sp := fun vs H Q _ => ∃ n : Nat, vs = [.int (n : Int)] ∧ n < 10 ^ 140 ∧ ∀ H', Same H H' → Q (.str (S (TL.numL n))) H'
theorem b_w0 (T : Txt K mg C) {k : Nat} : Body P w K mg base k "written_integer" s_written_integer N_written_integer spW0 := by
  intro f cdv A outer s H vs Q E hr h
  · obtain ⟨n, rfl, hn, q⟩ := h
    refine ⟨_, (pss_cons (ps_if (pt_cmpR op_lt (pv 0) pe_int (nomark _))
  (pss_one ps_never)
  pss_nil)
  (pss_cons (ps_set (i := 1) sc_written_integer.nd rfl (by first | exact Or.inl rfl | exact Or.inr rfl) (pe_lst pa_nil))
  (pss_cons (ps_while PassesOwn.never (pt_cmpR op_ge (pv 0) (pe_op op_pow pe_int pe_int) (nomark _))
  (pss_cons (ps_asg (pe_callB call_divmodW (by rfl) T.n_divmod (by decide +kernel) (pa_cons (pv 0) (pa_cons (pe_op op_pow pe_int pe_int) pa_nil))) (pg_tup rfl (pgs_cons (pg_name (i := 0) sc_written_integer.nd rfl (by first | exact Or.inl rfl | exact Or.inr rfl)) (pgs_cons (pg_name (i := 2) sc_written_integer.nd rfl (by first | exact Or.inl rfl | exact Or.inr rfl)) pgs_nil))))
  (pss_one (ps_expr (pe_bm PySem.F.plainAttrs_list PySem.F.slot_list_append PySem.F.type_list_append mt_append (pv 1) (pa_cons (pe_bm PySem.F.plainAttrs_str PySem.F.slot_str_zfill PySem.F.type_str_zfill mt_zfill (pe_callTy call_str_int (by rfl) T.n_str (by decide +kernel) (pa_cons (pv 2) pa_nil)) (pa_cons (C8.pe_gc rfl T.c_PIECE) pa_nil)) pa_nil))))))
  (pss_cons (ps_expr (pe_bm PySem.F.plainAttrs_list PySem.F.slot_list_append PySem.F.type_list_append mt_append (pv 1) (pa_cons (pe_callTy call_str_int (by rfl) T.n_str (by decide +kernel) (pa_cons (pv 0) pa_nil)) pa_nil)))
  (pss_one (ps_ret (pe_join pe_str (pe_revL (pv 1))))))))), ?_⟩
    refine ⟨_, rfl, _, _, rfl, rfl, _, rfl, iN (dN (by omega)) ?_⟩
    refine ⟨(by show 0 ≤ sizeLine; decide), fun p hp => ?_⟩
    have hlen := numL_len140 hn
    refine while_by (fun σ H' => ∃ (r : Nat) (ps : List (List Nat)) (lw : Option V), σ = [some (.int (r : Int)), some (.ref p), lw] ∧ Same H H' ∧ H' p = some (.lst ((ps.map S).map V.str)) ∧ TL.numL n = TL.numL r ++ ps.reverse.flatten ∧ ps.length ≤ (TL.numL n).length ∧ (∀ x ∈ ps, x.length = 50) ∧ r ≤ n)
      (fun σ _ => match σ with | [some (.int y), _, _] => y.natAbs | _ => 0) ⟨n, [], none, rfl, Same.new hp, upd_same, by simp, by simp, by simp, Nat.le_refl _⟩ ?_ ?_
    · rintro σ H' ⟨r, ps, lw, rfl, S1, hps, hnum, hpl, hp50, hrn⟩
      have e50 : (10 : Int) ^ (50 : Int).toNat = ((10 ^ 50 : Nat) : Int) := by decide +kernel
      refine ⟨_, rfl, _, _, rfl, rfl, ⟨by decide, by decide, by decide⟩, _, _, rfl, rfl, _, rfl, ?_⟩
      show if decide ((10 : Int) ^ (50 : Int).toNat ≤ (r : Int)) = true then _ else _
      by_cases hbig : 10 ^ 50 ≤ r
      · refine iY (dY (by rw [e50]; exact Int.ofNat_le.mpr hbig)) ?_
        have hlow : r % 10 ^ 50 < 10 ^ 50 := Nat.mod_lt _ (Nat.pow_pos (by decide))
        have hdv : (r : Int) / ((10 ^ 50 : Nat) : Int) = ((r / 10 ^ 50 : Nat) : Int) := rfl
        have hmd : (r : Int) % ((10 ^ 50 : Nat) : Int) = ((r % 10 ^ 50 : Nat) : Int) := rfl
        have ha : 0 < r / 10 ^ 50 := Nat.div_pos hbig (Nat.pow_pos (by decide))
        have hr2 : r = r / 10 ^ 50 * 10 ^ 50 + r % 10 ^ 50 := (Nat.div_add_mod' r (10 ^ 50)).symm
        refine ⟨_, rfl, _, _, rfl, rfl, ⟨by decide, by decide, by decide⟩, _, _, rfl, ⟨by rw [e50]; decide +kernel, PyProof.noPylong_of_log2 (by rw [e50]; decide +kernel)⟩, fun t ht => ?_⟩
        rw [e50, hdv, hmd]
        refine ⟨t, _, rfl, SqT.of upd_same, rfl, _, _, rfl, _, _, rfl, rfl, ?_⟩
        have S2 : Same H (upd H' t (.tup [.int ((r / 10 ^ 50 : Nat) : Int), .int ((r % 10 ^ 50 : Nat) : Int)])) := Same.new' S1 ht
        have hps2 : (upd H' t (.tup [.int ((r / 10 ^ 50 : Nat) : Int), .int ((r % 10 ^ 50 : Nat) : Int)])) p = some (.lst ((ps.map S).map V.str)) := by rw [upd_ne (ne_of_none hps ht)]; exact hps
        have hlg : ((r % 10 ^ 50 : Nat) : Int).natAbs.log2 < 1920 := Nat.lt_of_lt_of_le (PySem.Flt.log2_lt_of (k := 170) (by decide) (Nat.lt_trans hlow (by decide +kernel))) (by decide)
        have hz := zfill_num (k := 50) (r := r % 10 ^ 50) (by decide) hlow
        refine ⟨_, rfl, .inl ⟨rfl, _, SqL.of hps2⟩, _, rfl, _, rfl, hlg, ?_⟩
        rw [toS]
        refine ⟨rfl, _, _, rfl, rfl, (by decide), p, _, _, rfl, rfl, hps2, ?_, ?_⟩
        · rw [List.length_map, List.length_map]
          exact small1000 (by omega)
        · rw [show Txt.zfill (S (TL.numL (r % 10 ^ 50))) 50 = S (fw 50 (r % 10 ^ 50)) from hz]
          have hnew : TL.numL r = TL.numL (r / 10 ^ 50) ++ fw 50 (r % 10 ^ 50) := by
            conv => lhs; rw [hr2]
            exact numL_fw ha 50 _ hlow
          refine ⟨⟨r / 10 ^ 50, ps ++ [fw 50 (r % 10 ^ 50)], _, rfl, Same.upd S2 hp, ?_, ?_, ?_, ?_, ?_⟩, ?_⟩
          · rw [upd_same, List.map_append, List.map_append]; rfl
          · rw [hnum, hnew, List.reverse_append]; simp
          · have h1 := congrArg List.length hnum
            rw [hnew, List.length_append, List.length_append, fw_len] at h1
            have h2 : ps.reverse.flatten.length = 50 * ps.length := by
              have : ∀ l : List (List Nat), (∀ x ∈ l, x.length = 50) → l.flatten.length = 50 * l.length := by
                intro l
                induction l with
                | nil => intro _; rfl
                | cons x t ih =>
                  intro hx
                  rw [List.flatten_cons, List.length_append, hx x (by simp), ih fun y hy => hx y (List.mem_cons_of_mem _ hy), List.length_cons]
                  omega
              rw [this _ (fun x hx => hp50 x (List.mem_reverse.mp hx)), List.length_reverse]
            rw [List.length_append, List.length_singleton]
            omega
          · intro x hx
            rcases List.mem_append.mp hx with h | h
            · exact hp50 x h
            · rw [List.mem_singleton.mp h, fw_len]
          · exact Nat.le_trans (Nat.div_le_self _ _) hrn
          · show (((r / 10 ^ 50 : Nat) : Int)).natAbs < ((r : Int)).natAbs
            rw [Int.natAbs_natCast, Int.natAbs_natCast]
            exact Nat.div_lt_self (Nat.lt_of_lt_of_le (Nat.pow_pos (by decide)) hbig) (by decide +kernel)
      · refine iN (dN (by rw [e50]; exact fun z => hbig (Int.ofNat_le.mp z))) ?_
        have hrs : r < 10 ^ 50 := Nat.lt_of_not_le hbig
        have hlg : ((r : Nat) : Int).natAbs.log2 < 1920 := Nat.lt_of_lt_of_le (PySem.Flt.log2_lt_of (k := 170) (by decide) (Nat.lt_trans hrs (by decide +kernel))) (by decide)
        refine ⟨_, rfl, .inl ⟨rfl, _, SqL.of hps⟩, _, rfl, _, rfl, hlg, ?_⟩
        rw [toS]
        refine ⟨p, _, _, rfl, rfl, hps, ?_, ?_⟩
        · rw [List.length_map, List.length_map]
          exact small1000 (by omega)
        · have S2 : Same H (upd H' p (.lst ((ps.map S).map V.str ++ [V.str (S (TL.numL r))]))) := Same.upd S1 hp
          refine ⟨⟨_, rfl⟩, _, rfl, p, _, rfl, SqL.of upd_same, fun d hd => ?_⟩
          have er : ((ps.map S).map V.str ++ [V.str (S (TL.numL r))]).reverse = ((TL.numL r :: ps.reverse).map S).map V.str := by
            rw [List.reverse_append, ← List.map_reverse, ← List.map_reverse]; rfl
          have hj : Txt.join (S []) ((TL.numL r :: ps.reverse).map S) = S (TL.numL n) := by rw [join_S, joinL_nil, List.flatten_cons, hnum]
          have hrl : (TL.numL r).length ≤ 50 := TL.numL_len (by decide) hrs
          refine ⟨S [], d, _, rfl, rfl, .inl (SqL.of (by rw [upd_same, er])), ?_, ?_⟩
          · have hs := pcs_sum (TL.numL r :: ps.reverse) (fun x hx => by
              rcases List.mem_cons.mp hx with rfl | h
              · omega
              · rw [hp50 x (List.mem_reverse.mp h)]; decide)
            rw [List.length_cons, List.length_reverse] at hs
            rw [S_len]
            simp only [List.length_nil, Nat.mul_zero, Nat.add_zero]
            omega
          · rw [hj]
            exact q _ (Same.new' S2 hd)
    · rintro σ H' Q1 Q2 hq ⟨v, e, i, j, ei, ej, hc, i2, j2, e2, e3, c, ec, q⟩
      exact ⟨v, e, i, j, ei, ej, hc, i2, j2, e2, e3, c, ec, hq _ _ q⟩
end
end K2
namespace K2
open PySem PySem.Spec PyProof.Rows L2 OW SX TM
section
variable {P : Program} {w : World} {K : PySem.W.Frag} {mg : Str → Option Value} {base : Heap} {C : Addr}
def spW : Sp := fun vs H Q _ => ∃ n : Int, vs = [.int n] ∧ n.natAbs < 10 ^ 140 ∧ ∀ H', Same H H' → Q (.str (S (intL n))) H'
def spWn : Sp := fun vs H Q _ => ∃ n : Nat, 0 < n ∧ vs = [.int (-(n : Int))] ∧ n < 10 ^ 140 ∧ ∀ H', Same H H' → Q (.str (S (45 :: TL.numL n))) H'
theorem ok_w (T : Txt K mg C) : C8.Cal P w K mg base 2 "written_integer" spW [] := by
  obtain ⟨f, fd, F, b⟩ := T.d_written_integer
  have F0 : FnOk P w K mg base C8.CX0 1 f fd ["n"] spW0 := C8.fn0 F.fn sc_written_integer (fun vs H Q E h => by obtain ⟨p, rfl, _⟩ := h; rfl) (b_w0 T f)
  have c_rec : C8.Cal P w K mg base 1 "written_integer" spW0 [] := ⟨f, fd, _, [], F0, F.mgf, F.kp, b, .nil⟩
  have F1 : FnOk P w K mg base C8.CX0 2 f fd ["n"] spWn := by
    refine C8.fn0 F.fn sc_written_integer (fun vs H Q E h => by obtain ⟨p, _, rfl, _⟩ := h; rfl) (fun cdv A outer s H vs Q E hr h => ?_)
    obtain ⟨n, h0, rfl, hn, q⟩ := h
    refine ⟨_, (pss_cons (ps_if (pt_cmpR op_lt (pv 0) pe_int (nomark _))
  (pss_one (ps_ret (pe_op op_add_str pe_str (C8.pe_c c_rec hr (by decide) rfl (pa_cons (pe_un un_neg (pv 0)) pa_nil)))))
  pss_nil)
  (pss_cons (ps_set (i := 1) sc_written_integer.nd rfl (by first | exact Or.inl rfl | exact Or.inr rfl) (pe_lst pa_nil))
  (pss_cons (ps_while PassesOwn.never (pt_cmpR op_ge (pv 0) (pe_op op_pow pe_int pe_int) (nomark _))
  (pss_cons (ps_asg (pe_callB call_divmodW (by rfl) T.n_divmod (by decide +kernel) (pa_cons (pv 0) (pa_cons (pe_op op_pow pe_int pe_int) pa_nil))) (pg_tup rfl (pgs_cons (pg_name (i := 0) sc_written_integer.nd rfl (by first | exact Or.inl rfl | exact Or.inr rfl)) (pgs_cons (pg_name (i := 2) sc_written_integer.nd rfl (by first | exact Or.inl rfl | exact Or.inr rfl)) pgs_nil))))
  (pss_one (ps_expr (pe_bm PySem.F.plainAttrs_list PySem.F.slot_list_append PySem.F.type_list_append mt_append (pv 1) (pa_cons (pe_bm PySem.F.plainAttrs_str PySem.F.slot_str_zfill PySem.F.type_str_zfill mt_zfill (pe_callTy call_str_int (by rfl) T.n_str (by decide +kernel) (pa_cons (pv 2) pa_nil)) (pa_cons (C8.pe_gc rfl T.c_PIECE) pa_nil)) pa_nil))))))
  (pss_cons (ps_expr (pe_bm PySem.F.plainAttrs_list PySem.F.slot_list_append PySem.F.type_list_append mt_append (pv 1) (pa_cons (pe_callTy call_str_int (by rfl) T.n_str (by decide +kernel) (pa_cons (pv 0) pa_nil)) pa_nil)))
  (pss_one (ps_ret (pe_join pe_str (pe_revL (pv 1))))))))), ?_⟩
    refine ⟨_, rfl, _, _, rfl, rfl, _, rfl, iY (dY (by omega)) ?_⟩
    refine ⟨_, rfl, _, rfl, n, (by show [V.int (- -(n : Int))] = [V.int (n : Int)]; rw [Int.neg_neg]), hn, fun H' hs => ?_⟩
    refine ⟨S [45], S (TL.numL n), rfl, rfl, ?_, ?_⟩
    · rw [S_len, S_len]
      have := numL_len140 hn
      exact Nat.le_trans (Nat.add_le_add (Nat.le_refl 1) this) (by decide)
    · rw [S_cat]
      exact q H' hs
  refine ⟨f, fd, _, [], (fn_or (F0.mono (by decide)) F1).imp fun vs H Q E h => ?_, F.mgf, F.kp, b, .nil⟩
  obtain ⟨n, rfl, hn, q⟩ := h
  by_cases h0 : n < 0
  · refine .inr ⟨n.natAbs, by omega, congrArg (fun z => [V.int z]) (by omega), hn, ?_⟩
    unfold intL at q
    rw [if_pos h0] at q
    exact q
  · refine .inl ⟨n.natAbs, congrArg (fun z => [V.int z]) (by omega), hn, ?_⟩
    unfold intL at q
    rw [if_neg h0] at q
    exact q
/-! ### Ratio.__str__ -/
def spStr (C : Addr) : Sp := fun vs H Q _ => ∃ (v : V) (q : Rat), vs = [v] ∧ RatAt C H v q ∧ q.num.natAbs < 10 ^ 140 ∧ q.den < 10 ^ 140 ∧ ∀ H', Same H H' → Q (.str (S (writ q.num q.den))) H'
theorem joinL_one (p : List Nat) (s : List Nat) : TL.joinL s [p] = p := rfl
theorem ok_str (T : Txt K mg C) : C8.Met P w K mg base 3 C "__str__" (spStr C) [] := by
  have c_written_integer : C8.Cal P w K mg base 2 "written_integer" spW [] := ok_w T
  refine met_of T.d_RatioU_strU sc_RatioU_strU (fun vs H Q E h => ?_) (fun f cdv A outer s H vs Q E hr h => ?_)
  · obtain ⟨v, q, rfl, _⟩ := h
    rfl
  · obtain ⟨v, z, rfl, hv, hn, hd, q⟩ := h
    obtain ⟨a, dx, rfl, hh⟩ := id hv
    have hdn : ((z.den : Int)).natAbs < 10 ^ 140 := by rw [Int.natAbs_natCast]; exact hd
    have eD : intL (z.den : Int) = TL.numL z.den := by unfold intL; rw [if_neg (by omega), Int.natAbs_natCast]
    have l1 := intL_len hn
    have l2 := numL_len140 hd
    refine ⟨_, (pss_cons (ps_if (pt_cmpR op_eq (pe_fld (pv 0) rfl) pe_int (nomark _))
  (pss_one (ps_ret (pe_join pe_str (pe_lst (pa_cons (C8.pe_c c_written_integer hr (by decide) rfl (pa_cons (pe_fld (pv 0) rfl) pa_nil)) pa_nil)))))
  pss_nil)
  (pss_one (ps_ret (pe_join pe_str (pe_lst (pa_cons (C8.pe_c c_written_integer hr (by decide) rfl (pa_cons (pe_fld (pv 0) rfl) pa_nil)) (pa_cons (C8.pe_c c_written_integer hr (by decide) rfl (pa_cons (pe_fld (pv 0) rfl) pa_nil)) pa_nil))))))), ?_⟩
    refine ⟨_, rfl, a, C, dx, _, _, rfl, hh, T.cl, T.nD, rf_d z, rfl, _, rfl, ?_⟩
    by_cases h1 : z.den = 1
    · refine iY (dY (by rw [h1]; rfl)) ?_
      refine ⟨⟨_, rfl⟩, _, rfl, a, C, dx, _, _, rfl, hh, T.cl, T.nN, rf_n z, z.num, rfl, hn, fun H1 s1 => ⟨(by show 1 ≤ sizeLine; decide), fun p hp => ?_⟩⟩
      refine ⟨S [], p, [S (intL z.num)], rfl, rfl, .inl (SqL.of upd_same), ?_, ?_⟩
      · simp [S_len]; omega
      · have e : Txt.join (S []) [S (intL z.num)] = S (writ z.num z.den) := by
          rw [show [S (intL z.num)] = [intL z.num].map S from rfl, join_S, joinL_one]
          unfold writ
          rw [if_pos h1, List.append_nil]
        rw [e]
        exact q _ (Same.new' s1 hp)
    · refine iN (dN (vint (by omega))) ?_
      refine ⟨⟨_, rfl⟩, _, rfl, a, C, dx, _, _, rfl, hh, T.cl, T.nN, rf_n z, z.num, rfl, hn, fun H1 s1 => ?_⟩
      refine ⟨_, rfl, a, C, dx, _, _, rfl, s1 _ _ hh, T.cl, T.nD, rf_d z, z.den, rfl, hdn, fun H2 s2 => ⟨(by show 2 ≤ sizeLine; decide), fun p hp => ?_⟩⟩
      refine ⟨S [47], p, [S (intL z.num), S (intL z.den)], rfl, rfl, .inl (SqL.of upd_same), ?_, ?_⟩
      · rw [eD]; simp [S_len]; omega
      · have e : Txt.join (S [47]) [S (intL z.num), S (intL z.den)] = S (writ z.num z.den) := by
          rw [show [S (intL z.num), S (intL z.den)] = [intL z.num, intL z.den].map S from rfl, join_S, eD]
          unfold writ
          rw [if_neg h1]
          rfl
        rw [e]
        exact q _ (Same.new' (s1.trans s2) hp)
/-! ### _is_digits -/
def spIsDig : Sp := fun vs H Q _ => ∃ l : List Nat, vs = [.str (S l)] ∧ l.length ≤ 1000 ∧ Q (.bl (isDig l)) H
theorem S_nil (l : List Nat) : (S l = S []) ↔ l = [] := ⟨fun h => S_inj h, fun h => by rw [h]⟩
theorem digs : (Str.cps (Str.ofString "0123456789")).toList = [48, 49, 50, 51, 52, 53, 54, 55, 56, 57] := by decide +kernel
theorem ok_isDig (T : Txt K mg C) : C8.Cal P w K mg base 1 "_is_digits" spIsDig [] := by
  refine cal_of T.d_uis_digits sc_uis_digits (fun vs H Q E h => ?_) (fun f cdv A outer s H vs Q E hr h => ?_)
  · obtain ⟨l, rfl, _⟩ := h
    rfl
  · obtain ⟨l, rfl, hl, q⟩ := h
    refine ⟨_, (pss_cons (ps_if (PW.pt (pw_or (pt_cmpR op_eq (pv 0) pe_str (nomark _)) (pw_or1 (PW.pt (pw_and (pt_cmpR op_gt (pe_callB call_len (by rfl) T.n_len PySem.boot_len (pa_cons (pv 0) pa_nil)) pe_int (nomark _)) (pw_and1 (pt_cmpR op_eq (pe_ix ix_str (pv 0) pe_int (fun _ _ => rfl)) pe_str (nomark _))))))))
  (pss_one (ps_ret pe_bl))
  pss_nil)
  (pss_cons (ps_for PassesOwn.never rfl (pi_str (pv 0)) (pg_name (i := 1) sc_uis_digits.nd rfl (by first | exact Or.inl rfl | exact Or.inr rfl))
  (pss_one (ps_if (pt_cmpR op_notIn_sign (pv 1) (C8.pe_gc rfl T.c_DIGITS) rfl)
  (pss_one (ps_ret pe_bl))
  pss_nil)))
  (pss_one (ps_ret pe_bl)))), ?_⟩
    have hz : (S l).length ≤ sizeLine := by rw [S_len]; exact Nat.le_trans hl (by decide)
    refine ⟨_, rfl, rfl, _, rfl, ?_⟩
    by_cases h0 : l = []
    · subst h0
      exact iY (dY rfl) (iY rfl q)
    refine iN (dN (vstr fun z => h0 ((S_nil l).mp z))) ?_
    refine ⟨_, rfl, _, _, rfl, ⟨hz, rfl⟩, _, _, rfl, rfl, _, rfl, ?_⟩
    have main : ((decide (1 < l.length) && l.head? == some 48) = false) → tSeq (tFor (iStr (tVar 0)) (gName 1) (tIfS (tTest (tOp (fun x y H Q => ∃ (c : Nat) (z : Str), x = .str ⟨#[c]⟩ ∧ y = .str z ∧ Q (.bl (!decide (c ∈ z.cps.toList))) H) (tVar 1) (tC (.str (Str.ofString "0123456789"))))) (tRet (tC (.bl false))) tNext)) (tRet (tC (.bl true)))
        { nx := fun _ H' => Q .non H', rt := Q } (L2.start N_uis_digits [V.str (S l)]) H := by
      intro hh
      refine ⟨_, rfl, S l, rfl, fun i m σ H' => m = l.length - i ∧ i ≤ l.length ∧ H' = H ∧ (∃ v : Option V, σ = [some (.str (S l)), v]) ∧ ∀ c ∈ l.take i, 48 ≤ c ∧ c ≤ 57, ⟨_, rfl, Nat.zero_le _, rfl, ⟨none, rfl⟩, by simp⟩, ?_⟩
      rintro i m σ H' ⟨rfl, hi, rfl, ⟨v, rfl⟩, hc⟩
      by_cases hlt : i < l.length
      · refine .inr ⟨by show i < (S l).cps.size; simpa [S] using hlt, fun σ' H'' => l.length - (i + 1) = l.length - (i + 1) ∧ i + 1 ≤ l.length ∧ H'' = H' ∧ (∃ v : Option V, σ' = [some (.str (S l)), v]) ∧ ∀ c ∈ l.take (i + 1), 48 ≤ c ∧ c ≤ 57, fun σ' H'' z => ⟨_, by omega, z⟩, fun x H'' y => ?_⟩
        obtain ⟨rfl, c, ec, rfl⟩ := y
        have ec' : l[i]? = some c := by simpa [S] using ec
        refine ⟨_, rfl, c, _, rfl, rfl, _, rfl, ?_⟩
        rw [digs]
        by_cases hd : c ∈ [48, 49, 50, 51, 52, 53, 54, 55, 56, 57]
        · refine iN (nN hd) ⟨rfl, hlt, rfl, ⟨_, rfl⟩, fun d hm => ?_⟩
          obtain ⟨h1, h2⟩ := List.getElem?_eq_some_iff.mp ec'
          rw [List.take_succ_eq_append_getElem h1] at hm
          rcases List.mem_append.mp hm with h | h
          · exact hc d h
          · rw [List.mem_singleton.mp h, h2]
            simp at hd
            omega
        · refine iY (nY hd) ?_
          have e : isDig l = false := notDig (c := c) (List.mem_of_getElem? ec') (by simp at hd; omega)
          rw [e] at q
          exact q
      · refine .inl ⟨by show (S l).cps.size ≤ i; simpa [S] using Nat.le_of_not_lt hlt, ?_⟩
        have hall : isDig l = true := by
          have e1 : l.take i = l := List.take_of_length_le (by omega)
          rw [e1] at hc
          unfold isDig
          rw [Bool.and_eq_true]
          refine ⟨?_, List.all_eq_true.mpr fun c hm => by have := hc c hm; simp [this.1, this.2]⟩
          rw [hh]
          cases l with
          | nil => exact absurd rfl h0
          | cons a r => rfl
        rw [hall] at q
        exact q
    by_cases h1 : 1 < l.length
    · refine iY (dY (by rw [S_len]; exact Int.ofNat_lt.mpr h1)) ?_
      cases l with
      | nil => exact absurd rfl h0
      | cons c r =>
      refine ⟨_, rfl, S (c :: r), _, c, rfl, rfl, hz, atI_nat (j := 0) rfl, rfl, _, rfl, ?_⟩
      by_cases h48 : c = 48
      · subst h48
        refine iY (dY rfl) ?_
        have e : isDig (48 :: r) = false := by unfold isDig; rw [show decide (1 < (48 :: r).length) = true from decide_eq_true h1]; rfl
        rw [e] at q
        exact q
      · refine iN (dN (vstr fun z => h48 ?_)) (main (by simp [h48]))
        have z' : S [c] = S [48] := z
        have := S_inj z'
        simpa using this
    · exact iN (dN (by rw [S_len]; omega)) (main (by simp [h1]))
end
end K2
namespace K2
open PySem PySem.Spec PyProof.Rows L2 OW SX TM
theorem cutS_ab (l : List Nat) (a b : Nat) : cutS (S l) (some (a : Int)) (some (b : Int)) = S ((l.drop (min a l.length)).take (min b l.length - min a l.length)) := by
  unfold cutS
  rw [HT.sIx_nat, HT.sIx_nat, S_len]
theorem cutS_a (l : List Nat) (a : Nat) : cutS (S l) (some (a : Int)) none = S (l.drop (min a l.length)) := by
  unfold cutS
  rw [HT.sIx_nat, HT.sIx_none, S_len]
  congr 1
  congr 1
  rw [List.take_of_length_le]
  rw [List.length_drop]
  exact Nat.le_refl _
theorem val_lt (l : List Nat) (h : NumText.AllDigits l) : val l < 10 ^ l.length := by
  have key : ∀ (l : List Nat) (a : Nat), NumText.AllDigits l → l.foldl (fun acc c => acc * 10 + (c - 48)) a < (a + 1) * 10 ^ l.length := by
    intro l
    induction l with
    | nil => intro a _; simp
    | cons c r ih =>
      intro a h
      have hc := h c (by simp)
      have := ih (a * 10 + (c - 48)) fun d hd => h d (List.mem_cons_of_mem _ hd)
      rw [List.foldl_cons, List.length_cons, Nat.pow_succ]
      refine Nat.lt_of_lt_of_le this ?_
      rw [Nat.mul_comm (10 ^ r.length) 10, ← Nat.mul_assoc]
      exact Nat.mul_le_mul_right _ (by omega)
  have := key l 0 h
  rw [Nat.zero_add, Nat.one_mul] at this
  exact this
theorem isDig_all {l : List Nat} (h : isDig l = true) : NumText.AllDigits l ∧ l ≠ [] := by
  unfold isDig at h
  rw [Bool.and_eq_true] at h
  refine ⟨fun c hc => ?_, fun e => ?_⟩
  · have := List.all_eq_true.mp h.2 c hc
    simpa using this
  · rw [e] at h
    exact absurd h.1 (by decide)
theorem fitsL {i : Int} (h0 : -1000000 ≤ i) (h1 : i ≤ 1000000) : Builtin.Range.rangeFitsLong i = true := by
  unfold Builtin.Range.rangeFitsLong
  rw [Bool.and_eq_true, decide_eq_true_eq, decide_eq_true_eq]
  exact ⟨by omega, by omega⟩
theorem rg50 (n : Nat) (h : n ≤ 1000) : RgC 0 (n : Int) 50 ((n + 49) / 50) := by
  have e : Builtin.Range.rangeSize 0 (n : Int) 50 = (((n + 49) / 50 : Nat) : Int) := by
    unfold Builtin.Range.rangeSize
    rw [if_pos (by decide)]
    split <;> omega
  refine ⟨by decide, by decide, ?_, e⟩
  unfold Builtin.Range.small
  rw [e]
  simp only [fitsL (i := 0) (by decide) (by decide), fitsL (i := (n : Int)) (by omega) (by omega), fitsL (i := 50) (by decide) (by decide), fitsL (i := (((n + 49) / 50 : Nat) : Int)) (by omega) (by omega), Bool.true_and, Bool.and_true, show (50 : Int) > 0 by decide, if_true]
  try (rw [fitsL (i := (n : Int) + (50 - 1)) (by omega) (by omega)])
  try simp
section
variable {P : Program} {w : World} {K : PySem.W.Frag} {mg : Str → Option Value} {base : Heap} {C : Addr}
/-! ### _number -/
def spNum : Sp := fun vs H Q _ => ∃ l : List Nat, vs = [.str (S l)] ∧ l.length ≤ 1000 ∧ NumText.AllDigits l ∧ Q (.int (val l : Nat)) H
theorem ok_num (T : Txt K mg C) : C8.Cal P w K mg base 1 "_number" spNum [] := by
  refine cal_of T.d_unumber sc_unumber (fun vs H Q E h => ?_) (fun f cdv A outer s H vs Q E hr h => ?_)
  · obtain ⟨l, rfl, _⟩ := h
    rfl
  · obtain ⟨l, rfl, hl, hd, q⟩ := h
    refine ⟨_, (pss_cons (ps_set (i := 1) sc_unumber.nd rfl (by first | exact Or.inl rfl | exact Or.inr rfl) pe_int)
  (pss_cons (ps_for PassesOwn.never rfl (pi_range3 (by rfl) T.n_range (pa_cons pe_int (pa_cons (pe_callB call_len (by rfl) T.n_len PySem.boot_len (pa_cons (pv 0) pa_nil)) (pa_cons (C8.pe_gc rfl T.c_PIECE) pa_nil)))) (pg_name (i := 2) sc_unumber.nd rfl (by first | exact Or.inl rfl | exact Or.inr rfl))
  (pss_cons (ps_set (i := 3) sc_unumber.nd rfl (by first | exact Or.inl rfl | exact Or.inr rfl) (pe_slice sl_str (pv 0) (po_some (pv 2)) (po_some (pe_op op_add (pv 2) (C8.pe_gc rfl T.c_PIECE)))))
  (pss_cons (ps_for PassesOwn.never rfl (pi_str (pv 3)) (pg_name (i := 4) sc_unumber.nd rfl (by first | exact Or.inl rfl | exact Or.inr rfl))
  (pss_one (ps_set (i := 1) sc_unumber.nd rfl (by first | exact Or.inl rfl | exact Or.inr rfl) (pe_op op_mulX (pv 1) pe_int))))
  (pss_one (ps_set (i := 1) sc_unumber.nd rfl (by first | exact Or.inl rfl | exact Or.inr rfl) (pe_op op_add (pv 1) (pe_callTy call_int_str (by rfl) T.n_int (by decide +kernel) (pa_cons (pv 3) pa_nil))))))))
  (pss_one (ps_ret (pv 1))))), ?_⟩
    have hz : (S l).length ≤ sizeLine := by rw [S_len]; exact Nat.le_trans hl (by decide)
    refine ⟨_, rfl, _, _, rfl, ⟨hz, rfl⟩, _, _, _, (l.length + 49) / 50, rfl, (by rw [S_len]; exact rg50 _ hl), for_rangeC (lo := 0) (c := 50) (fun i σ H' => H' = H ∧ ∃ a p u : Option V, σ = [some (.str (S l)), some (.int (val (l.take (50 * i)) : Nat)), a, p, u]) ⟨rfl, none, none, none, rfl⟩ ?_ ?_⟩
    · rintro i σ H' hi ⟨rfl, a, p, u, rfl⟩
      have ec : cutS (S l) (some (0 + (i : Int) * 50)) (some (0 + (i : Int) * 50 + 50)) = S ((l.drop (50 * i)).take 50) := by
        have h1 := cutS_ab l (50 * i) (50 * i + 50)
        rw [show ((50 * i : Nat) : Int) = 0 + (i : Int) * 50 by omega, show ((50 * i + 50 : Nat) : Int) = 0 + (i : Int) * 50 + 50 by omega] at h1
        rw [h1]
        have e1 : min (50 * i) l.length = 50 * i := by omega
        rw [e1]
        by_cases h2 : 50 * i + 50 ≤ l.length
        · rw [Nat.min_eq_left h2]
          congr 2
          omega
        · rw [Nat.min_eq_right (by omega), List.take_of_length_le (by rw [List.length_drop]; exact Nat.le_refl _), List.take_of_length_le (by rw [List.length_drop]; omega)]
      refine ⟨_, rfl, _, rfl, _, rfl, _, rfl, _, _, rfl, rfl, _, rfl, _, rfl, hz, ?_⟩
      have hpc : ((l.drop (50 * i)).take 50).length ≤ 50 := List.length_take_le _ _
      have hpd : NumText.AllDigits ((l.drop (50 * i)).take 50) := fun c hc => hd c (List.mem_of_mem_drop (List.mem_of_mem_take hc))
      have hpn : ((l.drop (50 * i)).take 50) ≠ [] := by
        intro e
        have := congrArg List.length e
        rw [List.length_take, List.length_drop, List.length_nil] at this
        omega
      have esplit : l.take (50 * (i + 1)) = l.take (50 * i) ++ (l.drop (50 * i)).take 50 := by
        rw [show 50 * (i + 1) = 50 * i + 50 by omega, List.take_add]
      generalize hpiece : (l.drop (50 * i)).take 50 = piece at ec hpc hpd hpn esplit
      have hb0 : val (l.take (50 * i)) < 10 ^ 1000 := by
        have h1 := val_lt (l.take (50 * i)) fun c hc => hd c (List.mem_of_mem_take hc)
        refine Nat.lt_of_lt_of_le h1 (Nat.pow_le_pow_right (by decide) ?_)
        rw [List.length_take]; omega
      refine ⟨_, rfl, S piece, (by show V.str (cutS (S l) _ _) = _; rw [ec]), fun j m σ H2 => m = piece.length - j ∧ j ≤ piece.length ∧ H2 = H' ∧ ∃ u : Option V, σ = [some (.str (S l)), some (.int ((val (l.take (50 * i)) * 10 ^ j : Nat) : Int)), some (.int (0 + (i : Int) * 50)), some (.str (S piece)), u], ⟨_, rfl, Nat.zero_le _, rfl, u, ?_⟩, ?_⟩
      · rw [Nat.pow_zero, Nat.mul_one, ← ec]
        rfl
      · rintro j m σ H2 ⟨rfl, hj, rfl, u, rfl⟩
        by_cases hlt : j < piece.length
        · refine .inr ⟨by show j < (S piece).cps.size; simpa [S] using hlt, fun σ' H'' => j + 1 ≤ piece.length ∧ H'' = H2 ∧ ∃ u : Option V, σ' = [some (.str (S l)), some (.int ((val (l.take (50 * i)) * 10 ^ (j + 1) : Nat) : Int)), some (.int (0 + (i : Int) * 50)), some (.str (S piece)), u], fun σ' H'' z => ⟨_, by omega, rfl, z⟩, fun x H'' y => ?_⟩
          obtain ⟨rfl, c, ec', rfl⟩ := y
          have hbig : val (l.take (50 * i)) * 10 ^ j < 2 ^ 4000 := by
            have h1 : 10 ^ j ≤ 10 ^ 50 := Nat.pow_le_pow_right (by decide) (by omega)
            have h2 : val (l.take (50 * i)) * 10 ^ j < 10 ^ 1000 * 10 ^ 50 := Nat.mul_lt_mul_of_lt_of_le hb0 h1 (Nat.pow_pos (by decide))
            exact Nat.lt_trans h2 (by decide +kernel)
          refine ⟨_, rfl, _, _, rfl, rfl, mulX (a := 4000) (b := 4) (by rw [Int.natAbs_natCast]; exact hbig) (by decide), hlt, rfl, some (.str ⟨#[c]⟩), ?_⟩
          rw [Nat.pow_succ, ← Nat.mul_assoc]
          rfl
        · have ej : j = piece.length := by omega
          subst ej
          refine .inl ⟨by show (S piece).cps.size ≤ piece.length; simp [S], ?_⟩
          have hint : intText? (S piece) = some ((val piece : Nat) : Int) := int_S (List.all_eq_true.mpr fun c hc => by have := hpd c hc; simp [this.1, this.2]) hpn (by omega)
          refine ⟨_, rfl, _, rfl, S piece, _, rfl, hint, by rw [S_len]; omega, _, _, rfl, rfl, rfl, some (.int (0 + (i : Int) * 50)), some (.str (S piece)), u, ?_⟩
          rw [esplit, val_append]
          rfl
    · rintro σ H' ⟨rfl, a, p, u, rfl⟩
      refine ⟨_, rfl, ?_⟩
      rw [List.take_of_length_le (by omega)]
      exact q
end
end K2
namespace K2
open PySem PySem.Spec PyProof.Rows L2 OW SX
/-! NoText's __init__ -/
abbrev s_NT : Stmt := inClass (top 5) 0
abbrev sc_NT : Scope := C8.fnScope s_NT
abbrev arg_NT : Expr := (.BinOp (.Constant (.str "no text: position ") 0 ⟨13, 25, 13, 45⟩) .Add (.Call (.Name "str" ⟨13, 48, 13, 51⟩) [(.Name "at" ⟨13, 52, 13, 54⟩)] [] ⟨13, 48, 13, 55⟩) ⟨13, 25, 13, 55⟩)
abbrev pi_NT : PySem.SupX.SPos := ⟨⟨12, 17, 12, 21⟩, ⟨12, 23, 12, 25⟩, ⟨13, 8, 13, 13⟩, ⟨13, 8, 13, 15⟩, ⟨13, 8, 13, 24⟩, ⟨13, 8, 13, 56⟩, ⟨13, 8, 13, 56⟩, ⟨14, 8, 14, 12⟩, ⟨14, 8, 14, 15⟩, ⟨14, 18, 14, 20⟩, ⟨14, 8, 14, 20⟩⟩
theorem txt_NT : C8.fnArgs s_NT = PySem.SupX.iAp "at" pi_NT ∧ C8.fnBody s_NT = PySem.SupX.iBp "at" arg_NT pi_NT := ⟨rfl, rfl⟩
theorem gen_NT : PySem.SupX.SupGen "at" sc_NT arg_NT pi_NT where
  bd := fun _ _ _ _ _ _ _ _ _ => by first | rfl | with_unfolding_all rfl
  it := fun _ _ _ _ _ => by first | rfl | with_unfolding_all rfl
  sw := fun _ _ _ _ _ => by first | rfl | with_unfolding_all rfl
  ev := fun _ _ _ _ _ => ⟨_, by first | rfl | with_unfolding_all rfl⟩
  st := fun _ => by first | rfl | with_unfolding_all rfl
theorem arg_ok_NT {P : Program} {w : World} {mg : Str → Option Value} (hs : mg "str" = none) (v : V) (v' : Value) (hv : v = .int 0) (r : RelV v v') : PySem.SupX.ArgOk P w mg sc_NT "at" v' arg_NT := by
  intro A E s env m mb Q hsc hg hb hn hm hG hB hBo q
  subst hv
  obtain ⟨t, rfl⟩ := r
  have hk : env.scope.kind = .function := by rw [hsc]; rfl
  have k1 : env.kindOf "str" = some .globalImplicit := by unfold Env.kindOf; rw [hsc]; rfl
  have k2 : env.kindOf "at" = some .local := by unfold Env.kindOf; rw [hsc]; rfl
  refine wpAny_BinOp (Calls.Constant_str ?_)
  refine wpAny_Call_Name_kw (Calls.Name_function_global hk k1 (Calls.loadGlobal_builtin (v := .type "str") (by rw [hg]; exact hG) hs (by rw [hb]; exact hB) ((hBo _ (by decide)).trans (by decide +kernel)) ?_))
  refine PyProof.Rows.callWith_type1 (Calls.spliced_cons (wpAny_Name (wpAny_loadName_local hk k2 hn hm (Calls.spliced_nil ?_)) (by decide))) (by rfl) (by rfl)
  refine PySem.P.str_of_int (by decide) ?_
  refine add_str (fun t' tk => q _ _) (by decide +kernel)
end K2
namespace K2
open PySem PySem.Spec PyProof.Rows L2 OW SX TM
theorem starts45 (l : List Nat) : Txt.startswith (S l) (S [45]) = (l.head? == some 45) := by
  unfold Txt.startswith Builtin.Str.subAt
  cases l with
  | nil => rfl
  | cons c r =>
    simp [S, Str.length]
section
variable {P : Program} {w : World} {K : PySem.W.Frag} {mg : Str → Option Value} {base : Heap} {C CN fI cc cda : Addr}
/-- Ratio(n, d) -/
def spMk (C : Addr) : Sp := spInit C
theorem mk_ratio {H : Hp} {Q : VK} {n d : Int} (hd : d ≠ 0) (hz : d.natAbs < 2 ^ 8000) (k : ∀ x H', Same H H' → RatAt C H' x (Rat.divInt n d) → Q x H') :
    ∀ x dx, H x = none → H dx = none → dx ≠ x → spInit C (.ref x :: ([.int n, .int d] ++ [])) (upd (upd H dx (.own x)) x (.ins C dx [])) (fun v H2 => v = .non ∧ Q (.ref x) H2) C8.E0 := by
  intro x dx hx hdx ne
  have m := make_heap (C := C) (q := Rat.divInt n d) (n := .int (Rat.divInt n d).num) hx hdx ne
  exact ⟨x, dx, n, d, rfl, upd_same, hd, hz, rfl, k _ _ m.1 m.2⟩
theorem mk_ratio' {H : Hp} {R : VK} {n d : Int} {x dx : Addr} (hx : H x = none) (hdx : H dx = none) (ne : dx ≠ x) (hd : d ≠ 0) (hz : d.natAbs < 2 ^ 8000) (k : ∀ H', Same H H' → RatAt C H' (.ref x) (Rat.divInt n d) → R .non H') :
    spInit C (.ref x :: ([.int n, .int d] ++ [])) (upd (upd H dx (.own x)) x (.ins C dx [])) R C8.E0 := by
  have m := make_heap (C := C) (q := Rat.divInt n d) (n := .int (Rat.divInt n d).num) hx hdx ne
  exact ⟨x, dx, n, d, rfl, upd_same, hd, hz, k _ m.1 m.2⟩
/-! ### read_ratio -/
def Raised (CN : Addr) (H : Hp) (E : XK) : Prop := ∀ d H', Same H H' → H' d = some (.xd [(("at" : Str), V.int 0)]) → E (.ref CN) (some d) H'
def NoStr (H : Hp) (v : V) : Prop := v = .non ∨ (∃ i, v = .int i) ∨ ∃ a xs, v = .ref a ∧ H a = some (.tup xs)
def spRead (C CN : Addr) : Sp := fun vs H Q E => ∃ v, vs = [v] ∧ ((NoStr H v ∧ Raised CN H E) ∨
  ∃ l, v = .str (S l) ∧ l.length ≤ 900 ∧ (∀ r, readL l = some r → ∀ x H', Same H H' → RatAt C H' x (Rat.divInt r.1 (r.2 : Int)) → Q x H') ∧ (readL l = none → Raised CN H E))
theorem raise_at {H H1 : Hp} {E : XK} (R : Raised CN H E) (s : Same H H1) : ∃ v : V, [V.int 0] = [v] ∧ v = .int 0 ∧ ∀ d, H1 d = none → E (.ref CN) (some d) (upd H1 d (.xd [(("at" : Str), v)])) :=
  ⟨_, rfl, rfl, fun d hd => R d _ (Same.new' s hd) upd_same⟩
theorem ok_read (T : Txt K mg C) (NT : PySem.SupX.SupTxt P K mg "NoText" "at" sc_NT arg_NT pi_NT CN fI cc cda) : CalX P w K mg base 3 "read_ratio" (spRead C CN) := by
  have c_uis_digits : C8.Cal P w K mg base 1 "_is_digits" spIsDig [] := ok_isDig T
  have c_unumber : C8.Cal P w K mg base 1 "_number" spNum [] := ok_num T
  have m_Ratio : C8.Mak P w K mg base 1 "Ratio" C (spInit C) [] := ok_init T
  refine calX_of T.d_read_ratio sc_read_ratio (fun vs H Q E h => ?_) (fun f cdv A outer s H vs Q E hr h => ?_)
  · obtain ⟨v, rfl, _⟩ := h
    rfl
  · obtain ⟨v, rfl, h⟩ := h
    refine ⟨_, (pss_cons (ps_if (pt_not (pt_val (pe_callB call_isi (by rfl) T.n_isinstance (by decide +kernel) (pa_cons (pv 0) (pa_cons (pe_bltn (v := .ty "str") (u := .type "str") (by rfl) T.n_str (by decide +kernel) (RelV_ty _)) pa_nil)))))
  (pss_one (ps_raise rfl (takes_of rfl rfl rfl rfl) (pmk_sup gen_NT NT (arg_ok_NT T.n_str) hr rfl (pa_cons pe_int pa_nil))))
  pss_nil)
  (pss_cons (ps_set (i := 1) sc_read_ratio.nd rfl (by first | exact Or.inl rfl | exact Or.inr rfl) (pe_m1 PySem.F.slot_str_startswith PySem.F.type_str_startswith mt_startswith (pv 0) pe_str))
  (pss_cons (ps_asg (pe_partition (pe_slice sl_str (pv 0) (po_some (pe_callTy call_int1 (by rfl) T.n_int (by decide +kernel) (pa_cons (pv 1) pa_nil))) po_none) pe_str) (pg_tup rfl (pgs_cons (pg_name (i := 2) sc_read_ratio.nd rfl (by first | exact Or.inl rfl | exact Or.inr rfl)) (pgs_cons (pg_name (i := 3) sc_read_ratio.nd rfl (by first | exact Or.inl rfl | exact Or.inr rfl)) (pgs_cons (pg_name (i := 4) sc_read_ratio.nd rfl (by first | exact Or.inl rfl | exact Or.inr rfl)) pgs_nil)))))
  (pss_cons (ps_if (PW.pt (pw_or (pt_not (pt_val (C8.pe_c c_uis_digits hr (by decide) rfl (pa_cons (pv 2) pa_nil)))) (pw_or1 (PW.pt (pw_and (pt_cmpR op_eq (pv 3) pe_str (nomark _)) (pw_and1 (pt_not (pt_val (C8.pe_c c_uis_digits hr (by decide) rfl (pa_cons (pv 4) pa_nil))))))))))
  (pss_one (ps_raise rfl (takes_of rfl rfl rfl rfl) (pmk_sup gen_NT NT (arg_ok_NT T.n_str) hr rfl (pa_cons pe_int pa_nil))))
  pss_nil)
  (pss_cons (ps_set (i := 5) sc_read_ratio.nd rfl (by first | exact Or.inl rfl | exact Or.inr rfl) (C8.pe_c c_unumber hr (by decide) rfl (pa_cons (pv 2) pa_nil)))
  (pss_cons (ps_set (i := 6) sc_read_ratio.nd rfl (by first | exact Or.inl rfl | exact Or.inr rfl) (pe_ifExp (pt_cmpR op_eq (pv 3) pe_str (nomark _)) (C8.pe_c c_unumber hr (by decide) rfl (pa_cons (pv 4) pa_nil)) pe_int))
  (pss_cons (ps_if (PW.pt (pw_or (PW.pt (pw_and (pt_cmpR op_eq (pv 3) pe_str (nomark _)) (pw_and1 (pt_cmpR op_lt (pv 6) pe_int (nomark _))))) (pw_or (pt_cmpR op_ne (pe_callBfun cr_gcd (by rfl) T.g_gcd (pa_cons (pv 5) (pa_cons (pv 6) pa_nil))) pe_int (nomark _)) (pw_or1 (PW.pt (pw_and (pt_val (pv 1)) (pw_and1 (pt_cmpR op_eq (pv 5) pe_int (nomark _)))))))))
  (pss_one (ps_raise rfl (takes_of rfl rfl rfl rfl) (pmk_sup gen_NT NT (arg_ok_NT T.n_str) hr rfl (pa_cons pe_int pa_nil))))
  pss_nil)
  (pss_one (ps_ret (C8.pe_mk m_Ratio hr (by decide) rfl (pa_cons (pe_ifExp (pt_val (pv 1)) (pe_un un_neg (pv 5)) (pv 5)) (pa_cons (pv 6) pa_nil)))))))))))), ?_⟩
    rcases h with ⟨hns, R⟩ | ⟨l, rfl, hl, hq, hR⟩
    · obtain ⟨t, ht, hk⟩ : ∃ t, TyX K H v t ∧ PySem.W.kitOne K t (.type "str") = some false := by
        rcases hns with rfl | ⟨i, rfl⟩ | ⟨a, xs, rfl, ha⟩
        · exact ⟨_, .base .non, T.ns⟩
        · exact ⟨_, .base (.int i), T.is⟩
        · exact ⟨_, .base (.tup ha), T.ts⟩
      exact ⟨_, rfl, _, _, _, _, _, rfl, .ty "str", ht, hk, false, rfl, iY rfl (raise_at R (Same.refl H))⟩
    have hz : (S l).length ≤ sizeLine := by rw [S_len]; exact Nat.le_trans hl (by decide)
    refine ⟨_, rfl, _, _, _, _, _, rfl, .ty "str", .base (.str _), T.ss, true, rfl, iN rfl ?_⟩
    refine ⟨_, rfl, ⟨_, rfl⟩, S l, S [45], rfl, rfl, ?_⟩
    rw [starts45]
    -- the rest behind the sign
    refine ⟨_, rfl, _, rfl, .inr ⟨_, rfl, _, rfl, S l, rfl, hz, ⟨_, rfl⟩, ?_⟩⟩
    obtain ⟨r, hr', hrl⟩ : ∃ r : List Nat, r = (if (l.head? == some 45) = true then l.drop 1 else l) ∧ r.length ≤ 900 := ⟨_, rfl, by split <;> first | exact hl | (rw [List.length_drop]; omega)⟩
    have ecut : cutS (S l) (some (if (l.head? == some 45) = true then (1 : Int) else 0)) none = S r := by
      rw [hr']
      cases hh : (l.head? == some 45) with
      | true =>
        have := cutS_a l 1
        rw [show ((1 : Nat) : Int) = 1 from rfl] at this
        rw [if_pos rfl, if_pos rfl, this]
        cases l with
        | nil => exact absurd hh (by decide)
        | cons c t => rw [show min 1 (c :: t).length = 1 by simp]
      | false =>
        have := cutS_a l 0
        rw [show ((0 : Nat) : Int) = 0 from rfl] at this
        rw [if_neg (by decide), if_neg (by decide), this]
        rw [Nat.zero_min, List.drop_zero]
    rw [ecut]
    have hzr : (S r).length ≤ sizeLine := by rw [S_len]; exact Nat.le_trans hrl (by decide)
    have hread : readL l = match TL.par [47] [] r with
        | none => if isDig r then fin (l.head? == some 45) (val r) 1 false else none
        | some (p, q) => if isDig p && isDig q then fin (l.head? == some 45) (val p) (val q) true else none := by
      rw [hr']; rfl
    generalize hng : (l.head? == some 45) = ng at hread
    refine ⟨S r, S [47], rfl, rfl, by rw [S_len]; rfl, hzr, fun p hp => ?_⟩
    have small : ∀ m : List Nat, m.length ≤ 900 → isDig m = true → ((val m : Nat) : Int).natAbs < 2 ^ 8000 := fun m hm hd => by
      rw [Int.natAbs_natCast]
      refine Nat.lt_of_lt_of_le (val_lt m (isDig_all hd).1) (Nat.le_trans (Nat.pow_le_pow_right (by decide) hm) (by decide +kernel))
    have hne : S [] ≠ Str.ofString "/" := by decide
    -- the end: Ratio(..)
    have hmk : ∀ (n d : Nat) (H1 : Hp) (σ : List (Option V)), Same H H1 → readL l = some ((if ng then -(n : Int) else n), d) → d ≠ 0 → ((d : Nat) : Int).natAbs < 2 ^ 8000 →
        ∀ x dx, H1 x = none → H1 dx = none → dx ≠ x → spInit C (.ref x :: ([.int (if ng then -(n : Int) else n), .int (d : Int)] ++ [])) (upd (upd H1 dx (.own x)) x (.ins C dx [])) (fun v H2 => v = .non ∧ Q (.ref x) H2) C8.E0 :=
      fun n d H1 σ s1 e hd hz => mk_ratio (by omega) hz fun x H' s2 hx => hq _ e x H' (s1.trans s2) hx
    cases hpar : TL.par [47] [] r with
    | none =>
      rw [hpar] at hread
      dsimp only at hread
      rw [partition_none (by decide) hpar]
      refine ⟨p, _, rfl, SqT.of upd_same, rfl, _, _, rfl, _, _, rfl, _, _, rfl, rfl, ?_⟩
      have s1 : Same H (upd H p (.tup [.str (S r), .str (S []), .str (S [])])) := Same.new hp
      generalize upd H p (.tup [.str (S r), .str (S []), .str (S [])]) = H1 at s1
      refine ⟨_, rfl, r, rfl, by omega, _, rfl, ?_⟩
      cases hdr : isDig r with
      | false =>
        rw [hdr] at hread
        exact iY rfl (iY rfl (raise_at (hR hread) s1))
      | true =>
        rw [hdr] at hread
        refine iN rfl ⟨_, rfl, rfl, _, rfl, iN (dN (vstr hne)) (iN rfl ?_)⟩
        refine ⟨_, rfl, r, rfl, by omega, (isDig_all hdr).1, ?_⟩
        refine ⟨_, rfl, rfl, _, rfl, iN (dN (vstr hne)) ?_⟩
        refine ⟨_, rfl, rfl, _, rfl, iN (dN (vstr hne)) (iN rfl ?_)⟩
        refine ⟨_, rfl, _, rfl, _, _, rfl, rfl, _, rfl, ?_⟩
        have hg1 : Nat.gcd (((val r : Nat) : Int)).natAbs ((1 : Int)).natAbs = 1 := by simp
        rw [hg1]
        refine iN (nN rfl) ⟨_, rfl, _, rfl, ?_⟩
        have hf : readL l = if (ng && decide (val r = 0)) = true then none else some ((if ng then -((val r : Nat) : Int) else (val r : Nat)), 1) := by
          rw [hread, if_pos rfl]
          unfold fin
          simp
        cases ng with
        | true =>
          refine iY rfl ⟨_, rfl, rfl, _, rfl, ?_⟩
          by_cases h0 : val r = 0
          · rw [h0] at hf ⊢
            exact iY (dY rfl) (raise_at (hR hf) s1)
          · rw [if_neg (by simp [h0])] at hf
            refine iN (dN (vint (by omega))) ?_
            refine ⟨_, rfl, _, rfl, iY rfl ⟨_, rfl, _, rfl, _, rfl, ?_⟩⟩
            exact hmk (val r) 1 H1 [] s1 hf (by decide) (by decide +kernel)
        | false =>
          rw [if_neg (by simp)] at hf
          refine iN rfl (iN rfl ?_)
          refine ⟨_, rfl, _, rfl, iN rfl ⟨_, rfl, _, rfl, ?_⟩⟩
          exact hmk (val r) 1 H1 [] s1 hf (by decide) (by decide +kernel)
    | some pq =>
      obtain ⟨p1, q1⟩ := pq
      rw [hpar] at hread
      dsimp only at hread
      rw [partition_some (by decide) hpar]
      obtain ⟨hp1, hq1⟩ : p1.length ≤ 900 ∧ q1.length ≤ 900 := by
        have e := partition_some (a := r) (b := [47]) (by decide) hpar
        have key : ∀ (r acc p q : List Nat), TL.par [47] acc r = some (p, q) → p.length ≤ acc.length + r.length ∧ q.length ≤ r.length := by
          intro r
          induction r with
          | nil => intro acc p q h; exact absurd h (by simp [TL.par])
          | cons c t ih =>
            intro acc p q h
            by_cases hc : c = 47
            · subst hc
              rw [TL.par_hit rfl] at h
              cases h
              simp
            · rw [par_cons hc] at h
              have := ih _ _ _ h
              rw [List.length_append] at this
              simp at this ⊢
              omega
        have := key r [] p1 q1 hpar
        simp at this
        omega
      refine ⟨p, _, rfl, SqT.of upd_same, rfl, _, _, rfl, _, _, rfl, _, _, rfl, rfl, ?_⟩
      have s1 : Same H (upd H p (.tup [.str (S p1), .str (S [47]), .str (S q1)])) := Same.new hp
      generalize upd H p (.tup [.str (S p1), .str (S [47]), .str (S q1)]) = H1 at s1
      refine ⟨_, rfl, p1, rfl, by omega, _, rfl, ?_⟩
      cases hdr : isDig p1 with
      | false =>
        rw [hdr] at hread
        exact iY rfl (iY rfl (raise_at (hR hread) s1))
      | true =>
      rw [hdr] at hread
      refine iN rfl ⟨_, rfl, rfl, _, rfl, iY (dY rfl) ⟨_, rfl, q1, rfl, by omega, _, rfl, ?_⟩⟩
      cases hdq : isDig q1 with
      | false =>
        rw [hdq] at hread
        exact iY rfl (raise_at (hR hread) s1)
      | true =>
      rw [hdq] at hread
      refine iN rfl ?_
      refine ⟨_, rfl, p1, rfl, by omega, (isDig_all hdr).1, ?_⟩
      refine ⟨_, rfl, rfl, _, rfl, iY (dY rfl) ⟨_, rfl, q1, rfl, by omega, (isDig_all hdq).1, ?_⟩⟩
      have hf : readL l = if ((decide (val q1 < 2)) || decide (Nat.gcd (val p1) (val q1) ≠ 1) || (ng && decide (val p1 = 0))) = true then none else some ((if ng then -((val p1 : Nat) : Int) else (val p1 : Nat)), val q1) := by
        rw [hread, Bool.and_self, if_pos rfl]
        unfold fin
        simp
      refine ⟨_, rfl, rfl, _, rfl, iY (dY rfl) ⟨_, rfl, _, _, rfl, rfl, _, rfl, ?_⟩⟩
      by_cases hq2 : val q1 < 2
      · rw [if_pos (by simp [hq2])] at hf
        exact iY (dY (by omega)) (iY rfl (raise_at (hR hf) s1))
      refine iN (dN (by omega)) ?_
      refine ⟨_, rfl, _, rfl, _, _, rfl, rfl, _, rfl, ?_⟩
      rw [Int.natAbs_natCast, Int.natAbs_natCast]
      by_cases hg : Nat.gcd (val p1) (val q1) = 1
      · rw [hg]
        refine iN (nN rfl) ⟨_, rfl, _, rfl, ?_⟩
        have hd0 : val q1 ≠ 0 := by omega
        have hds := small q1 hq1 hdq
        cases ng with
        | true =>
          refine iY rfl ⟨_, rfl, rfl, _, rfl, ?_⟩
          by_cases h0 : val p1 = 0
          · rw [if_pos (by simp [h0])] at hf
            rw [h0]
            exact iY (dY rfl) (raise_at (hR hf) s1)
          · rw [if_neg (by simp [h0, hg]; omega)] at hf
            refine iN (dN (vint (by omega))) ?_
            refine ⟨_, rfl, _, rfl, iY rfl ⟨_, rfl, _, rfl, _, rfl, ?_⟩⟩
            exact hmk (val p1) (val q1) H1 [] s1 hf hd0 hds
        | false =>
          rw [if_neg (by simp [hg]; omega)] at hf
          refine iN rfl (iN rfl ?_)
          refine ⟨_, rfl, _, rfl, iN rfl ⟨_, rfl, _, rfl, ?_⟩⟩
          exact hmk (val p1) (val q1) H1 [] s1 hf hd0 hds
      · rw [if_pos (by simp [hg])] at hf
        exact iY (nY (vint (by omega))) (iY rfl (raise_at (hR hf) s1))
end
end K2
namespace K2
open PySem PySem.Spec PyProof.Rows L2 OW SX TM
theorem ofS (s : String) (l : List Nat) (h : Str.ofString s = S l) (t : List Nat) : Str.ofString s ++ S t = S (l ++ t) := by rw [h, S_cat]
section
variable {P : Program} {w : World} {K : PySem.W.Frag} {mg : Str → Option Value} {base : Heap} {C CN fI cc cda : Addr}
/-! ### _law_bad -/
def spBad : Sp := fun vs H Q _ => ∃ (t p : List Nat) (k : Int), vs = [.str (S t), .str (S p), .int k] ∧ t.length ≤ 300 ∧ p.length ≤ 200 ∧ 0 ≤ k ∧
  ∀ v H', Same H H' → (NoStr H' v ∨ ∃ l ∈ badTexts t p, v = .str (S l) ∧ l.length ≤ 900) → Q v H'
theorem szS {n : Nat} (h : n ≤ 1000) : n ≤ sizeLine := Nat.le_trans h (by decide)
theorem ok_bad (T : Txt K mg C) : C8.Cal P w K mg base 1 "_law_bad" spBad [] := by
  refine cal_of T.d_ulaw_bad sc_ulaw_bad (fun vs H Q E h => ?_) (fun f cdv A outer s H vs Q E hr h => ?_)
  · obtain ⟨t, p, k, rfl, _⟩ := h
    rfl
  · obtain ⟨t, p, k, rfl, ht, hp, hk, q⟩ := h
    refine ⟨_, (pss_cons (ps_set (i := 3) sc_ulaw_bad.nd rfl (by first | exact Or.inl rfl | exact Or.inr rfl) (pe_lst (pa_cons pe_str (pa_cons (pe_op op_add_str pe_str (pv 0)) (pa_cons (pe_op op_add_str pe_str (pv 0)) (pa_cons (pe_op op_add_str (pv 0) pe_str) (pa_cons (pe_op op_add_str pe_str (pv 1)) (pa_cons pe_str (pa_cons (pe_op op_add_str pe_str (pv 1)) (pa_cons (pe_op op_add_str (pv 0) pe_str) (pa_cons (pe_op op_add_str pe_str (pv 1)) (pa_cons (pe_op op_add_str (pv 0) pe_str) pa_nil))))))))))))
  (pss_cons (ps_set (i := 3) sc_ulaw_bad.nd rfl (by first | exact Or.inl rfl | exact Or.inr rfl) (pe_op op_cat (pv 3) (pe_lst (pa_cons (pe_op op_add_str (pv 0) pe_str) (pa_cons pe_str (pa_cons pe_str (pa_cons (pe_op op_add_str (pe_op op_add_str (pv 1) pe_str) (pv 1)) (pa_cons (pe_op op_add_str (pv 0) pe_str) (pa_cons pe_str (pa_cons (pe_op op_add_str (pv 1) pe_str) (pa_cons pe_str (pa_cons (pe_op op_add_str (pe_op op_add_str pe_str (pv 1)) pe_str) pa_nil))))))))))))
  (pss_cons (ps_set (i := 3) sc_ulaw_bad.nd rfl (by first | exact Or.inl rfl | exact Or.inr rfl) (pe_op op_cat (pv 3) (pe_lst (pa_cons pe_non (pa_cons pe_int (pa_cons (pe_tup (pa_cons pe_str pa_nil)) pa_nil))))))
  (pss_one (ps_ret (pe_ix ix_list (pv 3) (pe_op op_mdG (pv 2) (pe_callB call_len (by rfl) T.n_len PySem.boot_len (pa_cons (pv 3) pa_nil))) (fun _ _ => rfl))))))), ?_⟩
    have l1 : ∀ (s : String) (n : Nat), (Str.ofString s).length = n → n ≤ 10 → (Str.ofString s).length + (S t).length ≤ sizeLine := fun s n h1 h2 => by have := S_len t; have := S_len p; exact szS (by omega)
    have l2 : ∀ (s : String) (n : Nat), (Str.ofString s).length = n → n ≤ 10 → (S t).length + (Str.ofString s).length ≤ sizeLine := fun s n h1 h2 => by have := S_len t; have := S_len p; exact szS (by omega)
    have l3 : ∀ (s : String) (n : Nat), (Str.ofString s).length = n → n ≤ 10 → (Str.ofString s).length + (S p).length ≤ sizeLine := fun s n h1 h2 => by have := S_len t; have := S_len p; exact szS (by omega)
    have l4 : ∀ (s : String) (n : Nat), (Str.ofString s).length = n → n ≤ 10 → (S p).length + (Str.ofString s).length ≤ sizeLine := fun s n h1 h2 => by have := S_len t; have := S_len p; exact szS (by omega)
    refine ⟨_, rfl, _, _, rfl, rfl, l1 "+" 1 rfl (by decide), _, rfl, _, _, rfl, rfl, l1 " " 1 rfl (by decide), _, rfl, _, _, rfl, rfl, l2 " " 1 rfl (by decide), _, rfl, _, _, rfl, rfl, l3 "0" 1 rfl (by decide), _, rfl, _, _, rfl, rfl, l3 "--" 2 rfl (by decide), _, rfl, _, _, rfl, rfl, l2 "/" 1 rfl (by decide), _, rfl, _, _, rfl, rfl, l3 "/" 1 rfl (by decide), _, rfl, _, _, rfl, rfl, l2 "/0" 2 rfl (by decide), ?_⟩
    refine ⟨(by show 10 ≤ sizeLine; decide), fun a1 ha1 => ?_⟩
    refine ⟨_, rfl, _, rfl, _, _, rfl, rfl, l2 "/1" 2 rfl (by decide), _, rfl, _, _, rfl, rfl, l4 "/" 1 rfl (by decide), _, rfl, _, _, rfl, rfl, ?_, _, rfl, _, _, rfl, rfl, l2 ".0" 2 rfl (by decide), _, rfl, _, _, rfl, rfl, l4 "//7" 3 rfl (by decide), _, rfl, _, _, rfl, rfl, l3 "-" 1 rfl (by decide), _, _, rfl, rfl, ?_, ?_⟩
    · have e : S p ++ Str.ofString "/" = S (p ++ [47]) := S_cat p [47]
      have := S_len p
      have := S_len (p ++ [47])
      rw [List.length_append, List.length_singleton] at this
      rw [e]
      exact szS (by omega)
    · have e : Str.ofString "-" ++ S p = S (45 :: p) := S_cat [45] p
      have := S_len (45 :: p)
      rw [List.length_cons] at this
      rw [e]
      have h2 : (Str.ofString "-").length = 1 := rfl
      exact szS (by omega)
    refine ⟨(by show 9 ≤ sizeLine; decide), fun a2 ha2 => ?_⟩
    refine ⟨a1, a2, _, _, rfl, rfl, (upd_ne (ne_of_none upd_same ha2)).trans upd_same, upd_same, (by show 10 + 9 ≤ sizeLine; decide), fun a3 ha3 => ?_⟩
    refine ⟨_, rfl, (by show 1 ≤ sizeLine; decide), fun a4 ha4 => ⟨(by show 3 ≤ sizeLine; decide), fun a5 ha5 => ?_⟩⟩
    refine ⟨a3, a5, _, _, rfl, rfl, (upd_ne (ne_of_none ((upd_ne (ne_of_none upd_same ha4)).trans upd_same) ha5)).trans ((upd_ne (ne_of_none upd_same ha4)).trans upd_same), upd_same, (by show 19 + 3 ≤ sizeLine; decide), fun a6 ha6 => ?_⟩
    have hkm : k.fmod 22 = ((k.toNat % 22 : Nat) : Int) := by rw [Int.fmod_eq_emod_of_nonneg _ (by decide)]; omega
    have hlt : k.toNat % 22 < 22 := Nat.mod_lt _ (by decide)
    refine ⟨_, rfl, _, rfl, _, rfl, _, 22, rfl, .inl ⟨_, SqL.of upd_same, rfl⟩, _, _, rfl, rfl, (by show (22 : Int) ≠ 0; decide), a6, _, _, _, rfl, rfl, SqL.of upd_same, at_of (j := k.toNat % 22) (show k.fmod ((22 : Nat) : Int) = _ from hkm) (List.getElem?_eq_getElem hlt), q _ _ (Same.new' (Same.new' (Same.new' (Same.new' (Same.new' (Same.new' (Same.refl H) ha1) ha2) ha3) ha4) ha5) ha6) ?_⟩
    have e13 : S p ++ Str.ofString "/" ++ S p = S (p ++ 47 :: p) := (congrArg (· ++ S p) (S_cat p [47])).trans ((S_cat _ _).trans (by simp))
    have e18 : Str.ofString "-" ++ S p ++ Str.ofString "-" = S (45 :: (p ++ [45])) := (congrArg (· ++ Str.ofString "-") (S_cat [45] p)).trans ((S_cat _ [45]).trans (by simp))
    generalize k.toNat % 22 = j at hlt
    have hj : j = 0 ∨ j = 1 ∨ j = 2 ∨ j = 3 ∨ j = 4 ∨ j = 5 ∨ j = 6 ∨ j = 7 ∨ j = 8 ∨ j = 9 ∨ j = 10 ∨ j = 11 ∨ j = 12 ∨ j = 13 ∨ j = 14 ∨ j = 15 ∨ j = 16 ∨ j = 17 ∨ j = 18 ∨ j = 19 ∨ j = 20 ∨ j = 21 := by omega
    rcases hj with rfl | rfl | rfl | rfl | rfl | rfl | rfl | rfl | rfl | rfl | rfl | rfl | rfl | rfl | rfl | rfl | rfl | rfl | rfl | rfl | rfl | rfl
    · exact .inr ⟨[], by simp [badTexts], congrArg V.str (rfl), by simp; try omega⟩
    · exact .inr ⟨43 :: t, by simp [badTexts], congrArg V.str (S_cat [43] t), by simp; try omega⟩
    · exact .inr ⟨32 :: t, by simp [badTexts], congrArg V.str (S_cat [32] t), by simp; try omega⟩
    · exact .inr ⟨t ++ [32], by simp [badTexts], congrArg V.str (S_cat t [32]), by simp; try omega⟩
    · exact .inr ⟨48 :: p, by simp [badTexts], congrArg V.str (S_cat [48] p), by simp; try omega⟩
    · exact .inr ⟨[45, 48], by simp [badTexts], congrArg V.str (rfl), by simp; try omega⟩
    · exact .inr ⟨45 :: 45 :: p, by simp [badTexts], congrArg V.str (S_cat [45, 45] p), by simp; try omega⟩
    · exact .inr ⟨t ++ [47], by simp [badTexts], congrArg V.str (S_cat t [47]), by simp; try omega⟩
    · exact .inr ⟨47 :: p, by simp [badTexts], congrArg V.str (S_cat [47] p), by simp; try omega⟩
    · exact .inr ⟨t ++ [47, 48], by simp [badTexts], congrArg V.str (S_cat t [47, 48]), by simp; try omega⟩
    · exact .inr ⟨t ++ [47, 49], by simp [badTexts], congrArg V.str (S_cat t [47, 49]), by simp; try omega⟩
    · exact .inr ⟨[50, 47, 52], by simp [badTexts], congrArg V.str (rfl), by simp; try omega⟩
    · exact .inr ⟨[54, 47, 51], by simp [badTexts], congrArg V.str (rfl), by simp; try omega⟩
    · exact .inr ⟨p ++ 47 :: p, by simp [badTexts], congrArg V.str (e13), by simp; try omega⟩
    · exact .inr ⟨t ++ [46, 48], by simp [badTexts], congrArg V.str (S_cat t [46, 48]), by simp; try omega⟩
    · exact .inr ⟨[120], by simp [badTexts], congrArg V.str (rfl), by simp; try omega⟩
    · exact .inr ⟨p ++ [47, 47, 55], by simp [badTexts], congrArg V.str (S_cat p [47, 47, 55]), by simp; try omega⟩
    · exact .inr ⟨[48, 47, 53], by simp [badTexts], congrArg V.str (rfl), by simp; try omega⟩
    · exact .inr ⟨45 :: (p ++ [45]), by simp [badTexts], congrArg V.str (e18), by simp; try omega⟩
    · exact .inl (.inl rfl)
    · exact .inl (.inr (.inl ⟨5, rfl⟩))
    · exact .inl (.inr (.inr ⟨a4, _, rfl, (upd_ne (ne_of_none ((upd_ne (ne_of_none upd_same ha5)).trans upd_same) ha6)).trans ((upd_ne (ne_of_none upd_same ha5)).trans upd_same)⟩))
end
end K2
namespace K2
open PySem PySem.Spec PyProof.Rows L2 OW SX TM
section
variable {P : Program} {w : World} {K : PySem.W.Frag} {mg : Str → Option Value} {base : Heap} {C CN fI cc cda : Addr}
theorem eqv_pair (a b : Int) : PyData.eqv (.tuple [.int a, .int b]) (.tuple [.int a, .int b]) = true := SeqAt.eqv_refl _ rfl
theorem num_bound {n d : Int} {k : Nat} (hd : 0 < d) (hn : n.natAbs < 10 ^ k) (hdk : d.natAbs < 10 ^ k) : (Rat.divInt n d).num.natAbs < 10 ^ k ∧ (Rat.divInt n d).den < 10 ^ k := by
  have e := divInt_pos (n := n) hd
  have hg : 0 < Nat.gcd n.natAbs d.natAbs := Nat.gcd_pos_of_pos_right _ (by omega)
  constructor
  · rw [e.1]
    refine Nat.lt_of_le_of_lt ?_ hn
    rw [Int.natAbs_ediv_of_dvd (Int.ofNat_dvd_left.mpr (Nat.gcd_dvd_left _ _))]
    exact Nat.div_le_self _ _
  · have h2 : ((Rat.divInt n d).den : Int) ≤ d := by
      rw [e.2]
      exact Int.ediv_le_self _ (by omega)
    omega
def spLaw (K : PySem.W.Frag) : Sp := fun vs H Q _ => ∃ (a : Addr) (ns : List Int), vs = [.ref a] ∧ SqL K H a (ns.map V.int) ∧ ∀ H', Q (.bl true) H'
theorem len_law (vs : List V) (H : Hp) (Q : VK) (E : XK) (h : spLaw K vs H Q E) : vs.length = 1 := by
  obtain ⟨a, ns, rfl, _⟩ := h
  rfl
theorem b_law (T : Txt K mg C) (NT : PySem.SupX.SupTxt P K mg "NoText" "at" sc_NT arg_NT pi_NT CN fI cc cda) : Body P w K mg base 7 "law" s_law N_law (spLaw K) := by
  have c_ulaw_whole : C8.Cal P w K mg base 1 "_law_whole" spWhole [] := ok_whole T
  have c_ulaw_digits : C8.Cal P w K mg base 3 "_law_digits" (spDigits K) [] := ok_digits T
  have c_ulaw_draws : C8.Cal P w K mg base 2 "_law_draws" (spDraws K) [] := ok_draws T
  have c_ulaw_rat : C8.Cal P w K mg base 2 "_law_rat" spRat [] := ok_rat T
  have c_ulaw_text : C8.Cal P w K mg base 1 "_law_text" spText [] := ok_text T
  have c_ulaw_pair : C8.Cal P w K mg base 2 "_law_pair" (spPair C) [] := ok_pair T
  have c_ulaw_bad : C8.Cal P w K mg base 1 "_law_bad" spBad [] := ok_bad T
  have c_ulaw_is_integer : C8.Cal P w K mg base 1 "_law_is_integer" spIsInt [] := ok_isInt T
  have m_Ratio : C8.Mak P w K mg base 1 "Ratio" C (spInit C) [] := ok_init T
  have c_RatioU_strU : C8.Met P w K mg base 3 C "__str__" (spStr C) [] := ok_str T
  have cX_read : CalX P w K mg base 3 "read_ratio" (spRead C CN) := ok_read T NT
  have c_read_ratio := cal_noX cX_read
  intro f cdv A outer s H vs Q E hr h
  · obtain ⟨a, ns, rfl, hS, q⟩ := h
    refine ⟨_, (pss_cons (ps_set (i := 1) sc_law.nd rfl (by first | exact Or.inl rfl | exact Or.inr rfl) (C8.pe_c c_ulaw_whole hr (by decide) rfl (pa_cons (C8.pe_c c_ulaw_digits hr (by decide) rfl (pa_cons (pv 0) (pa_cons pe_int pa_nil))) pa_nil)))
  (pss_cons (ps_set (i := 2) sc_law.nd rfl (by first | exact Or.inl rfl | exact Or.inr rfl) (C8.pe_c c_ulaw_whole hr (by decide) rfl (pa_cons (C8.pe_c c_ulaw_digits hr (by decide) rfl (pa_cons (pv 0) (pa_cons pe_int pa_nil))) pa_nil)))
  (pss_cons (ps_set (i := 3) sc_law.nd rfl (by first | exact Or.inl rfl | exact Or.inr rfl) (C8.pe_c c_ulaw_draws hr (by decide) rfl (pa_cons (pv 0) (pa_cons pe_int (pa_cons pe_int (pa_cons pe_int pa_nil))))))
  (C8.pss_cut (ps_if (pt_cmpR op_eq (pe_op op_mdG (pe_ix ix_list (pv 3) pe_int (fun _ _ => rfl)) pe_int) pe_int (nomark _))
  (pss_one (ps_set (i := 1) sc_law.nd rfl (by first | exact Or.inl rfl | exact Or.inr rfl) pe_int))
  pss_nil)
  (C8.pss_cut (ps_if (pt_cmpR op_eq (pe_op op_mdG (pe_ix ix_list (pv 3) pe_int (fun _ _ => rfl)) pe_int) pe_int (nomark _))
  (pss_one (ps_set (i := 1) sc_law.nd rfl (by first | exact Or.inl rfl | exact Or.inr rfl) (pe_un un_neg (pv 1))))
  pss_nil)
  (C8.pss_cut (ps_if (pt_cmpR op_eq (pe_op op_mdG (pe_ix ix_list (pv 3) pe_int (fun _ _ => rfl)) pe_int) pe_int (nomark _))
  (pss_one (ps_set (i := 2) sc_law.nd rfl (by first | exact Or.inl rfl | exact Or.inr rfl) pe_int))
  pss_nil)
  (pss_cons (ps_set (i := 4) sc_law.nd rfl (by first | exact Or.inl rfl | exact Or.inr rfl) (C8.pe_c c_ulaw_rat hr (by decide) rfl (pa_cons (pv 1) (pa_cons (pv 2) pa_nil))))
  (pss_cons (ps_set (i := 5) sc_law.nd rfl (by first | exact Or.inl rfl | exact Or.inr rfl) (C8.pe_c c_ulaw_text hr (by decide) rfl (pa_cons (pe_ix ix_tup (pv 4) pe_int (fun _ _ => rfl)) pa_nil)))
  (C8.pss_cut (ps_if (pt_cmpR op_ne (pe_ix ix_tup (pv 4) pe_int (fun _ _ => rfl)) pe_int (nomark _))
  (pss_one (ps_set (i := 5) sc_law.nd rfl (by first | exact Or.inl rfl | exact Or.inr rfl) (pe_op op_add_str (pe_op op_add_str (pv 5) pe_str) (C8.pe_c c_ulaw_text hr (by decide) rfl (pa_cons (pe_ix ix_tup (pv 4) pe_int (fun _ _ => rfl)) pa_nil)))))
  pss_nil)
  (pss_cons (ps_if (PW.pt (pw_or (pt_cmpR op_ne (pe_callTy (call_strO c_RatioU_strU hr (by decide)) (by rfl) T.n_str (by decide +kernel) (pa_cons (C8.pe_mk m_Ratio hr (by decide) rfl (pa_cons (pv 1) (pa_cons (pv 2) pa_nil))) pa_nil)) (pv 5) (nomark _)) (pw_or1 (pt_cmpR (op_neD hr.units) (C8.pe_c c_ulaw_pair hr (by decide) rfl (pa_cons (C8.pe_c c_read_ratio hr (by decide) rfl (pa_cons (pv 5) pa_nil)) pa_nil)) (pv 4) (nomark _)))))
  (pss_one (ps_ret pe_bl))
  pss_nil)
  (pss_cons (ps_set (i := 6) sc_law.nd rfl (by first | exact Or.inl rfl | exact Or.inr rfl) (pe_un un_neg pe_int))
  (C8.pss_cut (ps_try_as (i := 7) (tb := fun W => tDrop (tCallS (spRead C CN) (WE W) (tCons (tCall (spBad) [] C8.E0 (tCons (tVar 5) (tCons (tCall spText [] C8.E0 (tCons (tOp (rIxT K) (tVar 4) (tC (.int 1))) tNil)) (tCons (tOp (rIxL K) (tVar 3) (tC (.int 2))) tNil)))) tNil))) (ts := fun a cls d => tAsg (tByF CN "at" a cls d (tVar 7)) (gName 6)) (Wout := fun _ _ _ _ => False) rfl rfl sc_law.nd rfl rfl ⟨rfl, by decide, Or.inl NT.gC⟩ takes0
   (fun W pn xe tk _ => pss_one (ps_expr (by exact (pe_cX cX_read hr (by decide) tk rfl (by exact (pa_cons (by exact (C8.pe_c c_ulaw_bad hr (by decide) rfl (by exact (pa_cons (pv 5) (pa_cons (by exact (C8.pe_c c_ulaw_text hr (by decide) rfl (pa_cons (pe_ix ix_tup (pv 4) pe_int (fun _ _ => rfl)) pa_nil))) (pa_cons (pe_ix ix_list (pv 3) pe_int (fun _ _ => rfl)) pa_nil)))))) pa_nil))))))
   (fun a oe cls d pn hz hf => pss_one (ps_set (i := 6) sc_law.nd rfl (Or.inl rfl) (by exact (pe_byF NT hz hf (pv 7))))))
  (pss_one (ps_ret (pe_and (C8.pe_c c_ulaw_is_integer hr (by decide) rfl (pa_cons (pv 6) pa_nil)) (pe_one (pe_cmpR op_eq (pv 6) pe_int (nomark _)))))))))))))))))), ?_⟩
    -- the numerator, the denominator
    refine ⟨_, rfl, a, ns, 0, rfl, hS, by decide, fun H1 p1 z1 zs1 S1 hp1 hz1 hl1 hb1 => ⟨p1, z1 :: zs1, rfl, hp1, hl1, hb1, ?_⟩⟩
    refine ⟨_, rfl, a, ns, 1, rfl, S1.seq hS, by decide, fun H2 p2 z2 zs2 S2 hp2 hz2 hl2 hb2 => ⟨p2, z2 :: zs2, rfl, hp2, hl2, hb2, ?_⟩⟩
    have bound : ∀ (z : Int) (zs : List Int), 1 ≤ z → (z :: zs).length ≤ 130 → (∀ y ∈ z :: zs, 0 ≤ y ∧ y ≤ 9) → 1 ≤ whole (z :: zs) ∧ (whole (z :: zs)).natAbs < 10 ^ 130 := fun z zs hz hl hb => by
      have h1 := whole_pos (fun y hy => hb y (List.mem_cons_of_mem _ hy)) hz
      have h2 := whole_lt (z :: zs) hb (z :: zs).length
      rw [List.take_length] at h2
      have h3 : 10 ^ (z :: zs).length ≤ 10 ^ 130 := Nat.pow_le_pow_right (by decide) hl
      refine ⟨h1, Nat.lt_of_lt_of_le ?_ h3⟩
      omega
    have b1 := bound z1 zs1 hz1 hl1 hb1
    have b2 := bound z2 zs2 hz2 hl2 hb2
    generalize whole (z1 :: zs1) = n0 at b1
    generalize whole (z2 :: zs2) = d0 at b2
    have S12 := S1.trans S2
    refine ⟨_, rfl, a, ns, 2, 3, 66, rfl, S12.seq hS, by decide, by decide, by decide, by decide, fun H3 pr row S3 hpr0 hpr hlr hbr => ?_⟩
    obtain ⟨r0, r1, r2, rfl⟩ : ∃ r0 r1 r2, row = [r0, r1, r2] := by
      match row, hlr with
      | [r0, r1, r2], _ => exact ⟨r0, r1, r2, rfl⟩
    have S13 := S12.trans S3
    have g0 : atI ([r0, r1, r2].map V.int) 0 = some (V.int r0) := atI_nat (j := 0) rfl
    have g1 : atI ([r0, r1, r2].map V.int) 1 = some (V.int r1) := atI_nat (j := 1) rfl
    have g2 : atI ([r0, r1, r2].map V.int) 2 = some (V.int r2) := atI_nat (j := 2) rfl
    have hr2 := hbr r2 (by simp)
    let Mid : List (Option V) → Hp → Prop := fun σ H' => H' = H3 ∧ ∃ n d : Int, σ = [some (.ref a), some (.int n), some (.int d), some (.ref pr), none, none, none, none] ∧ n.natAbs < 10 ^ 130 ∧ 0 < d ∧ d.natAbs < 10 ^ 130
    refine ⟨Mid, ?_, ?_⟩
    · refine ⟨_, rfl, pr, _, _, _, rfl, rfl, SqL.of hpr, g0, _, _, rfl, rfl, (by show (_ : Int) ≠ 0; decide), rfl, _, rfl, ?_⟩
      by_cases h5 : V.int (r0.fmod 5) = V.int 0
      · exact iY (dY h5) ⟨rfl, 0, d0, rfl, by decide, by omega, b2.2⟩
      · exact iN (dN h5) ⟨rfl, n0, d0, rfl, b1.2, by omega, b2.2⟩
    rintro σ H' ⟨rfl, n1, d1, rfl, hn1, hd1, hdb1⟩
    refine ⟨Mid, ?_, ?_⟩
    · refine ⟨_, rfl, pr, _, _, _, rfl, rfl, SqL.of hpr, g0, _, _, rfl, rfl, (by show (_ : Int) ≠ 0; decide), rfl, _, rfl, ?_⟩
      by_cases h5 : V.int (r0.fmod 2) = V.int 1
      · exact iY (dY h5) ⟨_, rfl, n1, rfl, rfl, -n1, d1, rfl, by rw [Int.natAbs_neg]; exact hn1, hd1, hdb1⟩
      · exact iN (dN h5) ⟨rfl, n1, d1, rfl, hn1, hd1, hdb1⟩
    rintro σ H' ⟨rfl, n2, d2, rfl, hn2, hd2, hdb2⟩
    refine ⟨Mid, ?_, ?_⟩
    · refine ⟨_, rfl, pr, _, _, _, rfl, rfl, SqL.of hpr, g1, _, _, rfl, rfl, (by show (_ : Int) ≠ 0; decide), rfl, _, rfl, ?_⟩
      by_cases h5 : V.int (r1.fmod 3) = V.int 0
      · exact iY (dY h5) ⟨rfl, n2, 1, rfl, hn2, by decide, by decide⟩
      · exact iN (dN h5) ⟨rfl, n2, d2, rfl, hn2, hd2, hdb2⟩
    rintro σ H' ⟨rfl, n, d, rfl, hn, hd, hdb⟩
    -- the lowest terms
    have hd8 : d.natAbs < 2 ^ 8000 := Nat.lt_trans hdb (by decide +kernel)
    refine ⟨_, rfl, _, rfl, n, d, rfl, hd, hd8, fun pa hpa => ?_⟩
    obtain ⟨qn, qd⟩ := num_bound hd hn hdb
    have hz1 : (Rat.divInt n d).num.natAbs < 10 ^ 140 := Nat.lt_trans qn (by decide +kernel)
    have hz2 : (Rat.divInt n d).den < 10 ^ 140 := Nat.lt_trans qd (by decide +kernel)
    obtain ⟨z, hz⟩ : ∃ z, z = Rat.divInt n d := ⟨_, rfl⟩
    rw [← hz] at hz1 hz2 ⊢
    have zden : (0 : Int) < (z.den : Int) := by have := z.den_pos; omega
    have hta : (upd H' pa (.tup [.int z.num, .int (z.den : Int)])) pa = some (.tup [.int z.num, .int (z.den : Int)]) := upd_same
    have S4 : Same H (upd H' pa (.tup [.int z.num, .int (z.den : Int)])) := Same.new' S13 hpa
    have hpr4 : (upd H' pa (.tup [.int z.num, .int (z.den : Int)])) pr = some (.lst ([r0, r1, r2].map V.int)) := (upd_ne (ne_of_none hpr hpa)).trans hpr
    generalize upd H' pa (.tup [.int z.num, .int (z.den : Int)]) = H4 at hta S4 hpr4
    have t0 : atI [V.int z.num, V.int (z.den : Int)] 0 = some (V.int z.num) := atI_nat (j := 0) rfl
    have t1 : atI [V.int z.num, V.int (z.den : Int)] 1 = some (V.int (z.den : Int)) := atI_nat (j := 1) rfl
    refine ⟨_, rfl, pa, _, _, _, rfl, rfl, SqT.of hta, t0, z.num, rfl, hz1, fun H5 S5 => ?_⟩
    have hta5 := S5 _ _ hta
    have hdn : ((z.den : Int)).natAbs < 10 ^ 140 := by rw [Int.natAbs_natCast]; exact hz2
    have eD : intL (z.den : Int) = TL.numL z.den := by unfold intL; rw [if_neg (by omega), Int.natAbs_natCast]
    have l1 := intL_len hz1
    have l2 := numL_len140 hz2
    have lw : (writ z.num z.den).length ≤ 290 := by
      unfold writ
      rw [List.length_append]
      split
      · simp; omega
      · rw [List.length_cons]; omega
    refine ⟨fun σ H' => Same H5 H' ∧ σ = [some (.ref a), some (.int n), some (.int d), some (.ref pr), some (.ref pa), some (.str (S (writ z.num z.den))), none, none], ?_, ?_⟩
    · refine ⟨_, rfl, pa, _, _, _, rfl, rfl, SqT.of hta5, t1, rfl, _, rfl, ?_⟩
      by_cases h1 : z.den = 1
      · refine iN (nN (by rw [h1]; rfl)) ⟨Same.refl _, ?_⟩
        unfold writ
        rw [if_pos h1, List.append_nil]
        rfl
      · refine iY (nY (vint (by omega))) ?_
        refine ⟨_, rfl, _, _, rfl, rfl, ?_, _, rfl, pa, _, _, _, rfl, rfl, SqT.of hta5, t1, (z.den : Int), rfl, hdn, fun H6 S6 => ⟨_, _, rfl, rfl, ?_, S6, ?_⟩⟩
        · rw [S_len]
          have : (Str.ofString "/").length = 1 := rfl
          exact szS (by omega)
        · have e : S (intL z.num) ++ Str.ofString "/" = S (intL z.num ++ [47]) := S_cat _ [47]
          rw [e, S_len, S_len, eD, List.length_append]
          exact szS (by simp; omega)
        · have e : S (intL z.num) ++ Str.ofString "/" ++ S (intL z.den) = S (writ z.num z.den) := by
            have e1 : S (intL z.num) ++ Str.ofString "/" = S (intL z.num ++ [47]) := S_cat _ [47]
            rw [e1, S_cat, eD]
            unfold writ
            rw [if_neg h1, List.append_assoc]
            rfl
          rw [e]
          rfl
    rintro σ H6 ⟨S6, rfl⟩
    have S46 := S5.trans S6
    have hta6 := S46 _ _ hta
    have hpr6 := S46 _ _ hpr4
    -- str(Ratio(n, d)) != text
    refine ⟨_, rfl, _, rfl, fun x0 dx0 hx0 hdx0 ne0 => ?_⟩
    refine mk_ratio' hx0 hdx0 ne0 (Int.ne_of_gt hd) hd8 fun H7 S7 hx => ⟨rfl, ?_⟩
    refine ⟨_, rfl, hx.isIn, _, z, rfl, by rw [hz]; exact hx, hz1, hz2, fun H8 S8 => ⟨⟨_, rfl⟩, _, rfl, rfl, _, rfl, iN (nN rfl) ?_⟩⟩
    have S68 := S7.trans S8
    -- _law_pair(read_ratio(text)) != a
    have hrd : readL (writ z.num z.den) = some (z.num, z.den) := read_writ z.den_pos z.reduced
    refine ⟨_, rfl, _, rfl, .inr ⟨_, rfl, by omega, fun r er y H9 S9 hy => ?_, fun e => by rw [hrd] at e; cases e⟩⟩
    have er' : r = (z.num, z.den) := by rw [hrd] at er; exact (Option.some.inj er).symm
    subst er'
    have hyz : RatAt C H9 y z := by
      have e : Rat.divInt z.num (z.den : Int) = z := Rat.num_divInt_den z
      rw [← e]; exact hy
    refine ⟨y, z, rfl, hyz, fun pp hpp => ⟨_, rfl, .tuple [.int z.num, .int (z.den : Int)], .tuple [.int z.num, .int (z.den : Int)], .tup (SqT.of upd_same) (.cons (.int _) (.cons (.int _) .nil)),
      .tup (SqT.of (Same.new hpp _ _ ((S68.trans S9) _ _ hta6))) (.cons (.int _) (.cons (.int _) .nil)), rfl, rfl, ?_⟩⟩
    rw [eqv_pair]
    refine ⟨_, rfl, iN rfl ?_⟩
    have S9' : Same H6 (upd H9 pp (.tup [.int z.num, .int (z.den : Int)])) := Same.new' (S68.trans S9) hpp
    generalize upd H9 pp (.tup [.int z.num, .int (z.den : Int)]) = HA at S9'
    have htaA := S9' _ _ hta6
    have hprA := S9' _ _ hpr6
    -- the bad text
    refine ⟨_, rfl, fun σ H' => ∃ v7 : Option V, σ = [some (.ref a), some (.int n), some (.int d), some (.ref pr), some (.ref pa), some (.str (S (writ z.num z.den))), some (.int 0), v7], ?_, ?_⟩
    · refine ⟨_, rfl, _, rfl, pa, _, _, _, rfl, rfl, SqT.of htaA, t1, (z.den : Int), rfl, hdn, fun HB SB => ?_⟩
      refine ⟨_, rfl, pr, _, _, _, rfl, rfl, SqL.of (SB _ _ hprA), g2, writ z.num z.den, intL (z.den : Int), r2, rfl, by omega, by rw [eD]; omega, hr2.1, fun v HD SD hv => ?_⟩
      refine ⟨v, rfl, ?_⟩
      rcases hv with hv | ⟨l, hl, rfl, hll⟩
      · exact .inl ⟨hv, fun dd HE SE hdd => ⟨true, NT.te, fun _ e he => ⟨_, rfl, rfl, rfl, dd, .int 0, rfl, hdd, ⟨_, rfl⟩⟩, fun z => nomatch z⟩⟩
      · rw [eD] at hl
        have e0 := bad_none z.den_pos l hl
        exact .inr ⟨l, rfl, hll, fun r er => (by rw [e0] at er; cases er), fun _ => fun dd HE SE hdd => ⟨true, NT.te, fun _ e he => ⟨_, rfl, rfl, rfl, dd, .int 0, rfl, hdd, ⟨_, rfl⟩⟩, fun z => nomatch z⟩⟩
    rintro σ H' ⟨v7, rfl⟩
    refine ⟨_, rfl, 0, rfl, _, rfl, iY rfl ?_⟩
    exact ⟨_, rfl, rfl, q _⟩
end
end K2
namespace K2
open PySem PySem.Spec PyProof.Rows L2 OW SX TM
theorem all_mk {w : World} {K : PySem.W.Frag} {h : Heap} {mg : Str → Option Value} {fa : Addr} (X : K.In h) (G : h.Ns mainGlobals mg) (hfa : mg "law" = some (.ref fa))
    {C : Addr} {t_PIECE : Tok} {t_DIGITS : Tok} {f_written_integer : Addr} {oc_written_integer kV_written_integer dc_written_integer pm_written_integer cd_written_integer ct_written_integer : Value} {od_written_integer an_written_integer : Option Addr} {sl_written_integer : Array (Option Value)} {f_RatioU_initU : Addr} {oc_RatioU_initU kV_RatioU_initU dc_RatioU_initU pm_RatioU_initU cd_RatioU_initU ct_RatioU_initU : Value} {od_RatioU_initU an_RatioU_initU : Option Addr} {sl_RatioU_initU : Array (Option Value)} {T_RatioU_initU : Addr} {oT_RatioU_initU : Value} {dT_RatioU_initU : Option Addr} {nT_RatioU_initU : Nat} {sT_RatioU_initU : Array (Option Value)} {u0_RatioU_initU : Tok} {f_RatioU_strU : Addr} {oc_RatioU_strU kV_RatioU_strU dc_RatioU_strU pm_RatioU_strU cd_RatioU_strU ct_RatioU_strU : Value} {od_RatioU_strU an_RatioU_strU : Option Addr} {sl_RatioU_strU : Array (Option Value)} {f_uis_digits : Addr} {oc_uis_digits kV_uis_digits dc_uis_digits pm_uis_digits cd_uis_digits ct_uis_digits : Value} {od_uis_digits an_uis_digits : Option Addr} {sl_uis_digits : Array (Option Value)} {f_unumber : Addr} {oc_unumber kV_unumber dc_unumber pm_unumber cd_unumber ct_unumber : Value} {od_unumber an_unumber : Option Addr} {sl_unumber : Array (Option Value)} {f_read_ratio : Addr} {oc_read_ratio kV_read_ratio dc_read_ratio pm_read_ratio cd_read_ratio ct_read_ratio : Value} {od_read_ratio an_read_ratio : Option Addr} {sl_read_ratio : Array (Option Value)} {f_ulaw_cell : Addr} {oc_ulaw_cell kV_ulaw_cell dc_ulaw_cell pm_ulaw_cell cd_ulaw_cell ct_ulaw_cell : Value} {od_ulaw_cell an_ulaw_cell : Option Addr} {sl_ulaw_cell : Array (Option Value)} {f_ulaw_draws : Addr} {oc_ulaw_draws kV_ulaw_draws dc_ulaw_draws pm_ulaw_draws cd_ulaw_draws ct_ulaw_draws : Value} {od_ulaw_draws an_ulaw_draws : Option Addr} {sl_ulaw_draws : Array (Option Value)} {f_ulaw_gcd : Addr} {oc_ulaw_gcd kV_ulaw_gcd dc_ulaw_gcd pm_ulaw_gcd cd_ulaw_gcd ct_ulaw_gcd : Value} {od_ulaw_gcd an_ulaw_gcd : Option Addr} {sl_ulaw_gcd : Array (Option Value)} {f_ulaw_rat : Addr} {oc_ulaw_rat kV_ulaw_rat dc_ulaw_rat pm_ulaw_rat cd_ulaw_rat ct_ulaw_rat : Value} {od_ulaw_rat an_ulaw_rat : Option Addr} {sl_ulaw_rat : Array (Option Value)} {f_ulaw_is_integer : Addr} {oc_ulaw_is_integer kV_ulaw_is_integer dc_ulaw_is_integer pm_ulaw_is_integer cd_ulaw_is_integer ct_ulaw_is_integer : Value} {od_ulaw_is_integer an_ulaw_is_integer : Option Addr} {sl_ulaw_is_integer : Array (Option Value)} {f_ulaw_pair : Addr} {oc_ulaw_pair kV_ulaw_pair dc_ulaw_pair pm_ulaw_pair cd_ulaw_pair ct_ulaw_pair : Value} {od_ulaw_pair an_ulaw_pair : Option Addr} {sl_ulaw_pair : Array (Option Value)} {f_ulaw_digits : Addr} {oc_ulaw_digits kV_ulaw_digits dc_ulaw_digits pm_ulaw_digits cd_ulaw_digits ct_ulaw_digits : Value} {od_ulaw_digits an_ulaw_digits : Option Addr} {sl_ulaw_digits : Array (Option Value)} {f_ulaw_whole : Addr} {oc_ulaw_whole kV_ulaw_whole dc_ulaw_whole pm_ulaw_whole cd_ulaw_whole ct_ulaw_whole : Value} {od_ulaw_whole an_ulaw_whole : Option Addr} {sl_ulaw_whole : Array (Option Value)} {f_ulaw_text : Addr} {oc_ulaw_text kV_ulaw_text dc_ulaw_text pm_ulaw_text cd_ulaw_text ct_ulaw_text : Value} {od_ulaw_text an_ulaw_text : Option Addr} {sl_ulaw_text : Array (Option Value)} {f_ulaw_bad : Addr} {oc_ulaw_bad kV_ulaw_bad dc_ulaw_bad pm_ulaw_bad cd_ulaw_bad ct_ulaw_bad : Value} {od_ulaw_bad an_ulaw_bad : Option Addr} {sl_ulaw_bad : Array (Option Value)} {f_law : Addr} {oc_law kV_law dc_law pm_law cd_law ct_law : Value} {od_law an_law : Option Addr} {sl_law : Array (Option Value)} {CN fI_CN cc_CN cda_CN N_CN : Addr} {nm_CN q_CN qual_CN file_CN : Str} {bs_CN sub_CN : List Value} {sn_CN : List Str} {ab_CN : Bool} {col_CN : Option Bool} {dd_CN odI_CN an_CN cdd_CN cld_CN : Option Addr} {k0_CN k1_CN k2_CN k3_CN k5_CN : Option Value} {ocI_CN doc_CN pm_CN ct_CN ccl_CN cl_CN : Value} {osl_CN ccs_CN csl_CN : Array (Option Value)} {vs_CN : Array Value} {tf_CN : Tok} {bm_CN : List Value}
    (a_C : PySem.W.nsIn K mainGlobals "Ratio" = some (some (.ref C)))
    (pg_C : PySem.W.plainGet K C Str.empty = true)
    (hd_C : PySem.W.hasDictIn K C = true)
    (po_C : PySem.W.plainOver K C = true)
    (sa_C : PySem.W.findIn K (.ref C) "__setattr__" = some (some (.builtin "object.__setattr__")))
    (mk_C : PySem.W.makesIn K C = true)
    (kc_C : PySem.W.keepIn K (.ref C) = true)
    (no_C_n : PySem.W.findIn K (.ref C) "n" = some none)
    (no_C_d : PySem.W.findIn K (.ref C) "d" = some none)
    (kca_C : PySem.W.findIn K (.ref C) "__class__" = some (some (.builtin "object.__class__")))
    (kmi_C : PySem.W.mroIn K C (.type "object") = some true)
    (kit_C : PySem.W.kitOne K (.ref C) (.ref C) = some true)
    (ksp : PySem.W.specialIn K (.builtin "object.__class__") "__get__" = some (some (.builtin "getset_descriptor.__get__")))
    (ktk : PySem.W.takesIn K (.builtin "object.__class__") = some true)
    (g_gcd : PySem.W.nsIn K mainGlobals "gcd" = some (some (.builtin "math.gcd")))
    (n_len : PySem.W.nsIn K mainGlobals "len" = some none)
    (n_abs : PySem.W.nsIn K mainGlobals "abs" = some none)
    (n_int : PySem.W.nsIn K mainGlobals "int" = some none)
    (n_str : PySem.W.nsIn K mainGlobals "str" = some none)
    (n_bool : PySem.W.nsIn K mainGlobals "bool" = some none)
    (n_range : PySem.W.nsIn K mainGlobals "range" = some none)
    (n_divmod : PySem.W.nsIn K mainGlobals "divmod" = some none)
    (n_isinstance : PySem.W.nsIn K mainGlobals "isinstance" = some none)
    (v_PIECE : PySem.W.nsIn K mainGlobals "PIECE" = some (some (.int 50 t_PIECE)))
    (v_DIGITS : PySem.W.nsIn K mainGlobals "DIGITS" = some (some (.str "0123456789" t_DIGITS)))
    (a_written_integer : PySem.W.nsIn K mainGlobals "written_integer" = some (some (.ref f_written_integer)))
    (l_written_integer : K.lookup f_written_integer = some ⟨oc_written_integer, od_written_integer, .func (PySem.W.fnOf "written_integer" "written_integer" (C8.fnArgs s_written_integer) (C8.fnBody s_written_integer) (C8.fnScope s_written_integer) .none kV_written_integer dc_written_integer pm_written_integer an_written_integer cd_written_integer ct_written_integer), sl_written_integer⟩)
    (c_written_integer : PySem.W.codeIn K cd_written_integer "written_integer" = true)
    (k_written_integer : PySem.W.keepIn K (.ref f_written_integer) = true)
    (a_RatioU_initU : PySem.W.findIn K (.ref C) "__init__" = some (some (.ref f_RatioU_initU)))
    (i_RatioU_initU : PySem.W.isFn K (.ref f_RatioU_initU) = true)
    (l_RatioU_initU : K.lookup f_RatioU_initU = some ⟨oc_RatioU_initU, od_RatioU_initU, .func (PySem.W.fnOf "__init__" "Ratio.__init__" (C8.fnArgs s_RatioU_initU) (C8.fnBody s_RatioU_initU) (C8.fnScope s_RatioU_initU) (.ref T_RatioU_initU) kV_RatioU_initU dc_RatioU_initU pm_RatioU_initU an_RatioU_initU cd_RatioU_initU ct_RatioU_initU), sl_RatioU_initU⟩)
    (c_RatioU_initU : PySem.W.codeIn K cd_RatioU_initU "Ratio.__init__" = true)
    (k_RatioU_initU : PySem.W.keepIn K (.ref f_RatioU_initU) = true)
    (d_RatioU_initU : K.lookup T_RatioU_initU = some ⟨oT_RatioU_initU, dT_RatioU_initU, .seq (([.int 1 u0_RatioU_initU] : List Value).toArray) nT_RatioU_initU, sT_RatioU_initU⟩)
    (a_RatioU_strU : PySem.W.findIn K (.ref C) "__str__" = some (some (.ref f_RatioU_strU)))
    (i_RatioU_strU : PySem.W.isFn K (.ref f_RatioU_strU) = true)
    (l_RatioU_strU : K.lookup f_RatioU_strU = some ⟨oc_RatioU_strU, od_RatioU_strU, .func (PySem.W.fnOf "__str__" "Ratio.__str__" (C8.fnArgs s_RatioU_strU) (C8.fnBody s_RatioU_strU) (C8.fnScope s_RatioU_strU) .none kV_RatioU_strU dc_RatioU_strU pm_RatioU_strU an_RatioU_strU cd_RatioU_strU ct_RatioU_strU), sl_RatioU_strU⟩)
    (c_RatioU_strU : PySem.W.codeIn K cd_RatioU_strU "Ratio.__str__" = true)
    (k_RatioU_strU : PySem.W.keepIn K (.ref f_RatioU_strU) = true)
    (a_uis_digits : PySem.W.nsIn K mainGlobals "_is_digits" = some (some (.ref f_uis_digits)))
    (l_uis_digits : K.lookup f_uis_digits = some ⟨oc_uis_digits, od_uis_digits, .func (PySem.W.fnOf "_is_digits" "_is_digits" (C8.fnArgs s_uis_digits) (C8.fnBody s_uis_digits) (C8.fnScope s_uis_digits) .none kV_uis_digits dc_uis_digits pm_uis_digits an_uis_digits cd_uis_digits ct_uis_digits), sl_uis_digits⟩)
    (c_uis_digits : PySem.W.codeIn K cd_uis_digits "_is_digits" = true)
    (k_uis_digits : PySem.W.keepIn K (.ref f_uis_digits) = true)
    (a_unumber : PySem.W.nsIn K mainGlobals "_number" = some (some (.ref f_unumber)))
    (l_unumber : K.lookup f_unumber = some ⟨oc_unumber, od_unumber, .func (PySem.W.fnOf "_number" "_number" (C8.fnArgs s_unumber) (C8.fnBody s_unumber) (C8.fnScope s_unumber) .none kV_unumber dc_unumber pm_unumber an_unumber cd_unumber ct_unumber), sl_unumber⟩)
    (c_unumber : PySem.W.codeIn K cd_unumber "_number" = true)
    (k_unumber : PySem.W.keepIn K (.ref f_unumber) = true)
    (a_read_ratio : PySem.W.nsIn K mainGlobals "read_ratio" = some (some (.ref f_read_ratio)))
    (l_read_ratio : K.lookup f_read_ratio = some ⟨oc_read_ratio, od_read_ratio, .func (PySem.W.fnOf "read_ratio" "read_ratio" (C8.fnArgs s_read_ratio) (C8.fnBody s_read_ratio) (C8.fnScope s_read_ratio) .none kV_read_ratio dc_read_ratio pm_read_ratio an_read_ratio cd_read_ratio ct_read_ratio), sl_read_ratio⟩)
    (c_read_ratio : PySem.W.codeIn K cd_read_ratio "read_ratio" = true)
    (k_read_ratio : PySem.W.keepIn K (.ref f_read_ratio) = true)
    (a_ulaw_cell : PySem.W.nsIn K mainGlobals "_law_cell" = some (some (.ref f_ulaw_cell)))
    (l_ulaw_cell : K.lookup f_ulaw_cell = some ⟨oc_ulaw_cell, od_ulaw_cell, .func (PySem.W.fnOf "_law_cell" "_law_cell" (C8.fnArgs s_ulaw_cell) (C8.fnBody s_ulaw_cell) (C8.fnScope s_ulaw_cell) .none kV_ulaw_cell dc_ulaw_cell pm_ulaw_cell an_ulaw_cell cd_ulaw_cell ct_ulaw_cell), sl_ulaw_cell⟩)
    (c_ulaw_cell : PySem.W.codeIn K cd_ulaw_cell "_law_cell" = true)
    (k_ulaw_cell : PySem.W.keepIn K (.ref f_ulaw_cell) = true)
    (a_ulaw_draws : PySem.W.nsIn K mainGlobals "_law_draws" = some (some (.ref f_ulaw_draws)))
    (l_ulaw_draws : K.lookup f_ulaw_draws = some ⟨oc_ulaw_draws, od_ulaw_draws, .func (PySem.W.fnOf "_law_draws" "_law_draws" (C8.fnArgs s_ulaw_draws) (C8.fnBody s_ulaw_draws) (C8.fnScope s_ulaw_draws) .none kV_ulaw_draws dc_ulaw_draws pm_ulaw_draws an_ulaw_draws cd_ulaw_draws ct_ulaw_draws), sl_ulaw_draws⟩)
    (c_ulaw_draws : PySem.W.codeIn K cd_ulaw_draws "_law_draws" = true)
    (k_ulaw_draws : PySem.W.keepIn K (.ref f_ulaw_draws) = true)
    (a_ulaw_gcd : PySem.W.nsIn K mainGlobals "_law_gcd" = some (some (.ref f_ulaw_gcd)))
    (l_ulaw_gcd : K.lookup f_ulaw_gcd = some ⟨oc_ulaw_gcd, od_ulaw_gcd, .func (PySem.W.fnOf "_law_gcd" "_law_gcd" (C8.fnArgs s_ulaw_gcd) (C8.fnBody s_ulaw_gcd) (C8.fnScope s_ulaw_gcd) .none kV_ulaw_gcd dc_ulaw_gcd pm_ulaw_gcd an_ulaw_gcd cd_ulaw_gcd ct_ulaw_gcd), sl_ulaw_gcd⟩)
    (c_ulaw_gcd : PySem.W.codeIn K cd_ulaw_gcd "_law_gcd" = true)
    (k_ulaw_gcd : PySem.W.keepIn K (.ref f_ulaw_gcd) = true)
    (a_ulaw_rat : PySem.W.nsIn K mainGlobals "_law_rat" = some (some (.ref f_ulaw_rat)))
    (l_ulaw_rat : K.lookup f_ulaw_rat = some ⟨oc_ulaw_rat, od_ulaw_rat, .func (PySem.W.fnOf "_law_rat" "_law_rat" (C8.fnArgs s_ulaw_rat) (C8.fnBody s_ulaw_rat) (C8.fnScope s_ulaw_rat) .none kV_ulaw_rat dc_ulaw_rat pm_ulaw_rat an_ulaw_rat cd_ulaw_rat ct_ulaw_rat), sl_ulaw_rat⟩)
    (c_ulaw_rat : PySem.W.codeIn K cd_ulaw_rat "_law_rat" = true)
    (k_ulaw_rat : PySem.W.keepIn K (.ref f_ulaw_rat) = true)
    (a_ulaw_is_integer : PySem.W.nsIn K mainGlobals "_law_is_integer" = some (some (.ref f_ulaw_is_integer)))
    (l_ulaw_is_integer : K.lookup f_ulaw_is_integer = some ⟨oc_ulaw_is_integer, od_ulaw_is_integer, .func (PySem.W.fnOf "_law_is_integer" "_law_is_integer" (C8.fnArgs s_ulaw_is_integer) (C8.fnBody s_ulaw_is_integer) (C8.fnScope s_ulaw_is_integer) .none kV_ulaw_is_integer dc_ulaw_is_integer pm_ulaw_is_integer an_ulaw_is_integer cd_ulaw_is_integer ct_ulaw_is_integer), sl_ulaw_is_integer⟩)
    (c_ulaw_is_integer : PySem.W.codeIn K cd_ulaw_is_integer "_law_is_integer" = true)
    (k_ulaw_is_integer : PySem.W.keepIn K (.ref f_ulaw_is_integer) = true)
    (a_ulaw_pair : PySem.W.nsIn K mainGlobals "_law_pair" = some (some (.ref f_ulaw_pair)))
    (l_ulaw_pair : K.lookup f_ulaw_pair = some ⟨oc_ulaw_pair, od_ulaw_pair, .func (PySem.W.fnOf "_law_pair" "_law_pair" (C8.fnArgs s_ulaw_pair) (C8.fnBody s_ulaw_pair) (C8.fnScope s_ulaw_pair) .none kV_ulaw_pair dc_ulaw_pair pm_ulaw_pair an_ulaw_pair cd_ulaw_pair ct_ulaw_pair), sl_ulaw_pair⟩)
    (c_ulaw_pair : PySem.W.codeIn K cd_ulaw_pair "_law_pair" = true)
    (k_ulaw_pair : PySem.W.keepIn K (.ref f_ulaw_pair) = true)
    (a_ulaw_digits : PySem.W.nsIn K mainGlobals "_law_digits" = some (some (.ref f_ulaw_digits)))
    (l_ulaw_digits : K.lookup f_ulaw_digits = some ⟨oc_ulaw_digits, od_ulaw_digits, .func (PySem.W.fnOf "_law_digits" "_law_digits" (C8.fnArgs s_ulaw_digits) (C8.fnBody s_ulaw_digits) (C8.fnScope s_ulaw_digits) .none kV_ulaw_digits dc_ulaw_digits pm_ulaw_digits an_ulaw_digits cd_ulaw_digits ct_ulaw_digits), sl_ulaw_digits⟩)
    (c_ulaw_digits : PySem.W.codeIn K cd_ulaw_digits "_law_digits" = true)
    (k_ulaw_digits : PySem.W.keepIn K (.ref f_ulaw_digits) = true)
    (a_ulaw_whole : PySem.W.nsIn K mainGlobals "_law_whole" = some (some (.ref f_ulaw_whole)))
    (l_ulaw_whole : K.lookup f_ulaw_whole = some ⟨oc_ulaw_whole, od_ulaw_whole, .func (PySem.W.fnOf "_law_whole" "_law_whole" (C8.fnArgs s_ulaw_whole) (C8.fnBody s_ulaw_whole) (C8.fnScope s_ulaw_whole) .none kV_ulaw_whole dc_ulaw_whole pm_ulaw_whole an_ulaw_whole cd_ulaw_whole ct_ulaw_whole), sl_ulaw_whole⟩)
    (c_ulaw_whole : PySem.W.codeIn K cd_ulaw_whole "_law_whole" = true)
    (k_ulaw_whole : PySem.W.keepIn K (.ref f_ulaw_whole) = true)
    (a_ulaw_text : PySem.W.nsIn K mainGlobals "_law_text" = some (some (.ref f_ulaw_text)))
    (l_ulaw_text : K.lookup f_ulaw_text = some ⟨oc_ulaw_text, od_ulaw_text, .func (PySem.W.fnOf "_law_text" "_law_text" (C8.fnArgs s_ulaw_text) (C8.fnBody s_ulaw_text) (C8.fnScope s_ulaw_text) .none kV_ulaw_text dc_ulaw_text pm_ulaw_text an_ulaw_text cd_ulaw_text ct_ulaw_text), sl_ulaw_text⟩)
    (c_ulaw_text : PySem.W.codeIn K cd_ulaw_text "_law_text" = true)
    (k_ulaw_text : PySem.W.keepIn K (.ref f_ulaw_text) = true)
    (a_ulaw_bad : PySem.W.nsIn K mainGlobals "_law_bad" = some (some (.ref f_ulaw_bad)))
    (l_ulaw_bad : K.lookup f_ulaw_bad = some ⟨oc_ulaw_bad, od_ulaw_bad, .func (PySem.W.fnOf "_law_bad" "_law_bad" (C8.fnArgs s_ulaw_bad) (C8.fnBody s_ulaw_bad) (C8.fnScope s_ulaw_bad) .none kV_ulaw_bad dc_ulaw_bad pm_ulaw_bad an_ulaw_bad cd_ulaw_bad ct_ulaw_bad), sl_ulaw_bad⟩)
    (c_ulaw_bad : PySem.W.codeIn K cd_ulaw_bad "_law_bad" = true)
    (k_ulaw_bad : PySem.W.keepIn K (.ref f_ulaw_bad) = true)
    (a_law : PySem.W.nsIn K mainGlobals "law" = some (some (.ref f_law)))
    (l_law : K.lookup f_law = some ⟨oc_law, od_law, .func (PySem.W.fnOf "law" "law" (C8.fnArgs s_law) (C8.fnBody s_law) (C8.fnScope s_law) .none kV_law dc_law pm_law an_law cd_law ct_law), sl_law⟩)
    (c_law : PySem.W.codeIn K cd_law "law" = true)
    (k_law : PySem.W.keepIn K (.ref f_law) = true)
    (sgC_CN : PySem.W.nsIn K mainGlobals "NoText" = some (some (.ref CN)))
    (scls_CN : K.lookup CN = some (excClassObj nm_CN q_CN CN N_CN bs_CN bm_CN true sn_CN sub_CN ab_CN col_CN dd_CN k0_CN k1_CN k2_CN k3_CN k5_CN "ValueError.__new__"))
    (sve_CN : PySem.HandSPX.refsVE bm_CN = true)
    (ssa_CN : PySem.W.findIn K (.ref CN) "__setattr__" = some (some (.builtin "object.__setattr__")))
    (snN_CN : PySem.W.findIn K (.ref CN) "at" = some none)
    (siC_CN : PySem.W.findIn K (.ref CN) "__init__" = some (some (.ref fI_CN)))
    (stC_CN : PySem.W.typeIn K (.ref fI_CN) = some (.type "function"))
    (skC_CN : PySem.W.keepIn K (.ref CN) = true)
    (sex_CN : PySem.W.subIn K (.ref CN) (.type "BaseException") = some true)
    (sty_CN : PySem.W.typeIn K (.ref CN) = some (.type "type"))
    (shd_CN : PySem.W.hasDictIn K CN = true)
    (sga_CN : PySem.W.findIn K (.ref CN) "__getattribute__" = some (some (.builtin "BaseException.__getattribute__")))
    (sgg_CN : PySem.W.findIn K (.ref CN) "__getattr__" = some none)
    (sic_CN : PySem.W.isClsIn K CN = true)
    (ssu_CN : PySem.W.subIn K (.ref CN) (.ref CN) = some true)
    (sfn_CN : K.lookup fI_CN = some ⟨ocI_CN, odI_CN, .func (PySem.W.ksFn "__init__" qual_CN (PySem.SupX.iA "at" pi_NT.p1 pi_NT.p2) (PySem.SupX.iB "at" arg_NT pi_NT.p0 pi_NT.r1 pi_NT.r2 pi_NT.r3 pi_NT.r4 pi_NT.q1 pi_NT.q2 pi_NT.q3 pi_NT.q4) sc_NT .none .none doc_CN pm_CN an_CN (.ref cda_CN) ct_CN cc_CN), osl_CN⟩)
    (sco_CN : PySem.W.codeIn K (.ref cda_CN) qual_CN = true)
    (scd_CN : K.lookup cda_CN = some ⟨ccl_CN, cdd_CN, .fields vs_CN, ccs_CN⟩)
    (scv_CN : vs_CN[2]? = some (.str file_CN tf_CN))
    (scf_CN : ((PySem.Challenge.pw_indicial_k02_written_form.main.file : Str) == file_CN) = true)
    (sce_CN : K.lookup cc_CN = some ⟨cl_CN, cld_CN, .cell (some (.ref CN)), csl_CN⟩)
    (ssp_CN : PySem.W.ks_superIn K CN CN "__init__" = some (some (.builtin "ValueError.__init__")))
    (siv_CN : PySem.W.subIn K (.ref CN) (.type "ValueError") = some true)
    (sim_CN : PySem.W.mroIn K CN (.ref CN) = some true)
    (sop_CN : PySem.W.nsIn K cStatics "thirdparty.any" = some none)
    (sms_CN : PySem.W.nsIn K mainGlobals "super" = some none)
    (sps_CN : ((PySem.Challenge.pw_indicial_k02_written_form).main.scope.names.lookup ("super" : Str)).isSome = false) :
    ∃ fd : FuncData, (∀ (s : Shared) (u : Value), BindsTo s fd ⟨[u], []⟩ [("_law_script", u)]) ∧ ∀ base : Heap, K.In base → base.Ns mainGlobals mg → FnOk PySem.Challenge.pw_indicial_k02_written_form w K mg base C8.CX0 8 fa fd ["_law_script"] (spLaw K) := by
  have e := hfa.symm.trans (PySem.W.mg_of X G a_law)
  cases e
  have B_written_integer : Binds K (PySem.W.fnOf "written_integer" "written_integer" (C8.fnArgs s_written_integer) (C8.fnBody s_written_integer) (C8.fnScope s_written_integer) .none kV_written_integer dc_written_integer pm_written_integer an_written_integer cd_written_integer ct_written_integer) ["n"] [] := Binds.all fun us hl => match us, hl with | [_], _ => rfl
  have FD_RatioU_initU : FunD K "__init__" "Ratio.__init__" (C8.fnArgs s_RatioU_initU) (C8.fnBody s_RatioU_initU) (C8.fnScope s_RatioU_initU) [.int 1] [] f_RatioU_initU _ := ⟨⟨_, _, _, _, _, _, _, _, _, _, rfl, l_RatioU_initU, c_RatioU_initU, .inr ⟨by simp, T_RatioU_initU, _, _, _, rfl, d_RatioU_initU, rfl, (.cons ⟨_, rfl⟩ .nil)⟩, .inl rfl⟩, k_RatioU_initU⟩
  obtain ⟨ds1_RatioU_initU, V1_RatioU_initU, B1_RatioU_initU⟩ := FunD.binds1 (ps := ["self", "n", "d"]) FD_RatioU_initU 3 1 (by simp) rfl (fun _ _ _ _ _ _ _ us its h1 h2 => match us, its, h1, h2 with | [_, _, _], [_], _, _ => ⟨_, rfl, rfl⟩)
  have B_RatioU_strU : Binds K (PySem.W.fnOf "__str__" "Ratio.__str__" (C8.fnArgs s_RatioU_strU) (C8.fnBody s_RatioU_strU) (C8.fnScope s_RatioU_strU) .none kV_RatioU_strU dc_RatioU_strU pm_RatioU_strU an_RatioU_strU cd_RatioU_strU ct_RatioU_strU) ["self"] [] := Binds.all fun us hl => match us, hl with | [_], _ => rfl
  have B_uis_digits : Binds K (PySem.W.fnOf "_is_digits" "_is_digits" (C8.fnArgs s_uis_digits) (C8.fnBody s_uis_digits) (C8.fnScope s_uis_digits) .none kV_uis_digits dc_uis_digits pm_uis_digits an_uis_digits cd_uis_digits ct_uis_digits) ["text"] [] := Binds.all fun us hl => match us, hl with | [_], _ => rfl
  have B_unumber : Binds K (PySem.W.fnOf "_number" "_number" (C8.fnArgs s_unumber) (C8.fnBody s_unumber) (C8.fnScope s_unumber) .none kV_unumber dc_unumber pm_unumber an_unumber cd_unumber ct_unumber) ["text"] [] := Binds.all fun us hl => match us, hl with | [_], _ => rfl
  have B_read_ratio : Binds K (PySem.W.fnOf "read_ratio" "read_ratio" (C8.fnArgs s_read_ratio) (C8.fnBody s_read_ratio) (C8.fnScope s_read_ratio) .none kV_read_ratio dc_read_ratio pm_read_ratio an_read_ratio cd_read_ratio ct_read_ratio) ["text"] [] := Binds.all fun us hl => match us, hl with | [_], _ => rfl
  have B_ulaw_cell : Binds K (PySem.W.fnOf "_law_cell" "_law_cell" (C8.fnArgs s_ulaw_cell) (C8.fnBody s_ulaw_cell) (C8.fnScope s_ulaw_cell) .none kV_ulaw_cell dc_ulaw_cell pm_ulaw_cell an_ulaw_cell cd_ulaw_cell ct_ulaw_cell) ["_law_script", "_law_k"] [] := Binds.all fun us hl => match us, hl with | [_, _], _ => rfl
  have B_ulaw_draws : Binds K (PySem.W.fnOf "_law_draws" "_law_draws" (C8.fnArgs s_ulaw_draws) (C8.fnBody s_ulaw_draws) (C8.fnScope s_ulaw_draws) .none kV_ulaw_draws dc_ulaw_draws pm_ulaw_draws an_ulaw_draws cd_ulaw_draws ct_ulaw_draws) ["_law_script", "_law_at", "_law_count", "_law_bound"] [] := Binds.all fun us hl => match us, hl with | [_, _, _, _], _ => rfl
  have B_ulaw_gcd : Binds K (PySem.W.fnOf "_law_gcd" "_law_gcd" (C8.fnArgs s_ulaw_gcd) (C8.fnBody s_ulaw_gcd) (C8.fnScope s_ulaw_gcd) .none kV_ulaw_gcd dc_ulaw_gcd pm_ulaw_gcd an_ulaw_gcd cd_ulaw_gcd ct_ulaw_gcd) ["_law_a", "_law_b"] [] := Binds.all fun us hl => match us, hl with | [_, _], _ => rfl
  have B_ulaw_rat : Binds K (PySem.W.fnOf "_law_rat" "_law_rat" (C8.fnArgs s_ulaw_rat) (C8.fnBody s_ulaw_rat) (C8.fnScope s_ulaw_rat) .none kV_ulaw_rat dc_ulaw_rat pm_ulaw_rat an_ulaw_rat cd_ulaw_rat ct_ulaw_rat) ["_law_n", "_law_d"] [] := Binds.all fun us hl => match us, hl with | [_, _], _ => rfl
  have B_ulaw_is_integer : Binds K (PySem.W.fnOf "_law_is_integer" "_law_is_integer" (C8.fnArgs s_ulaw_is_integer) (C8.fnBody s_ulaw_is_integer) (C8.fnScope s_ulaw_is_integer) .none kV_ulaw_is_integer dc_ulaw_is_integer pm_ulaw_is_integer an_ulaw_is_integer cd_ulaw_is_integer ct_ulaw_is_integer) ["_law_value"] [] := Binds.all fun us hl => match us, hl with | [_], _ => rfl
  have B_ulaw_pair : Binds K (PySem.W.fnOf "_law_pair" "_law_pair" (C8.fnArgs s_ulaw_pair) (C8.fnBody s_ulaw_pair) (C8.fnScope s_ulaw_pair) .none kV_ulaw_pair dc_ulaw_pair pm_ulaw_pair an_ulaw_pair cd_ulaw_pair ct_ulaw_pair) ["_law_value"] [] := Binds.all fun us hl => match us, hl with | [_], _ => rfl
  have B_ulaw_digits : Binds K (PySem.W.fnOf "_law_digits" "_law_digits" (C8.fnArgs s_ulaw_digits) (C8.fnBody s_ulaw_digits) (C8.fnScope s_ulaw_digits) .none kV_ulaw_digits dc_ulaw_digits pm_ulaw_digits an_ulaw_digits cd_ulaw_digits ct_ulaw_digits) ["_law_script", "_law_at"] [] := Binds.all fun us hl => match us, hl with | [_, _], _ => rfl
  have B_ulaw_whole : Binds K (PySem.W.fnOf "_law_whole" "_law_whole" (C8.fnArgs s_ulaw_whole) (C8.fnBody s_ulaw_whole) (C8.fnScope s_ulaw_whole) .none kV_ulaw_whole dc_ulaw_whole pm_ulaw_whole an_ulaw_whole cd_ulaw_whole ct_ulaw_whole) ["_law_digits_here"] [] := Binds.all fun us hl => match us, hl with | [_], _ => rfl
  have B_ulaw_text : Binds K (PySem.W.fnOf "_law_text" "_law_text" (C8.fnArgs s_ulaw_text) (C8.fnBody s_ulaw_text) (C8.fnScope s_ulaw_text) .none kV_ulaw_text dc_ulaw_text pm_ulaw_text an_ulaw_text cd_ulaw_text ct_ulaw_text) ["_law_n"] [] := Binds.all fun us hl => match us, hl with | [_], _ => rfl
  have B_ulaw_bad : Binds K (PySem.W.fnOf "_law_bad" "_law_bad" (C8.fnArgs s_ulaw_bad) (C8.fnBody s_ulaw_bad) (C8.fnScope s_ulaw_bad) .none kV_ulaw_bad dc_ulaw_bad pm_ulaw_bad an_ulaw_bad cd_ulaw_bad ct_ulaw_bad) ["_law_text_here", "_law_plain", "_law_k"] [] := Binds.all fun us hl => match us, hl with | [_, _, _], _ => rfl
  have B_law : Binds K (PySem.W.fnOf "law" "law" (C8.fnArgs s_law) (C8.fnBody s_law) (C8.fnScope s_law) .none kV_law dc_law pm_law an_law cd_law ct_law) ["_law_script"] [] := Binds.all fun us hl => match us, hl with | [_], _ => rfl
  have cl_C : Cls K C := ⟨pg_C, hd_C, po_C, sa_C⟩
  have T : Txt K mg C := {
    cl := cl_C
    nN := no_C_n
    nD := no_C_d
    mgC := PySem.W.mg_of X G a_C
    kit := ⟨kca_C, ksp, ktk, kmi_C, kit_C⟩
    ii := kit_ty (by decide)
    ib := kit_ty (by decide)
    ss := kit_ty (by decide)
    ns := kit_ty (by decide)
    is := kit_ty (by decide)
    ts := kit_ty (by decide)
    g_gcd := PySem.W.mg_of X G g_gcd
    c_PIECE := ⟨_, PySem.W.mg_of X G v_PIECE, ⟨_, rfl⟩⟩
    c_DIGITS := ⟨_, PySem.W.mg_of X G v_DIGITS, ⟨_, rfl⟩⟩
    n_len := PySem.W.mg_none_of X G n_len
    n_abs := PySem.W.mg_none_of X G n_abs
    n_int := PySem.W.mg_none_of X G n_int
    n_str := PySem.W.mg_none_of X G n_str
    n_bool := PySem.W.mg_none_of X G n_bool
    n_range := PySem.W.mg_none_of X G n_range
    n_divmod := PySem.W.mg_none_of X G n_divmod
    n_isinstance := PySem.W.mg_none_of X G n_isinstance
    d_written_integer := ⟨_, _, ⟨⟨⟨_, _, _, _, _, _, _, _, _, _, rfl, l_written_integer, c_written_integer⟩⟩, PySem.W.mg_of X G a_written_integer, k_written_integer⟩, B_written_integer⟩
    d_RatioU_initU := ⟨_, _, _, ⟨mk_C, a_RatioU_initU, i_RatioU_initU, kc_C⟩, PySem.W.mg_of X G a_C, ⟨⟨_, _, _, _, _, _, _, _, _, _, rfl, l_RatioU_initU, c_RatioU_initU⟩⟩, B1_RatioU_initU, V1_RatioU_initU⟩
    d_RatioU_strU := ⟨_, _, cl_C, ⟨a_RatioU_strU, i_RatioU_strU, k_RatioU_strU⟩, ⟨⟨_, _, _, _, _, _, _, _, _, _, rfl, l_RatioU_strU, c_RatioU_strU⟩⟩, B_RatioU_strU⟩
    d_uis_digits := ⟨_, _, ⟨⟨⟨_, _, _, _, _, _, _, _, _, _, rfl, l_uis_digits, c_uis_digits⟩⟩, PySem.W.mg_of X G a_uis_digits, k_uis_digits⟩, B_uis_digits⟩
    d_unumber := ⟨_, _, ⟨⟨⟨_, _, _, _, _, _, _, _, _, _, rfl, l_unumber, c_unumber⟩⟩, PySem.W.mg_of X G a_unumber, k_unumber⟩, B_unumber⟩
    d_read_ratio := ⟨_, _, ⟨⟨⟨_, _, _, _, _, _, _, _, _, _, rfl, l_read_ratio, c_read_ratio⟩⟩, PySem.W.mg_of X G a_read_ratio, k_read_ratio⟩, B_read_ratio⟩
    d_ulaw_cell := ⟨_, _, ⟨⟨⟨_, _, _, _, _, _, _, _, _, _, rfl, l_ulaw_cell, c_ulaw_cell⟩⟩, PySem.W.mg_of X G a_ulaw_cell, k_ulaw_cell⟩, B_ulaw_cell⟩
    d_ulaw_draws := ⟨_, _, ⟨⟨⟨_, _, _, _, _, _, _, _, _, _, rfl, l_ulaw_draws, c_ulaw_draws⟩⟩, PySem.W.mg_of X G a_ulaw_draws, k_ulaw_draws⟩, B_ulaw_draws⟩
    d_ulaw_gcd := ⟨_, _, ⟨⟨⟨_, _, _, _, _, _, _, _, _, _, rfl, l_ulaw_gcd, c_ulaw_gcd⟩⟩, PySem.W.mg_of X G a_ulaw_gcd, k_ulaw_gcd⟩, B_ulaw_gcd⟩
    d_ulaw_rat := ⟨_, _, ⟨⟨⟨_, _, _, _, _, _, _, _, _, _, rfl, l_ulaw_rat, c_ulaw_rat⟩⟩, PySem.W.mg_of X G a_ulaw_rat, k_ulaw_rat⟩, B_ulaw_rat⟩
    d_ulaw_is_integer := ⟨_, _, ⟨⟨⟨_, _, _, _, _, _, _, _, _, _, rfl, l_ulaw_is_integer, c_ulaw_is_integer⟩⟩, PySem.W.mg_of X G a_ulaw_is_integer, k_ulaw_is_integer⟩, B_ulaw_is_integer⟩
    d_ulaw_pair := ⟨_, _, ⟨⟨⟨_, _, _, _, _, _, _, _, _, _, rfl, l_ulaw_pair, c_ulaw_pair⟩⟩, PySem.W.mg_of X G a_ulaw_pair, k_ulaw_pair⟩, B_ulaw_pair⟩
    d_ulaw_digits := ⟨_, _, ⟨⟨⟨_, _, _, _, _, _, _, _, _, _, rfl, l_ulaw_digits, c_ulaw_digits⟩⟩, PySem.W.mg_of X G a_ulaw_digits, k_ulaw_digits⟩, B_ulaw_digits⟩
    d_ulaw_whole := ⟨_, _, ⟨⟨⟨_, _, _, _, _, _, _, _, _, _, rfl, l_ulaw_whole, c_ulaw_whole⟩⟩, PySem.W.mg_of X G a_ulaw_whole, k_ulaw_whole⟩, B_ulaw_whole⟩
    d_ulaw_text := ⟨_, _, ⟨⟨⟨_, _, _, _, _, _, _, _, _, _, rfl, l_ulaw_text, c_ulaw_text⟩⟩, PySem.W.mg_of X G a_ulaw_text, k_ulaw_text⟩, B_ulaw_text⟩
    d_ulaw_bad := ⟨_, _, ⟨⟨⟨_, _, _, _, _, _, _, _, _, _, rfl, l_ulaw_bad, c_ulaw_bad⟩⟩, PySem.W.mg_of X G a_ulaw_bad, k_ulaw_bad⟩, B_ulaw_bad⟩
    d_law := ⟨_, _, ⟨⟨⟨_, _, _, _, _, _, _, _, _, _, rfl, l_law, c_law⟩⟩, PySem.W.mg_of X G a_law, k_law⟩, B_law⟩ }
  have S_CN : PySem.SupX.SupTxt PySem.Challenge.pw_indicial_k02_written_form K mg "NoText" "at" sc_NT arg_NT pi_NT CN fI_CN cc_CN cda_CN := {
    gC := PySem.W.mg_of X G sgC_CN, cls := ⟨_, _, _, _, _, _, _, _, _, _, _, _, _, _, _, scls_CN, sve_CN⟩, sa := ssa_CN, noN := snN_CN, iC := siC_CN, tC := stC_CN, kC := skC_CN, exC := sex_CN, tyC := sty_CN, hdC := shd_CN, ga := sga_CN, gg := sgg_CN, te := exm_self sex_CN sic_CN sty_CN ssu_CN,
    fn := ⟨_, _, _, _, _, _, _, _, sfn_CN, sco_CN⟩, cd := ⟨_, _, _, _, _, _, scd_CN, scv_CN, scf_CN⟩, cell := ⟨_, _, _, sce_CN⟩, sup := ssp_CN, isV := siv_CN, isC := sim_CN, op := sop_CN, ms := PySem.W.mg_none_of X G sms_CN, ps := sps_CN,
    k1 := rfl, k2 := rfl, k3 := rfl, n1 := rfl, n2 := rfl, n3 := rfl, n4 := rfl, n5 := by decide, fs := by decide, fd := by decide }
  exact ⟨_, fun s u => .of_eq rfl, fun base _ _ => C8.fn0 ⟨⟨_, _, _, _, _, _, _, _, _, _, rfl, l_law, c_law⟩⟩ sc_law len_law (b_law T S_CN _)⟩
end K2
namespace K2
open PySem PySem.Spec PyProof.Rows L2 OW SX TM
theorem walk {l : PySem.W.OpenLaw} {q : Program} {loose : List Str} {XP : (Str → Option Value) → Heap → Prop} {YP : World → Heap → Prop} {d : DefRec} {K : Params → PySem.W.Frag} (hp : l.prog = PySem.Challenge.pw_indicial_k02_written_form) (hn : l.most = some 63) (hdf : d.params.defaults = [])
    (hY : ∀ (w : World) (h : Heap), YP w h → (K w.params).In h)
    (F : ∀ (w : World) (mg : Str → Option Value) (fa : Addr) (h : Heap), (K w.params).In h → h.Ns mainGlobals mg → mg d.name = some (.ref fa) →
      ∃ fd : FuncData, (∀ (s : Shared) (u : Value), BindsTo s fd ⟨[u], []⟩ [("_law_script", u)]) ∧ ∀ base : Heap, (K w.params).In base → base.Ns mainGlobals mg → FnOk PySem.Challenge.pw_indicial_k02_written_form w (K w.params) mg base C8.CX0 8 fa fd ["_law_script"] (spLaw (K w.params))) :
    PySem.W.WalkO q loose XP YP l.row.toRowW d [] (fun f vs => PySem.call f vs) :=
  L2.walk_of (n := 63) (k := 8) (x := "_law_script") (CX := fun _ => C8.CX0) (sp := fun w => spLaw (K w.params)) hn (by decide) hdf ⟨rfl, by decide, by decide⟩ hY (by rw [hp]; exact F) (fun _ _ a ns hl _ hS => ⟨a, ns, rfl, hS, fun _ => rfl⟩) fun _ _ _ _ _ z => z
end K2
open PySem PySem.W PyProof.Rows
set_option maxRecDepth 100000 in
set_option maxHeartbeats 0 in
theorem PySem.Challenge.cw_indicial_k02_written_form_holds : PySem.Challenge.rw_indicial_k02_written_form.Holds := by
  w_on; o_law; k_head; (case hw => w_witness2)
  k_fill
  refine K2.walk (l := PySem.Challenge.rw_indicial_k02_written_form) rfl rfl rfl (fun w h Y => PySem.W.kIn_of Y) ?F
  case F =>
    intro w mg fa h KX G hmg
    refine' K2.all_mk KX G hmg ?a_C ?pg_C ?hd_C ?po_C ?sa_C ?mk_C ?kc_C ?no_C_n ?no_C_d ?kca_C ?kmi_C ?kit_C ?ksp ?ktk ?g_gcd ?n_len ?n_abs ?n_int ?n_str ?n_bool ?n_range ?n_divmod ?n_isinstance ?v_PIECE ?v_DIGITS ?a_written_integer ?l_written_integer ?c_written_integer ?k_written_integer ?a_RatioU_initU ?i_RatioU_initU ?l_RatioU_initU ?c_RatioU_initU ?k_RatioU_initU ?d_RatioU_initU ?a_RatioU_strU ?i_RatioU_strU ?l_RatioU_strU ?c_RatioU_strU ?k_RatioU_strU ?a_uis_digits ?l_uis_digits ?c_uis_digits ?k_uis_digits ?a_unumber ?l_unumber ?c_unumber ?k_unumber ?a_read_ratio ?l_read_ratio ?c_read_ratio ?k_read_ratio ?a_ulaw_cell ?l_ulaw_cell ?c_ulaw_cell ?k_ulaw_cell ?a_ulaw_draws ?l_ulaw_draws ?c_ulaw_draws ?k_ulaw_draws ?a_ulaw_gcd ?l_ulaw_gcd ?c_ulaw_gcd ?k_ulaw_gcd ?a_ulaw_rat ?l_ulaw_rat ?c_ulaw_rat ?k_ulaw_rat ?a_ulaw_is_integer ?l_ulaw_is_integer ?c_ulaw_is_integer ?k_ulaw_is_integer ?a_ulaw_pair ?l_ulaw_pair ?c_ulaw_pair ?k_ulaw_pair ?a_ulaw_digits ?l_ulaw_digits ?c_ulaw_digits ?k_ulaw_digits ?a_ulaw_whole ?l_ulaw_whole ?c_ulaw_whole ?k_ulaw_whole ?a_ulaw_text ?l_ulaw_text ?c_ulaw_text ?k_ulaw_text ?a_ulaw_bad ?l_ulaw_bad ?c_ulaw_bad ?k_ulaw_bad ?a_law ?l_law ?c_law ?k_law ?sgC_CN ?scls_CN ?sve_CN ?ssa_CN ?snN_CN ?siC_CN ?stC_CN ?skC_CN ?sex_CN ?sty_CN ?shd_CN ?sga_CN ?sgg_CN ?sic_CN ?ssu_CN ?sfn_CN ?sco_CN ?scd_CN ?scv_CN ?scf_CN ?sce_CN ?ssp_CN ?siv_CN ?sim_CN ?sop_CN ?sms_CN ?sps_CN
    (case a_C => k_is)
    (case pg_C => k_is)
    (case hd_C => k_is)
    (case po_C => k_is)
    (case sa_C => k_is)
    (case mk_C => k_is)
    (case kc_C => k_is)
    (case no_C_n => k_is)
    (case no_C_d => k_is)
    (case kca_C => k_is)
    (case kmi_C => k_is)
    (case kit_C => kit_is)
    (case ksp => k_is)
    (case ktk => k_is)
    (case g_gcd => k_is)
    (case n_len => k_is)
    (case n_abs => k_is)
    (case n_int => k_is)
    (case n_str => k_is)
    (case n_bool => k_is)
    (case n_range => k_is)
    (case n_divmod => k_is)
    (case n_isinstance => k_is)
    (case v_PIECE => k_is)
    (case v_DIGITS => k_is)
    (case a_written_integer => k_is)
    (case l_written_integer => k_is)
    (case c_written_integer => k_is)
    (case k_written_integer => k_is)
    (case a_RatioU_initU => k_is)
    (case i_RatioU_initU => k_is)
    (case l_RatioU_initU => k_is)
    (case c_RatioU_initU => k_is)
    (case k_RatioU_initU => k_is)
    (case d_RatioU_initU => k_is)
    (case a_RatioU_strU => k_is)
    (case i_RatioU_strU => k_is)
    (case l_RatioU_strU => k_is)
    (case c_RatioU_strU => k_is)
    (case k_RatioU_strU => k_is)
    (case a_uis_digits => k_is)
    (case l_uis_digits => k_is)
    (case c_uis_digits => k_is)
    (case k_uis_digits => k_is)
    (case a_unumber => k_is)
    (case l_unumber => k_is)
    (case c_unumber => k_is)
    (case k_unumber => k_is)
    (case a_read_ratio => k_is)
    (case l_read_ratio => k_is)
    (case c_read_ratio => k_is)
    (case k_read_ratio => k_is)
    (case a_ulaw_cell => k_is)
    (case l_ulaw_cell => k_is)
    (case c_ulaw_cell => k_is)
    (case k_ulaw_cell => k_is)
    (case a_ulaw_draws => k_is)
    (case l_ulaw_draws => k_is)
    (case c_ulaw_draws => k_is)
    (case k_ulaw_draws => k_is)
    (case a_ulaw_gcd => k_is)
    (case l_ulaw_gcd => k_is)
    (case c_ulaw_gcd => k_is)
    (case k_ulaw_gcd => k_is)
    (case a_ulaw_rat => k_is)
    (case l_ulaw_rat => k_is)
    (case c_ulaw_rat => k_is)
    (case k_ulaw_rat => k_is)
    (case a_ulaw_is_integer => k_is)
    (case l_ulaw_is_integer => k_is)
    (case c_ulaw_is_integer => k_is)
    (case k_ulaw_is_integer => k_is)
    (case a_ulaw_pair => k_is)
    (case l_ulaw_pair => k_is)
    (case c_ulaw_pair => k_is)
    (case k_ulaw_pair => k_is)
    (case a_ulaw_digits => k_is)
    (case l_ulaw_digits => k_is)
    (case c_ulaw_digits => k_is)
    (case k_ulaw_digits => k_is)
    (case a_ulaw_whole => k_is)
    (case l_ulaw_whole => k_is)
    (case c_ulaw_whole => k_is)
    (case k_ulaw_whole => k_is)
    (case a_ulaw_text => k_is)
    (case l_ulaw_text => k_is)
    (case c_ulaw_text => k_is)
    (case k_ulaw_text => k_is)
    (case a_ulaw_bad => k_is)
    (case l_ulaw_bad => k_is)
    (case c_ulaw_bad => k_is)
    (case k_ulaw_bad => k_is)
    (case a_law => k_is)
    (case l_law => k_is)
    (case c_law => k_is)
    (case k_law => k_is)
    (case sgC_CN => k_is)
    (case scls_CN => k_is)
    (case sve_CN => first | rfl | decide +kernel)
    (case ssa_CN => k_is)
    (case snN_CN => k_is)
    (case siC_CN => k_is)
    (case stC_CN => k_is)
    (case skC_CN => k_is)
    (case sex_CN => k_is)
    (case sty_CN => k_is)
    (case shd_CN => k_is)
    (case sga_CN => k_is)
    (case sgg_CN => k_is)
    (case sic_CN => k_is)
    (case ssu_CN => k_is)
    (case sfn_CN => k_is)
    (case sco_CN => k_is)
    (case scd_CN => k_is)
    (case scv_CN => first | rfl | decide +kernel)
    (case scf_CN => first | rfl | decide +kernel)
    (case sce_CN => k_is)
    (case ssp_CN => ks_is)
    (case siv_CN => k_is)
    (case sim_CN => k_is)
    (case sop_CN => k_is)
    (case sms_CN => k_is)
    (case sps_CN => first | rfl | decide +kernel)
#print axioms PySem.Challenge.cw_indicial_k02_written_form_holds
